/- This text began as one that print.sh wrote for this seat (of the functions named below); it is this session's own: turned where Lean did not take the printed proof, where it was too long for a claim, or only in what it imports. -/
import Derived.Test.YtoklfgjemfojgaaG0
import Derived.Test.YtoklfgjemfojgaaG5
import Derived.Test.YtoklfgjemfojgaaG8
import Derived.Test.YtoklfgjemfojgaaG10
import Derived.Test.YtoklfgjemfojgaaG28
namespace Go.Proofs.Ytoklfgjemfojgaa.PAll
open Go.RowKit Go.Proofs.YtoklfgjemfojgaaW.PrintWords Go.Proofs.YtoklfgjemfojgaaW.PrintLast Go.Proofs.YtoklfgjemfojgaaW.PrintMore
attribute [local go_sem] max2_int min2_int max_two min_two max_three min_three max_four min_four   -- for this text's walks alone
set_option linter.unusedVariables false
set_option linter.unusedSimpArgs false

/-! ### spec_MetCells: function 30 -/
mutual
def spec_MetCells.l0 : Nat → List Int → List Int → Int → Int → Int → List (S89) → Option (List Int × Bool)
 | 0, _, _, _, _, _, _ => none
 | k + 1, x4, x5, x6, x559000, x559001, x559002 => if x6 < x559001 then ((spec_flGo.f k x559000 x559001 x559002 x5 x6).bind fun bt563 => (spec_MetCells.l1 k x4 x5 x6 bt563.2.2.2.2.2.2 (bt563.2.2.2.2.2.2.length : Int) 0 x559000 x559001 x559002)) else (some (x4, true))
def spec_MetCells.l1 : Nat → List Int → List Int → Int → List (List Int) → Int → Int → Int → Int → List (S89) → Option (List Int × Bool)
 | 0, _, _, _, _, _, _, _, _, _ => none
 | k + 1, x4, x5, x6, x31, x32, x33, x559000, x559001, x559002 => if x33 < x32 then (if 0 ≤ x33 then (if x33 < (x31.length : Int) then (if 0 < ((rd_L3 x31 x33).length : Int) then (if 1 < ((rd_L3 x31 x33).length : Int) then ((spec_l1Put.f k x4 (wrap64 ((wrap64 ((rd (rd_L3 x31 x33) 0) * x559001)) + (rd (rd_L3 x31 x33) 1)))).bind fun t579 => (spec_MetCells.l1 k t579 x5 x6 x31 x32 (wrap64 (x33 + 1)) x559000 x559001 x559002)) else (none)) else (none)) else (none)) else (none)) else (spec_MetCells.l0 k x4 x5 (wrap64 (x6 + 1)) x559000 x559001 x559002)
end
def spec_MetCells.f (k : Nat) (a0_0 : Int) (a0_1 : Int) (l0_2 : List (S89)) : Option (List Int × Bool) := (spec_boGood.f k a0_0 a0_1 l0_2).bind fun t559 => (if t559 = true then ((spec_ggGroups.f k a0_0 a0_1 l0_2).bind fun t560 => (spec_MetCells.l0 k ([] : List Int) t560 0 a0_0 a0_1 l0_2)) else (some (([] : List Int), false)))
theorem spec_MetCells.mono_l : ∀ k, (∀ y0 y1 y2 y3 y4 y5, LeO (spec_MetCells.l0 k y0 y1 y2 y3 y4 y5) (spec_MetCells.l0 (k + 1) y0 y1 y2 y3 y4 y5)) ∧ (∀ y0 y1 y2 y3 y4 y5 y6 y7 y8, LeO (spec_MetCells.l1 k y0 y1 y2 y3 y4 y5 y6 y7 y8) (spec_MetCells.l1 (k + 1) y0 y1 y2 y3 y4 y5 y6 y7 y8))
 | 0 => ⟨fun _ _ _ _ _ _ r h => by simp [spec_MetCells.l0] at h, fun _ _ _ _ _ _ _ _ _ r h => by simp [spec_MetCells.l1] at h⟩
 | k + 1 => by
  obtain ⟨ih0, ih1⟩ := spec_MetCells.mono_l k
  refine ⟨?_, ?_⟩
  ·intro y0 y1 y2 y3 y4 y5
   unfold spec_MetCells.l0
   repeat' first | (with_reducible first | exact ih0 _ _ _ _ _ _ | exact ih1 _ _ _ _ _ _ _ _ _ | exact spec_boGood.mono _ _ _ _ | exact spec_flGo.mono _ _ _ _ _ _ | exact spec_ggGroups.mono _ _ _ _ | exact spec_l1Put.mono _ _ _ | exact LeO.refl _ | exact LeO.none _ | refine LeO.ite ?_ ?_ | refine LeO.bind ?_ (fun _ => ?_)) | exact ih0 _ _ _ _ _ _ | exact ih1 _ _ _ _ _ _ _ _ _ | exact spec_boGood.mono _ _ _ _ | exact spec_flGo.mono _ _ _ _ _ _ | exact spec_ggGroups.mono _ _ _ _ | exact spec_l1Put.mono _ _ _ | exact LeO.none _ | refine LeO.ite ?_ ?_ | refine LeO.bind ?_ (fun _ => ?_)
  ·intro y0 y1 y2 y3 y4 y5 y6 y7 y8
   unfold spec_MetCells.l1
   repeat' first | (with_reducible first | exact ih0 _ _ _ _ _ _ | exact ih1 _ _ _ _ _ _ _ _ _ | exact spec_boGood.mono _ _ _ _ | exact spec_flGo.mono _ _ _ _ _ _ | exact spec_ggGroups.mono _ _ _ _ | exact spec_l1Put.mono _ _ _ | exact LeO.refl _ | exact LeO.none _ | refine LeO.ite ?_ ?_ | refine LeO.bind ?_ (fun _ => ?_)) | exact ih0 _ _ _ _ _ _ | exact ih1 _ _ _ _ _ _ _ _ _ | exact spec_boGood.mono _ _ _ _ | exact spec_flGo.mono _ _ _ _ _ _ | exact spec_ggGroups.mono _ _ _ _ | exact spec_l1Put.mono _ _ _ | exact LeO.none _ | refine LeO.ite ?_ ?_ | refine LeO.bind ?_ (fun _ => ?_)
theorem spec_MetCells.mono : ∀ a0 a1 a2 k, LeO (spec_MetCells.f k a0 a1 a2) (spec_MetCells.f (k + 1) a0 a1 a2) := by
 intro a0 a1 a2 k
 obtain ⟨ih0, ih1⟩ := spec_MetCells.mono_l k
 unfold spec_MetCells.f
 repeat' first | (with_reducible first | exact ih0 _ _ _ _ _ _ | exact ih1 _ _ _ _ _ _ _ _ _ | exact spec_boGood.mono _ _ _ _ | exact spec_flGo.mono _ _ _ _ _ _ | exact spec_ggGroups.mono _ _ _ _ | exact spec_l1Put.mono _ _ _ | exact LeO.refl _ | exact LeO.none _ | refine LeO.ite ?_ ?_ | refine LeO.bind ?_ (fun _ => ?_)) | exact ih0 _ _ _ _ _ _ | exact ih1 _ _ _ _ _ _ _ _ _ | exact spec_boGood.mono _ _ _ _ | exact spec_flGo.mono _ _ _ _ _ _ | exact spec_ggGroups.mono _ _ _ _ | exact spec_l1Put.mono _ _ _ | exact LeO.none _ | refine LeO.ite ?_ ?_ | refine LeO.bind ?_ (fun _ => ?_)
def spec_MetCells.T12 : Bool × List (List Nat × List Nat) := (true, [([], []), ([], []), ([1], [1]), ([2], [2]), ([], []), ([4], [4]), ([3, 5], [3, 5]), ([], []), ([7], [7]), ([8], [8]), ([6, 9], [6, 9]), ([0, 10], [0, 10]), ([11, 11, 0, 1, 2, 3, 4, 5, 6, 7, 8, 9, 10, 11], [0, 11])])
def spec_MetCells.B12 : List Nat := [0, 0, 2, 6, 0, 16, 62, 0, 128, 384, 1022, 2047, 4095]
theorem spec_MetCells.tab12 : rtab .any (opsOf Try.f30 12) = spec_MetCells.T12 := by kernel_rfl
theorem spec_MetCells.bits12 : waitsOk spec_MetCells.T12.2 spec_MetCells.B12 = true := by kernel_rfl
set_option maxHeartbeats 8000000 in
set_option maxRecDepth 100000 in
theorem spec_MetCells.calls (k : Nat) (a0_0 : Int) (a0_1 : Int) (A0_2 : Option Addr) (c0_2 : Nat) (l0_2 : List (S89)) (r1 : List Int) (r2 : Bool) (w : World) (hr0_2 : Kd.C k89 w A0_2 l0_2.length l0_2) (hc0_2 : l0_2.length ≤ c0_2) (h : spec_MetCells.f k a0_0 a0_1 l0_2 = some (r1, r2)) :
  Calls Try.prog 30 #[.agg #[.int .i64 a0_0, .int .i64 a0_1, .slice A0_2 l0_2.length c0_2]] w fun e w' => ∃ v0_ : Value, e = .returned (.tuple #[v0_, .bool r2]) ∧ Kd.R (Kd.int .i64) 3 w' w.heap.size (fun _ => True) v0_ r1 ∧ Below w.heap.size w w' := by
 have hu32 := Try.underlying32
 have hu27 := Try.underlying27
 have HR0_2 := Aside0.mk hr0_2
 have HC0_2 := Aside0.mk hc0_2
 clear hr0_2 hc0_2
 have HB := Aside0.mk (Below.refl w.heap.size w)
 have H : ((spec_boGood.f k a0_0 a0_1 l0_2).bind fun t559 => (if t559 = true then ((spec_ggGroups.f k a0_0 a0_1 l0_2).bind fun t560 => (spec_MetCells.l0 k ([] : List Int) t560 0 a0_0 a0_1 l0_2)) else (some (([] : List Int), false)))) = some (r1, r2) := h
 clear h
 replace H := Option.bind_eq_some_iff.mp H
 obtain ⟨t559, A20, H⟩ := H
 replace H : (if t559 = true then ((spec_ggGroups.f k a0_0 a0_1 l0_2).bind fun t560 => (spec_MetCells.l0 k ([] : List Int) t560 0 a0_0 a0_1 l0_2)) else (some (([] : List Int), false))) = some (r1, r2) := H
 have A2 := Aside0.mk A20
 clear A20
 by_cases c3 : t559 = true
 ·subst c3
  have H1 : ((spec_ggGroups.f k a0_0 a0_1 l0_2).bind fun t560 => (spec_MetCells.l0 k ([] : List Int) t560 0 a0_0 a0_1 l0_2)) = some (r1, r2) := by rw [if_pos rfl] at H; exact H
  clear H
  have H := H1
  clear H1
  replace H := Option.bind_eq_some_iff.mp H
  obtain ⟨t560, A40, H⟩ := H
  replace H : (spec_MetCells.l0 k ([] : List Int) t560 0 a0_0 a0_1 l0_2) = some (r1, r2) := H
  have A4 := Aside0.mk A40
  clear A40
  have H' := Aside0.mk H
  clear H
  go_enter Try.func30, Try.ntmps30
  go_wp2_with (first | ((with_reducible refine gate_dst (N := 1) rfl ?_); refine box_ev (N := 1) (cs := #[.int .i64 a0_0, .int .i64 a0_1, .slice A0_2 l0_2.length c0_2]) (t := 32) ?_; intro gb558 hg w5 hbox hb; have BK558 := Aside0.mk (hbox); have GW558 := gW (w := w) HB hg; have GE558 := gW (w := w) HB hg; replace HB := bB HB hb; clear hb hbox hg; have hcz6_0 := bc0 BK558; have hcz6_1 := bc1 BK558; have hcz6_2 := bc2 BK558; have hfz6_0 := blk_frozen BK558.out 0; have hfz6_1 := blk_frozen BK558.out 1; have hfz6_2 := blk_frozen BK558.out 2) | ((with_reducible refine gate_callee (f := 58) rfl ?_); refine goesA (some 13) _ #[.agg #[.int .i64 a0_0, .int .i64 a0_1, .slice A0_2 l0_2.length c0_2]] ?_ Try.func58; (with_reducible refine (spec_boGood.calls k a0_0 a0_1 _ _ l0_2 true _ ?side1 ?side2 A2.out).mono ?_); (case side1 => repeat (first | exact (Kd.C_below HR0_2.out HB.out) | (with_reducible refine Kd.C_alloc ?_ _) | (with_reducible refine Kd.C_drewN ?_ _) | (with_reducible refine Kd.C_drew ?_))); (case side2 => exact HC0_2.out); rintro e w7 ⟨rfl, hb⟩; refine ⟨_, rfl, ?_⟩; replace BK558 := kB BK558 hb; replace HB := bB HB hb; (try clear hb); (try clear hb2); (try clear hk); (try clear hi); have hcz8_0 := bc0 BK558; have hcz8_1 := bc1 BK558; have hcz8_2 := bc2 BK558; have hfz8_0 := blk_frozen BK558.out 0; have hfz8_1 := blk_frozen BK558.out 1; have hfz8_2 := blk_frozen BK558.out 2) | ((with_reducible refine gate_callee (f := 62) rfl ?_); refine goesA (some 16) _ #[.agg #[.int .i64 a0_0, .int .i64 a0_1, .slice A0_2 l0_2.length c0_2]] ?_ Try.func62; (with_reducible refine (spec_ggGroups.calls k a0_0 a0_1 _ _ l0_2 t560 _ ?side1 ?side2 A4.out).mono ?_); (case side1 => repeat (first | exact (Kd.C_below HR0_2.out HB.out) | (with_reducible refine Kd.C_alloc ?_ _) | (with_reducible refine Kd.C_drewN ?_ _) | (with_reducible refine Kd.C_drew ?_))); (case side2 => exact HC0_2.out); rintro e w9 ⟨v561, rfl, ho0, hb⟩; refine ⟨_, rfl, ?_⟩; have HO562 := Aside0.mk (Kd.R_lower ho0 (below_size (viaB HB))); replace BK558 := kB BK558 hb; replace HB := bB HB hb; (try clear hb); (try clear hb2); (try clear hk); (try clear hi); (try clear ho0)))
  go_loopg [4, 6] k (fun kq v4 v6 w' => ∃ (x4_1 : List Int) (x6_1 : Int), v6 = .int .i64 x6_1 ∧ Aside0 (spec_MetCells.l0 kq x4_1 t560 x6_1 a0_0 a0_1 l0_2 = some (r1, r2)) ∧ Aside0 (kq ≤ k) ∧ Aside0 (Kd.R (Kd.int .i64) 3 w' w.heap.size (fun k_ => some k_ ≠ (v561 : Value).ownBlock) v4 x4_1) ∧ Aside0 (Kd.R (Kd.int .i64) 3 w' w.heap.size (fun k_ => some k_ ≠ (v4 : Value).ownBlock) v561 t560) ∧ Aside0 (w'.heap[gb558]? = some (.cells #[.int .i64 a0_0, .int .i64 a0_1, (.slice A0_2 l0_2.length c0_2)] 32 (0, 0))) ∧ Aside0 (Below w.heap.size w w'))
  case atStart => exact ⟨(([] : List Int)), (0), (by first | rfl | (simp; done) | (simp [*]; done)), H', ⟨Nat.le_refl _⟩, ⟨by first | exact Kd.R_nil _ _ _ _ _ | exact Kd.N_nil _ _ _ _ _ | exact Kd.V_nil _ _ _ _ _ | exact Kd.Q_nil _ _ _ _ _ | exact Kd.S_nil _ _ _ _ _⟩, ⟨by (with_reducible repeat (first | apply Kd.R_alloc | apply Kd.R_drewN | apply Kd.R_drew)); exact Kd.R_mono HO562.out (fun _ hk => (by simp [Value.ownBlock]))⟩, ⟨viaK BK558⟩, ⟨viaB HB⟩⟩
  case round =>
   clear H'
   (try clear c3)
   (try clear hcz6_0); (try clear hcz6_1); (try clear hcz6_2); (try clear hcz8_0); (try clear hcz8_1); (try clear hcz8_2); (try clear hfz6_0); (try clear hfz6_1)
   (try clear hfz6_2); (try clear hfz8_0); (try clear hfz8_1); (try clear hfz8_2)
   obtain ⟨x4_1, x6_1, rfl, HA, HK1, HO_4, HO_5, BK558, HB⟩ := hrel
   cases gk with
   | zero => exact absurd HA.out (by simp [spec_MetCells.l0])
   | succ k1 =>
    have H := HA.out
    clear HA
    simp only [spec_MetCells.l0] at H
    by_cases c10 : x6_1 < a0_1
    ·rw [if_pos c10] at H
     have c10b0 := decide_eq_true c10
     clear c10
     replace H := Option.bind_eq_some_iff.mp H
     obtain ⟨⟨t563, t564, t565, t566, t567, t568, t571⟩, A110, H⟩ := H
     replace H : (spec_MetCells.l1 k1 x4_1 t560 x6_1 t571 (t571.length : Int) 0 a0_0 a0_1 l0_2) = some (r1, r2) := H
     have A11 := Aside0.mk A110
     clear A110
     have H' := Aside0.mk H
     clear H
     have hcz12_0 := bc0 BK558
     have hcz12_1 := bc1 BK558
     have hcz12_2 := bc2 BK558
     have hfz12_0 := blk_frozen BK558.out 0
     have hfz12_1 := blk_frozen BK558.out 1
     have hfz12_2 := blk_frozen BK558.out 2
     obtain ⟨Ao13, co13, eo13⟩ := Kd.R_slice HO_5.out
     subst eo13
     go_wp2_with (first | ((with_reducible refine gate_callee (f := 63) rfl ?_); refine goesA (some 27) _ #[.agg #[.int .i64 a0_0, .int .i64 a0_1, .slice A0_2 l0_2.length c0_2], .slice Ao13 t560.length co13, .int .i64 x6_1] ?_ Try.func63; (with_reducible refine (spec_flGo.calls k1 a0_0 a0_1 _ _ l0_2 _ _ t560 x6_1 t563 t564 t565 t566 t567 t568 t571 _ ?side1 ?side2 ?side3 ?side4 A11.out).mono ?_); (case side1 => repeat (first | exact (Kd.C_below HR0_2.out HB.out) | (with_reducible refine Kd.C_alloc ?_ _) | (with_reducible refine Kd.C_drewN ?_ _) | (with_reducible refine Kd.C_drew ?_))); (case side2 => exact HC0_2.out); (case side3 => repeat (first | exact (Kd.R_reads' HO_5.out).2.2 | (with_reducible refine Kd.C_alloc ?_ _) | (with_reducible refine Kd.C_drewN ?_ _) | (with_reducible refine Kd.C_drew ?_))); (case side4 => exact (Kd.R_reads' HO_5.out).2.1); rintro e w14 ⟨v569, v572, rfl, ho0, ho1, hb⟩; refine ⟨_, rfl, ?_⟩; have HO570 := Aside0.mk (Kd.R_lower ho0 (below_size (viaB HB))); have HO573 := Aside0.mk (Kd.S_lower (Kd.S_new' (Kd.S_new' ho1 (Kd.R_lt (viaR HO_4))) (Kd.R_lt (viaR HO_5))) (below_size (viaB HB))); replace HO_4 := Aside0.mk (Kd.R_below (viaR HO_4) hb); replace HO_5 := Aside0.mk (Kd.R_below (viaR HO_5) hb); replace BK558 := kB BK558 hb; replace HB := bB HB hb; (try clear hb); (try clear hb2); (try clear hk); (try clear hi); (try clear ho0); (try clear ho1)) | ((with_reducible refine gate_dst (N := 7) rfl ?_); refine box_ev (N := 7) (cs := #[.int .i64 0, .int .i64 0, .int .i64 0]) (t := 27) ?_; intro gb574 hg w15 hbox hb; have BK574 := Aside0.mk (hbox); have GW574 := gW (w := w) HB hg; have GE574 := gW (w := w) HB hg; have NB558_574 := neL BK558 hg; have NB574_558 := neG BK558 hg; replace HO_4 := Aside0.mk (Kd.R_below (viaR HO_4) hb); replace HO_5 := Aside0.mk (Kd.R_below (viaR HO_5) hb); replace HO570 := Aside0.mk (Kd.R_below (viaR HO570) hb); replace HO573 := Aside0.mk (Kd.S_below (viaS HO573) hb); replace BK558 := kB BK558 hb; replace HB := bB HB hb; clear hb hbox hg) | ((with_reducible refine gate_dst (N := 8) rfl ?_); refine box_ev (N := 8) (cs := #[.int .i64 0, .int .i64 0, .slice none 0 0]) (t := 32) ?_; intro gb575 hg w16 hbox hb; have BK575 := Aside0.mk (hbox); have GW575 := gW (w := w) HB hg; have GE575 := gW (w := w) HB hg; have NB558_575 := neL BK558 hg; have NB575_558 := neG BK558 hg; have NB574_575 := neL BK574 hg; have NB575_574 := neG BK574 hg; replace HO_4 := Aside0.mk (Kd.R_below (viaR HO_4) hb); replace HO_5 := Aside0.mk (Kd.R_below (viaR HO_5) hb); replace HO570 := Aside0.mk (Kd.R_below (viaR HO570) hb); replace HO573 := Aside0.mk (Kd.S_below (viaS HO573) hb); replace BK558 := kB BK558 hb; replace BK574 := kB BK574 hb; replace HB := bB HB hb; clear hb hbox hg; have hnb17 := NB574_558.out; have hnc17 := NB558_574.out; have hnb18 := NB574_575.out; have hnc18 := NB575_574.out; have hcz19_0 := bc0 BK574; have hcz19_1 := bc1 BK574; have hcz19_2 := bc2 BK574; have hfz19_0 := blk_frozen BK574.out 0; have hfz19_1 := blk_frozen BK574.out 1; have hfz19_2 := blk_frozen BK574.out 2; have hnb20 := NB575_558.out; have hnc20 := NB558_575.out; have hcz21_0 := bc0 BK575; have hcz21_1 := bc1 BK575; have hcz21_2 := bc2 BK575; have hfz21_0 := blk_frozen BK575.out 0; have hfz21_1 := blk_frozen BK575.out 1; have hfz21_2 := blk_frozen BK575.out 2; obtain ⟨Ao22, co22, eo22⟩ := Kd.R_slice HO570.out; subst eo22; obtain ⟨Ao23, co23, eo23⟩ := Kd.S_slice HO573.out; subst eo23))
     go_loopg [4, 33] k1 (fun kq v4 v33 w' => ∃ (x4_2 : List Int) (x33_2 : Int), v33 = .int .i64 x33_2 ∧ Aside0 (spec_MetCells.l1 kq x4_2 t560 x6_1 t571 (t571.length : Int) x33_2 a0_0 a0_1 l0_2 = some (r1, r2)) ∧ Aside0 (kq ≤ k1) ∧ Aside0 (Kd.R (Kd.int .i64) 3 w' w.heap.size (fun k_ => some k_ ≠ ((.slice Ao13 t560.length co13) : Value).ownBlock) v4 x4_2) ∧ Aside0 (Kd.R (Kd.int .i64) 3 w' w.heap.size (fun k_ => some k_ ≠ (v4 : Value).ownBlock) (.slice Ao13 t560.length co13) t560) ∧ Aside0 (Kd.S (Kd.slice 3 (Kd.int .i64)) 43 w' w.heap.size (fun k_ => some k_ ≠ (v4 : Value).ownBlock ∧ some k_ ≠ ((.slice Ao13 t560.length co13) : Value).ownBlock) (.slice Ao23 t571.length co23) t571) ∧ Aside0 (Kd.R k89 89 w' w.heap.size (fun _ => True) (.slice Ao22 t568.length co22) t568) ∧ Aside0 (w'.heap[gb558]? = some (.cells #[.int .i64 a0_0, .int .i64 a0_1, (.slice A0_2 l0_2.length c0_2)] 32 (0, 0))) ∧ Aside0 (w'.heap[gb574]? = some (.cells #[.int .i64 t563, .int .i64 t564, .int .i64 t565] 27 (0, 0))) ∧ Aside0 (w'.heap[gb575]? = some (.cells #[.int .i64 t566, .int .i64 t567, (.slice Ao22 t568.length co22)] 32 (0, 0))) ∧ Aside0 (Below w.heap.size w w'))
     case atStart => exact ⟨(x4_1), (0), (by first | rfl | (simp; done) | (simp [*]; done)), H', ⟨Nat.le_refl _⟩, ⟨by (with_reducible repeat (first | apply Kd.R_alloc | apply Kd.R_drewN | apply Kd.R_drew)); exact Kd.R_mono (Kd.R_far (p := ⟨gb575, 2, none⟩) (Kd.R_far (p := ⟨gb575, 1, none⟩) (Kd.R_far (p := ⟨gb575, 0, none⟩) (Kd.R_far (p := ⟨gb574, 2, none⟩) (Kd.R_far (p := ⟨gb574, 1, none⟩) (Kd.R_far (p := ⟨gb574, 0, none⟩) (Kd.R_types (Kd.R_types HO_4.out BK574.out (by decide)) BK575.out (by decide)) (fun _ hk => hk.1.2) (.int .i64 t563)) (fun _ hk => hk.1.2) (.int .i64 t564)) (fun _ hk => hk.1.2) (.int .i64 t565)) (fun _ hk => hk.2) (.int .i64 t566)) (fun _ hk => hk.2) (.int .i64 t567)) (fun _ hk => hk.2) (.slice Ao22 t568.length co22)) (fun _ hk => hk.1.1)⟩, ⟨by (with_reducible repeat (first | apply Kd.R_alloc | apply Kd.R_drewN | apply Kd.R_drew)); exact Kd.R_mono (Kd.R_far (p := ⟨gb575, 2, none⟩) (Kd.R_far (p := ⟨gb575, 1, none⟩) (Kd.R_far (p := ⟨gb575, 0, none⟩) (Kd.R_far (p := ⟨gb574, 2, none⟩) (Kd.R_far (p := ⟨gb574, 1, none⟩) (Kd.R_far (p := ⟨gb574, 0, none⟩) (Kd.R_types (Kd.R_types HO_5.out BK574.out (by decide)) BK575.out (by decide)) (fun _ hk => hk.1.2) (.int .i64 t563)) (fun _ hk => hk.1.2) (.int .i64 t564)) (fun _ hk => hk.1.2) (.int .i64 t565)) (fun _ hk => hk.2) (.int .i64 t566)) (fun _ hk => hk.2) (.int .i64 t567)) (fun _ hk => hk.2) (.slice Ao22 t568.length co22)) (fun _ hk => hk.1.1)⟩, ⟨by (with_reducible repeat (first | apply Kd.S_alloc | apply Kd.S_drewN | apply Kd.S_drew)); exact Kd.S_mono (Kd.S_far (p := ⟨gb575, 2, none⟩) (Kd.S_far (p := ⟨gb575, 1, none⟩) (Kd.S_far (p := ⟨gb575, 0, none⟩) (Kd.S_far (p := ⟨gb574, 2, none⟩) (Kd.S_far (p := ⟨gb574, 1, none⟩) (Kd.S_far (p := ⟨gb574, 0, none⟩) (Kd.S_types (Kd.S_types HO573.out BK574.out (by decide)) BK575.out (by decide)) (fun _ hk => hk.1.2) (.int .i64 t563)) (fun _ hk => hk.1.2) (.int .i64 t564)) (fun _ hk => hk.1.2) (.int .i64 t565)) (fun _ hk => hk.2) (.int .i64 t566)) (fun _ hk => hk.2) (.int .i64 t567)) (fun _ hk => hk.2) (.slice Ao22 t568.length co22)) (fun _ hk => ⟨hk.1.1.1.2, hk.1.1.2⟩)⟩, ⟨by (with_reducible repeat (first | apply Kd.R_alloc | apply Kd.R_drewN | apply Kd.R_drew)); exact Kd.R_mono (Kd.R_far (p := ⟨gb575, 2, none⟩) (Kd.R_far (p := ⟨gb575, 1, none⟩) (Kd.R_far (p := ⟨gb575, 0, none⟩) (Kd.R_far (p := ⟨gb574, 2, none⟩) (Kd.R_far (p := ⟨gb574, 1, none⟩) (Kd.R_far (p := ⟨gb574, 0, none⟩) (Kd.R_types (Kd.R_types HO570.out BK574.out (by decide)) BK575.out (by decide)) (fun _ hk => hk.1.2) (.int .i64 t563)) (fun _ hk => hk.1.2) (.int .i64 t564)) (fun _ hk => hk.1.2) (.int .i64 t565)) (fun _ hk => hk.2) (.int .i64 t566)) (fun _ hk => hk.2) (.int .i64 t567)) (fun _ hk => hk.2) (.slice Ao22 t568.length co22)) (fun _ hk => trivial)⟩, ⟨by (with_reducible repeat (first | refine blk_drewN ?_ _ | refine blk_drew ?_ | refine blk_alloc ?_ _)); refine blk_far ?_ NB558_575.out _; (with_reducible repeat (first | refine blk_drewN ?_ _ | refine blk_drew ?_ | refine blk_alloc ?_ _)); refine blk_far ?_ NB558_575.out _; (with_reducible repeat (first | refine blk_drewN ?_ _ | refine blk_drew ?_ | refine blk_alloc ?_ _)); refine blk_far ?_ NB558_575.out _; (with_reducible repeat (first | refine blk_drewN ?_ _ | refine blk_drew ?_ | refine blk_alloc ?_ _)); refine blk_far ?_ NB558_574.out _; (with_reducible repeat (first | refine blk_drewN ?_ _ | refine blk_drew ?_ | refine blk_alloc ?_ _)); refine blk_far ?_ NB558_574.out _; (with_reducible repeat (first | refine blk_drewN ?_ _ | refine blk_drew ?_ | refine blk_alloc ?_ _)); refine blk_far ?_ NB558_574.out _; (with_reducible repeat (first | refine blk_drewN ?_ _ | refine blk_drew ?_ | refine blk_alloc ?_ _)); exact BK558.out⟩, ⟨by (with_reducible repeat (first | refine blk_drewN ?_ _ | refine blk_drew ?_ | refine blk_alloc ?_ _)); refine blk_far ?_ NB574_575.out _; (with_reducible repeat (first | refine blk_drewN ?_ _ | refine blk_drew ?_ | refine blk_alloc ?_ _)); refine blk_far ?_ NB574_575.out _; (with_reducible repeat (first | refine blk_drewN ?_ _ | refine blk_drew ?_ | refine blk_alloc ?_ _)); refine blk_far ?_ NB574_575.out _; (with_reducible repeat (first | refine blk_drewN ?_ _ | refine blk_drew ?_ | refine blk_alloc ?_ _)); refine blk_put (cs := #[.int .i64 t563, .int .i64 t564, .int .i64 0]) ?_ 2 _ rfl; (with_reducible repeat (first | refine blk_drewN ?_ _ | refine blk_drew ?_ | refine blk_alloc ?_ _)); refine blk_put (cs := #[.int .i64 t563, .int .i64 0, .int .i64 0]) ?_ 1 _ rfl; (with_reducible repeat (first | refine blk_drewN ?_ _ | refine blk_drew ?_ | refine blk_alloc ?_ _)); refine blk_put (cs := #[.int .i64 0, .int .i64 0, .int .i64 0]) ?_ 0 _ rfl; (with_reducible repeat (first | refine blk_drewN ?_ _ | refine blk_drew ?_ | refine blk_alloc ?_ _)); exact BK574.out⟩, ⟨by (with_reducible repeat (first | refine blk_drewN ?_ _ | refine blk_drew ?_ | refine blk_alloc ?_ _)); refine blk_put (cs := #[.int .i64 t566, .int .i64 t567, .slice none 0 0]) ?_ 2 _ rfl; (with_reducible repeat (first | refine blk_drewN ?_ _ | refine blk_drew ?_ | refine blk_alloc ?_ _)); refine blk_put (cs := #[.int .i64 t566, .int .i64 0, .slice none 0 0]) ?_ 1 _ rfl; (with_reducible repeat (first | refine blk_drewN ?_ _ | refine blk_drew ?_ | refine blk_alloc ?_ _)); refine blk_put (cs := #[.int .i64 0, .int .i64 0, .slice none 0 0]) ?_ 0 _ rfl; (with_reducible repeat (first | refine blk_drewN ?_ _ | refine blk_drew ?_ | refine blk_alloc ?_ _)); refine blk_far ?_ NB575_574.out _; (with_reducible repeat (first | refine blk_drewN ?_ _ | refine blk_drew ?_ | refine blk_alloc ?_ _)); refine blk_far ?_ NB575_574.out _; (with_reducible repeat (first | refine blk_drewN ?_ _ | refine blk_drew ?_ | refine blk_alloc ?_ _)); refine blk_far ?_ NB575_574.out _; (with_reducible repeat (first | refine blk_drewN ?_ _ | refine blk_drew ?_ | refine blk_alloc ?_ _)); exact BK575.out⟩, ⟨viaB HB⟩⟩
     case round =>
      clear H'
      (try clear c10b0)
      (try clear hcz12_0); (try clear hcz12_1); (try clear hcz12_2); (try clear hcz19_0); (try clear hcz19_1); (try clear hcz19_2); (try clear hcz21_0); (try clear hcz21_1)
      (try clear hcz21_2); (try clear hfz12_0); (try clear hfz12_1); (try clear hfz12_2); (try clear hfz19_0); (try clear hfz19_1); (try clear hfz19_2); (try clear hfz21_0)
      (try clear hfz21_1); (try clear hfz21_2)
      obtain ⟨x4_2, x33_2, rfl, HA, HK2, HO_4, HO_5, HO_31, HO_576002, BK558, BK574, BK575, HB⟩ := hrel
      cases gk with
      | zero => exact absurd HA.out (by simp [spec_MetCells.l1])
      | succ k2 =>
       have H := HA.out
       clear HA
       simp only [spec_MetCells.l1] at H
       by_cases c24 : x33_2 < (t571.length : Int)
       ·rw [if_pos c24] at H
        have c24b0 := decide_eq_true c24
        clear c24
        by_cases c25 : 0 ≤ x33_2
        ·rw [if_pos c25] at H
         have c25b0 := decide_eq_true c25
         clear c25
         by_cases c26 : x33_2 < (t571.length : Int)
         ·rw [if_pos c26] at H
          have c26b0 := decide_eq_true c26
          clear c26
          by_cases c27 : 0 < ((rd_L3 t571 x33_2).length : Int)
          ·rw [if_pos c27] at H
           have c27b0 := decide_eq_true c27
           have c27b1 : decide (0 < (rd_L3 t571 x33_2).length) = true := decide_eq_true (by omega)
           clear c27
           by_cases c28 : 1 < ((rd_L3 t571 x33_2).length : Int)
           ·rw [if_pos c28] at H
            have c28b0 := decide_eq_true c28
            have c28b1 : decide (1 < (rd_L3 t571 x33_2).length) = true := decide_eq_true (by omega)
            clear c28
            replace H := Option.bind_eq_some_iff.mp H
            obtain ⟨t579, A290, H⟩ := H
            replace H : (spec_MetCells.l1 k2 t579 t560 x6_1 t571 (t571.length : Int) (wrap64 (x33_2 + 1)) a0_0 a0_1 l0_2) = some (r1, r2) := H
            have A29 := Aside0.mk A290
            clear A290
            have H' := Aside0.mk H
            clear H
            have p576 : 0 ≤ (x33_2 : Int) := ofD
            have q576 : x33_2 < (t571.length : Int) := ofD
            obtain ⟨ad576, A576_0, c576_0, e576, hx576_0, hl576_0, hi576_0⟩ := at_L3 (Kd.S_reads' HO_31.out).2.2 x33_2 p576 q576
            cases e576
            obtain ⟨ce576, hce576, hMe576, hcc576⟩ := Kd.S_get HO_31.out [] x33_2 p576 (by first | exact q576 | exact ofD | (have e_ := (Kd.S_reads' HO_31.out).1; omega))
            obtain ⟨ve576_0, rfl, ge576_0⟩ := hMe576
            have hv576_0 := hcc576 0 _ rfl
            rw [Nat.add_zero, show ((Kd.slice 3 (Kd.int .i64))).sz = 1 from rfl, Nat.mul_one] at hv576_0
            replace hv576_0 := Option.some.inj (hv576_0.symm.trans hx576_0)
            rw [hv576_0] at ge576_0
            have HL576_0 := Aside0.mk (show Kd.R (Kd.int .i64) 3 _ _ _ _ (rd_L3 t571 x33_2) from ge576_0)
            clear hv576_0 ge576_0
            clear hcc576 hce576
            have HR576_0 := Aside0.mk hi576_0
            have HC576_0 := Aside0.mk hl576_0
            clear hi576_0 hl576_0
            replace p576 := eq_true p576
            replace q576 := eq_true q576
            try go_wp2
            replace HO_4 := Aside0.mk (Kd.R_drew HO_4.out)
            replace HO_5 := Aside0.mk (Kd.R_drew HO_5.out)
            replace HO_31 := Aside0.mk (Kd.S_drew HO_31.out)
            replace HO_576002 := Aside0.mk (Kd.R_drew HO_576002.out)
            replace HL576_0 := Aside0.mk (Kd.R_drew HL576_0.out)
            replace BK558 := Aside0.mk (blk_drew BK558.out)
            replace BK574 := Aside0.mk (blk_drew BK574.out)
            replace BK575 := Aside0.mk (blk_drew BK575.out)
            replace HR576_0 := Aside0.mk (Kd.C_drew HR576_0.out)
            replace HB := Aside0.mk (below_drew1 HB.out)
            have p577 : 0 ≤ (0 : Int) := (by omega)
            have q577 : 0 < ((rd_L3 t571 x33_2).length : Int) := ofD
            obtain ⟨ad577, e577, hx577_0⟩ := Kd.at_int (by repeat (first | (with_reducible exact HR576_0.out) | (with_reducible refine Kd.C_alloc ?_ _) | (with_reducible refine Kd.C_drewN ?_ _) | (with_reducible refine Kd.C_drew ?_) | exact HR576_0.out)) 0 p577 q577
            cases e577
            have qi577 : (0 < (rd_L3 t571 x33_2).length) = True := eq_true (by omega)
            (try rw [show ((0 : Int)).toNat = 0 from rfl] at hx577_0)
            (try rw [Addr.add_zero'] at hx577_0)
            replace p577 := eq_true p577
            replace q577 := eq_true q577
            have p578 : 0 ≤ (1 : Int) := (by omega)
            have q578 : 1 < ((rd_L3 t571 x33_2).length : Int) := ofD
            obtain ⟨ad578, e578, hx578_0⟩ := Kd.at_int (by repeat (first | (with_reducible exact HR576_0.out) | (with_reducible refine Kd.C_alloc ?_ _) | (with_reducible refine Kd.C_drewN ?_ _) | (with_reducible refine Kd.C_drew ?_) | exact HR576_0.out)) 1 p578 q578
            obtain rfl : ad577 = ad578 := (by injection e578)
            (try simp only [show (1 : Int).toNat = 1 from rfl, Nat.reduceMul, Nat.reduceEqDiff, Go.Addr.add, ↓reduceIte] at hx578_0)
            have qi578 : (1 < (rd_L3 t571 x33_2).length) = True := eq_true (by omega)
            (try rw [show ((1 : Int)).toNat = 1 from rfl] at hx578_0)
            replace p578 := eq_true p578
            replace q578 := eq_true q578
            obtain ⟨Ao31, co31, eo31⟩ := Kd.R_slice HO_4.out
            (first | subst eo31 | (injection eo31 with f1_ f2_ f3_; have f4_ := f1_.symm; have f5_ := f3_.symm; clear f1_ f2_ f3_; subst f4_; subst f5_))
            refine start_ (n := 13) (S := fun w' => w'.cell? ⟨gb558, 0, none⟩ = some (.int .i64 a0_0) ∧ w'.cell? ⟨gb558, 1, none⟩ = some (.int .i64 a0_1) ∧ w'.cell? ⟨gb558, 2, none⟩ = some (.slice A0_2 l0_2.length c0_2) ∧ w'.cell? ad577 = some (.int .i64 (rd (rd_L3 t571 x33_2) 0)) ∧ w'.cell? ⟨ad577.block, ad577.off + 1, none⟩ = some (.int .i64 (rd (rd_L3 t571 x33_2) 1))) (ds := []) #[false, false, false, false, false, false, false, false, false, false, false, false, false] (by kernel_rfl) rfl rfl ⟨(blk_cell BK558.out 0).trans rfl, (blk_cell BK558.out 1).trans rfl, (blk_cell BK558.out 2).trans rfl, hx577_0, hx578_0⟩ (fun hHeld => ?_); refine with_tabW spec_MetCells.tab12 spec_MetCells.bits12 (fun HT_ HW_ => ?_)
            generalize wr.drew = w30 at HO_4 HO_5 HO_31 HO_576002 HL576_0 BK558 BK574 BK575 HR576_0 HB hx577_0 hx578_0 hHeld ⊢
            refine pure_ (i := 0) (N := some 37) (v := ?_) (a' := ?_) #[true, false, false, false, false, false, false, false, false, false, false, false, false] rfl rfl (any_of HT_.out (by kernel_rfl)) (fun _ _ _ h => h) (Or.inl ⟨by rfl, ?_⟩) ?_ ?_
            rotate_left
            ·intro w'
             go_simp
             with_reducible rfl
            rotate_left
            ·simp only [Act.put, q1, q2, q3, i64_w, i32_w]
             rfl
            refine pure_ (i := 1) (N := some 38) (v := ?_) (a' := ?_) #[true, true, false, false, false, false, false, false, false, false, false, false, false] rfl rfl (any_of HT_.out (by kernel_rfl)) (fun _ _ _ h => h) (Or.inl ⟨by rfl, ?_⟩) ?_ ?_
            rotate_left
            ·intro w'
             go_simp
             with_reducible rfl
            rotate_left
            ·simp only [Act.put, q1, q2, q3, i64_w, i32_w]
             rfl
            refine pure_ (i := 2) (N := some 39) (v := ?_) (a' := ?_) #[true, true, true, false, false, false, false, false, false, false, false, false, false] rfl rfl (any_of HT_.out (by kernel_rfl)) (fun _ _ _ h => h) (Or.inl ⟨by rfl, ?_⟩) ?_ ?_
            rotate_left
            ·intro w'
             go_simp
             with_reducible rfl
            rotate_left
            ·simp only [Act.put, q1, q2, q3, i64_w, i32_w]
             rfl
            refine pure_ (i := 4) (N := some 41) (v := ?_) (a' := ?_) #[true, true, true, false, true, false, false, false, false, false, false, false, false] rfl rfl (any_of HT_.out (by kernel_rfl)) (fun _ _ _ h => h) (Or.inl ⟨by rfl, ?_⟩) ?_ ?_
            rotate_left
            ·intro w'
             go_simp
             with_reducible rfl
            rotate_left
            ·simp only [Act.put, q1, q2, q3, i64_w, i32_w]
             rfl
            refine pure_ (i := 7) (N := some 44) (v := ?_) (a' := ?_) #[true, true, true, false, true, false, false, true, false, false, false, false, false] rfl rfl (any_of HT_.out (by kernel_rfl)) (fun _ _ _ h => h) (Or.inl ⟨by rfl, ?_⟩) ?_ ?_
            rotate_left
            ·intro w'
             go_simp
             with_reducible rfl
            rotate_left
            ·simp only [Act.put, q1, q2, q3, i64_w, i32_w]
             rfl
            refine pure_ (i := 8) (N := some 45) (v := ?_) (a' := ?_) #[true, true, true, false, true, false, false, true, true, false, false, false, false] rfl rfl (any_of HT_.out (by kernel_rfl)) (fun _ _ _ h => h) (Or.inl ⟨by rfl, ?_⟩) ?_ ?_
            rotate_left
            ·intro w'
             go_simp
             with_reducible rfl
            rotate_left
            ·simp only [Act.put, q1, q2, q3, i64_w, i32_w]
             rfl
            refine take_ (i := 3) (N := some 40) (v := ?_) (a' := ?_) #[true, true, true, true, true, false, false, true, true, false, false, false, false] rfl rfl (take_ofW HT_.out HW_.out (by kernel_rfl)) (fun _ _ _ h => h) (Or.inl ⟨by rfl, ?_⟩) hHeld ?_ ?_
            rotate_left
            ·rintro w' ⟨s0, s1, s2, s3, s4⟩
             go_simp
             with_reducible rfl
            rotate_left
            ·simp only [Act.put, q1, q2, q3, i64_w, i32_w]
             rfl
            refine take_ (i := 5) (N := some 42) (v := ?_) (a' := ?_) #[true, true, true, true, true, true, false, true, true, false, false, false, false] rfl rfl (take_ofW HT_.out HW_.out (by kernel_rfl)) (fun _ _ _ h => h) (Or.inl ⟨by rfl, ?_⟩) hHeld ?_ ?_
            rotate_left
            ·rintro w' ⟨s0, s1, s2, s3, s4⟩
             go_simp
             with_reducible rfl
            rotate_left
            ·simp only [Act.put, q1, q2, q3, i64_w, i32_w]
             rfl
            refine pure_ (i := 6) (N := some 43) (v := ?_) (a' := ?_) #[true, true, true, true, true, true, true, true, true, false, false, false, false] rfl rfl (any_of HT_.out (by kernel_rfl)) (fun _ _ _ h => h) (Or.inl ⟨by rfl, ?_⟩) ?_ ?_
            rotate_left
            ·intro w'
             go_simp
             with_reducible rfl
            rotate_left
            ·simp only [Act.put, q1, q2, q3, i64_w, i32_w]
             rfl
            refine take_ (i := 9) (N := some 46) (v := ?_) (a' := ?_) #[true, true, true, true, true, true, true, true, true, true, false, false, false] rfl rfl (take_ofW HT_.out HW_.out (by kernel_rfl)) (fun _ _ _ h => h) (Or.inl ⟨by rfl, ?_⟩) hHeld ?_ ?_
            rotate_left
            ·rintro w' ⟨s0, s1, s2, s3, s4⟩
             go_simp
             with_reducible rfl
            rotate_left
            ·simp only [Act.put, q1, q2, q3, i64_w, i32_w]
             rfl
            refine pure_ (i := 10) (N := some 47) (v := ?_) (a' := ?_) #[true, true, true, true, true, true, true, true, true, true, true, false, false] rfl rfl (any_of HT_.out (by kernel_rfl)) (fun _ _ _ h => h) (Or.inl ⟨by rfl, ?_⟩) ?_ ?_
            rotate_left
            ·intro w'
             go_simp
             with_reducible rfl
            rotate_left
            ·simp only [Act.put, q1, q2, q3, i64_w, i32_w]
             rfl
            refine one_ (i := 11) (N := some 48) #[true, true, true, true, true, true, true, true, true, true, true, true, false] rfl rfl (one_of HT_.out (by kernel_rfl)) (by decide) (fun K hK => ?_)
            refine goes_ Try.func64 (by kernel_rfl) rfl #[.slice Ao31 x4_2.length co31, .int .i64 (wrap64 ((wrap64 ((rd (rd_L3 t571 x33_2) 0) * a0_1)) + (rd (rd_L3 t571 x33_2) 1)))] (by rfl) rfl rfl (by (try simp only [List.map_toArray, List.map_cons, List.map_nil]); first | done | rfl | (simp only [List.length_drop, List.length_take]; rfl)) ?_
            with_reducible refine (spec_l1Put.calls k2 (fun k_ => some k_ = (.slice Ao31 x4_2.length co31 : Value).ownBlock) (.slice Ao31 x4_2.length co31) x4_2 (wrap64 ((wrap64 ((rd (rd_L3 t571 x33_2) 0) * a0_1)) + (rd (rd_L3 t571 x33_2) 1))) t579 w _ ?side1 ?side2 A29.out).mono ?_
            (case side1 => repeat (first | (with_reducible first | exact HB.out | apply below_alloc | apply pw_below_drewN | apply below_drew1 | refine below_set ?_ GE558.out | refine below_set ?_ GE574.out | refine below_set ?_ GE575.out) | exact HB.out))
            (case side2 => exact Kd.R_tight rfl HO_4.out)
            rintro e w32 ⟨v580, rfl, ho0, hb, hkp⟩
            have HS3_ := cell_kept (hHeld.2.2.2.1) hkp (by first | (rw [add_block]; exact (fun hs_ => (((HL576_0.out).1 _ rfl).1.1) hs_)) | (show ¬ _; simp only [add_block]; exact (fun hs_ => (((HL576_0.out).1 _ rfl).1.1) hs_)) | exact (fun hs_ => (((HL576_0.out).1 _ rfl).1.1) hs_))
            have HS4_ := cell_kept (hHeld.2.2.2.2) hkp (by first | (rw [add_block]; exact (fun hs_ => (((HL576_0.out).1 _ rfl).1.1) hs_)) | (show ¬ _; simp only [add_block]; exact (fun hs_ => (((HL576_0.out).1 _ rfl).1.1) hs_)) | exact (fun hs_ => (((HL576_0.out).1 _ rfl).1.1) hs_))
            refine ⟨_, rfl, ?_⟩
            have HO581 := Aside0.mk (Kd.R_mono (ok' := fun k_ => some k_ ≠ (.slice Ao13 t560.length co13 : Value).ownBlock) ho0 (fun k_ hk_ => Or.elim hk_ (fun hs_ => fun e_ => (((HO_5.out).1 k_ e_.symm)) hs_) (fun hn_ => (Kd.fresh' (Kd.R_lt (viaR HO_5)) k_ hn_))))
            replace HO_5 := Aside0.mk (Kd.R_mono (ok' := fun k_ => some k_ ≠ (v580 : Value).ownBlock) (Kd.R_keptB (HO_5.out) hkp (fun k_ hk_ hs_ => (hk_) hs_)) (fun k_ hk_ => fun e_ => Or.elim (ho0.1 k_ e_.symm) (fun hs_ => hk_.2.1 hs_) (fun hn_ => Nat.not_le.2 hk_.2.2 hn_)))
            replace HO_31 := Aside0.mk (Kd.S_mono (ok' := fun k_ => some k_ ≠ (.slice Ao13 t560.length co13 : Value).ownBlock ∧ some k_ ≠ (v580 : Value).ownBlock) (Kd.S_keptB (HO_31.out) hkp (fun k_ hk_ hs_ => (hk_.1) hs_)) (fun k_ hk_ => ⟨hk_.1.2, fun e_ => Or.elim (ho0.1 k_ e_.symm) (fun hs_ => hk_.2.1 hs_) (fun hn_ => Nat.not_le.2 hk_.2.2 hn_)⟩))
            replace HO_576002 := Aside0.mk (Kd.R_mono (ok' := fun k_ => True) (Kd.R_keptB ((Kd.R_apart' HO_576002.out (Kd.R_typed HO_4.out) (by decide))) hkp (fun k_ hk_ hs_ => (hk_.2) hs_)) (fun k_ hk_ => trivial))
            replace BK558 := Aside0.mk (blk_kept (viaK BK558) hkp (fun hs_ => (fun e_ => (Kd.R_ne HO_4.out BK558.out (by decide)) e_) hs_))
            replace BK574 := Aside0.mk (blk_kept (viaK BK574) hkp (fun hs_ => (fun e_ => (Kd.R_ne HO_4.out BK574.out (by decide)) e_) hs_))
            replace BK575 := Aside0.mk (blk_kept (viaK BK575) hkp (fun hs_ => (fun e_ => (Kd.R_ne HO_4.out BK575.out (by decide)) e_) hs_))
            replace HB := Aside0.mk (hb)
            clear HO_4 HL576_0
            (try clear hb); (try clear hkp); (try clear ho0)
            refine hK.out _ _ ⟨(blk_cell BK558.out 0).trans rfl, (blk_cell BK558.out 1).trans rfl, (blk_cell BK558.out 2).trans rfl, HS3_, HS4_⟩ (fun hHeld => ?_)
            clear hK K
            refine norm_ (a' := ?_) ?_ ?_
            rotate_left
            ·show Act.put _ (some 48) _ = _
             simp only [Act.put, q1, q2, q3, i64_w, i32_w]
             rfl
            refine pure_ (i := 12) (N := some 4) (v := ?_) (a' := ?_) #[true, true, true, true, true, true, true, true, true, true, true, true, true] rfl rfl (any_of HT_.out (by kernel_rfl)) (fun _ _ _ h => h) (Or.inl ⟨by rfl, ?_⟩) ?_ ?_
            rotate_left
            ·intro w'
             go_simp
             with_reducible rfl
            rotate_left
            ·simp only [Act.put, q1, q2, q3, i64_w, i32_w]
             rfl
            refine done_ (done_of HT_.out (by kernel_rfl)) ?_
            try go_wp2
            go_roundg k2
            case measure => have := HK1.out; have := HK2.out; omega
            case rel => exact ⟨(t579), (wrap64 (x33_2 + 1)), (by first | rfl | (simp; done) | (simp [*]; done)), H', ⟨by have := HK1.out; have := HK2.out; omega⟩, ⟨viaR HO581⟩, ⟨viaR HO_5⟩, ⟨by (with_reducible repeat (first | apply Kd.S_alloc | apply Kd.S_drewN | apply Kd.S_drew)); exact Kd.S_mono HO_31.out (fun _ hk => ⟨hk.2, hk.1⟩)⟩, ⟨viaR HO_576002⟩, ⟨viaK BK558⟩, ⟨viaK BK574⟩, ⟨viaK BK575⟩, ⟨viaB HB⟩⟩
           ·rw [if_neg c28] at H
            exact absurd H (by simp)
          ·rw [if_neg c27] at H
           exact absurd H (by simp)
         ·rw [if_neg c26] at H
          exact absurd H (by simp)
        ·rw [if_neg c25] at H
         exact absurd H (by simp)
       ·rw [if_neg c24] at H
        have c24b0 := decide_eq_false c24
        clear c24
        have H' := Aside0.mk H
        clear H
        go_wp2
        go_roundg k2
        case measure => have := HK1.out; have := HK2.out; omega
        case rel => exact ⟨(x4_2), (wrap64 (x6_1 + 1)), (by first | rfl | (simp; done) | (simp [*]; done)), H', ⟨by have := HK1.out; have := HK2.out; omega⟩, ⟨viaR HO_4⟩, ⟨viaR HO_5⟩, ⟨viaK BK558⟩, ⟨viaB HB⟩⟩
    ·rw [if_neg c10] at H
     have c10b0 := decide_eq_false c10
     clear c10
     simp only [Option.some.injEq, Prod.mk.injEq] at H
     obtain ⟨rfl, rfl⟩ := H
     have hcz33_0 := bc0 BK558
     have hcz33_1 := bc1 BK558
     have hcz33_2 := bc2 BK558
     have hfz33_0 := blk_frozen BK558.out 0
     have hfz33_1 := blk_frozen BK558.out 1
     have hfz33_2 := blk_frozen BK558.out 2
     go_wp2
     go_ret2
     exact ⟨_, by first | rfl | (simp [errW_none, errW_some] <;> rfl) | (simp [*, errW_none, errW_some] <;> rfl), by (with_reducible repeat (first | apply Kd.R_alloc | apply Kd.R_drewN | apply Kd.R_drew)); exact Kd.R_mono HO_4.out (fun _ hk => trivial), viaB HB⟩
 ·replace c3 := Bool.eq_false_iff.mpr c3
  subst c3
  have H1 : (some (([] : List Int), false)) = some (r1, r2) := by rw [if_neg (show ¬ (false = true) by decide)] at H; exact H
  clear H
  have H := H1
  clear H1
  simp only [Option.some.injEq, Prod.mk.injEq] at H
  obtain ⟨rfl, rfl⟩ := H
  go_enter Try.func30, Try.ntmps30
  go_wp2_with (first | ((with_reducible refine gate_dst (N := 1) rfl ?_); refine box_ev (N := 1) (cs := #[.int .i64 a0_0, .int .i64 a0_1, .slice A0_2 l0_2.length c0_2]) (t := 32) ?_; intro gb558 hg w34 hbox hb; have BK558 := Aside0.mk (hbox); have GW558 := gW (w := w) HB hg; have GE558 := gW (w := w) HB hg; replace HB := bB HB hb; clear hb hbox hg; have hcz35_0 := bc0 BK558; have hcz35_1 := bc1 BK558; have hcz35_2 := bc2 BK558; have hfz35_0 := blk_frozen BK558.out 0; have hfz35_1 := blk_frozen BK558.out 1; have hfz35_2 := blk_frozen BK558.out 2) | ((with_reducible refine gate_callee (f := 58) rfl ?_); refine goesA (some 13) _ #[.agg #[.int .i64 a0_0, .int .i64 a0_1, .slice A0_2 l0_2.length c0_2]] ?_ Try.func58; (with_reducible refine (spec_boGood.calls k a0_0 a0_1 _ _ l0_2 false _ ?side1 ?side2 A2.out).mono ?_); (case side1 => repeat (first | exact (Kd.C_below HR0_2.out HB.out) | (with_reducible refine Kd.C_alloc ?_ _) | (with_reducible refine Kd.C_drewN ?_ _) | (with_reducible refine Kd.C_drew ?_))); (case side2 => exact HC0_2.out); rintro e w36 ⟨rfl, hb⟩; refine ⟨_, rfl, ?_⟩; replace BK558 := kB BK558 hb; replace HB := bB HB hb; (try clear hb); (try clear hb2); (try clear hk); (try clear hi)))
  go_ret2
  exact ⟨_, by first | rfl | (simp [errW_none, errW_some] <;> rfl) | (simp [*, errW_none, errW_some] <;> rfl), by first | exact Kd.R_nil _ _ _ _ _ | exact Kd.N_nil _ _ _ _ _ | exact Kd.V_nil _ _ _ _ _ | exact Kd.Q_nil _ _ _ _ _ | exact Kd.S_nil _ _ _ _ _, viaB HB⟩

end Go.Proofs.Ytoklfgjemfojgaa.PAll
