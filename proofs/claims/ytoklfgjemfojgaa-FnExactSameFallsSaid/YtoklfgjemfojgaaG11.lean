/- This text began as one that print.sh wrote for this seat (of the functions named below); it is this session's own: turned where Lean did not take the printed proof, where it was too long for a claim, or only in what it imports. -/
import Derived.Test.YtoklfgjemfojgaaG0
import Derived.Test.YtoklfgjemfojgaaG1
import Derived.Test.YtoklfgjemfojgaaG9
import Derived.Test.YtoklfgjemfojgaaG10
namespace Go.Proofs.Ytoklfgjemfojgaa.PAll
open Go.RowKit Go.Proofs.YtoklfgjemfojgaaW.PrintWords Go.Proofs.YtoklfgjemfojgaaW.PrintLast Go.Proofs.YtoklfgjemfojgaaW.PrintMore
attribute [local go_sem] max2_int min2_int max_two min_two max_three min_three max_four min_four   -- for this text's walks alone
set_option linter.unusedVariables false
set_option linter.unusedSimpArgs false

attribute [local go_sem high] eqA27
/-! ### spec_SameFalls: function 19 -/
mutual
def spec_SameFalls.j0 : Nat → Bool → Int → Int → List (S89) → Int → Int → List (S89) → Option (Bool × Bool)
 | 0, _, _, _, _, _, _, _ => none
 | k + 1, x25, x247000, x247001, x247002, x248000, x248001, x248002 => if x25 = true then (some (false, false)) else (spec_SameFalls.l0 k 0 x247000 x247001 x247002 x248000 x248001 x248002)
def spec_SameFalls.l0 : Nat → Int → Int → Int → List (S89) → Int → Int → List (S89) → Option (Bool × Bool)
 | 0, _, _, _, _, _, _, _ => none
 | k + 1, x6, x247000, x247001, x247002, x248000, x248001, x248002 => if x6 < x247001 then ((spec_flRun.f k x247000 x247001 x247002 x6).bind fun bt250 => ((spec_flRun.f k x248000 x248001 x248002 x6).bind fun bt260 => (if (!(bt250.1 == bt260.1) || (!(bt250.2.1 == bt260.2.1) || (!(bt250.2.2.1 == bt260.2.2.1)))) = true then (some (false, true)) else (spec_SameFalls.l0 k (wrap64 (x6 + 1)) x247000 x247001 x247002 x248000 x248001 x248002)))) else (some (true, true))
end
def spec_SameFalls.f (k : Nat) (a0_0 : Int) (a0_1 : Int) (l0_2 : List (S89)) (a1_0 : Int) (a1_1 : Int) (l1_2 : List (S89)) : Option (Bool × Bool) := (spec_boGood.f k a0_0 a0_1 l0_2).bind fun t248 => (if t248 = true then ((spec_boGood.f k a1_0 a1_1 l1_2).bind fun t249 => (if t249 = true then (spec_SameFalls.j0 k (a0_1 != a1_1) a0_0 a0_1 l0_2 a1_0 a1_1 l1_2) else (spec_SameFalls.j0 k true a0_0 a0_1 l0_2 a1_0 a1_1 l1_2))) else (spec_SameFalls.j0 k true a0_0 a0_1 l0_2 a1_0 a1_1 l1_2))
theorem spec_SameFalls.mono_l : ∀ k, (∀ y0 y1 y2 y3 y4 y5 y6, LeO (spec_SameFalls.j0 k y0 y1 y2 y3 y4 y5 y6) (spec_SameFalls.j0 (k + 1) y0 y1 y2 y3 y4 y5 y6)) ∧ (∀ y0 y1 y2 y3 y4 y5 y6, LeO (spec_SameFalls.l0 k y0 y1 y2 y3 y4 y5 y6) (spec_SameFalls.l0 (k + 1) y0 y1 y2 y3 y4 y5 y6))
 | 0 => ⟨fun _ _ _ _ _ _ _ r h => by simp [spec_SameFalls.j0] at h, fun _ _ _ _ _ _ _ r h => by simp [spec_SameFalls.l0] at h⟩
 | k + 1 => by
  obtain ⟨ih0, ih1⟩ := spec_SameFalls.mono_l k
  refine ⟨?_, ?_⟩
  ·intro y0 y1 y2 y3 y4 y5 y6
   unfold spec_SameFalls.j0
   repeat' first | (with_reducible first | exact ih0 _ _ _ _ _ _ _ | exact ih1 _ _ _ _ _ _ _ | exact spec_boGood.mono _ _ _ _ | exact spec_flRun.mono _ _ _ _ _ | exact LeO.refl _ | exact LeO.none _ | refine LeO.ite ?_ ?_ | refine LeO.bind ?_ (fun _ => ?_)) | exact ih0 _ _ _ _ _ _ _ | exact ih1 _ _ _ _ _ _ _ | exact spec_boGood.mono _ _ _ _ | exact spec_flRun.mono _ _ _ _ _ | exact LeO.none _ | refine LeO.ite ?_ ?_ | refine LeO.bind ?_ (fun _ => ?_)
  ·intro y0 y1 y2 y3 y4 y5 y6
   unfold spec_SameFalls.l0
   repeat' first | (with_reducible first | exact ih0 _ _ _ _ _ _ _ | exact ih1 _ _ _ _ _ _ _ | exact spec_boGood.mono _ _ _ _ | exact spec_flRun.mono _ _ _ _ _ | exact LeO.refl _ | exact LeO.none _ | refine LeO.ite ?_ ?_ | refine LeO.bind ?_ (fun _ => ?_)) | exact ih0 _ _ _ _ _ _ _ | exact ih1 _ _ _ _ _ _ _ | exact spec_boGood.mono _ _ _ _ | exact spec_flRun.mono _ _ _ _ _ | exact LeO.none _ | refine LeO.ite ?_ ?_ | refine LeO.bind ?_ (fun _ => ?_)
theorem spec_SameFalls.mono : ∀ a0 a1 a2 a3 a4 a5 k, LeO (spec_SameFalls.f k a0 a1 a2 a3 a4 a5) (spec_SameFalls.f (k + 1) a0 a1 a2 a3 a4 a5) := by
 intro a0 a1 a2 a3 a4 a5 k
 obtain ⟨ih0, ih1⟩ := spec_SameFalls.mono_l k
 unfold spec_SameFalls.f
 repeat' first | (with_reducible first | exact ih0 _ _ _ _ _ _ _ | exact ih1 _ _ _ _ _ _ _ | exact spec_boGood.mono _ _ _ _ | exact spec_flRun.mono _ _ _ _ _ | exact LeO.refl _ | exact LeO.none _ | refine LeO.ite ?_ ?_ | refine LeO.bind ?_ (fun _ => ?_)) | exact ih0 _ _ _ _ _ _ _ | exact ih1 _ _ _ _ _ _ _ | exact spec_boGood.mono _ _ _ _ | exact spec_flRun.mono _ _ _ _ _ | exact LeO.none _ | refine LeO.ite ?_ ?_ | refine LeO.bind ?_ (fun _ => ?_)
set_option maxHeartbeats 8000000 in
set_option maxRecDepth 100000 in
theorem spec_SameFalls.calls (k : Nat) (a0_0 : Int) (a0_1 : Int) (A0_2 : Option Addr) (c0_2 : Nat) (l0_2 : List (S89)) (a1_0 : Int) (a1_1 : Int) (A1_2 : Option Addr) (c1_2 : Nat) (l1_2 : List (S89)) (r1 : Bool) (r2 : Bool) (w : World) (hr0_2 : Kd.C k89 w A0_2 l0_2.length l0_2) (hc0_2 : l0_2.length ≤ c0_2) (hr1_2 : Kd.C k89 w A1_2 l1_2.length l1_2) (hc1_2 : l1_2.length ≤ c1_2) (h : spec_SameFalls.f k a0_0 a0_1 l0_2 a1_0 a1_1 l1_2 = some (r1, r2)) :
  Calls Try.prog 19 #[.agg #[.int .i64 a0_0, .int .i64 a0_1, .slice A0_2 l0_2.length c0_2], .agg #[.int .i64 a1_0, .int .i64 a1_1, .slice A1_2 l1_2.length c1_2]] w fun e w' => e = .returned (.tuple #[.bool r1, .bool r2]) ∧ Below w.heap.size w w' := by
 have hu32 := Try.underlying32
 have hu27 := Try.underlying27
 have HR0_2 := Aside0.mk hr0_2
 have HC0_2 := Aside0.mk hc0_2
 clear hr0_2 hc0_2
 have HR1_2 := Aside0.mk hr1_2
 have HC1_2 := Aside0.mk hc1_2
 clear hr1_2 hc1_2
 have HB := Aside0.mk (Below.refl w.heap.size w)
 have H : ((spec_boGood.f k a0_0 a0_1 l0_2).bind fun t248 => (if t248 = true then ((spec_boGood.f k a1_0 a1_1 l1_2).bind fun t249 => (if t249 = true then (spec_SameFalls.j0 k (a0_1 != a1_1) a0_0 a0_1 l0_2 a1_0 a1_1 l1_2) else (spec_SameFalls.j0 k true a0_0 a0_1 l0_2 a1_0 a1_1 l1_2))) else (spec_SameFalls.j0 k true a0_0 a0_1 l0_2 a1_0 a1_1 l1_2))) = some (r1, r2) := h
 clear h
 have HC3 := Aside0.mk H
 clear H
 go_enter Try.func19, Try.ntmps19
 go_upto_region 1 with (first | ((with_reducible refine gate_dst (N := 2) rfl ?_); refine box_ev (N := 2) (cs := #[.int .i64 a0_0, .int .i64 a0_1, .slice A0_2 l0_2.length c0_2]) (t := 32) ?_; intro gb246 hg w4 hbox hb; have BK246 := Aside0.mk (hbox); have GW246 := gW (w := w) HB hg; have GE246 := gW (w := w) HB hg; replace HB := bB HB hb; clear hb hbox hg) | ((with_reducible refine gate_dst (N := 3) rfl ?_); refine box_ev (N := 3) (cs := #[.int .i64 a1_0, .int .i64 a1_1, .slice A1_2 l1_2.length c1_2]) (t := 32) ?_; intro gb247 hg w5 hbox hb; have BK247 := Aside0.mk (hbox); have GW247 := gW (w := w) HB hg; have GE247 := gW (w := w) HB hg; have NB246_247 := neL BK246 hg; have NB247_246 := neG BK246 hg; replace BK246 := kB BK246 hb; replace HB := bB HB hb; clear hb hbox hg))
 (try simp only [Act.put, q1, q2, q3])
 go_cut [25] (fun v25 wc => ∃ (kq : Nat) (x25_2 : Bool), v25 = .bool x25_2 ∧ Aside0 (spec_SameFalls.j0 kq x25_2 a0_0 a0_1 l0_2 a1_0 a1_1 l1_2 = some (r1, r2)) ∧ Aside0 (kq ≤ k) ∧ Aside0 (wc.heap[gb246]? = some (.cells #[.int .i64 a0_0, .int .i64 a0_1, (.slice A0_2 l0_2.length c0_2)] 32 (0, 0))) ∧ Aside0 (wc.heap[gb247]? = some (.cells #[.int .i64 a1_0, .int .i64 a1_1, (.slice A1_2 l1_2.length c1_2)] 32 (0, 0))) ∧ Aside0 (Below w.heap.size w wc))
 case first =>
  have H := HC3.out
  clear HC3
  replace H := Option.bind_eq_some_iff.mp H
  obtain ⟨t248, A60, H⟩ := H
  replace H : (if t248 = true then ((spec_boGood.f k a1_0 a1_1 l1_2).bind fun t249 => (if t249 = true then (spec_SameFalls.j0 k (a0_1 != a1_1) a0_0 a0_1 l0_2 a1_0 a1_1 l1_2) else (spec_SameFalls.j0 k true a0_0 a0_1 l0_2 a1_0 a1_1 l1_2))) else (spec_SameFalls.j0 k true a0_0 a0_1 l0_2 a1_0 a1_1 l1_2)) = some (r1, r2) := H
  have A6 := Aside0.mk A60
  clear A60
  by_cases c7 : t248 = true
  ·subst c7
   have H1 : ((spec_boGood.f k a1_0 a1_1 l1_2).bind fun t249 => (if t249 = true then (spec_SameFalls.j0 k (a0_1 != a1_1) a0_0 a0_1 l0_2 a1_0 a1_1 l1_2) else (spec_SameFalls.j0 k true a0_0 a0_1 l0_2 a1_0 a1_1 l1_2))) = some (r1, r2) := by rw [if_pos rfl] at H; exact H
   clear H
   have H := H1
   clear H1
   replace H := Option.bind_eq_some_iff.mp H
   obtain ⟨t249, A80, H⟩ := H
   replace H : (if t249 = true then (spec_SameFalls.j0 k (a0_1 != a1_1) a0_0 a0_1 l0_2 a1_0 a1_1 l1_2) else (spec_SameFalls.j0 k true a0_0 a0_1 l0_2 a1_0 a1_1 l1_2)) = some (r1, r2) := H
   have A8 := Aside0.mk A80
   clear A80
   by_cases c9 : t249 = true
   ·subst c9
    have H1 : (spec_SameFalls.j0 k (a0_1 != a1_1) a0_0 a0_1 l0_2 a1_0 a1_1 l1_2) = some (r1, r2) := by rw [if_pos rfl] at H; exact H
    clear H
    have H := H1
    clear H1
    have H' := Aside0.mk H
    clear H
    have hnb10 := NB246_247.out
    have hnc10 := NB247_246.out
    have hcz11_0 := bc0 BK246
    have hcz11_1 := bc1 BK246
    have hcz11_2 := bc2 BK246
    have hfz11_0 := blk_frozen BK246.out 0
    have hfz11_1 := blk_frozen BK246.out 1
    have hfz11_2 := blk_frozen BK246.out 2
    go_wp2_with (first | ((with_reducible refine gate_callee (f := 58) rfl ?_); refine goesA (some 12) _ #[.agg #[.int .i64 a0_0, .int .i64 a0_1, .slice A0_2 l0_2.length c0_2]] ?_ Try.func58; (with_reducible refine (spec_boGood.calls k a0_0 a0_1 _ _ l0_2 true _ ?side1 ?side2 A6.out).mono ?_); (case side1 => repeat (first | exact (Kd.C_below HR0_2.out HB.out) | (with_reducible refine Kd.C_alloc ?_ _) | (with_reducible refine Kd.C_drewN ?_ _) | (with_reducible refine Kd.C_drew ?_))); (case side2 => exact HC0_2.out); rintro e w12 ⟨rfl, hb⟩; refine ⟨_, rfl, ?_⟩; replace BK246 := kB BK246 hb; replace BK247 := kB BK247 hb; replace HB := bB HB hb; (try clear hb); (try clear hb2); (try clear hk); (try clear hi); have hcz13_0 := bc0 BK247; have hcz13_1 := bc1 BK247; have hcz13_2 := bc2 BK247; have hfz13_0 := blk_frozen BK247.out 0; have hfz13_1 := blk_frozen BK247.out 1; have hfz13_2 := blk_frozen BK247.out 2) | (go_at_call 58; (with_reducible refine (spec_boGood.calls k a1_0 a1_1 _ _ l1_2 true _ ?side1 ?side2 A8.out).mono ?_); (case side1 => repeat (first | exact (Kd.C_below HR1_2.out HB.out) | (with_reducible refine Kd.C_alloc ?_ _) | (with_reducible refine Kd.C_drewN ?_ _) | (with_reducible refine Kd.C_drew ?_))); (case side2 => exact HC1_2.out); rintro e w14 ⟨rfl, hb⟩; replace BK246 := kB BK246 hb; replace BK247 := kB BK247 hb; replace HB := bB HB hb; (try clear hb); (try clear hb2); (try clear hk); (try clear hi); have hcz15_0 := bc0 BK246; have hcz15_1 := bc1 BK246; have hcz15_2 := bc2 BK246; have hfz15_0 := blk_frozen BK246.out 0; have hfz15_1 := blk_frozen BK246.out 1; have hfz15_2 := blk_frozen BK246.out 2; have hcz16_0 := bc0 BK247; have hcz16_1 := bc1 BK247; have hcz16_2 := bc2 BK247; have hfz16_0 := blk_frozen BK247.out 0; have hfz16_1 := blk_frozen BK247.out 1; have hfz16_2 := blk_frozen BK247.out 2))
    go_meet
    case rel => exact ⟨_, ((a0_1 != a1_1)), (by first | rfl | (simp; done) | (simp [*]; done)), H', ⟨by first | omega | exact Nat.le_refl _⟩, ⟨viaK BK246⟩, ⟨viaK BK247⟩, ⟨viaB HB⟩⟩
   ·replace c9 := Bool.eq_false_iff.mpr c9
    subst c9
    have H1 : (spec_SameFalls.j0 k true a0_0 a0_1 l0_2 a1_0 a1_1 l1_2) = some (r1, r2) := by rw [if_neg (show ¬ (false = true) by decide)] at H; exact H
    clear H
    have H := H1
    clear H1
    have H' := Aside0.mk H
    clear H
    have hnb17 := NB246_247.out
    have hnc17 := NB247_246.out
    have hcz18_0 := bc0 BK246
    have hcz18_1 := bc1 BK246
    have hcz18_2 := bc2 BK246
    have hfz18_0 := blk_frozen BK246.out 0
    have hfz18_1 := blk_frozen BK246.out 1
    have hfz18_2 := blk_frozen BK246.out 2
    go_wp2_with (first | ((with_reducible refine gate_callee (f := 58) rfl ?_); refine goesA (some 12) _ #[.agg #[.int .i64 a0_0, .int .i64 a0_1, .slice A0_2 l0_2.length c0_2]] ?_ Try.func58; (with_reducible refine (spec_boGood.calls k a0_0 a0_1 _ _ l0_2 true _ ?side1 ?side2 A6.out).mono ?_); (case side1 => repeat (first | exact (Kd.C_below HR0_2.out HB.out) | (with_reducible refine Kd.C_alloc ?_ _) | (with_reducible refine Kd.C_drewN ?_ _) | (with_reducible refine Kd.C_drew ?_))); (case side2 => exact HC0_2.out); rintro e w19 ⟨rfl, hb⟩; refine ⟨_, rfl, ?_⟩; replace BK246 := kB BK246 hb; replace BK247 := kB BK247 hb; replace HB := bB HB hb; (try clear hb); (try clear hb2); (try clear hk); (try clear hi); have hcz20_0 := bc0 BK247; have hcz20_1 := bc1 BK247; have hcz20_2 := bc2 BK247; have hfz20_0 := blk_frozen BK247.out 0; have hfz20_1 := blk_frozen BK247.out 1; have hfz20_2 := blk_frozen BK247.out 2) | (go_at_call 58; (with_reducible refine (spec_boGood.calls k a1_0 a1_1 _ _ l1_2 false _ ?side1 ?side2 A8.out).mono ?_); (case side1 => repeat (first | exact (Kd.C_below HR1_2.out HB.out) | (with_reducible refine Kd.C_alloc ?_ _) | (with_reducible refine Kd.C_drewN ?_ _) | (with_reducible refine Kd.C_drew ?_))); (case side2 => exact HC1_2.out); rintro e w21 ⟨rfl, hb⟩; replace BK246 := kB BK246 hb; replace BK247 := kB BK247 hb; replace HB := bB HB hb; (try clear hb); (try clear hb2); (try clear hk); (try clear hi)))
    go_meet
    case rel => exact ⟨_, (true), (by first | rfl | (simp; done) | (simp [*]; done)), H', ⟨by first | omega | exact Nat.le_refl _⟩, ⟨viaK BK246⟩, ⟨viaK BK247⟩, ⟨viaB HB⟩⟩
  ·replace c7 := Bool.eq_false_iff.mpr c7
   subst c7
   have H1 : (spec_SameFalls.j0 k true a0_0 a0_1 l0_2 a1_0 a1_1 l1_2) = some (r1, r2) := by rw [if_neg (show ¬ (false = true) by decide)] at H; exact H
   clear H
   have H := H1
   clear H1
   have H' := Aside0.mk H
   clear H
   have hnb22 := NB246_247.out
   have hnc22 := NB247_246.out
   have hcz23_0 := bc0 BK246
   have hcz23_1 := bc1 BK246
   have hcz23_2 := bc2 BK246
   have hfz23_0 := blk_frozen BK246.out 0
   have hfz23_1 := blk_frozen BK246.out 1
   have hfz23_2 := blk_frozen BK246.out 2
   go_wp2_with (first | ((with_reducible refine gate_callee (f := 58) rfl ?_); refine goesA (some 12) _ #[.agg #[.int .i64 a0_0, .int .i64 a0_1, .slice A0_2 l0_2.length c0_2]] ?_ Try.func58; (with_reducible refine (spec_boGood.calls k a0_0 a0_1 _ _ l0_2 false _ ?side1 ?side2 A6.out).mono ?_); (case side1 => repeat (first | exact (Kd.C_below HR0_2.out HB.out) | (with_reducible refine Kd.C_alloc ?_ _) | (with_reducible refine Kd.C_drewN ?_ _) | (with_reducible refine Kd.C_drew ?_))); (case side2 => exact HC0_2.out); rintro e w24 ⟨rfl, hb⟩; refine ⟨_, rfl, ?_⟩; replace BK246 := kB BK246 hb; replace BK247 := kB BK247 hb; replace HB := bB HB hb; (try clear hb); (try clear hb2); (try clear hk); (try clear hi)))
   go_meet
   case rel => exact ⟨_, (true), (by first | rfl | (simp; done) | (simp [*]; done)), H', ⟨by first | omega | exact Nat.le_refl _⟩, ⟨viaK BK246⟩, ⟨viaK BK247⟩, ⟨viaB HB⟩⟩
 case rest =>
  clear HC3
  obtain ⟨kq, x25_2, rfl, HA, HJ2, BK246, BK247, HB⟩ := hcut
  cases kq with
  | zero => exact absurd HA.out (by simp [spec_SameFalls.j0])
  | succ kj2 =>
   have H := HA.out
   clear HA
   simp only [spec_SameFalls.j0] at H
   by_cases c25 : x25_2 = true
   ·subst c25
    have H1 : (some (false, false)) = some (r1, r2) := by rw [if_pos rfl] at H; exact H
    clear H
    have H := H1
    clear H1
    simp only [Option.some.injEq, Prod.mk.injEq] at H
    obtain ⟨rfl, rfl⟩ := H
    go_wp2
    go_ret2
    exact ⟨by first | rfl | (simp [errW_none, errW_some] <;> rfl) | (simp [*, errW_none, errW_some] <;> rfl), viaB HB⟩
   ·replace c25 := Bool.eq_false_iff.mpr c25
    subst c25
    have H1 : (spec_SameFalls.l0 kj2 0 a0_0 a0_1 l0_2 a1_0 a1_1 l1_2) = some (r1, r2) := by rw [if_neg (show ¬ (false = true) by decide)] at H; exact H
    clear H
    have H := H1
    clear H1
    have H' := Aside0.mk H
    clear H
    go_wp2
    go_loopg [6] kj2 (fun kq v6 w' => ∃ (x6_2 : Int), v6 = .int .i64 x6_2 ∧ Aside0 (spec_SameFalls.l0 kq x6_2 a0_0 a0_1 l0_2 a1_0 a1_1 l1_2 = some (r1, r2)) ∧ Aside0 (kq ≤ kj2) ∧ Aside0 (w'.heap[gb246]? = some (.cells #[.int .i64 a0_0, .int .i64 a0_1, (.slice A0_2 l0_2.length c0_2)] 32 (0, 0))) ∧ Aside0 (w'.heap[gb247]? = some (.cells #[.int .i64 a1_0, .int .i64 a1_1, (.slice A1_2 l1_2.length c1_2)] 32 (0, 0))) ∧ Aside0 (Below w.heap.size w w'))
    case atStart => exact ⟨(0), (by first | rfl | (simp; done) | (simp [*]; done)), H', ⟨Nat.le_refl _⟩, ⟨viaK BK246⟩, ⟨viaK BK247⟩, ⟨viaB HB⟩⟩
    case round =>
     clear H'
     (try clear c25)
     obtain ⟨x6_2, rfl, HA, HK2, BK246, BK247, HB⟩ := hrel
     cases gk with
     | zero => exact absurd HA.out (by simp [spec_SameFalls.l0])
     | succ k2 =>
      have H := HA.out
      clear HA
      simp only [spec_SameFalls.l0] at H
      by_cases c26 : x6_2 < a0_1
      ·rw [if_pos c26] at H
       have c26b0 := decide_eq_true c26
       clear c26
       replace H := Option.bind_eq_some_iff.mp H
       obtain ⟨⟨t250, t251, t252, t253, t254, t255⟩, A270, H⟩ := H
       replace H : ((spec_flRun.f k2 a1_0 a1_1 l1_2 x6_2).bind fun bt260 => (if (!(t250 == bt260.1) || (!(t251 == bt260.2.1) || (!(t252 == bt260.2.2.1)))) = true then (some (false, true)) else (spec_SameFalls.l0 k2 (wrap64 (x6_2 + 1)) a0_0 a0_1 l0_2 a1_0 a1_1 l1_2))) = some (r1, r2) := H
       have A27 := Aside0.mk A270
       clear A270
       replace H := Option.bind_eq_some_iff.mp H
       obtain ⟨⟨t260, t261, t262, t263, t264, t265⟩, A280, H⟩ := H
       replace H : (if (!(t250 == t260) || (!(t251 == t261) || (!(t252 == t262)))) = true then (some (false, true)) else (spec_SameFalls.l0 k2 (wrap64 (x6_2 + 1)) a0_0 a0_1 l0_2 a1_0 a1_1 l1_2)) = some (r1, r2) := H
       have A28 := Aside0.mk A280
       clear A280
       by_cases c29 : (!(t250 == t260) || (!(t251 == t261) || (!(t252 == t262)))) = true
       ·rw [if_pos c29] at H
        have c29b0 : (!(t250 == t260) || (!(t251 == t261) || (!(t252 == t262)))) = true := c29
        clear c29
        simp only [Option.some.injEq, Prod.mk.injEq] at H
        obtain ⟨rfl, rfl⟩ := H
        have hnb30 := NB246_247.out
        have hnc30 := NB247_246.out
        have hcz31_0 := bc0 BK246
        have hcz31_1 := bc1 BK246
        have hcz31_2 := bc2 BK246
        have hfz31_0 := blk_frozen BK246.out 0
        have hfz31_1 := blk_frozen BK246.out 1
        have hfz31_2 := blk_frozen BK246.out 2
        go_wp2_with (first | ((with_reducible refine gate_callee (f := 51) rfl ?_); refine goesA (some 35) _ #[.agg #[.int .i64 a0_0, .int .i64 a0_1, .slice A0_2 l0_2.length c0_2], .int .i64 x6_2] ?_ Try.func51; (with_reducible refine (spec_flRun.calls k2 a0_0 a0_1 _ _ l0_2 x6_2 t250 t251 t252 t253 t254 t255 _ ?side1 ?side2 A27.out).mono ?_); (case side1 => repeat (first | exact (Kd.C_below HR0_2.out HB.out) | (with_reducible refine Kd.C_alloc ?_ _) | (with_reducible refine Kd.C_drewN ?_ _) | (with_reducible refine Kd.C_drew ?_))); (case side2 => exact HC0_2.out); rintro e w32 ⟨v256, rfl, ho0, hb⟩; refine ⟨_, rfl, ?_⟩; have HO257 := Aside0.mk (Kd.R_lower ho0 (below_size (viaB HB))); replace BK246 := kB BK246 hb; replace BK247 := kB BK247 hb; replace HB := bB HB hb; (try clear hb); (try clear hb2); (try clear hk); (try clear hi); (try clear ho0)) | ((with_reducible refine gate_dst (N := 7) rfl ?_); refine box_ev (N := 7) (cs := #[.int .i64 0, .int .i64 0, .int .i64 0]) (t := 27) ?_; intro gb258 hg w33 hbox hb; have BK258 := Aside0.mk (hbox); have GW258 := gW (w := w) HB hg; have GE258 := gW (w := w) HB hg; have NB246_258 := neL BK246 hg; have NB258_246 := neG BK246 hg; have NB247_258 := neL BK247 hg; have NB258_247 := neG BK247 hg; replace HO257 := Aside0.mk (Kd.R_below (viaR HO257) hb); replace BK246 := kB BK246 hb; replace BK247 := kB BK247 hb; replace HB := bB HB hb; clear hb hbox hg) | ((with_reducible refine gate_dst (N := 8) rfl ?_); refine box_ev (N := 8) (cs := #[.int .i64 0, .int .i64 0, .slice none 0 0]) (t := 32) ?_; intro gb259 hg w34 hbox hb; have BK259 := Aside0.mk (hbox); have GW259 := gW (w := w) HB hg; have GE259 := gW (w := w) HB hg; have NB246_259 := neL BK246 hg; have NB259_246 := neG BK246 hg; have NB247_259 := neL BK247 hg; have NB259_247 := neG BK247 hg; have NB258_259 := neL BK258 hg; have NB259_258 := neG BK258 hg; replace HO257 := Aside0.mk (Kd.R_below (viaR HO257) hb); replace BK246 := kB BK246 hb; replace BK247 := kB BK247 hb; replace BK258 := kB BK258 hb; replace HB := bB HB hb; clear hb hbox hg; have hnb35 := NB258_246.out; have hnc35 := NB246_258.out; have hnb36 := NB258_247.out; have hnc36 := NB247_258.out; have hnb37 := NB258_259.out; have hnc37 := NB259_258.out; have hcz38_0 := bc0 BK258; have hcz38_1 := bc1 BK258; have hcz38_2 := bc2 BK258; have hfz38_0 := blk_frozen BK258.out 0; have hfz38_1 := blk_frozen BK258.out 1; have hfz38_2 := blk_frozen BK258.out 2; have hnb39 := NB259_246.out; have hnc39 := NB246_259.out; have hnb40 := NB259_247.out; have hnc40 := NB247_259.out; have hcz41_0 := bc0 BK259; have hcz41_1 := bc1 BK259; have hcz41_2 := bc2 BK259; have hfz41_0 := blk_frozen BK259.out 0; have hfz41_1 := blk_frozen BK259.out 1; have hfz41_2 := blk_frozen BK259.out 2; obtain ⟨Ao42, co42, eo42⟩ := Kd.R_slice HO257.out; subst eo42; have hcz43_0 := bc0 BK247; have hcz43_1 := bc1 BK247; have hcz43_2 := bc2 BK247; have hfz43_0 := blk_frozen BK247.out 0; have hfz43_1 := blk_frozen BK247.out 1; have hfz43_2 := blk_frozen BK247.out 2) | ((with_reducible refine gate_callee (f := 51) rfl ?_); refine goesA (some 41) _ #[.agg #[.int .i64 a1_0, .int .i64 a1_1, .slice A1_2 l1_2.length c1_2], .int .i64 x6_2] ?_ Try.func51; (with_reducible refine (spec_flRun.calls k2 a1_0 a1_1 _ _ l1_2 x6_2 t260 t261 t262 t263 t264 t265 _ ?side1 ?side2 A28.out).mono ?_); (case side1 => exact Kd.C_below HR1_2.out (viaB HB)); (case side2 => exact HC1_2.out); rintro e w44 ⟨v266, rfl, ho0, hb⟩; refine ⟨_, rfl, ?_⟩; have HO267 := Aside0.mk (Kd.R_lower (Kd.R_new' ho0 (Kd.R_lt (by (with_reducible repeat (first | apply Kd.R_alloc | apply Kd.R_drewN | apply Kd.R_drew)); exact (Kd.R_mono (Kd.R_mono (Kd.R_far (p := ⟨gb259, 2, none⟩) (Kd.R_far (p := ⟨gb259, 1, none⟩) (Kd.R_far (p := ⟨gb259, 0, none⟩) (Kd.R_far (p := ⟨gb258, 2, none⟩) (Kd.R_far (p := ⟨gb258, 1, none⟩) (Kd.R_far (p := ⟨gb258, 0, none⟩) (Kd.R_types (Kd.R_types HO257.out BK258.out (by decide)) BK259.out (by decide)) (fun _ hk => hk.1.2) (.int .i64 t250)) (fun _ hk => hk.1.2) (.int .i64 t251)) (fun _ hk => hk.1.2) (.int .i64 t252)) (fun _ hk => hk.2) (.int .i64 t253)) (fun _ hk => hk.2) (.int .i64 t254)) (fun _ hk => hk.2) (.slice Ao42 t255.length co42)) (fun _ h_ => h_.1)) (fun _ h_ => h_.1))))) (below_size (viaB HB))); replace HO257 := Aside0.mk (Kd.R_elder' (by (with_reducible repeat (first | apply Kd.R_alloc | apply Kd.R_drewN | apply Kd.R_drew)); exact (Kd.R_mono (Kd.R_mono (Kd.R_far (p := ⟨gb259, 2, none⟩) (Kd.R_far (p := ⟨gb259, 1, none⟩) (Kd.R_far (p := ⟨gb259, 0, none⟩) (Kd.R_far (p := ⟨gb258, 2, none⟩) (Kd.R_far (p := ⟨gb258, 1, none⟩) (Kd.R_far (p := ⟨gb258, 0, none⟩) (Kd.R_types (Kd.R_types HO257.out BK258.out (by decide)) BK259.out (by decide)) (fun _ hk => hk.1.2) (.int .i64 t250)) (fun _ hk => hk.1.2) (.int .i64 t251)) (fun _ hk => hk.1.2) (.int .i64 t252)) (fun _ hk => hk.2) (.int .i64 t253)) (fun _ hk => hk.2) (.int .i64 t254)) (fun _ hk => hk.2) (.slice Ao42 t255.length co42)) (fun _ h_ => h_.1)) (fun _ h_ => h_.1))) (Kd.R_base ho0) hb); replace BK246 := Aside0.mk (blk_below (g := gb246) (o := .cells #[.int .i64 a0_0, .int .i64 a0_1, .slice A0_2 l0_2.length c0_2] 32 (0, 0)) (by (with_reducible repeat (first | refine blk_drewN ?_ _ | refine blk_drew ?_ | refine blk_alloc ?_ _)); refine blk_far ?_ NB246_259.out _; (with_reducible repeat (first | refine blk_drewN ?_ _ | refine blk_drew ?_ | refine blk_alloc ?_ _)); refine blk_far ?_ NB246_259.out _; (with_reducible repeat (first | refine blk_drewN ?_ _ | refine blk_drew ?_ | refine blk_alloc ?_ _)); refine blk_far ?_ NB246_259.out _; (with_reducible repeat (first | refine blk_drewN ?_ _ | refine blk_drew ?_ | refine blk_alloc ?_ _)); refine blk_far ?_ NB246_258.out _; (with_reducible repeat (first | refine blk_drewN ?_ _ | refine blk_drew ?_ | refine blk_alloc ?_ _)); refine blk_far ?_ NB246_258.out _; (with_reducible repeat (first | refine blk_drewN ?_ _ | refine blk_drew ?_ | refine blk_alloc ?_ _)); refine blk_far ?_ NB246_258.out _; (with_reducible repeat (first | refine blk_drewN ?_ _ | refine blk_drew ?_ | refine blk_alloc ?_ _)); exact BK246.out) hb); replace BK247 := Aside0.mk (blk_below (g := gb247) (o := .cells #[.int .i64 a1_0, .int .i64 a1_1, .slice A1_2 l1_2.length c1_2] 32 (0, 0)) (by (with_reducible repeat (first | refine blk_drewN ?_ _ | refine blk_drew ?_ | refine blk_alloc ?_ _)); refine blk_far ?_ NB247_259.out _; (with_reducible repeat (first | refine blk_drewN ?_ _ | refine blk_drew ?_ | refine blk_alloc ?_ _)); refine blk_far ?_ NB247_259.out _; (with_reducible repeat (first | refine blk_drewN ?_ _ | refine blk_drew ?_ | refine blk_alloc ?_ _)); refine blk_far ?_ NB247_259.out _; (with_reducible repeat (first | refine blk_drewN ?_ _ | refine blk_drew ?_ | refine blk_alloc ?_ _)); refine blk_far ?_ NB247_258.out _; (with_reducible repeat (first | refine blk_drewN ?_ _ | refine blk_drew ?_ | refine blk_alloc ?_ _)); refine blk_far ?_ NB247_258.out _; (with_reducible repeat (first | refine blk_drewN ?_ _ | refine blk_drew ?_ | refine blk_alloc ?_ _)); refine blk_far ?_ NB247_258.out _; (with_reducible repeat (first | refine blk_drewN ?_ _ | refine blk_drew ?_ | refine blk_alloc ?_ _)); exact BK247.out) hb); replace BK258 := Aside0.mk (blk_below (g := gb258) (o := .cells #[.int .i64 t250, .int .i64 t251, .int .i64 t252] 27 (0, 0)) (by (with_reducible repeat (first | refine blk_drewN ?_ _ | refine blk_drew ?_ | refine blk_alloc ?_ _)); refine blk_far ?_ NB258_259.out _; (with_reducible repeat (first | refine blk_drewN ?_ _ | refine blk_drew ?_ | refine blk_alloc ?_ _)); refine blk_far ?_ NB258_259.out _; (with_reducible repeat (first | refine blk_drewN ?_ _ | refine blk_drew ?_ | refine blk_alloc ?_ _)); refine blk_far ?_ NB258_259.out _; (with_reducible repeat (first | refine blk_drewN ?_ _ | refine blk_drew ?_ | refine blk_alloc ?_ _)); refine blk_put (cs := #[.int .i64 t250, .int .i64 t251, .int .i64 0]) ?_ 2 _ rfl; (with_reducible repeat (first | refine blk_drewN ?_ _ | refine blk_drew ?_ | refine blk_alloc ?_ _)); refine blk_put (cs := #[.int .i64 t250, .int .i64 0, .int .i64 0]) ?_ 1 _ rfl; (with_reducible repeat (first | refine blk_drewN ?_ _ | refine blk_drew ?_ | refine blk_alloc ?_ _)); refine blk_put (cs := #[.int .i64 0, .int .i64 0, .int .i64 0]) ?_ 0 _ rfl; (with_reducible repeat (first | refine blk_drewN ?_ _ | refine blk_drew ?_ | refine blk_alloc ?_ _)); exact BK258.out) hb); replace BK259 := Aside0.mk (blk_below (g := gb259) (o := .cells #[.int .i64 t253, .int .i64 t254, .slice Ao42 t255.length co42] 32 (0, 0)) (by (with_reducible repeat (first | refine blk_drewN ?_ _ | refine blk_drew ?_ | refine blk_alloc ?_ _)); refine blk_put (cs := #[.int .i64 t253, .int .i64 t254, .slice none 0 0]) ?_ 2 _ rfl; (with_reducible repeat (first | refine blk_drewN ?_ _ | refine blk_drew ?_ | refine blk_alloc ?_ _)); refine blk_put (cs := #[.int .i64 t253, .int .i64 0, .slice none 0 0]) ?_ 1 _ rfl; (with_reducible repeat (first | refine blk_drewN ?_ _ | refine blk_drew ?_ | refine blk_alloc ?_ _)); refine blk_put (cs := #[.int .i64 0, .int .i64 0, .slice none 0 0]) ?_ 0 _ rfl; (with_reducible repeat (first | refine blk_drewN ?_ _ | refine blk_drew ?_ | refine blk_alloc ?_ _)); refine blk_far ?_ NB259_258.out _; (with_reducible repeat (first | refine blk_drewN ?_ _ | refine blk_drew ?_ | refine blk_alloc ?_ _)); refine blk_far ?_ NB259_258.out _; (with_reducible repeat (first | refine blk_drewN ?_ _ | refine blk_drew ?_ | refine blk_alloc ?_ _)); refine blk_far ?_ NB259_258.out _; (with_reducible repeat (first | refine blk_drewN ?_ _ | refine blk_drew ?_ | refine blk_alloc ?_ _)); exact BK259.out) hb); replace HB := bB HB hb; (try clear hb); (try clear hb2); (try clear hk); (try clear hi); (try clear ho0)) | ((with_reducible refine gate_dst (N := 9) rfl ?_); refine box_ev (N := 9) (cs := #[.int .i64 0, .int .i64 0, .int .i64 0]) (t := 27) ?_; intro gb268 hg w45 hbox hb; have BK268 := Aside0.mk (hbox); have GW268 := gW (w := w) HB hg; have GE268 := gW (w := w) HB hg; have NB246_268 := neL BK246 hg; have NB268_246 := neG BK246 hg; have NB247_268 := neL BK247 hg; have NB268_247 := neG BK247 hg; have NB258_268 := neL BK258 hg; have NB268_258 := neG BK258 hg; have NB259_268 := neL BK259 hg; have NB268_259 := neG BK259 hg; replace HO257 := Aside0.mk (Kd.R_below (viaR HO257) hb); replace HO267 := Aside0.mk (Kd.R_below (viaR HO267) hb); replace BK246 := kB BK246 hb; replace BK247 := kB BK247 hb; replace BK258 := kB BK258 hb; replace BK259 := kB BK259 hb; replace HB := bB HB hb; clear hb hbox hg) | ((with_reducible refine gate_dst (N := 10) rfl ?_); refine box_ev (N := 10) (cs := #[.int .i64 0, .int .i64 0, .slice none 0 0]) (t := 32) ?_; intro gb269 hg w46 hbox hb; have BK269 := Aside0.mk (hbox); have GW269 := gW (w := w) HB hg; have GE269 := gW (w := w) HB hg; have NB246_269 := neL BK246 hg; have NB269_246 := neG BK246 hg; have NB247_269 := neL BK247 hg; have NB269_247 := neG BK247 hg; have NB258_269 := neL BK258 hg; have NB269_258 := neG BK258 hg; have NB259_269 := neL BK259 hg; have NB269_259 := neG BK259 hg; have NB268_269 := neL BK268 hg; have NB269_268 := neG BK268 hg; replace HO257 := Aside0.mk (Kd.R_below (viaR HO257) hb); replace HO267 := Aside0.mk (Kd.R_below (viaR HO267) hb); replace BK246 := kB BK246 hb; replace BK247 := kB BK247 hb; replace BK258 := kB BK258 hb; replace BK259 := kB BK259 hb; replace BK268 := kB BK268 hb; replace HB := bB HB hb; clear hb hbox hg; have hnb47 := NB268_246.out; have hnc47 := NB246_268.out; have hnb48 := NB268_247.out; have hnc48 := NB247_268.out; have hnb49 := NB268_258.out; have hnc49 := NB258_268.out; have hnb50 := NB268_259.out; have hnc50 := NB259_268.out; have hnb51 := NB268_269.out; have hnc51 := NB269_268.out; have hcz52_0 := bc0 BK268; have hcz52_1 := bc1 BK268; have hcz52_2 := bc2 BK268; have hfz52_0 := blk_frozen BK268.out 0; have hfz52_1 := blk_frozen BK268.out 1; have hfz52_2 := blk_frozen BK268.out 2; have hnb53 := NB269_246.out; have hnc53 := NB246_269.out; have hnb54 := NB269_247.out; have hnc54 := NB247_269.out; have hnb55 := NB269_258.out; have hnc55 := NB258_269.out; have hnb56 := NB269_259.out; have hnc56 := NB259_269.out; have hcz57_0 := bc0 BK269; have hcz57_1 := bc1 BK269; have hcz57_2 := bc2 BK269; have hfz57_0 := blk_frozen BK269.out 0; have hfz57_1 := blk_frozen BK269.out 1; have hfz57_2 := blk_frozen BK269.out 2; obtain ⟨Ao58, co58, eo58⟩ := Kd.R_slice HO267.out; subst eo58; have hcz59_0 := bc0 BK258; have hcz59_1 := bc1 BK258; have hcz59_2 := bc2 BK258; have hfz59_0 := blk_frozen BK258.out 0; have hfz59_1 := blk_frozen BK258.out 1; have hfz59_2 := blk_frozen BK258.out 2))
        go_ret2
        exact ⟨by first | rfl | (simp [errW_none, errW_some] <;> rfl) | (simp [*, errW_none, errW_some] <;> rfl), viaB HB⟩
       ·rw [if_neg c29] at H
        have c29b0 : (!(t250 == t260) || (!(t251 == t261) || (!(t252 == t262)))) = false := by simpa using c29
        clear c29
        have H' := Aside0.mk H
        clear H
        have hnb60 := NB246_247.out
        have hnc60 := NB247_246.out
        have hcz61_0 := bc0 BK246
        have hcz61_1 := bc1 BK246
        have hcz61_2 := bc2 BK246
        have hfz61_0 := blk_frozen BK246.out 0
        have hfz61_1 := blk_frozen BK246.out 1
        have hfz61_2 := blk_frozen BK246.out 2
        go_wp2_with (first | ((with_reducible refine gate_callee (f := 51) rfl ?_); refine goesA (some 35) _ #[.agg #[.int .i64 a0_0, .int .i64 a0_1, .slice A0_2 l0_2.length c0_2], .int .i64 x6_2] ?_ Try.func51; (with_reducible refine (spec_flRun.calls k2 a0_0 a0_1 _ _ l0_2 x6_2 t250 t251 t252 t253 t254 t255 _ ?side1 ?side2 A27.out).mono ?_); (case side1 => repeat (first | exact (Kd.C_below HR0_2.out HB.out) | (with_reducible refine Kd.C_alloc ?_ _) | (with_reducible refine Kd.C_drewN ?_ _) | (with_reducible refine Kd.C_drew ?_))); (case side2 => exact HC0_2.out); rintro e w62 ⟨v256, rfl, ho0, hb⟩; refine ⟨_, rfl, ?_⟩; have HO257 := Aside0.mk (Kd.R_lower ho0 (below_size (viaB HB))); replace BK246 := kB BK246 hb; replace BK247 := kB BK247 hb; replace HB := bB HB hb; (try clear hb); (try clear hb2); (try clear hk); (try clear hi); (try clear ho0)) | ((with_reducible refine gate_dst (N := 7) rfl ?_); refine box_ev (N := 7) (cs := #[.int .i64 0, .int .i64 0, .int .i64 0]) (t := 27) ?_; intro gb258 hg w63 hbox hb; have BK258 := Aside0.mk (hbox); have GW258 := gW (w := w) HB hg; have GE258 := gW (w := w) HB hg; have NB246_258 := neL BK246 hg; have NB258_246 := neG BK246 hg; have NB247_258 := neL BK247 hg; have NB258_247 := neG BK247 hg; replace HO257 := Aside0.mk (Kd.R_below (viaR HO257) hb); replace BK246 := kB BK246 hb; replace BK247 := kB BK247 hb; replace HB := bB HB hb; clear hb hbox hg) | ((with_reducible refine gate_dst (N := 8) rfl ?_); refine box_ev (N := 8) (cs := #[.int .i64 0, .int .i64 0, .slice none 0 0]) (t := 32) ?_; intro gb259 hg w64 hbox hb; have BK259 := Aside0.mk (hbox); have GW259 := gW (w := w) HB hg; have GE259 := gW (w := w) HB hg; have NB246_259 := neL BK246 hg; have NB259_246 := neG BK246 hg; have NB247_259 := neL BK247 hg; have NB259_247 := neG BK247 hg; have NB258_259 := neL BK258 hg; have NB259_258 := neG BK258 hg; replace HO257 := Aside0.mk (Kd.R_below (viaR HO257) hb); replace BK246 := kB BK246 hb; replace BK247 := kB BK247 hb; replace BK258 := kB BK258 hb; replace HB := bB HB hb; clear hb hbox hg; have hnb65 := NB258_246.out; have hnc65 := NB246_258.out; have hnb66 := NB258_247.out; have hnc66 := NB247_258.out; have hnb67 := NB258_259.out; have hnc67 := NB259_258.out; have hcz68_0 := bc0 BK258; have hcz68_1 := bc1 BK258; have hcz68_2 := bc2 BK258; have hfz68_0 := blk_frozen BK258.out 0; have hfz68_1 := blk_frozen BK258.out 1; have hfz68_2 := blk_frozen BK258.out 2; have hnb69 := NB259_246.out; have hnc69 := NB246_259.out; have hnb70 := NB259_247.out; have hnc70 := NB247_259.out; have hcz71_0 := bc0 BK259; have hcz71_1 := bc1 BK259; have hcz71_2 := bc2 BK259; have hfz71_0 := blk_frozen BK259.out 0; have hfz71_1 := blk_frozen BK259.out 1; have hfz71_2 := blk_frozen BK259.out 2; obtain ⟨Ao72, co72, eo72⟩ := Kd.R_slice HO257.out; subst eo72; have hcz73_0 := bc0 BK247; have hcz73_1 := bc1 BK247; have hcz73_2 := bc2 BK247; have hfz73_0 := blk_frozen BK247.out 0; have hfz73_1 := blk_frozen BK247.out 1; have hfz73_2 := blk_frozen BK247.out 2) | ((with_reducible refine gate_callee (f := 51) rfl ?_); refine goesA (some 41) _ #[.agg #[.int .i64 a1_0, .int .i64 a1_1, .slice A1_2 l1_2.length c1_2], .int .i64 x6_2] ?_ Try.func51; (with_reducible refine (spec_flRun.calls k2 a1_0 a1_1 _ _ l1_2 x6_2 t260 t261 t262 t263 t264 t265 _ ?side1 ?side2 A28.out).mono ?_); (case side1 => exact Kd.C_below HR1_2.out (viaB HB)); (case side2 => exact HC1_2.out); rintro e w74 ⟨v266, rfl, ho0, hb⟩; refine ⟨_, rfl, ?_⟩; have HO267 := Aside0.mk (Kd.R_lower (Kd.R_new' ho0 (Kd.R_lt (by (with_reducible repeat (first | apply Kd.R_alloc | apply Kd.R_drewN | apply Kd.R_drew)); exact (Kd.R_mono (Kd.R_mono (Kd.R_far (p := ⟨gb259, 2, none⟩) (Kd.R_far (p := ⟨gb259, 1, none⟩) (Kd.R_far (p := ⟨gb259, 0, none⟩) (Kd.R_far (p := ⟨gb258, 2, none⟩) (Kd.R_far (p := ⟨gb258, 1, none⟩) (Kd.R_far (p := ⟨gb258, 0, none⟩) (Kd.R_types (Kd.R_types HO257.out BK258.out (by decide)) BK259.out (by decide)) (fun _ hk => hk.1.2) (.int .i64 t250)) (fun _ hk => hk.1.2) (.int .i64 t251)) (fun _ hk => hk.1.2) (.int .i64 t252)) (fun _ hk => hk.2) (.int .i64 t253)) (fun _ hk => hk.2) (.int .i64 t254)) (fun _ hk => hk.2) (.slice Ao72 t255.length co72)) (fun _ h_ => h_.1)) (fun _ h_ => h_.1))))) (below_size (viaB HB))); replace HO257 := Aside0.mk (Kd.R_elder' (by (with_reducible repeat (first | apply Kd.R_alloc | apply Kd.R_drewN | apply Kd.R_drew)); exact (Kd.R_mono (Kd.R_mono (Kd.R_far (p := ⟨gb259, 2, none⟩) (Kd.R_far (p := ⟨gb259, 1, none⟩) (Kd.R_far (p := ⟨gb259, 0, none⟩) (Kd.R_far (p := ⟨gb258, 2, none⟩) (Kd.R_far (p := ⟨gb258, 1, none⟩) (Kd.R_far (p := ⟨gb258, 0, none⟩) (Kd.R_types (Kd.R_types HO257.out BK258.out (by decide)) BK259.out (by decide)) (fun _ hk => hk.1.2) (.int .i64 t250)) (fun _ hk => hk.1.2) (.int .i64 t251)) (fun _ hk => hk.1.2) (.int .i64 t252)) (fun _ hk => hk.2) (.int .i64 t253)) (fun _ hk => hk.2) (.int .i64 t254)) (fun _ hk => hk.2) (.slice Ao72 t255.length co72)) (fun _ h_ => h_.1)) (fun _ h_ => h_.1))) (Kd.R_base ho0) hb); replace BK246 := Aside0.mk (blk_below (g := gb246) (o := .cells #[.int .i64 a0_0, .int .i64 a0_1, .slice A0_2 l0_2.length c0_2] 32 (0, 0)) (by (with_reducible repeat (first | refine blk_drewN ?_ _ | refine blk_drew ?_ | refine blk_alloc ?_ _)); refine blk_far ?_ NB246_259.out _; (with_reducible repeat (first | refine blk_drewN ?_ _ | refine blk_drew ?_ | refine blk_alloc ?_ _)); refine blk_far ?_ NB246_259.out _; (with_reducible repeat (first | refine blk_drewN ?_ _ | refine blk_drew ?_ | refine blk_alloc ?_ _)); refine blk_far ?_ NB246_259.out _; (with_reducible repeat (first | refine blk_drewN ?_ _ | refine blk_drew ?_ | refine blk_alloc ?_ _)); refine blk_far ?_ NB246_258.out _; (with_reducible repeat (first | refine blk_drewN ?_ _ | refine blk_drew ?_ | refine blk_alloc ?_ _)); refine blk_far ?_ NB246_258.out _; (with_reducible repeat (first | refine blk_drewN ?_ _ | refine blk_drew ?_ | refine blk_alloc ?_ _)); refine blk_far ?_ NB246_258.out _; (with_reducible repeat (first | refine blk_drewN ?_ _ | refine blk_drew ?_ | refine blk_alloc ?_ _)); exact BK246.out) hb); replace BK247 := Aside0.mk (blk_below (g := gb247) (o := .cells #[.int .i64 a1_0, .int .i64 a1_1, .slice A1_2 l1_2.length c1_2] 32 (0, 0)) (by (with_reducible repeat (first | refine blk_drewN ?_ _ | refine blk_drew ?_ | refine blk_alloc ?_ _)); refine blk_far ?_ NB247_259.out _; (with_reducible repeat (first | refine blk_drewN ?_ _ | refine blk_drew ?_ | refine blk_alloc ?_ _)); refine blk_far ?_ NB247_259.out _; (with_reducible repeat (first | refine blk_drewN ?_ _ | refine blk_drew ?_ | refine blk_alloc ?_ _)); refine blk_far ?_ NB247_259.out _; (with_reducible repeat (first | refine blk_drewN ?_ _ | refine blk_drew ?_ | refine blk_alloc ?_ _)); refine blk_far ?_ NB247_258.out _; (with_reducible repeat (first | refine blk_drewN ?_ _ | refine blk_drew ?_ | refine blk_alloc ?_ _)); refine blk_far ?_ NB247_258.out _; (with_reducible repeat (first | refine blk_drewN ?_ _ | refine blk_drew ?_ | refine blk_alloc ?_ _)); refine blk_far ?_ NB247_258.out _; (with_reducible repeat (first | refine blk_drewN ?_ _ | refine blk_drew ?_ | refine blk_alloc ?_ _)); exact BK247.out) hb); replace BK258 := Aside0.mk (blk_below (g := gb258) (o := .cells #[.int .i64 t250, .int .i64 t251, .int .i64 t252] 27 (0, 0)) (by (with_reducible repeat (first | refine blk_drewN ?_ _ | refine blk_drew ?_ | refine blk_alloc ?_ _)); refine blk_far ?_ NB258_259.out _; (with_reducible repeat (first | refine blk_drewN ?_ _ | refine blk_drew ?_ | refine blk_alloc ?_ _)); refine blk_far ?_ NB258_259.out _; (with_reducible repeat (first | refine blk_drewN ?_ _ | refine blk_drew ?_ | refine blk_alloc ?_ _)); refine blk_far ?_ NB258_259.out _; (with_reducible repeat (first | refine blk_drewN ?_ _ | refine blk_drew ?_ | refine blk_alloc ?_ _)); refine blk_put (cs := #[.int .i64 t250, .int .i64 t251, .int .i64 0]) ?_ 2 _ rfl; (with_reducible repeat (first | refine blk_drewN ?_ _ | refine blk_drew ?_ | refine blk_alloc ?_ _)); refine blk_put (cs := #[.int .i64 t250, .int .i64 0, .int .i64 0]) ?_ 1 _ rfl; (with_reducible repeat (first | refine blk_drewN ?_ _ | refine blk_drew ?_ | refine blk_alloc ?_ _)); refine blk_put (cs := #[.int .i64 0, .int .i64 0, .int .i64 0]) ?_ 0 _ rfl; (with_reducible repeat (first | refine blk_drewN ?_ _ | refine blk_drew ?_ | refine blk_alloc ?_ _)); exact BK258.out) hb); replace BK259 := Aside0.mk (blk_below (g := gb259) (o := .cells #[.int .i64 t253, .int .i64 t254, .slice Ao72 t255.length co72] 32 (0, 0)) (by (with_reducible repeat (first | refine blk_drewN ?_ _ | refine blk_drew ?_ | refine blk_alloc ?_ _)); refine blk_put (cs := #[.int .i64 t253, .int .i64 t254, .slice none 0 0]) ?_ 2 _ rfl; (with_reducible repeat (first | refine blk_drewN ?_ _ | refine blk_drew ?_ | refine blk_alloc ?_ _)); refine blk_put (cs := #[.int .i64 t253, .int .i64 0, .slice none 0 0]) ?_ 1 _ rfl; (with_reducible repeat (first | refine blk_drewN ?_ _ | refine blk_drew ?_ | refine blk_alloc ?_ _)); refine blk_put (cs := #[.int .i64 0, .int .i64 0, .slice none 0 0]) ?_ 0 _ rfl; (with_reducible repeat (first | refine blk_drewN ?_ _ | refine blk_drew ?_ | refine blk_alloc ?_ _)); refine blk_far ?_ NB259_258.out _; (with_reducible repeat (first | refine blk_drewN ?_ _ | refine blk_drew ?_ | refine blk_alloc ?_ _)); refine blk_far ?_ NB259_258.out _; (with_reducible repeat (first | refine blk_drewN ?_ _ | refine blk_drew ?_ | refine blk_alloc ?_ _)); refine blk_far ?_ NB259_258.out _; (with_reducible repeat (first | refine blk_drewN ?_ _ | refine blk_drew ?_ | refine blk_alloc ?_ _)); exact BK259.out) hb); replace HB := bB HB hb; (try clear hb); (try clear hb2); (try clear hk); (try clear hi); (try clear ho0)) | ((with_reducible refine gate_dst (N := 9) rfl ?_); refine box_ev (N := 9) (cs := #[.int .i64 0, .int .i64 0, .int .i64 0]) (t := 27) ?_; intro gb268 hg w75 hbox hb; have BK268 := Aside0.mk (hbox); have GW268 := gW (w := w) HB hg; have GE268 := gW (w := w) HB hg; have NB246_268 := neL BK246 hg; have NB268_246 := neG BK246 hg; have NB247_268 := neL BK247 hg; have NB268_247 := neG BK247 hg; have NB258_268 := neL BK258 hg; have NB268_258 := neG BK258 hg; have NB259_268 := neL BK259 hg; have NB268_259 := neG BK259 hg; replace HO257 := Aside0.mk (Kd.R_below (viaR HO257) hb); replace HO267 := Aside0.mk (Kd.R_below (viaR HO267) hb); replace BK246 := kB BK246 hb; replace BK247 := kB BK247 hb; replace BK258 := kB BK258 hb; replace BK259 := kB BK259 hb; replace HB := bB HB hb; clear hb hbox hg) | ((with_reducible refine gate_dst (N := 10) rfl ?_); refine box_ev (N := 10) (cs := #[.int .i64 0, .int .i64 0, .slice none 0 0]) (t := 32) ?_; intro gb269 hg w76 hbox hb; have BK269 := Aside0.mk (hbox); have GW269 := gW (w := w) HB hg; have GE269 := gW (w := w) HB hg; have NB246_269 := neL BK246 hg; have NB269_246 := neG BK246 hg; have NB247_269 := neL BK247 hg; have NB269_247 := neG BK247 hg; have NB258_269 := neL BK258 hg; have NB269_258 := neG BK258 hg; have NB259_269 := neL BK259 hg; have NB269_259 := neG BK259 hg; have NB268_269 := neL BK268 hg; have NB269_268 := neG BK268 hg; replace HO257 := Aside0.mk (Kd.R_below (viaR HO257) hb); replace HO267 := Aside0.mk (Kd.R_below (viaR HO267) hb); replace BK246 := kB BK246 hb; replace BK247 := kB BK247 hb; replace BK258 := kB BK258 hb; replace BK259 := kB BK259 hb; replace BK268 := kB BK268 hb; replace HB := bB HB hb; clear hb hbox hg; have hnb77 := NB268_246.out; have hnc77 := NB246_268.out; have hnb78 := NB268_247.out; have hnc78 := NB247_268.out; have hnb79 := NB268_258.out; have hnc79 := NB258_268.out; have hnb80 := NB268_259.out; have hnc80 := NB259_268.out; have hnb81 := NB268_269.out; have hnc81 := NB269_268.out; have hcz82_0 := bc0 BK268; have hcz82_1 := bc1 BK268; have hcz82_2 := bc2 BK268; have hfz82_0 := blk_frozen BK268.out 0; have hfz82_1 := blk_frozen BK268.out 1; have hfz82_2 := blk_frozen BK268.out 2; have hnb83 := NB269_246.out; have hnc83 := NB246_269.out; have hnb84 := NB269_247.out; have hnc84 := NB247_269.out; have hnb85 := NB269_258.out; have hnc85 := NB258_269.out; have hnb86 := NB269_259.out; have hnc86 := NB259_269.out; have hcz87_0 := bc0 BK269; have hcz87_1 := bc1 BK269; have hcz87_2 := bc2 BK269; have hfz87_0 := blk_frozen BK269.out 0; have hfz87_1 := blk_frozen BK269.out 1; have hfz87_2 := blk_frozen BK269.out 2; obtain ⟨Ao88, co88, eo88⟩ := Kd.R_slice HO267.out; subst eo88; have hcz89_0 := bc0 BK258; have hcz89_1 := bc1 BK258; have hcz89_2 := bc2 BK258; have hfz89_0 := blk_frozen BK258.out 0; have hfz89_1 := blk_frozen BK258.out 1; have hfz89_2 := blk_frozen BK258.out 2))
        go_roundg k2
        case measure => have := HJ2.out; have := HK2.out; omega
        case rel => exact ⟨(wrap64 (x6_2 + 1)), (by first | rfl | (simp; done) | (simp [*]; done)), H', ⟨by have := HJ2.out; have := HK2.out; omega⟩, ⟨by (with_reducible repeat (first | refine blk_drewN ?_ _ | refine blk_drew ?_ | refine blk_alloc ?_ _)); refine blk_far ?_ NB246_269.out _; (with_reducible repeat (first | refine blk_drewN ?_ _ | refine blk_drew ?_ | refine blk_alloc ?_ _)); refine blk_far ?_ NB246_269.out _; (with_reducible repeat (first | refine blk_drewN ?_ _ | refine blk_drew ?_ | refine blk_alloc ?_ _)); refine blk_far ?_ NB246_269.out _; (with_reducible repeat (first | refine blk_drewN ?_ _ | refine blk_drew ?_ | refine blk_alloc ?_ _)); refine blk_far ?_ NB246_268.out _; (with_reducible repeat (first | refine blk_drewN ?_ _ | refine blk_drew ?_ | refine blk_alloc ?_ _)); refine blk_far ?_ NB246_268.out _; (with_reducible repeat (first | refine blk_drewN ?_ _ | refine blk_drew ?_ | refine blk_alloc ?_ _)); refine blk_far ?_ NB246_268.out _; (with_reducible repeat (first | refine blk_drewN ?_ _ | refine blk_drew ?_ | refine blk_alloc ?_ _)); exact BK246.out⟩, ⟨by (with_reducible repeat (first | refine blk_drewN ?_ _ | refine blk_drew ?_ | refine blk_alloc ?_ _)); refine blk_far ?_ NB247_269.out _; (with_reducible repeat (first | refine blk_drewN ?_ _ | refine blk_drew ?_ | refine blk_alloc ?_ _)); refine blk_far ?_ NB247_269.out _; (with_reducible repeat (first | refine blk_drewN ?_ _ | refine blk_drew ?_ | refine blk_alloc ?_ _)); refine blk_far ?_ NB247_269.out _; (with_reducible repeat (first | refine blk_drewN ?_ _ | refine blk_drew ?_ | refine blk_alloc ?_ _)); refine blk_far ?_ NB247_268.out _; (with_reducible repeat (first | refine blk_drewN ?_ _ | refine blk_drew ?_ | refine blk_alloc ?_ _)); refine blk_far ?_ NB247_268.out _; (with_reducible repeat (first | refine blk_drewN ?_ _ | refine blk_drew ?_ | refine blk_alloc ?_ _)); refine blk_far ?_ NB247_268.out _; (with_reducible repeat (first | refine blk_drewN ?_ _ | refine blk_drew ?_ | refine blk_alloc ?_ _)); exact BK247.out⟩, ⟨viaB HB⟩⟩
      ·rw [if_neg c26] at H
       have c26b0 := decide_eq_false c26
       clear c26
       simp only [Option.some.injEq, Prod.mk.injEq] at H
       obtain ⟨rfl, rfl⟩ := H
       have hnb90 := NB246_247.out
       have hnc90 := NB247_246.out
       have hcz91_0 := bc0 BK246
       have hcz91_1 := bc1 BK246
       have hcz91_2 := bc2 BK246
       have hfz91_0 := blk_frozen BK246.out 0
       have hfz91_1 := blk_frozen BK246.out 1
       have hfz91_2 := blk_frozen BK246.out 2
       go_wp2
       go_ret2
       exact ⟨by first | rfl | (simp [errW_none, errW_some] <;> rfl) | (simp [*, errW_none, errW_some] <;> rfl), viaB HB⟩

end Go.Proofs.Ytoklfgjemfojgaa.PAll
