/- This text began as one that print.sh wrote for this claim (of the functions named below); it is this session's own: turned where Lean did not take the printed proof, where it was too long for a claim, or only in what it imports. -/
import Derived.Test.YtoklfgjemfojgaaHFnExactFallOfx0
import Derived.Test.YtoklfgjemfojgaaHFnExactFallOfx1
import Derived.Test.YtoklfgjemfojgaaHFnExactFallOfx4
import Derived.Test.YtoklfgjemfojgaaHFnExactFallOfx5
namespace Go.Proofs.Ytoklfgjemfojgaa.PFnExactFallOf
open Go.RowKit Go.Proofs.YtoklfgjemfojgaaW.PrintWords Go.Proofs.YtoklfgjemfojgaaW.PrintLast Go.Proofs.YtoklfgjemfojgaaW.PrintMore
attribute [local go_sem] max2_int min2_int max_two min_two max_three min_three max_four min_four   -- for this text's walks alone
set_option linter.unusedVariables false
set_option linter.unusedSimpArgs false

/-! ### spec_flGo: function 63 -/
def spec_flGo.l0 : Nat → List Int → Int → List (List Int) → Int → Int → Int → Int → List (S89) → Int → Int → List (S89) → Option (Int × Int × Int × Int × Int × (List (S89)) × (List (List Int)))
 | 0, _, _, _, _, _, _, _, _, _, _, _ => none
 | k + 1, x1, x2, x10, x11, x12, x186000, x186001, x186002, x194000, x194001, x194002 => if x12 < x186000 then (if x10.length < 5864062014805 then ((some (x10 ++ [(([x12, x2] : List Int))] : List (List Int))).bind fun y197 => ((spec_boAt.f x194000 x194001 x194002 x12 x2).bind fun bt200 => (if bt200.1 = 5 then (some (2, x12, x2, x194000, x194001, x194002, y197)) else ((spec_paGoes.f k bt200.1 bt200.2 x11).bind fun t203 => ((spec_flPass.f k x194000 x194001 x194002 x1 (wrap64 ((wrap64 (x12 * x186001)) + x2))).bind fun t204 => ((spec_l1In.f (wrap64 (x2 + t203)) 0 (wrap64 (x186001 - 1))).bind fun t205 => (if t205 = true then (spec_flGo.l0 k x1 (wrap64 (x2 + t203)) y197 (wrap64 (-t203)) (wrap64 (x12 + 1)) x186000 x186001 x186002 x194000 x194001 t204) else (some (3, x12, wrap64 (x2 + t203), x194000, x194001, t204, y197))))))))) else (none)) else (some (1, x186000, x2, x194000, x194001, x194002, x10))
def spec_flGo.f (k : Nat) (a0_0 : Int) (a0_1 : Int) (l0_2 : List (S89)) (l1 : List Int) (a2 : Int) : Option (Int × Int × Int × Int × Int × (List (S89)) × (List (List Int))) := (spec_boOwn.f a0_0 a0_1 l0_2).bind fun bt188 => (spec_flGo.l0 k l1 a2 ([] : List (List Int)) 0 0 a0_0 a0_1 l0_2 bt188.1 bt188.2.1 bt188.2.2)
theorem spec_flGo.mono_l : ∀ k, (∀ y0 y1 y2 y3 y4 y5 y6 y7 y8 y9 y10, LeO (spec_flGo.l0 k y0 y1 y2 y3 y4 y5 y6 y7 y8 y9 y10) (spec_flGo.l0 (k + 1) y0 y1 y2 y3 y4 y5 y6 y7 y8 y9 y10))
 | 0 => fun _ _ _ _ _ _ _ _ _ _ _ r h => by simp [spec_flGo.l0] at h
 | k + 1 => by
  have ih0 := spec_flGo.mono_l k
  ·intro y0 y1 y2 y3 y4 y5 y6 y7 y8 y9 y10
   unfold spec_flGo.l0
   repeat' first
   | (with_reducible exact ih0 _ _ _ _ _ _ _ _ _ _ _)
   | (with_reducible exact spec_flPass.mono _ _ _ _ _ _)
   | (with_reducible exact spec_paGoes.mono _ _ _ _)
   | (with_reducible exact LeO.refl _)
   | (with_reducible exact LeO.none _)
   | (with_reducible refine LeO.ite ?_ ?_)
   | (with_reducible refine LeO.bind ?_ (fun _ => ?_))
   | exact ih0 _ _ _ _ _ _ _ _ _ _ _
   | exact spec_flPass.mono _ _ _ _ _ _
   | exact spec_paGoes.mono _ _ _ _
   | exact LeO.none _
   | refine LeO.ite ?_ ?_
   | refine LeO.bind ?_ (fun _ => ?_)
theorem spec_flGo.mono : ∀ a0 a1 a2 a3 a4 k, LeO (spec_flGo.f k a0 a1 a2 a3 a4) (spec_flGo.f (k + 1) a0 a1 a2 a3 a4) := by
 intro a0 a1 a2 a3 a4 k
 have ih0 := spec_flGo.mono_l k
 unfold spec_flGo.f
 repeat' first
   | (with_reducible exact ih0 _ _ _ _ _ _ _ _ _ _ _)
   | (with_reducible exact spec_flPass.mono _ _ _ _ _ _)
   | (with_reducible exact spec_paGoes.mono _ _ _ _)
   | (with_reducible exact LeO.refl _)
   | (with_reducible exact LeO.none _)
   | (with_reducible refine LeO.ite ?_ ?_)
   | (with_reducible refine LeO.bind ?_ (fun _ => ?_))
   | exact ih0 _ _ _ _ _ _ _ _ _ _ _
   | exact spec_flPass.mono _ _ _ _ _ _
   | exact spec_paGoes.mono _ _ _ _
   | exact LeO.none _
   | refine LeO.ite ?_ ?_
   | refine LeO.bind ?_ (fun _ => ?_)
def spec_flGo.T10 : Bool × List (List Nat × List Nat) := (true, [([], []), ([], []), ([0, 1], [0, 1]), ([], []), ([], []), ([2, 0, 1, 2], [2]), ([3, 5, 0, 1, 2, 3, 5], [3]), ([4, 6, 0, 1, 2, 3, 4, 5, 6], [4])])
def spec_flGo.B10 : List Nat := [0, 0, 3, 0, 0, 7, 47, 127]
theorem spec_flGo.tab10 : rtab .any (opsOf Try.f63 10) = spec_flGo.T10 := by kernel_rfl
theorem spec_flGo.bits10 : waitsOk spec_flGo.T10.2 spec_flGo.B10 = true := by kernel_rfl
def spec_flGo.T16 : Bool × List (List Nat × List Nat) := (true, [([], []), ([], []), ([0, 1], [0, 1]), ([], []), ([], []), ([2, 0, 1, 2], [2]), ([3, 5, 0, 1, 2, 3, 5], [3]), ([4, 6, 0, 1, 2, 3, 4, 5, 6], [4])])
def spec_flGo.B16 : List Nat := [0, 0, 3, 0, 0, 7, 47, 127]
theorem spec_flGo.tab16 : rtab .any (opsOf Try.f63 16) = spec_flGo.T16 := by kernel_rfl
theorem spec_flGo.bits16 : waitsOk spec_flGo.T16.2 spec_flGo.B16 = true := by kernel_rfl
def spec_flGo.T17 : Bool × List (List Nat × List Nat) := (true, [([], []), ([0], [0]), ([], []), ([1, 2], [1, 2]), ([], []), ([], []), ([3, 0, 1, 2, 3], [3]), ([4, 6, 0, 1, 2, 3, 4, 6], [4]), ([5, 7, 0, 1, 2, 3, 4, 5, 6, 7], [5])])
def spec_flGo.B17 : List Nat := [0, 1, 0, 7, 0, 0, 15, 95, 255]
theorem spec_flGo.tab17 : rtab .any (opsOf Try.f63 17) = spec_flGo.T17 := by kernel_rfl
theorem spec_flGo.bits17 : waitsOk spec_flGo.T17.2 spec_flGo.B17 = true := by kernel_rfl
set_option maxHeartbeats 8000000 in
set_option maxRecDepth 100000 in
theorem spec_flGo.calls (k : Nat) (a0_0 : Int) (a0_1 : Int) (A0_2 : Option Addr) (c0_2 : Nat) (l0_2 : List (S89)) (A1 : Option Addr) (c1 : Nat) (l1 : List Int) (a2 : Int) (r1 : Int) (r2 : Int) (r3 : Int) (r4 : Int) (r5 : Int) (r6 : List (S89)) (r7 : List (List Int)) (w : World) (hr0_2 : Kd.C k89 w A0_2 l0_2.length l0_2) (hc0_2 : l0_2.length ≤ c0_2) (hr1 : Kd.C (Kd.int .i64) w A1 l1.length l1) (hc1 : l1.length ≤ c1) (h : spec_flGo.f k a0_0 a0_1 l0_2 l1 a2 = some (r1, r2, r3, r4, r5, r6, r7)) :
  Calls Try.prog 63 #[.agg #[.int .i64 a0_0, .int .i64 a0_1, .slice A0_2 l0_2.length c0_2], .slice A1 l1.length c1, .int .i64 a2] w fun e w' => ∃ v5_ v6_ : Value, e = .returned (.tuple #[.agg #[.int .i64 r1, .int .i64 r2, .int .i64 r3], .agg #[.int .i64 r4, .int .i64 r5, v5_], v6_]) ∧ Kd.R k89 89 w' w.heap.size (fun _ => True) v5_ r6 ∧ Kd.S (Kd.slice 3 (Kd.int .i64)) 43 w' w.heap.size (fun _ => True) v6_ r7 ∧ Below w.heap.size w w' := by
 have hu32 := Try.underlying32
 have hu27 := Try.underlying27
 have hu89 := Try.underlying89
 have HR0_2 := Aside0.mk hr0_2
 have HC0_2 := Aside0.mk hc0_2
 clear hr0_2 hc0_2
 have HR1 := Aside0.mk hr1
 have HC1 := Aside0.mk hc1
 clear hr1 hc1
 have HB := Aside0.mk (Below.refl w.heap.size w)
 have H : ((spec_boOwn.f a0_0 a0_1 l0_2).bind fun bt188 => (spec_flGo.l0 k l1 a2 ([] : List (List Int)) 0 0 a0_0 a0_1 l0_2 bt188.1 bt188.2.1 bt188.2.2)) = some (r1, r2, r3, r4, r5, r6, r7) := h
 clear h
 replace H := Option.bind_eq_some_iff.mp H
 obtain ⟨⟨t188, t189, t190⟩, A40, H⟩ := H
 replace H : (spec_flGo.l0 k l1 a2 ([] : List (List Int)) 0 0 a0_0 a0_1 l0_2 t188 t189 t190) = some (r1, r2, r3, r4, r5, r6, r7) := H
 have A4 := Aside0.mk A40
 clear A40
 have H' := Aside0.mk H
 clear H
 go_enter Try.func63, Try.ntmps63
 go_wp2_with (first | ((with_reducible refine gate_dst (N := 3) rfl ?_); refine box_ev (N := 3) (cs := #[.int .i64 a0_0, .int .i64 a0_1, .slice A0_2 l0_2.length c0_2]) (t := 32) ?_; intro gb185 hg w5 hbox hb; have BK185 := Aside0.mk (hbox); have GW185 := gW (w := w) HB hg; have GE185 := gW (w := w) HB hg; replace HB := bB HB hb; clear hb hbox hg) | ((with_reducible refine gate_dst (N := 6) rfl ?_); refine box_ev (N := 6) (cs := #[.int .i64 0, .int .i64 0, .int .i64 0]) (t := 27) ?_; intro gb186 hg w6 hbox hb; have BK186 := Aside0.mk (hbox); have GW186 := gW (w := w) HB hg; have GE186 := gW (w := w) HB hg; have NB185_186 := neL BK185 hg; have NB186_185 := neG BK185 hg; replace BK185 := kB BK185 hb; replace HB := bB HB hb; clear hb hbox hg) | ((with_reducible refine gate_dst (N := 7) rfl ?_); refine box_ev (N := 7) (cs := #[.int .i64 0, .int .i64 0, .slice none 0 0]) (t := 32) ?_; intro gb187 hg w7 hbox hb; have BK187 := Aside0.mk (hbox); have GW187 := gW (w := w) HB hg; have GE187 := gW (w := w) HB hg; have NB185_187 := neL BK185 hg; have NB187_185 := neG BK185 hg; have NB186_187 := neL BK186 hg; have NB187_186 := neG BK186 hg; replace BK185 := kB BK185 hb; replace BK186 := kB BK186 hb; replace HB := bB HB hb; clear hb hbox hg; have hnb8 := NB185_186.out; have hnc8 := NB186_185.out; have hnb9 := NB185_187.out; have hnc9 := NB187_185.out; have hcz10_0 := bc0 BK185; have hcz10_1 := bc1 BK185; have hcz10_2 := bc2 BK185; have hfz10_0 := blk_frozen BK185.out 0; have hfz10_1 := blk_frozen BK185.out 1; have hfz10_2 := blk_frozen BK185.out 2) | ((with_reducible refine gate_callee (f := 82) rfl ?_); refine goesA (some 16) _ #[.agg #[.int .i64 a0_0, .int .i64 a0_1, .slice A0_2 l0_2.length c0_2]] ?_ Try.func82; (with_reducible refine (spec_boOwn.calls a0_0 a0_1 _ _ l0_2 t188 t189 t190 _ ?side1 ?side2 A4.out).mono ?_); (case side1 => repeat (first | exact (Kd.C_below HR0_2.out HB.out) | (with_reducible refine Kd.C_alloc ?_ _) | (with_reducible refine Kd.C_drewN ?_ _) | (with_reducible refine Kd.C_drew ?_))); (case side2 => exact HC0_2.out); rintro e w11 ⟨v191, rfl, ho0, hb⟩; refine ⟨_, rfl, ?_⟩; have HO192 := Aside0.mk (Kd.R_lower ho0 (below_size (viaB HB))); replace BK185 := kB BK185 hb; replace BK186 := kB BK186 hb; replace BK187 := kB BK187 hb; replace HB := bB HB hb; (try clear hb); (try clear hb2); (try clear hk); (try clear hi); (try clear ho0)) | ((with_reducible refine gate_dst (N := 9) rfl ?_); refine box_ev (N := 9) (cs := #[.int .i64 0, .int .i64 0, .slice none 0 0]) (t := 32) ?_; intro gb193 hg w12 hbox hb; have BK193 := Aside0.mk (hbox); have GW193 := gW (w := w) HB hg; have GE193 := gW (w := w) HB hg; have NB185_193 := neL BK185 hg; have NB193_185 := neG BK185 hg; have NB186_193 := neL BK186 hg; have NB193_186 := neG BK186 hg; have NB187_193 := neL BK187 hg; have NB193_187 := neG BK187 hg; replace HO192 := Aside0.mk (Kd.R_below (viaR HO192) hb); replace BK185 := kB BK185 hb; replace BK186 := kB BK186 hb; replace BK187 := kB BK187 hb; replace HB := bB HB hb; clear hb hbox hg; have hnb13 := NB193_185.out; have hnc13 := NB185_193.out; have hnb14 := NB193_186.out; have hnc14 := NB186_193.out; have hnb15 := NB193_187.out; have hnc15 := NB187_193.out; have hcz16_0 := bc0 BK193; have hcz16_1 := bc1 BK193; have hcz16_2 := bc2 BK193; have hfz16_0 := blk_frozen BK193.out 0; have hfz16_1 := blk_frozen BK193.out 1; have hfz16_2 := blk_frozen BK193.out 2; obtain ⟨Ao17, co17, eo17⟩ := Kd.R_slice HO192.out; subst eo17))
 go_loopg [2, 10, 11, 12] k (fun kq v2 v10 v11 v12 w' => ∃ (x2_1 : Int) (x10_1 : List (List Int)) (x11_1 : Int) (x12_1 : Int) (x187000_1 : Int) (x187001_1 : Int) (x187002_1 : Int) (x188000_1 : Int) (x188001_1 : Int) (x194002_1 : List (S89)) (u194002 : Value), v2 = .int .i64 x2_1 ∧ v11 = .int .i64 x11_1 ∧ v12 = .int .i64 x12_1 ∧ Aside0 (spec_flGo.l0 kq l1 x2_1 x10_1 x11_1 x12_1 a0_0 a0_1 l0_2 t188 t189 x194002_1 = some (r1, r2, r3, r4, r5, r6, r7)) ∧ Aside0 (kq ≤ k) ∧ Aside0 (Kd.S (Kd.slice 3 (Kd.int .i64)) 43 w' w.heap.size (fun _ => True) v10 x10_1) ∧ Aside0 (Kd.R k89 89 w' w.heap.size (fun _ => True) u194002 x194002_1) ∧ Aside0 (w'.heap[gb185]? = some (.cells #[.int .i64 a0_0, .int .i64 a0_1, (.slice A0_2 l0_2.length c0_2)] 32 (0, 0))) ∧ Aside0 (w'.heap[gb186]? = some (.cells #[.int .i64 x187000_1, .int .i64 x187001_1, .int .i64 x187002_1] 27 (0, 0))) ∧ Aside0 (w'.heap[gb187]? = some (.cells #[.int .i64 x188000_1, .int .i64 x188001_1, (.slice none 0 0)] 32 (0, 0))) ∧ Aside0 (w'.heap[gb193]? = some (.cells #[.int .i64 t188, .int .i64 t189, u194002] 32 (0, 0))) ∧ Aside0 (Below w.heap.size w w'))
 case atStart => exact ⟨(a2), (([] : List (List Int))), (0), (0), (0), (0), (0), (0), (0), (t190), (.slice Ao17 t190.length co17), (by first | rfl | (simp; done) | (simp [*]; done)), (by first | rfl | (simp; done) | (simp [*]; done)), (by first | rfl | (simp; done) | (simp [*]; done)), H', ⟨Nat.le_refl _⟩, ⟨by first | exact Kd.S_nil _ _ _ _ _ | exact Kd.N_nil _ _ _ _ _ | exact Kd.V_nil _ _ _ _ _ | exact Kd.Q_nil _ _ _ _ _ | exact Kd.R_nil _ _ _ _ _⟩, ⟨by (with_reducible repeat (first | apply Kd.R_alloc | apply Kd.R_drewN | apply Kd.R_drew)); exact Kd.R_mono (Kd.R_far (p := ⟨gb193, 2, none⟩) (Kd.R_far (p := ⟨gb193, 1, none⟩) (Kd.R_far (p := ⟨gb193, 0, none⟩) (Kd.R_types HO192.out BK193.out (by decide)) (fun _ hk => hk.2) (.int .i64 t188)) (fun _ hk => hk.2) (.int .i64 t189)) (fun _ hk => hk.2) (.slice Ao17 t190.length co17)) (fun _ hk => trivial)⟩, ⟨by (with_reducible repeat (first | refine blk_drewN ?_ _ | refine blk_drew ?_ | refine blk_alloc ?_ _)); refine blk_far ?_ NB185_193.out _; (with_reducible repeat (first | refine blk_drewN ?_ _ | refine blk_drew ?_ | refine blk_alloc ?_ _)); refine blk_far ?_ NB185_193.out _; (with_reducible repeat (first | refine blk_drewN ?_ _ | refine blk_drew ?_ | refine blk_alloc ?_ _)); refine blk_far ?_ NB185_193.out _; (with_reducible repeat (first | refine blk_drewN ?_ _ | refine blk_drew ?_ | refine blk_alloc ?_ _)); exact BK185.out⟩, ⟨by (with_reducible repeat (first | refine blk_drewN ?_ _ | refine blk_drew ?_ | refine blk_alloc ?_ _)); refine blk_far ?_ NB186_193.out _; (with_reducible repeat (first | refine blk_drewN ?_ _ | refine blk_drew ?_ | refine blk_alloc ?_ _)); refine blk_far ?_ NB186_193.out _; (with_reducible repeat (first | refine blk_drewN ?_ _ | refine blk_drew ?_ | refine blk_alloc ?_ _)); refine blk_far ?_ NB186_193.out _; (with_reducible repeat (first | refine blk_drewN ?_ _ | refine blk_drew ?_ | refine blk_alloc ?_ _)); exact BK186.out⟩, ⟨by (with_reducible repeat (first | refine blk_drewN ?_ _ | refine blk_drew ?_ | refine blk_alloc ?_ _)); refine blk_far ?_ NB187_193.out _; (with_reducible repeat (first | refine blk_drewN ?_ _ | refine blk_drew ?_ | refine blk_alloc ?_ _)); refine blk_far ?_ NB187_193.out _; (with_reducible repeat (first | refine blk_drewN ?_ _ | refine blk_drew ?_ | refine blk_alloc ?_ _)); refine blk_far ?_ NB187_193.out _; (with_reducible repeat (first | refine blk_drewN ?_ _ | refine blk_drew ?_ | refine blk_alloc ?_ _)); exact BK187.out⟩, ⟨by (with_reducible repeat (first | refine blk_drewN ?_ _ | refine blk_drew ?_ | refine blk_alloc ?_ _)); refine blk_put (cs := #[.int .i64 t188, .int .i64 t189, .slice none 0 0]) ?_ 2 _ rfl; (with_reducible repeat (first | refine blk_drewN ?_ _ | refine blk_drew ?_ | refine blk_alloc ?_ _)); refine blk_put (cs := #[.int .i64 t188, .int .i64 0, .slice none 0 0]) ?_ 1 _ rfl; (with_reducible repeat (first | refine blk_drewN ?_ _ | refine blk_drew ?_ | refine blk_alloc ?_ _)); refine blk_put (cs := #[.int .i64 0, .int .i64 0, .slice none 0 0]) ?_ 0 _ rfl; (with_reducible repeat (first | refine blk_drewN ?_ _ | refine blk_drew ?_ | refine blk_alloc ?_ _)); exact BK193.out⟩, ⟨viaB HB⟩⟩
 case round =>
  clear H'
  (try clear c1); (try clear p2); (try clear c6); (try clear c8); (try clear c9); (try clear c13); (try clear c14); (try clear c15)
  (try clear hcz10_0 hcz10_1 hcz10_2); (try clear hcz16_0 hcz16_1 hcz16_2); (try clear hfz10_0 hfz10_1 hfz10_2); (try clear hfz16_0 hfz16_1 hfz16_2)
  obtain ⟨x2_1, x10_1, x11_1, x12_1, x187000_1, x187001_1, x187002_1, x188000_1, x188001_1, x194002_1, u194002, rfl, rfl, rfl, HA, HK1, HO_10, HO_194002, BK185, BK186, BK187, BK193, HB⟩ := hrel
  cases gk with
  | zero => exact absurd HA.out (by simp [spec_flGo.l0])
  | succ k1 =>
   have H := HA.out
   clear HA
   simp only [spec_flGo.l0] at H
   by_cases c18 : x12_1 < a0_0
   ·rw [if_pos c18] at H
    have c18b0 := decide_eq_true c18
    clear c18
    obtain ⟨y194, hy194⟩ : ∃ y_ : List Int, y_ = (([x12_1, x2_1] : List Int)) := ⟨_, rfl⟩
    replace H : (if x10_1.length < 5864062014805 then ((some (x10_1 ++ [y194] : List (List Int))).bind fun y197 => ((spec_boAt.f t188 t189 x194002_1 x12_1 x2_1).bind fun bt200 => (if bt200.1 = 5 then (some (2, x12_1, x2_1, t188, t189, x194002_1, y197)) else ((spec_paGoes.f k1 bt200.1 bt200.2 x11_1).bind fun t203 => ((spec_flPass.f k1 t188 t189 x194002_1 l1 (wrap64 ((wrap64 (x12_1 * a0_1)) + x2_1))).bind fun t204 => ((spec_l1In.f (wrap64 (x2_1 + t203)) 0 (wrap64 (a0_1 - 1))).bind fun t205 => (if t205 = true then (spec_flGo.l0 k1 l1 (wrap64 (x2_1 + t203)) y197 (wrap64 (-t203)) (wrap64 (x12_1 + 1)) a0_0 a0_1 l0_2 t188 t189 t204) else (some (3, x12_1, wrap64 (x2_1 + t203), t188, t189, t204, y197))))))))) else (none)) = some (r1, r2, r3, r4, r5, r6, r7) := by first | (rw [hy194]; with_reducible exact H) | (have H2_ := (Option.bind_some _ _).symm.trans H; rw [hy194]; with_reducible exact H2_) | (have H2_ := (Option.bind_some _ _).symm.trans H; with_reducible exact H2_) | with_reducible exact H | (rw [hy194]; exact H) | exact H
    have Ny194 := Aside0.mk hy194
    clear hy194
    by_cases c19 : x10_1.length < 5864062014805
    ·rw [if_pos c19] at H
     have LMc19 := Aside0.mk c19
     clear c19
     obtain ⟨y197, hy197⟩ : ∃ y_ : List (List Int), y_ = (x10_1 ++ [y194]) := ⟨_, rfl⟩
     replace H : ((spec_boAt.f t188 t189 x194002_1 x12_1 x2_1).bind fun bt200 => (if bt200.1 = 5 then (some (2, x12_1, x2_1, t188, t189, x194002_1, y197)) else ((spec_paGoes.f k1 bt200.1 bt200.2 x11_1).bind fun t203 => ((spec_flPass.f k1 t188 t189 x194002_1 l1 (wrap64 ((wrap64 (x12_1 * a0_1)) + x2_1))).bind fun t204 => ((spec_l1In.f (wrap64 (x2_1 + t203)) 0 (wrap64 (a0_1 - 1))).bind fun t205 => (if t205 = true then (spec_flGo.l0 k1 l1 (wrap64 (x2_1 + t203)) y197 (wrap64 (-t203)) (wrap64 (x12_1 + 1)) a0_0 a0_1 l0_2 t188 t189 t204) else (some (3, x12_1, wrap64 (x2_1 + t203), t188, t189, t204, y197)))))))) = some (r1, r2, r3, r4, r5, r6, r7) := by first | (rw [hy197]; with_reducible exact H) | (have H2_ := (Option.bind_some _ _).symm.trans H; rw [hy197]; with_reducible exact H2_) | (have H2_ := (Option.bind_some _ _).symm.trans H; with_reducible exact H2_) | with_reducible exact H | (rw [hy197]; exact H) | exact H
     have Ny197 := Aside0.mk hy197
     clear hy197
     replace H := Option.bind_eq_some_iff.mp H
     obtain ⟨⟨t200, t201⟩, A200, H⟩ := H
     replace H : (if t200 = 5 then (some (2, x12_1, x2_1, t188, t189, x194002_1, y197)) else ((spec_paGoes.f k1 t200 t201 x11_1).bind fun t203 => ((spec_flPass.f k1 t188 t189 x194002_1 l1 (wrap64 ((wrap64 (x12_1 * a0_1)) + x2_1))).bind fun t204 => ((spec_l1In.f (wrap64 (x2_1 + t203)) 0 (wrap64 (a0_1 - 1))).bind fun t205 => (if t205 = true then (spec_flGo.l0 k1 l1 (wrap64 (x2_1 + t203)) y197 (wrap64 (-t203)) (wrap64 (x12_1 + 1)) a0_0 a0_1 l0_2 t188 t189 t204) else (some (3, x12_1, wrap64 (x2_1 + t203), t188, t189, t204, y197))))))) = some (r1, r2, r3, r4, r5, r6, r7) := H
     have A20 := Aside0.mk A200
     clear A200
     by_cases c21 : t200 = 5
     ·rw [if_pos c21] at H
      have c21b0 := beq_iff_eq.mpr c21
      have c21b1 := bne_eq_false_iff_eq.mpr c21
      clear c21
      simp only [Option.some.injEq, Prod.mk.injEq] at H
      obtain ⟨rfl, rfl, rfl, rfl, rfl, rfl, rfl⟩ := H
      have hnb22 := NB185_186.out
      have hnc22 := NB186_185.out
      have hnb23 := NB185_187.out
      have hnc23 := NB187_185.out
      have hnb24 := NB185_193.out
      have hnc24 := NB193_185.out
      have hcz25_0 := bc0 BK185
      have hcz25_1 := bc1 BK185
      have hcz25_2 := bc2 BK185
      have hfz25_0 := blk_frozen BK185.out 0
      have hfz25_1 := blk_frozen BK185.out 1
      have hfz25_2 := blk_frozen BK185.out 2
      try go_wp2_with (first | ((with_reducible refine gate_dst (N := 26) rfl ?_); refine Kd.R_lit (Kd.int .i64) _ 3 ?hg (N := 26) ?hd (xs := ([x12_1, x2_1] : List Int)) (inner := [.int .i64 x12_1, .int .i64 x2_1]) (ok := fun _ => True) (okp := fun _ => True) ?hr ?hp (fun _ hk => hk) trivial (Below.refl _ _) (Nat.le_refl _) (by simp) ?_; (case hd => rfl); (case hg => rfl); (case hr => first | (go_simp; done) | (go_simp; rfl)); (case hp => exact (Reps.one (show Kd.M (Kd.int .i64) _ _ _ x12_1 [.int .i64 x12_1] from rfl) (Reps.one (show Kd.M (Kd.int .i64) _ _ _ x2_1 [.int .i64 x2_1] from rfl) (Reps.none _ _)))); intro v195 w26 ho27 hb hg_ hnew_; clear hg_ hnew_; (first | rw [← Ny194.out] at ho27 | (simp only [Int.reduceToNat] at ho27; rw [← Ny194.out] at ho27)); have HO196 := Aside0.mk (Kd.R_lower ho27 (below_size (viaB HB))); replace HO_10 := Aside0.mk (Kd.S_elder' (viaS HO_10) (Kd.R_base ho27) hb); replace HO_194002 := Aside0.mk (Kd.R_below (viaR HO_194002) hb); replace BK185 := kB BK185 hb; replace BK186 := kB BK186 hb; replace BK187 := kB BK187 hb; replace BK193 := kB BK193 hb; replace HB := bB HB hb; clear hb ho27; obtain ⟨Ao29, co29, eo29⟩ := Kd.R_slice HO196.out; subst eo29) | ((with_reducible refine gate_builtin (b := .append) (xs := #[.tmp 23, .tmp 27]) rfl ?_); at_builtin; refine Kd.S_append (Kd.slice 3 (Kd.int .i64)) (w0 := w) w.heap.size rfl (.tmp 23) (.tmp 27) 54 43 (.slice none 0 0) 24 rfl Try.underlying54 info43 rfl (by decide) (by omega) u10 x10_1 y194 [.slice Ao29 y194.length co29] (fun _ => True) (fun k_ => some k_ = (.slice Ao29 y194.length co29 : Value).ownBlock) rfl rfl ?aP (fun k_ hk_ => ((Kd.R_mono (ok' := fun k_ => ((fun _ => True)) k_ ∧ some k_ ≠ (u10 : Value).ownBlock) (Kd.R_apart' (HO196.out) (Kd.S_typed HO_10.out) (by decide)) (fun k_ hk => ⟨trivial, hk.2⟩))).1 k_ hk_.symm) ?aF ?aO ?aB ?aS ?aL ?_; (case aP => exact Kd.M_row (Kd.R_mono (Kd.R_tight rfl (Kd.R_mono (ok' := fun k_ => ((fun _ => True)) k_ ∧ some k_ ≠ (u10 : Value).ownBlock) (Kd.R_apart' (HO196.out) (Kd.S_typed HO_10.out) (by decide)) (fun k_ hk => ⟨trivial, hk.2⟩))) (fun _ h_ => h_))); (case aB => exact (viaB HB)); (case aF => exact (fun _ _ => trivial)); (case aO => exact (by (with_reducible repeat (first | apply Kd.S_alloc | apply Kd.S_drewN | apply Kd.S_drew)); exact Kd.S_mono HO_10.out (fun k_ hk => ⟨trivial, fun e_ => hk.2 e_⟩))); (case aS => exact (below_size (viaB HB))); (case aL => have := LMc19.out; omega); intro v198 w28 ho hb hg hat; rw [← Ny197.out] at ho; have HO199 := Aside0.mk (ho); replace HO_194002 := Aside0.mk (Kd.R_over' (viaR HO_194002) (Kd.S_typed (viaS HO_10)) (by decide) hg); replace BK185 := Aside0.mk (blk_grown (g := gb185) (o := .cells #[.int .i64 a0_0, .int .i64 a0_1, .slice A0_2 l0_2.length c0_2] 32 (0, 0)) (viaK BK185) hg (Kd.S_ne HO_10.out BK185.out (by decide))); replace BK186 := Aside0.mk (blk_grown (g := gb186) (o := .cells #[.int .i64 x187000_1, .int .i64 x187001_1, .int .i64 x187002_1] 27 (0, 0)) (viaK BK186) hg (Kd.S_ne HO_10.out BK186.out (by decide))); replace BK187 := Aside0.mk (blk_grown (g := gb187) (o := .cells #[.int .i64 x188000_1, .int .i64 x188001_1, .slice none 0 0] 32 (0, 0)) (viaK BK187) hg (Kd.S_ne HO_10.out BK187.out (by decide))); replace BK193 := Aside0.mk (blk_grown (g := gb193) (o := .cells #[.int .i64 t188, .int .i64 t189, u194002] 32 (0, 0)) (viaK BK193) hg (Kd.S_ne HO_10.out BK193.out (by decide))); replace HB := Aside0.mk (hb); clear HO_10 HO196; clear ho hb hg hat; have hnb30 := NB193_186.out; have hnc30 := NB186_193.out; have hnb31 := NB193_187.out; have hnc31 := NB187_193.out; have hcz32_0 := bc0 BK193; have hcz32_1 := bc1 BK193; have hcz32_2 := bc2 BK193; have hfz32_0 := blk_frozen BK193.out 0; have hfz32_1 := blk_frozen BK193.out 1; have hfz32_2 := blk_frozen BK193.out 2; obtain ⟨Ao33, co33, eo33⟩ := Kd.R_slice HO_194002.out; subst eo33) | ((with_reducible refine gate_callee (f := 83) rfl ?_); refine goesA (some 32) _ #[.agg #[.int .i64 t188, .int .i64 t189, .slice Ao33 x194002_1.length co33], .int .i64 x12_1, .int .i64 x2_1] ?_ Try.func83; (with_reducible refine (spec_boAt.calls t188 t189 _ _ x194002_1 x12_1 x2_1 t200 t201 _ ?side1 ?side2 A20.out).mono ?_); (case side1 => repeat (first | exact (Kd.R_reads' HO_194002.out).2.2 | (with_reducible refine Kd.C_alloc ?_ _) | (with_reducible refine Kd.C_drewN ?_ _) | (with_reducible refine Kd.C_drew ?_))); (case side2 => exact (Kd.R_reads' HO_194002.out).2.1); rintro e w34 ⟨rfl, hb⟩; refine ⟨_, rfl, ?_⟩; replace HO_194002 := Aside0.mk (Kd.R_below (viaR HO_194002) hb); replace HO199 := Aside0.mk (Kd.S_below (viaS HO199) hb); replace BK185 := kB BK185 hb; replace BK186 := kB BK186 hb; replace BK187 := kB BK187 hb; replace BK193 := kB BK193 hb; replace HB := bB HB hb; (try clear hb); (try clear hb2); (try clear hk); (try clear hi)) | ((with_reducible refine gate_dst (N := 13) rfl ?_); refine box_ev (N := 13) (cs := #[.int .i64 0, .int .i64 0]) (t := 89) ?_; intro gb202 hg w35 hbox hb; have BK202 := Aside0.mk (hbox); have GW202 := gW (w := w) HB hg; have GE202 := gW (w := w) HB hg; have NB185_202 := neL BK185 hg; have NB202_185 := neG BK185 hg; have NB186_202 := neL BK186 hg; have NB202_186 := neG BK186 hg; have NB187_202 := neL BK187 hg; have NB202_187 := neG BK187 hg; have NB193_202 := neL BK193 hg; have NB202_193 := neG BK193 hg; replace HO_194002 := Aside0.mk (Kd.R_below (Kd.R_elderB (viaR HO_194002) gb202 (Nat.le_of_eq hg.symm)) hb); replace HO199 := Aside0.mk (Kd.S_below (viaS HO199) hb); replace BK185 := kB BK185 hb; replace BK186 := kB BK186 hb; replace BK187 := kB BK187 hb; replace BK193 := kB BK193 hb; replace HB := bB HB hb; clear hb hbox hg; have hnb36 := NB202_185.out; have hnc36 := NB185_202.out; have hnb37 := NB202_186.out; have hnc37 := NB186_202.out; have hnb38 := NB202_187.out; have hnc38 := NB187_202.out; have hnb39 := NB202_193.out; have hnc39 := NB193_202.out; have hcz40_0 := bc0 BK202; have hcz40_1 := bc1 BK202; have hfz40_0 := blk_frozen BK202.out 0; have hfz40_1 := blk_frozen BK202.out 1))
      have n0_ : Aside0 (Kd.R k89 89 ((w35.setCell ⟨gb202, 0, none⟩ (.int .i64 t200)).setCell ⟨gb202, 1, none⟩ (.int .i64 t201)) w.heap.size (fun k_ => k_ ≠ gb202) (.slice Ao33 x194002_1.length co33) x194002_1) := ⟨by (with_reducible repeat (first | apply Kd.R_alloc | apply Kd.R_drewN | apply Kd.R_drew)); exact Kd.R_mono (Kd.R_far (p := ⟨gb202, 1, none⟩) (Kd.R_far (p := ⟨gb202, 0, none⟩) (Kd.R_mono HO_194002.out (fun k_ hk => (⟨hk, hk.2⟩ : _ ∧ k_ ≠ gb202))) (fun _ hk => hk.2) (.int .i64 t200)) (fun _ hk => hk.2) (.int .i64 t201)) (fun _ hk => hk.1.2)⟩
      have n1_ : Aside0 (Kd.S (Kd.slice 3 (Kd.int .i64)) 43 ((w35.setCell ⟨gb202, 0, none⟩ (.int .i64 t200)).setCell ⟨gb202, 1, none⟩ (.int .i64 t201)) w.heap.size (fun _ => True) v198 y197) := ⟨by (with_reducible repeat (first | apply Kd.S_alloc | apply Kd.S_drewN | apply Kd.S_drew)); exact Kd.S_mono (Kd.S_far (p := ⟨gb202, 1, none⟩) (Kd.S_far (p := ⟨gb202, 0, none⟩) (Kd.S_types HO199.out BK202.out (by decide)) (fun _ hk => hk.2) (.int .i64 t200)) (fun _ hk => hk.2) (.int .i64 t201)) (fun _ hk => trivial)⟩
      have n2_ : Aside0 (((w35.setCell ⟨gb202, 0, none⟩ (.int .i64 t200)).setCell ⟨gb202, 1, none⟩ (.int .i64 t201)).heap[gb185]? = some (.cells #[.int .i64 a0_0, .int .i64 a0_1, .slice A0_2 l0_2.length c0_2] 32 (0, 0))) := ⟨by (with_reducible repeat (first | refine blk_drewN ?_ _ | refine blk_drew ?_ | refine blk_alloc ?_ _)); refine blk_far ?_ NB185_202.out _; (with_reducible repeat (first | refine blk_drewN ?_ _ | refine blk_drew ?_ | refine blk_alloc ?_ _)); refine blk_far ?_ NB185_202.out _; (with_reducible repeat (first | refine blk_drewN ?_ _ | refine blk_drew ?_ | refine blk_alloc ?_ _)); exact BK185.out⟩
      have n3_ : Aside0 (((w35.setCell ⟨gb202, 0, none⟩ (.int .i64 t200)).setCell ⟨gb202, 1, none⟩ (.int .i64 t201)).heap[gb186]? = some (.cells #[.int .i64 x187000_1, .int .i64 x187001_1, .int .i64 x187002_1] 27 (0, 0))) := ⟨by (with_reducible repeat (first | refine blk_drewN ?_ _ | refine blk_drew ?_ | refine blk_alloc ?_ _)); refine blk_far ?_ NB186_202.out _; (with_reducible repeat (first | refine blk_drewN ?_ _ | refine blk_drew ?_ | refine blk_alloc ?_ _)); refine blk_far ?_ NB186_202.out _; (with_reducible repeat (first | refine blk_drewN ?_ _ | refine blk_drew ?_ | refine blk_alloc ?_ _)); exact BK186.out⟩
      have n4_ : Aside0 (((w35.setCell ⟨gb202, 0, none⟩ (.int .i64 t200)).setCell ⟨gb202, 1, none⟩ (.int .i64 t201)).heap[gb187]? = some (.cells #[.int .i64 x188000_1, .int .i64 x188001_1, .slice none 0 0] 32 (0, 0))) := ⟨by (with_reducible repeat (first | refine blk_drewN ?_ _ | refine blk_drew ?_ | refine blk_alloc ?_ _)); refine blk_far ?_ NB187_202.out _; (with_reducible repeat (first | refine blk_drewN ?_ _ | refine blk_drew ?_ | refine blk_alloc ?_ _)); refine blk_far ?_ NB187_202.out _; (with_reducible repeat (first | refine blk_drewN ?_ _ | refine blk_drew ?_ | refine blk_alloc ?_ _)); exact BK187.out⟩
      have n5_ : Aside0 (((w35.setCell ⟨gb202, 0, none⟩ (.int .i64 t200)).setCell ⟨gb202, 1, none⟩ (.int .i64 t201)).heap[gb193]? = some (.cells #[.int .i64 t188, .int .i64 t189, .slice Ao33 x194002_1.length co33] 32 (0, 0))) := ⟨by (with_reducible repeat (first | refine blk_drewN ?_ _ | refine blk_drew ?_ | refine blk_alloc ?_ _)); refine blk_far ?_ NB193_202.out _; (with_reducible repeat (first | refine blk_drewN ?_ _ | refine blk_drew ?_ | refine blk_alloc ?_ _)); refine blk_far ?_ NB193_202.out _; (with_reducible repeat (first | refine blk_drewN ?_ _ | refine blk_drew ?_ | refine blk_alloc ?_ _)); exact BK193.out⟩
      have n6_ : Aside0 (((w35.setCell ⟨gb202, 0, none⟩ (.int .i64 t200)).setCell ⟨gb202, 1, none⟩ (.int .i64 t201)).heap[gb202]? = some (.cells #[.int .i64 t200, .int .i64 t201] 89 (0, 0))) := ⟨by (with_reducible repeat (first | refine blk_drewN ?_ _ | refine blk_drew ?_ | refine blk_alloc ?_ _)); refine blk_put (cs := #[.int .i64 t200, .int .i64 0]) ?_ 1 _ rfl; (with_reducible repeat (first | refine blk_drewN ?_ _ | refine blk_drew ?_ | refine blk_alloc ?_ _)); refine blk_put (cs := #[.int .i64 0, .int .i64 0]) ?_ 0 _ rfl; (with_reducible repeat (first | refine blk_drewN ?_ _ | refine blk_drew ?_ | refine blk_alloc ?_ _)); exact BK202.out⟩
      have n7_ : Aside0 (Below w.heap.size w ((w35.setCell ⟨gb202, 0, none⟩ (.int .i64 t200)).setCell ⟨gb202, 1, none⟩ (.int .i64 t201))) := ⟨viaB HB⟩
      (try clear HO_194002); (try clear HO199); (try clear BK185); (try clear BK186); (try clear BK187); (try clear BK193); (try clear BK202); (try clear HB)
      generalize ((w35.setCell ⟨gb202, 0, none⟩ (.int .i64 t200)).setCell ⟨gb202, 1, none⟩ (.int .i64 t201)) = w41 at n0_ n1_ n2_ n3_ n4_ n5_ n6_ n7_ ⊢
      have HO_194002 := n0_
      have HO199 := n1_
      have BK185 := n2_
      have BK186 := n3_
      have BK187 := n4_
      have BK193 := n5_
      have BK202 := n6_
      have HB := n7_
      clear n0_ n1_ n2_ n3_ n4_ n5_ n6_ n7_
      replace HO_194002 := Aside0.mk (Kd.R_drew HO_194002.out)
      replace HO199 := Aside0.mk (Kd.S_drew HO199.out)
      replace BK185 := Aside0.mk (blk_drew BK185.out)
      replace BK186 := Aside0.mk (blk_drew BK186.out)
      replace BK187 := Aside0.mk (blk_drew BK187.out)
      replace BK193 := Aside0.mk (blk_drew BK193.out)
      replace BK202 := Aside0.mk (blk_drew BK202.out)
      replace HB := Aside0.mk (below_drew1 HB.out)
      refine start_ (n := 8) (S := fun w' => w'.cell? ⟨gb193, 0, none⟩ = some (.int .i64 t188) ∧ w'.cell? ⟨gb193, 1, none⟩ = some (.int .i64 t189) ∧ w'.cell? ⟨gb193, 2, none⟩ = some (.slice Ao33 x194002_1.length co33)) (ds := []) #[false, false, false, false, false, false, false, false] (by kernel_rfl) rfl rfl ⟨(blk_cell BK193.out 0).trans rfl, (blk_cell BK193.out 1).trans rfl, (blk_cell BK193.out 2).trans rfl⟩ (fun hHeld => ?_); refine with_tabW spec_flGo.tab10 spec_flGo.bits10 (fun HT_ HW_ => ?_)
      generalize w41.drew = w42 at HO_194002 HO199 BK185 BK186 BK187 BK193 BK202 HB hHeld ⊢
      refine pure_ (i := 0) (N := some 36) (v := ?_) (a' := ?_) #[true, false, false, false, false, false, false, false] rfl rfl (any_of HT_.out (by kernel_rfl)) (fun _ _ _ h => h) (Or.inl ⟨by rfl, ?_⟩) ?_ ?_
      rotate_left
      ·intro w'
       go_simp
       with_reducible rfl
      rotate_left
      ·simp only [Act.put, q1, q2, q3, i64_w, i32_w]
       rfl
      refine pure_ (i := 1) (N := some 37) (v := ?_) (a' := ?_) #[true, true, false, false, false, false, false, false] rfl rfl (any_of HT_.out (by kernel_rfl)) (fun _ _ _ h => h) (Or.inl ⟨by rfl, ?_⟩) ?_ ?_
      rotate_left
      ·intro w'
       go_simp
       with_reducible rfl
      rotate_left
      ·simp only [Act.put, q1, q2, q3, i64_w, i32_w]
       rfl
      refine pure_ (i := 2) (N := some 38) (v := ?_) (a' := ?_) #[true, true, true, false, false, false, false, false] rfl rfl (any_of HT_.out (by kernel_rfl)) (fun _ _ _ h => h) (Or.inl ⟨by rfl, ?_⟩) ?_ ?_
      rotate_left
      ·intro w'
       go_simp
       with_reducible rfl
      rotate_left
      ·simp only [Act.put, q1, q2, q3, i64_w, i32_w]
       rfl
      refine pure_ (i := 4) (N := some 40) (v := ?_) (a' := ?_) #[true, true, true, false, true, false, false, false] rfl rfl (any_of HT_.out (by kernel_rfl)) (fun _ _ _ h => h) (Or.inl ⟨by rfl, ?_⟩) ?_ ?_
      rotate_left
      ·intro w'
       go_simp
       with_reducible rfl
      rotate_left
      ·simp only [Act.put, q1, q2, q3, i64_w, i32_w]
       rfl
      refine take_ (i := 3) (N := some 39) (v := ?_) (a' := ?_) #[true, true, true, true, true, false, false, false] rfl rfl (take_ofW HT_.out HW_.out (by kernel_rfl)) (fun _ _ _ h => h) (Or.inl ⟨by rfl, ?_⟩) hHeld ?_ ?_
      rotate_left
      ·rintro w' ⟨s0, s1, s2⟩
       go_simp
       with_reducible rfl
      rotate_left
      ·simp only [Act.put, q1, q2, q3, i64_w, i32_w]
       rfl
      refine one_ (i := 5) (N := none) #[true, true, true, true, true, true, false, false] rfl rfl (one_of HT_.out (by kernel_rfl)) (by decide) (fun K hK => ?_)
      have hs43 : w42.cell? ⟨gb186, 0, none⟩ = some (.int .i64 x187000_1) := (blk_cell BK186.out 0).trans rfl
      have hfs43 := blk_frozen BK186.out 0
      have hns43_0 := NB185_186.out
      have hns43_2 := NB187_186.out
      have hns43_3 := NB193_186.out
      have hns43_4 := NB202_186.out
      have hms43_0 := NB186_185.out
      have hms43_2 := NB186_187.out
      have hms43_3 := NB186_193.out
      have hms43_4 := NB186_202.out
      have hs44 : w42.cell? ⟨gb186, 1, none⟩ = some (.int .i64 x187001_1) := (blk_cell BK186.out 1).trans rfl
      have hfs44 := blk_frozen BK186.out 1
      have hns44_0 := NB185_186.out
      have hns44_2 := NB187_186.out
      have hns44_3 := NB193_186.out
      have hns44_4 := NB202_186.out
      have hms44_0 := NB186_185.out
      have hms44_2 := NB186_187.out
      have hms44_3 := NB186_193.out
      have hms44_4 := NB186_202.out
      have hs45 : w42.cell? ⟨gb186, 2, none⟩ = some (.int .i64 x187002_1) := (blk_cell BK186.out 2).trans rfl
      have hfs45 := blk_frozen BK186.out 2
      have hns45_0 := NB185_186.out
      have hns45_2 := NB187_186.out
      have hns45_3 := NB193_186.out
      have hns45_4 := NB202_186.out
      have hms45_0 := NB186_185.out
      have hms45_2 := NB186_187.out
      have hms45_3 := NB186_193.out
      have hms45_4 := NB186_202.out
      refine skip_ (w1 := ?_) (by rfl) rfl ?_ ?_
      rotate_left
      ·go_simp
       rfl
      refine hK.out _ _ ⟨((cell_far (p := ⟨gb186, _, none⟩) NB193_186.out _).trans (((cell_far (p := ⟨gb186, _, none⟩) NB193_186.out _).trans (((cell_far (p := ⟨gb186, _, none⟩) NB193_186.out _).trans (hHeld.1)))))), ((cell_far (p := ⟨gb186, _, none⟩) NB193_186.out _).trans (((cell_far (p := ⟨gb186, _, none⟩) NB193_186.out _).trans (((cell_far (p := ⟨gb186, _, none⟩) NB193_186.out _).trans (hHeld.2.1)))))), ((cell_far (p := ⟨gb186, _, none⟩) NB193_186.out _).trans (((cell_far (p := ⟨gb186, _, none⟩) NB193_186.out _).trans (((cell_far (p := ⟨gb186, _, none⟩) NB193_186.out _).trans (hHeld.2.2))))))⟩ (fun hHeld => ?_)
      clear hK K
      refine one_ (i := 6) (N := none) #[true, true, true, true, true, true, true, false] rfl rfl (one_of HT_.out (by kernel_rfl)) (by decide) (fun K hK => ?_)
      have hs46 : w42.cell? ⟨gb187, 0, none⟩ = some (.int .i64 x188000_1) := (blk_cell BK187.out 0).trans rfl
      have hfs46 := blk_frozen BK187.out 0
      have hns46_0 := NB185_187.out
      have hns46_1 := NB186_187.out
      have hns46_3 := NB193_187.out
      have hns46_4 := NB202_187.out
      have hms46_0 := NB187_185.out
      have hms46_1 := NB187_186.out
      have hms46_3 := NB187_193.out
      have hms46_4 := NB187_202.out
      have hs47 : w42.cell? ⟨gb187, 1, none⟩ = some (.int .i64 x188001_1) := (blk_cell BK187.out 1).trans rfl
      have hfs47 := blk_frozen BK187.out 1
      have hns47_0 := NB185_187.out
      have hns47_1 := NB186_187.out
      have hns47_3 := NB193_187.out
      have hns47_4 := NB202_187.out
      have hms47_0 := NB187_185.out
      have hms47_1 := NB187_186.out
      have hms47_3 := NB187_193.out
      have hms47_4 := NB187_202.out
      have hs48 : w42.cell? ⟨gb187, 2, none⟩ = some (.slice none 0 0) := (blk_cell BK187.out 2).trans rfl
      have hfs48 := blk_frozen BK187.out 2
      have hns48_0 := NB185_187.out
      have hns48_1 := NB186_187.out
      have hns48_3 := NB193_187.out
      have hns48_4 := NB202_187.out
      have hms48_0 := NB187_185.out
      have hms48_1 := NB187_186.out
      have hms48_3 := NB187_193.out
      have hms48_4 := NB187_202.out
      refine skip_ (w1 := ?_) (by rfl) rfl ?_ ?_
      rotate_left
      ·go_simp
       rfl
      refine hK.out _ _ ⟨((cell_far (p := ⟨gb187, _, none⟩) NB193_187.out _).trans (((cell_far (p := ⟨gb187, _, none⟩) NB193_187.out _).trans (((cell_far (p := ⟨gb187, _, none⟩) NB193_187.out _).trans (hHeld.1)))))), ((cell_far (p := ⟨gb187, _, none⟩) NB193_187.out _).trans (((cell_far (p := ⟨gb187, _, none⟩) NB193_187.out _).trans (((cell_far (p := ⟨gb187, _, none⟩) NB193_187.out _).trans (hHeld.2.1)))))), ((cell_far (p := ⟨gb187, _, none⟩) NB193_187.out _).trans (((cell_far (p := ⟨gb187, _, none⟩) NB193_187.out _).trans (((cell_far (p := ⟨gb187, _, none⟩) NB193_187.out _).trans (hHeld.2.2))))))⟩ (fun hHeld => ?_)
      clear hK K
      refine pure_ (i := 7) (N := some 8) (v := ?_) (a' := ?_) #[true, true, true, true, true, true, true, true] rfl rfl (any_of HT_.out (by kernel_rfl)) (fun _ _ _ h => h) (Or.inl ⟨by rfl, ?_⟩) ?_ ?_
      rotate_left
      ·intro w'
       go_simp
       with_reducible rfl
      rotate_left
      ·simp only [Act.put, q1, q2, q3, i64_w, i32_w]
       rfl
      refine done_ (done_of HT_.out (by kernel_rfl)) ?_
      try go_wp2
      refine bodyPost_ret (results_list (rs := [.cell 6 27, .cell 7 32, .tmp 8]) rfl (by simp) (.cell gb186 27 #[.int .i64 2, .int .i64 x12_1, .int .i64 x2_1] (0, 0) _ rfl (by (with_reducible repeat (first | refine blk_drewN ?_ _ | refine blk_drew ?_ | refine blk_alloc ?_ _)); refine blk_far ?_ NB186_187.out _; (with_reducible repeat (first | refine blk_drewN ?_ _ | refine blk_drew ?_ | refine blk_alloc ?_ _)); refine blk_far ?_ NB186_187.out _; (with_reducible repeat (first | refine blk_drewN ?_ _ | refine blk_drew ?_ | refine blk_alloc ?_ _)); refine blk_far ?_ NB186_187.out _; (with_reducible repeat (first | refine blk_drewN ?_ _ | refine blk_drew ?_ | refine blk_alloc ?_ _)); refine blk_put (cs := #[.int .i64 2, .int .i64 x12_1, .int .i64 x187002_1]) ?_ 2 _ rfl; (with_reducible repeat (first | refine blk_drewN ?_ _ | refine blk_drew ?_ | refine blk_alloc ?_ _)); refine blk_put (cs := #[.int .i64 2, .int .i64 x187001_1, .int .i64 x187002_1]) ?_ 1 _ rfl; (with_reducible repeat (first | refine blk_drewN ?_ _ | refine blk_drew ?_ | refine blk_alloc ?_ _)); refine blk_put (cs := #[.int .i64 x187000_1, .int .i64 x187001_1, .int .i64 x187002_1]) ?_ 0 _ rfl; (with_reducible repeat (first | refine blk_drewN ?_ _ | refine blk_drew ?_ | refine blk_alloc ?_ _)); exact BK186.out) Try.underlying27 rfl (by kernel_rfl) (.cell gb187 32 #[.int .i64 t188, .int .i64 t189, .slice Ao33 x194002_1.length co33] (0, 0) _ rfl (by (with_reducible repeat (first | refine blk_drewN ?_ _ | refine blk_drew ?_ | refine blk_alloc ?_ _)); refine blk_put (cs := #[.int .i64 t188, .int .i64 t189, .slice none 0 0]) ?_ 2 _ rfl; (with_reducible repeat (first | refine blk_drewN ?_ _ | refine blk_drew ?_ | refine blk_alloc ?_ _)); refine blk_put (cs := #[.int .i64 t188, .int .i64 x188001_1, .slice none 0 0]) ?_ 1 _ rfl; (with_reducible repeat (first | refine blk_drewN ?_ _ | refine blk_drew ?_ | refine blk_alloc ?_ _)); refine blk_put (cs := #[.int .i64 x188000_1, .int .i64 x188001_1, .slice none 0 0]) ?_ 0 _ rfl; (with_reducible repeat (first | refine blk_drewN ?_ _ | refine blk_drew ?_ | refine blk_alloc ?_ _)); refine blk_far ?_ NB187_186.out _; (with_reducible repeat (first | refine blk_drewN ?_ _ | refine blk_drew ?_ | refine blk_alloc ?_ _)); refine blk_far ?_ NB187_186.out _; (with_reducible repeat (first | refine blk_drewN ?_ _ | refine blk_drew ?_ | refine blk_alloc ?_ _)); refine blk_far ?_ NB187_186.out _; (with_reducible repeat (first | refine blk_drewN ?_ _ | refine blk_drew ?_ | refine blk_alloc ?_ _)); exact BK187.out) Try.underlying32 rfl (by kernel_rfl) (.tmp .nil)))) rfl ?_
      exact ⟨_, _, by first | rfl | (simp [errW_none, errW_some] <;> rfl) | (simp [*, errW_none, errW_some] <;> rfl), by (with_reducible repeat (first | apply Kd.R_alloc | apply Kd.R_drewN | apply Kd.R_drew)); exact Kd.R_mono (Kd.R_far (p := ⟨gb187, 2, none⟩) (Kd.R_far (p := ⟨gb187, 1, none⟩) (Kd.R_far (p := ⟨gb187, 0, none⟩) (Kd.R_far (p := ⟨gb186, 2, none⟩) (Kd.R_far (p := ⟨gb186, 1, none⟩) (Kd.R_far (p := ⟨gb186, 0, none⟩) (Kd.R_types (Kd.R_types HO_194002.out BK186.out (by decide)) BK187.out (by decide)) (fun _ hk => hk.1.2) (.int .i64 2)) (fun _ hk => hk.1.2) (.int .i64 x12_1)) (fun _ hk => hk.1.2) (.int .i64 x2_1)) (fun _ hk => hk.2) (.int .i64 t188)) (fun _ hk => hk.2) (.int .i64 t189)) (fun _ hk => hk.2) (.slice Ao33 x194002_1.length co33)) (fun _ hk => trivial), by (with_reducible repeat (first | apply Kd.S_alloc | apply Kd.S_drewN | apply Kd.S_drew)); exact Kd.S_mono (Kd.S_far (p := ⟨gb187, 2, none⟩) (Kd.S_far (p := ⟨gb187, 1, none⟩) (Kd.S_far (p := ⟨gb187, 0, none⟩) (Kd.S_far (p := ⟨gb186, 2, none⟩) (Kd.S_far (p := ⟨gb186, 1, none⟩) (Kd.S_far (p := ⟨gb186, 0, none⟩) (Kd.S_types (Kd.S_types HO199.out BK186.out (by decide)) BK187.out (by decide)) (fun _ hk => hk.1.2) (.int .i64 2)) (fun _ hk => hk.1.2) (.int .i64 x12_1)) (fun _ hk => hk.1.2) (.int .i64 x2_1)) (fun _ hk => hk.2) (.int .i64 t188)) (fun _ hk => hk.2) (.int .i64 t189)) (fun _ hk => hk.2) (.slice Ao33 x194002_1.length co33)) (fun _ hk => trivial), viaB HB⟩
     ·rw [if_neg c21] at H
      have c21b0 := beq_eq_false_iff_ne.mpr c21
      have c21b1 := bne_iff_ne.mpr c21
      replace H := Option.bind_eq_some_iff.mp H
      obtain ⟨t203, A490, H⟩ := H
      replace H : ((spec_flPass.f k1 t188 t189 x194002_1 l1 (wrap64 ((wrap64 (x12_1 * a0_1)) + x2_1))).bind fun t204 => ((spec_l1In.f (wrap64 (x2_1 + t203)) 0 (wrap64 (a0_1 - 1))).bind fun t205 => (if t205 = true then (spec_flGo.l0 k1 l1 (wrap64 (x2_1 + t203)) y197 (wrap64 (-t203)) (wrap64 (x12_1 + 1)) a0_0 a0_1 l0_2 t188 t189 t204) else (some (3, x12_1, wrap64 (x2_1 + t203), t188, t189, t204, y197))))) = some (r1, r2, r3, r4, r5, r6, r7) := H
      have A49 := Aside0.mk A490
      clear A490
      replace H := Option.bind_eq_some_iff.mp H
      obtain ⟨t204, A500, H⟩ := H
      replace H : ((spec_l1In.f (wrap64 (x2_1 + t203)) 0 (wrap64 (a0_1 - 1))).bind fun t205 => (if t205 = true then (spec_flGo.l0 k1 l1 (wrap64 (x2_1 + t203)) y197 (wrap64 (-t203)) (wrap64 (x12_1 + 1)) a0_0 a0_1 l0_2 t188 t189 t204) else (some (3, x12_1, wrap64 (x2_1 + t203), t188, t189, t204, y197)))) = some (r1, r2, r3, r4, r5, r6, r7) := H
      have A50 := Aside0.mk A500
      clear A500
      replace H := Option.bind_eq_some_iff.mp H
      obtain ⟨t205, A510, H⟩ := H
      replace H : (if t205 = true then (spec_flGo.l0 k1 l1 (wrap64 (x2_1 + t203)) y197 (wrap64 (-t203)) (wrap64 (x12_1 + 1)) a0_0 a0_1 l0_2 t188 t189 t204) else (some (3, x12_1, wrap64 (x2_1 + t203), t188, t189, t204, y197))) = some (r1, r2, r3, r4, r5, r6, r7) := H
      have A51 := Aside0.mk A510
      clear A510
      by_cases c52 : t205 = true
      ·subst c52
       have H1 : (spec_flGo.l0 k1 l1 (wrap64 (x2_1 + t203)) y197 (wrap64 (-t203)) (wrap64 (x12_1 + 1)) a0_0 a0_1 l0_2 t188 t189 t204) = some (r1, r2, r3, r4, r5, r6, r7) := by rw [if_pos rfl] at H; exact H
       clear H
       have H := H1
       clear H1
       have H' := Aside0.mk H
       clear H
       have hnb53 := NB185_186.out
       have hnc53 := NB186_185.out
       have hnb54 := NB185_187.out
       have hnc54 := NB187_185.out
       have hnb55 := NB185_193.out
       have hnc55 := NB193_185.out
       have hcz56_0 := bc0 BK185
       have hcz56_1 := bc1 BK185
       have hcz56_2 := bc2 BK185
       have hfz56_0 := blk_frozen BK185.out 0
       have hfz56_1 := blk_frozen BK185.out 1
       have hfz56_2 := blk_frozen BK185.out 2
       go_wp2_with (first | ((with_reducible refine gate_dst (N := 26) rfl ?_); refine Kd.R_lit (Kd.int .i64) _ 3 ?hg (N := 26) ?hd (xs := ([x12_1, x2_1] : List Int)) (inner := [.int .i64 x12_1, .int .i64 x2_1]) (ok := fun _ => True) (okp := fun _ => True) ?hr ?hp (fun _ hk => hk) trivial (Below.refl _ _) (Nat.le_refl _) (by simp) ?_; (case hd => rfl); (case hg => rfl); (case hr => first | (go_simp; done) | (go_simp; rfl)); (case hp => exact (Reps.one (show Kd.M (Kd.int .i64) _ _ _ x12_1 [.int .i64 x12_1] from rfl) (Reps.one (show Kd.M (Kd.int .i64) _ _ _ x2_1 [.int .i64 x2_1] from rfl) (Reps.none _ _)))); intro v195 w57 ho58 hb hg_ hnew_; clear hg_ hnew_; (first | rw [← Ny194.out] at ho58 | (simp only [Int.reduceToNat] at ho58; rw [← Ny194.out] at ho58)); have HO196 := Aside0.mk (Kd.R_lower ho58 (below_size (viaB HB))); replace HO_10 := Aside0.mk (Kd.S_elder' (viaS HO_10) (Kd.R_base ho58) hb); replace HO_194002 := Aside0.mk (Kd.R_below (viaR HO_194002) hb); replace BK185 := kB BK185 hb; replace BK186 := kB BK186 hb; replace BK187 := kB BK187 hb; replace BK193 := kB BK193 hb; replace HB := bB HB hb; clear hb ho58; obtain ⟨Ao60, co60, eo60⟩ := Kd.R_slice HO196.out; subst eo60) | ((with_reducible refine gate_builtin (b := .append) (xs := #[.tmp 23, .tmp 27]) rfl ?_); at_builtin; refine Kd.S_append (Kd.slice 3 (Kd.int .i64)) (w0 := w) w.heap.size rfl (.tmp 23) (.tmp 27) 54 43 (.slice none 0 0) 24 rfl Try.underlying54 info43 rfl (by decide) (by omega) u10 x10_1 y194 [.slice Ao60 y194.length co60] (fun _ => True) (fun k_ => some k_ = (.slice Ao60 y194.length co60 : Value).ownBlock) rfl rfl ?aP (fun k_ hk_ => ((Kd.R_mono (ok' := fun k_ => ((fun _ => True)) k_ ∧ some k_ ≠ (u10 : Value).ownBlock) (Kd.R_apart' (HO196.out) (Kd.S_typed HO_10.out) (by decide)) (fun k_ hk => ⟨trivial, hk.2⟩))).1 k_ hk_.symm) ?aF ?aO ?aB ?aS ?aL ?_; (case aP => exact Kd.M_row (Kd.R_mono (Kd.R_tight rfl (Kd.R_mono (ok' := fun k_ => ((fun _ => True)) k_ ∧ some k_ ≠ (u10 : Value).ownBlock) (Kd.R_apart' (HO196.out) (Kd.S_typed HO_10.out) (by decide)) (fun k_ hk => ⟨trivial, hk.2⟩))) (fun _ h_ => h_))); (case aB => exact (viaB HB)); (case aF => exact (fun _ _ => trivial)); (case aO => exact (by (with_reducible repeat (first | apply Kd.S_alloc | apply Kd.S_drewN | apply Kd.S_drew)); exact Kd.S_mono HO_10.out (fun k_ hk => ⟨trivial, fun e_ => hk.2 e_⟩))); (case aS => exact (below_size (viaB HB))); (case aL => have := LMc19.out; omega); intro v198 w59 ho hb hg hat; rw [← Ny197.out] at ho; have HO199 := Aside0.mk (ho); replace HO_194002 := Aside0.mk (Kd.R_over' (viaR HO_194002) (Kd.S_typed (viaS HO_10)) (by decide) hg); replace BK185 := Aside0.mk (blk_grown (g := gb185) (o := .cells #[.int .i64 a0_0, .int .i64 a0_1, .slice A0_2 l0_2.length c0_2] 32 (0, 0)) (viaK BK185) hg (Kd.S_ne HO_10.out BK185.out (by decide))); replace BK186 := Aside0.mk (blk_grown (g := gb186) (o := .cells #[.int .i64 x187000_1, .int .i64 x187001_1, .int .i64 x187002_1] 27 (0, 0)) (viaK BK186) hg (Kd.S_ne HO_10.out BK186.out (by decide))); replace BK187 := Aside0.mk (blk_grown (g := gb187) (o := .cells #[.int .i64 x188000_1, .int .i64 x188001_1, .slice none 0 0] 32 (0, 0)) (viaK BK187) hg (Kd.S_ne HO_10.out BK187.out (by decide))); replace BK193 := Aside0.mk (blk_grown (g := gb193) (o := .cells #[.int .i64 t188, .int .i64 t189, u194002] 32 (0, 0)) (viaK BK193) hg (Kd.S_ne HO_10.out BK193.out (by decide))); replace HB := Aside0.mk (hb); clear HO_10 HO196; clear ho hb hg hat; have hnb61 := NB193_186.out; have hnc61 := NB186_193.out; have hnb62 := NB193_187.out; have hnc62 := NB187_193.out; have hcz63_0 := bc0 BK193; have hcz63_1 := bc1 BK193; have hcz63_2 := bc2 BK193; have hfz63_0 := blk_frozen BK193.out 0; have hfz63_1 := blk_frozen BK193.out 1; have hfz63_2 := blk_frozen BK193.out 2; obtain ⟨Ao64, co64, eo64⟩ := Kd.R_slice HO_194002.out; subst eo64) | ((with_reducible refine gate_callee (f := 83) rfl ?_); refine goesA (some 32) _ #[.agg #[.int .i64 t188, .int .i64 t189, .slice Ao64 x194002_1.length co64], .int .i64 x12_1, .int .i64 x2_1] ?_ Try.func83; (with_reducible refine (spec_boAt.calls t188 t189 _ _ x194002_1 x12_1 x2_1 t200 t201 _ ?side1 ?side2 A20.out).mono ?_); (case side1 => repeat (first | exact (Kd.R_reads' HO_194002.out).2.2 | (with_reducible refine Kd.C_alloc ?_ _) | (with_reducible refine Kd.C_drewN ?_ _) | (with_reducible refine Kd.C_drew ?_))); (case side2 => exact (Kd.R_reads' HO_194002.out).2.1); rintro e w65 ⟨rfl, hb⟩; refine ⟨_, rfl, ?_⟩; replace HO_194002 := Aside0.mk (Kd.R_below (viaR HO_194002) hb); replace HO199 := Aside0.mk (Kd.S_below (viaS HO199) hb); replace BK185 := kB BK185 hb; replace BK186 := kB BK186 hb; replace BK187 := kB BK187 hb; replace BK193 := kB BK193 hb; replace HB := bB HB hb; (try clear hb); (try clear hb2); (try clear hk); (try clear hi)) | ((with_reducible refine gate_dst (N := 13) rfl ?_); refine box_ev (N := 13) (cs := #[.int .i64 0, .int .i64 0]) (t := 89) ?_; intro gb202 hg w66 hbox hb; have BK202 := Aside0.mk (hbox); have GW202 := gW (w := w) HB hg; have GE202 := gW (w := w) HB hg; have NB185_202 := neL BK185 hg; have NB202_185 := neG BK185 hg; have NB186_202 := neL BK186 hg; have NB202_186 := neG BK186 hg; have NB187_202 := neL BK187 hg; have NB202_187 := neG BK187 hg; have NB193_202 := neL BK193 hg; have NB202_193 := neG BK193 hg; replace HO_194002 := Aside0.mk (Kd.R_below (Kd.R_elderB (viaR HO_194002) gb202 (Nat.le_of_eq hg.symm)) hb); replace HO199 := Aside0.mk (Kd.S_below (viaS HO199) hb); replace BK185 := kB BK185 hb; replace BK186 := kB BK186 hb; replace BK187 := kB BK187 hb; replace BK193 := kB BK193 hb; replace HB := bB HB hb; clear hb hbox hg; have hnb67 := NB202_185.out; have hnc67 := NB185_202.out; have hnb68 := NB202_186.out; have hnc68 := NB186_202.out; have hnb69 := NB202_187.out; have hnc69 := NB187_202.out; have hnb70 := NB202_193.out; have hnc70 := NB193_202.out; have hcz71_0 := bc0 BK202; have hcz71_1 := bc1 BK202; have hfz71_0 := blk_frozen BK202.out 0; have hfz71_1 := blk_frozen BK202.out 1) | ((with_reducible refine gate_callee (f := 84) rfl ?_); refine goesA (some 43) _ #[.agg #[.int .i64 t200, .int .i64 t201], .int .i64 x11_1] ?_ Try.func84; (with_reducible refine (spec_paGoes.calls k1 t200 t201 x11_1 t203 _ A49.out).mono ?_); rintro e w72 ⟨rfl, hb⟩; refine ⟨_, rfl, ?_⟩; replace HO_194002 := Aside0.mk (Kd.R_below (by (with_reducible repeat (first | apply Kd.R_alloc | apply Kd.R_drewN | apply Kd.R_drew)); exact (Kd.R_mono (Kd.R_far (p := ⟨gb202, 1, none⟩) (Kd.R_far (p := ⟨gb202, 0, none⟩) (Kd.R_mono HO_194002.out (fun k_ hk => (⟨hk, hk.2⟩ : _ ∧ k_ ≠ gb202))) (fun _ hk => hk.2) (.int .i64 t200)) (fun _ hk => hk.2) (.int .i64 t201)) (fun _ h_ => h_.1))) hb); replace HO199 := Aside0.mk (Kd.S_below (by (with_reducible repeat (first | apply Kd.S_alloc | apply Kd.S_drewN | apply Kd.S_drew)); exact (Kd.S_mono (Kd.S_far (p := ⟨gb202, 1, none⟩) (Kd.S_far (p := ⟨gb202, 0, none⟩) (Kd.S_types HO199.out BK202.out (by decide)) (fun _ hk => hk.2) (.int .i64 t200)) (fun _ hk => hk.2) (.int .i64 t201)) (fun _ h_ => h_.1))) hb); replace BK185 := Aside0.mk (blk_below (g := gb185) (o := .cells #[.int .i64 a0_0, .int .i64 a0_1, .slice A0_2 l0_2.length c0_2] 32 (0, 0)) (by (with_reducible repeat (first | refine blk_drewN ?_ _ | refine blk_drew ?_ | refine blk_alloc ?_ _)); refine blk_far ?_ NB185_202.out _; (with_reducible repeat (first | refine blk_drewN ?_ _ | refine blk_drew ?_ | refine blk_alloc ?_ _)); refine blk_far ?_ NB185_202.out _; (with_reducible repeat (first | refine blk_drewN ?_ _ | refine blk_drew ?_ | refine blk_alloc ?_ _)); exact BK185.out) hb); replace BK186 := Aside0.mk (blk_below (g := gb186) (o := .cells #[.int .i64 x187000_1, .int .i64 x187001_1, .int .i64 x187002_1] 27 (0, 0)) (by (with_reducible repeat (first | refine blk_drewN ?_ _ | refine blk_drew ?_ | refine blk_alloc ?_ _)); refine blk_far ?_ NB186_202.out _; (with_reducible repeat (first | refine blk_drewN ?_ _ | refine blk_drew ?_ | refine blk_alloc ?_ _)); refine blk_far ?_ NB186_202.out _; (with_reducible repeat (first | refine blk_drewN ?_ _ | refine blk_drew ?_ | refine blk_alloc ?_ _)); exact BK186.out) hb); replace BK187 := Aside0.mk (blk_below (g := gb187) (o := .cells #[.int .i64 x188000_1, .int .i64 x188001_1, .slice none 0 0] 32 (0, 0)) (by (with_reducible repeat (first | refine blk_drewN ?_ _ | refine blk_drew ?_ | refine blk_alloc ?_ _)); refine blk_far ?_ NB187_202.out _; (with_reducible repeat (first | refine blk_drewN ?_ _ | refine blk_drew ?_ | refine blk_alloc ?_ _)); refine blk_far ?_ NB187_202.out _; (with_reducible repeat (first | refine blk_drewN ?_ _ | refine blk_drew ?_ | refine blk_alloc ?_ _)); exact BK187.out) hb); replace BK193 := Aside0.mk (blk_below (g := gb193) (o := .cells #[.int .i64 t188, .int .i64 t189, .slice Ao64 x194002_1.length co64] 32 (0, 0)) (by (with_reducible repeat (first | refine blk_drewN ?_ _ | refine blk_drew ?_ | refine blk_alloc ?_ _)); refine blk_far ?_ NB193_202.out _; (with_reducible repeat (first | refine blk_drewN ?_ _ | refine blk_drew ?_ | refine blk_alloc ?_ _)); refine blk_far ?_ NB193_202.out _; (with_reducible repeat (first | refine blk_drewN ?_ _ | refine blk_drew ?_ | refine blk_alloc ?_ _)); exact BK193.out) hb); replace BK202 := Aside0.mk (blk_below (g := gb202) (o := .cells #[.int .i64 t200, .int .i64 t201] 89 (0, 0)) (by (with_reducible repeat (first | refine blk_drewN ?_ _ | refine blk_drew ?_ | refine blk_alloc ?_ _)); refine blk_put (cs := #[.int .i64 t200, .int .i64 0]) ?_ 1 _ rfl; (with_reducible repeat (first | refine blk_drewN ?_ _ | refine blk_drew ?_ | refine blk_alloc ?_ _)); refine blk_put (cs := #[.int .i64 0, .int .i64 0]) ?_ 0 _ rfl; (with_reducible repeat (first | refine blk_drewN ?_ _ | refine blk_drew ?_ | refine blk_alloc ?_ _)); exact BK202.out) hb); replace HB := bB HB hb; (try clear hb); (try clear hb2); (try clear hk); (try clear hi); have hcz73_0 := bc0 BK193; have hcz73_1 := bc1 BK193; have hcz73_2 := bc2 BK193; have hfz73_0 := blk_frozen BK193.out 0; have hfz73_1 := blk_frozen BK193.out 1; have hfz73_2 := blk_frozen BK193.out 2; have hcz74_0 := bc0 BK185; have hcz74_1 := bc1 BK185; have hcz74_2 := bc2 BK185; have hfz74_0 := blk_frozen BK185.out 0; have hfz74_1 := blk_frozen BK185.out 1; have hfz74_2 := blk_frozen BK185.out 2) | ((with_reducible refine gate_callee (f := 85) rfl ?_); refine goesA (some 52) _ #[.agg #[.int .i64 t188, .int .i64 t189, .slice Ao64 x194002_1.length co64], .slice A1 l1.length c1, .int .i64 (wrap64 ((wrap64 (x12_1 * a0_1)) + x2_1))] ?_ Try.func85; (with_reducible refine (spec_flPass.calls k1 t188 t189 (fun k_ => some k_ = (.slice Ao64 x194002_1.length co64 : Value).ownBlock) (.slice Ao64 x194002_1.length co64) x194002_1 _ _ l1 (wrap64 ((wrap64 (x12_1 * a0_1)) + x2_1)) t204 w _ ?side1 ?side2 ?side3 ?side4 A50.out).mono ?_); (case side1 => repeat (first | (with_reducible first | exact HB.out | apply below_alloc | apply pw_below_drewN | apply below_drew1 | refine below_set ?_ GE185.out | refine below_set ?_ GE186.out | refine below_set ?_ GE187.out | refine below_set ?_ GE193.out | refine below_set ?_ GE202.out) | exact HB.out)); (case side2 => exact Kd.R_tight rfl HO_194002.out); (case side3 => exact Kd.C_kept_came (Kd.heap_int .i64) HR1.out (viaB HB) (fun k_ hs_ => (fun e_ => Kd.R_base HO_194002.out k_ e_.symm) hs_)); (case side4 => exact HC1.out); rintro e w75 ⟨rfl, hy0, hb, hkp⟩; refine ⟨_, rfl, ?_⟩; replace BK185 := Aside0.mk (blk_kept (viaK BK185) hkp (fun hs_ => (fun e_ => (Kd.R_ne HO_194002.out BK185.out (by decide)) e_) hs_)); replace BK186 := Aside0.mk (blk_kept (viaK BK186) hkp (fun hs_ => (fun e_ => (Kd.R_ne HO_194002.out BK186.out (by decide)) e_) hs_)); replace BK187 := Aside0.mk (blk_kept (viaK BK187) hkp (fun hs_ => (fun e_ => (Kd.R_ne HO_194002.out BK187.out (by decide)) e_) hs_)); replace BK193 := Aside0.mk (blk_kept (viaK BK193) hkp (fun hs_ => (fun e_ => (Kd.R_ne HO_194002.out BK193.out (by decide)) e_) hs_)); replace HO199 := Aside0.mk (Kd.S_mono (ok' := fun k_ => True) (Kd.S_keptB ((Kd.S_apart' HO199.out (Kd.R_typed HO_194002.out) (by decide))) hkp (fun k_ hk_ hs_ => (hk_.2) hs_)) (fun k_ hk_ => trivial)); replace BK202 := Aside0.mk (blk_kept (viaK BK202) hkp (fun hs_ => (fun e_ => (Kd.R_away HO_194002.out (fun _ hk => hk.2)) e_) hs_)); replace HO_194002 := Aside0.mk (Kd.R_reok rfl hy0 (fun k_ e_ => HO_194002.out.1 k_ e_)); replace HB := Aside0.mk (hb); (try clear hb); (try clear hkp); (try clear hy0); have hcz76_0 := bc0 BK185; have hcz76_1 := bc1 BK185; have hcz76_2 := bc2 BK185; have hfz76_0 := blk_frozen BK185.out 0; have hfz76_1 := blk_frozen BK185.out 1; have hfz76_2 := blk_frozen BK185.out 2) | ((with_reducible refine gate_callee (f := 71) rfl ?_); refine goesA (some 62) _ #[.int .i64 (wrap64 (x2_1 + t203)), .int .i64 0, .int .i64 (wrap64 (a0_1 - 1))] ?_ Try.func71; (with_reducible refine (spec_l1In.calls (wrap64 (x2_1 + t203)) 0 (wrap64 (a0_1 - 1)) true _ A51.out).mono ?_); rintro e w' ⟨rfl, ⟨nd, rfl⟩⟩; refine ⟨_, rfl, ?_⟩))
       go_roundg k1
       case measure => have := HK1.out; omega
       case rel => exact ⟨(wrap64 (x2_1 + t203)), (y197), (wrap64 (-t203)), (wrap64 (x12_1 + 1)), (x187000_1), (x187001_1), (x187002_1), (x188000_1), (x188001_1), (t204), (.slice Ao64 x194002_1.length co64), (by first | rfl | (simp; done) | (simp [*]; done)), (by first | rfl | (simp; done) | (simp [*]; done)), (by first | rfl | (simp; done) | (simp [*]; done)), H', ⟨by have := HK1.out; omega⟩, ⟨viaS HO199⟩, ⟨by (with_reducible repeat (first | apply Kd.R_alloc | apply Kd.R_drewN | apply Kd.R_drew)); exact Kd.R_mono HO_194002.out (fun _ hk => trivial)⟩, ⟨viaK BK185⟩, ⟨viaK BK186⟩, ⟨viaK BK187⟩, ⟨viaK BK193⟩, ⟨viaB HB⟩⟩
      ·replace c52 := Bool.eq_false_iff.mpr c52
       subst c52
       have H1 : (some (3, x12_1, wrap64 (x2_1 + t203), t188, t189, t204, y197)) = some (r1, r2, r3, r4, r5, r6, r7) := by rw [if_neg (show ¬ (false = true) by decide)] at H; exact H
       clear H
       have H := H1
       clear H1
       simp only [Option.some.injEq, Prod.mk.injEq] at H
       obtain ⟨rfl, rfl, rfl, rfl, rfl, rfl, rfl⟩ := H
       have hnb77 := NB185_186.out
       have hnc77 := NB186_185.out
       have hnb78 := NB185_187.out
       have hnc78 := NB187_185.out
       have hnb79 := NB185_193.out
       have hnc79 := NB193_185.out
       have hcz80_0 := bc0 BK185
       have hcz80_1 := bc1 BK185
       have hcz80_2 := bc2 BK185
       have hfz80_0 := blk_frozen BK185.out 0
       have hfz80_1 := blk_frozen BK185.out 1
       have hfz80_2 := blk_frozen BK185.out 2
       try go_wp2_with (first | ((with_reducible refine gate_dst (N := 26) rfl ?_); refine Kd.R_lit (Kd.int .i64) _ 3 ?hg (N := 26) ?hd (xs := ([x12_1, x2_1] : List Int)) (inner := [.int .i64 x12_1, .int .i64 x2_1]) (ok := fun _ => True) (okp := fun _ => True) ?hr ?hp (fun _ hk => hk) trivial (Below.refl _ _) (Nat.le_refl _) (by simp) ?_; (case hd => rfl); (case hg => rfl); (case hr => first | (go_simp; done) | (go_simp; rfl)); (case hp => exact (Reps.one (show Kd.M (Kd.int .i64) _ _ _ x12_1 [.int .i64 x12_1] from rfl) (Reps.one (show Kd.M (Kd.int .i64) _ _ _ x2_1 [.int .i64 x2_1] from rfl) (Reps.none _ _)))); intro v195 w81 ho82 hb hg_ hnew_; clear hg_ hnew_; (first | rw [← Ny194.out] at ho82 | (simp only [Int.reduceToNat] at ho82; rw [← Ny194.out] at ho82)); have HO196 := Aside0.mk (Kd.R_lower ho82 (below_size (viaB HB))); replace HO_10 := Aside0.mk (Kd.S_elder' (viaS HO_10) (Kd.R_base ho82) hb); replace HO_194002 := Aside0.mk (Kd.R_below (viaR HO_194002) hb); replace BK185 := kB BK185 hb; replace BK186 := kB BK186 hb; replace BK187 := kB BK187 hb; replace BK193 := kB BK193 hb; replace HB := bB HB hb; clear hb ho82; obtain ⟨Ao84, co84, eo84⟩ := Kd.R_slice HO196.out; subst eo84) | ((with_reducible refine gate_builtin (b := .append) (xs := #[.tmp 23, .tmp 27]) rfl ?_); at_builtin; refine Kd.S_append (Kd.slice 3 (Kd.int .i64)) (w0 := w) w.heap.size rfl (.tmp 23) (.tmp 27) 54 43 (.slice none 0 0) 24 rfl Try.underlying54 info43 rfl (by decide) (by omega) u10 x10_1 y194 [.slice Ao84 y194.length co84] (fun _ => True) (fun k_ => some k_ = (.slice Ao84 y194.length co84 : Value).ownBlock) rfl rfl ?aP (fun k_ hk_ => ((Kd.R_mono (ok' := fun k_ => ((fun _ => True)) k_ ∧ some k_ ≠ (u10 : Value).ownBlock) (Kd.R_apart' (HO196.out) (Kd.S_typed HO_10.out) (by decide)) (fun k_ hk => ⟨trivial, hk.2⟩))).1 k_ hk_.symm) ?aF ?aO ?aB ?aS ?aL ?_; (case aP => exact Kd.M_row (Kd.R_mono (Kd.R_tight rfl (Kd.R_mono (ok' := fun k_ => ((fun _ => True)) k_ ∧ some k_ ≠ (u10 : Value).ownBlock) (Kd.R_apart' (HO196.out) (Kd.S_typed HO_10.out) (by decide)) (fun k_ hk => ⟨trivial, hk.2⟩))) (fun _ h_ => h_))); (case aB => exact (viaB HB)); (case aF => exact (fun _ _ => trivial)); (case aO => exact (by (with_reducible repeat (first | apply Kd.S_alloc | apply Kd.S_drewN | apply Kd.S_drew)); exact Kd.S_mono HO_10.out (fun k_ hk => ⟨trivial, fun e_ => hk.2 e_⟩))); (case aS => exact (below_size (viaB HB))); (case aL => have := LMc19.out; omega); intro v198 w83 ho hb hg hat; rw [← Ny197.out] at ho; have HO199 := Aside0.mk (ho); replace HO_194002 := Aside0.mk (Kd.R_over' (viaR HO_194002) (Kd.S_typed (viaS HO_10)) (by decide) hg); replace BK185 := Aside0.mk (blk_grown (g := gb185) (o := .cells #[.int .i64 a0_0, .int .i64 a0_1, .slice A0_2 l0_2.length c0_2] 32 (0, 0)) (viaK BK185) hg (Kd.S_ne HO_10.out BK185.out (by decide))); replace BK186 := Aside0.mk (blk_grown (g := gb186) (o := .cells #[.int .i64 x187000_1, .int .i64 x187001_1, .int .i64 x187002_1] 27 (0, 0)) (viaK BK186) hg (Kd.S_ne HO_10.out BK186.out (by decide))); replace BK187 := Aside0.mk (blk_grown (g := gb187) (o := .cells #[.int .i64 x188000_1, .int .i64 x188001_1, .slice none 0 0] 32 (0, 0)) (viaK BK187) hg (Kd.S_ne HO_10.out BK187.out (by decide))); replace BK193 := Aside0.mk (blk_grown (g := gb193) (o := .cells #[.int .i64 t188, .int .i64 t189, u194002] 32 (0, 0)) (viaK BK193) hg (Kd.S_ne HO_10.out BK193.out (by decide))); replace HB := Aside0.mk (hb); clear HO_10 HO196; clear ho hb hg hat; have hnb85 := NB193_186.out; have hnc85 := NB186_193.out; have hnb86 := NB193_187.out; have hnc86 := NB187_193.out; have hcz87_0 := bc0 BK193; have hcz87_1 := bc1 BK193; have hcz87_2 := bc2 BK193; have hfz87_0 := blk_frozen BK193.out 0; have hfz87_1 := blk_frozen BK193.out 1; have hfz87_2 := blk_frozen BK193.out 2; obtain ⟨Ao88, co88, eo88⟩ := Kd.R_slice HO_194002.out; subst eo88) | ((with_reducible refine gate_callee (f := 83) rfl ?_); refine goesA (some 32) _ #[.agg #[.int .i64 t188, .int .i64 t189, .slice Ao88 x194002_1.length co88], .int .i64 x12_1, .int .i64 x2_1] ?_ Try.func83; (with_reducible refine (spec_boAt.calls t188 t189 _ _ x194002_1 x12_1 x2_1 t200 t201 _ ?side1 ?side2 A20.out).mono ?_); (case side1 => repeat (first | exact (Kd.R_reads' HO_194002.out).2.2 | (with_reducible refine Kd.C_alloc ?_ _) | (with_reducible refine Kd.C_drewN ?_ _) | (with_reducible refine Kd.C_drew ?_))); (case side2 => exact (Kd.R_reads' HO_194002.out).2.1); rintro e w89 ⟨rfl, hb⟩; refine ⟨_, rfl, ?_⟩; replace HO_194002 := Aside0.mk (Kd.R_below (viaR HO_194002) hb); replace HO199 := Aside0.mk (Kd.S_below (viaS HO199) hb); replace BK185 := kB BK185 hb; replace BK186 := kB BK186 hb; replace BK187 := kB BK187 hb; replace BK193 := kB BK193 hb; replace HB := bB HB hb; (try clear hb); (try clear hb2); (try clear hk); (try clear hi)) | ((with_reducible refine gate_dst (N := 13) rfl ?_); refine box_ev (N := 13) (cs := #[.int .i64 0, .int .i64 0]) (t := 89) ?_; intro gb202 hg w90 hbox hb; have BK202 := Aside0.mk (hbox); have GW202 := gW (w := w) HB hg; have GE202 := gW (w := w) HB hg; have NB185_202 := neL BK185 hg; have NB202_185 := neG BK185 hg; have NB186_202 := neL BK186 hg; have NB202_186 := neG BK186 hg; have NB187_202 := neL BK187 hg; have NB202_187 := neG BK187 hg; have NB193_202 := neL BK193 hg; have NB202_193 := neG BK193 hg; replace HO_194002 := Aside0.mk (Kd.R_below (Kd.R_elderB (viaR HO_194002) gb202 (Nat.le_of_eq hg.symm)) hb); replace HO199 := Aside0.mk (Kd.S_below (viaS HO199) hb); replace BK185 := kB BK185 hb; replace BK186 := kB BK186 hb; replace BK187 := kB BK187 hb; replace BK193 := kB BK193 hb; replace HB := bB HB hb; clear hb hbox hg; have hnb91 := NB202_185.out; have hnc91 := NB185_202.out; have hnb92 := NB202_186.out; have hnc92 := NB186_202.out; have hnb93 := NB202_187.out; have hnc93 := NB187_202.out; have hnb94 := NB202_193.out; have hnc94 := NB193_202.out; have hcz95_0 := bc0 BK202; have hcz95_1 := bc1 BK202; have hfz95_0 := blk_frozen BK202.out 0; have hfz95_1 := blk_frozen BK202.out 1) | ((with_reducible refine gate_callee (f := 84) rfl ?_); refine goesA (some 43) _ #[.agg #[.int .i64 t200, .int .i64 t201], .int .i64 x11_1] ?_ Try.func84; (with_reducible refine (spec_paGoes.calls k1 t200 t201 x11_1 t203 _ A49.out).mono ?_); rintro e w96 ⟨rfl, hb⟩; refine ⟨_, rfl, ?_⟩; replace HO_194002 := Aside0.mk (Kd.R_below (by (with_reducible repeat (first | apply Kd.R_alloc | apply Kd.R_drewN | apply Kd.R_drew)); exact (Kd.R_mono (Kd.R_far (p := ⟨gb202, 1, none⟩) (Kd.R_far (p := ⟨gb202, 0, none⟩) (Kd.R_mono HO_194002.out (fun k_ hk => (⟨hk, hk.2⟩ : _ ∧ k_ ≠ gb202))) (fun _ hk => hk.2) (.int .i64 t200)) (fun _ hk => hk.2) (.int .i64 t201)) (fun _ h_ => h_.1))) hb); replace HO199 := Aside0.mk (Kd.S_below (by (with_reducible repeat (first | apply Kd.S_alloc | apply Kd.S_drewN | apply Kd.S_drew)); exact (Kd.S_mono (Kd.S_far (p := ⟨gb202, 1, none⟩) (Kd.S_far (p := ⟨gb202, 0, none⟩) (Kd.S_types HO199.out BK202.out (by decide)) (fun _ hk => hk.2) (.int .i64 t200)) (fun _ hk => hk.2) (.int .i64 t201)) (fun _ h_ => h_.1))) hb); replace BK185 := Aside0.mk (blk_below (g := gb185) (o := .cells #[.int .i64 a0_0, .int .i64 a0_1, .slice A0_2 l0_2.length c0_2] 32 (0, 0)) (by (with_reducible repeat (first | refine blk_drewN ?_ _ | refine blk_drew ?_ | refine blk_alloc ?_ _)); refine blk_far ?_ NB185_202.out _; (with_reducible repeat (first | refine blk_drewN ?_ _ | refine blk_drew ?_ | refine blk_alloc ?_ _)); refine blk_far ?_ NB185_202.out _; (with_reducible repeat (first | refine blk_drewN ?_ _ | refine blk_drew ?_ | refine blk_alloc ?_ _)); exact BK185.out) hb); replace BK186 := Aside0.mk (blk_below (g := gb186) (o := .cells #[.int .i64 x187000_1, .int .i64 x187001_1, .int .i64 x187002_1] 27 (0, 0)) (by (with_reducible repeat (first | refine blk_drewN ?_ _ | refine blk_drew ?_ | refine blk_alloc ?_ _)); refine blk_far ?_ NB186_202.out _; (with_reducible repeat (first | refine blk_drewN ?_ _ | refine blk_drew ?_ | refine blk_alloc ?_ _)); refine blk_far ?_ NB186_202.out _; (with_reducible repeat (first | refine blk_drewN ?_ _ | refine blk_drew ?_ | refine blk_alloc ?_ _)); exact BK186.out) hb); replace BK187 := Aside0.mk (blk_below (g := gb187) (o := .cells #[.int .i64 x188000_1, .int .i64 x188001_1, .slice none 0 0] 32 (0, 0)) (by (with_reducible repeat (first | refine blk_drewN ?_ _ | refine blk_drew ?_ | refine blk_alloc ?_ _)); refine blk_far ?_ NB187_202.out _; (with_reducible repeat (first | refine blk_drewN ?_ _ | refine blk_drew ?_ | refine blk_alloc ?_ _)); refine blk_far ?_ NB187_202.out _; (with_reducible repeat (first | refine blk_drewN ?_ _ | refine blk_drew ?_ | refine blk_alloc ?_ _)); exact BK187.out) hb); replace BK193 := Aside0.mk (blk_below (g := gb193) (o := .cells #[.int .i64 t188, .int .i64 t189, .slice Ao88 x194002_1.length co88] 32 (0, 0)) (by (with_reducible repeat (first | refine blk_drewN ?_ _ | refine blk_drew ?_ | refine blk_alloc ?_ _)); refine blk_far ?_ NB193_202.out _; (with_reducible repeat (first | refine blk_drewN ?_ _ | refine blk_drew ?_ | refine blk_alloc ?_ _)); refine blk_far ?_ NB193_202.out _; (with_reducible repeat (first | refine blk_drewN ?_ _ | refine blk_drew ?_ | refine blk_alloc ?_ _)); exact BK193.out) hb); replace BK202 := Aside0.mk (blk_below (g := gb202) (o := .cells #[.int .i64 t200, .int .i64 t201] 89 (0, 0)) (by (with_reducible repeat (first | refine blk_drewN ?_ _ | refine blk_drew ?_ | refine blk_alloc ?_ _)); refine blk_put (cs := #[.int .i64 t200, .int .i64 0]) ?_ 1 _ rfl; (with_reducible repeat (first | refine blk_drewN ?_ _ | refine blk_drew ?_ | refine blk_alloc ?_ _)); refine blk_put (cs := #[.int .i64 0, .int .i64 0]) ?_ 0 _ rfl; (with_reducible repeat (first | refine blk_drewN ?_ _ | refine blk_drew ?_ | refine blk_alloc ?_ _)); exact BK202.out) hb); replace HB := bB HB hb; (try clear hb); (try clear hb2); (try clear hk); (try clear hi); have hcz97_0 := bc0 BK193; have hcz97_1 := bc1 BK193; have hcz97_2 := bc2 BK193; have hfz97_0 := blk_frozen BK193.out 0; have hfz97_1 := blk_frozen BK193.out 1; have hfz97_2 := blk_frozen BK193.out 2; have hcz98_0 := bc0 BK185; have hcz98_1 := bc1 BK185; have hcz98_2 := bc2 BK185; have hfz98_0 := blk_frozen BK185.out 0; have hfz98_1 := blk_frozen BK185.out 1; have hfz98_2 := blk_frozen BK185.out 2) | ((with_reducible refine gate_callee (f := 85) rfl ?_); refine goesA (some 52) _ #[.agg #[.int .i64 t188, .int .i64 t189, .slice Ao88 x194002_1.length co88], .slice A1 l1.length c1, .int .i64 (wrap64 ((wrap64 (x12_1 * a0_1)) + x2_1))] ?_ Try.func85; (with_reducible refine (spec_flPass.calls k1 t188 t189 (fun k_ => some k_ = (.slice Ao88 x194002_1.length co88 : Value).ownBlock) (.slice Ao88 x194002_1.length co88) x194002_1 _ _ l1 (wrap64 ((wrap64 (x12_1 * a0_1)) + x2_1)) t204 w _ ?side1 ?side2 ?side3 ?side4 A50.out).mono ?_); (case side1 => repeat (first | (with_reducible first | exact HB.out | apply below_alloc | apply pw_below_drewN | apply below_drew1 | refine below_set ?_ GE185.out | refine below_set ?_ GE186.out | refine below_set ?_ GE187.out | refine below_set ?_ GE193.out | refine below_set ?_ GE202.out) | exact HB.out)); (case side2 => exact Kd.R_tight rfl HO_194002.out); (case side3 => exact Kd.C_kept_came (Kd.heap_int .i64) HR1.out (viaB HB) (fun k_ hs_ => (fun e_ => Kd.R_base HO_194002.out k_ e_.symm) hs_)); (case side4 => exact HC1.out); rintro e w99 ⟨rfl, hy0, hb, hkp⟩; refine ⟨_, rfl, ?_⟩; replace BK185 := Aside0.mk (blk_kept (viaK BK185) hkp (fun hs_ => (fun e_ => (Kd.R_ne HO_194002.out BK185.out (by decide)) e_) hs_)); replace BK186 := Aside0.mk (blk_kept (viaK BK186) hkp (fun hs_ => (fun e_ => (Kd.R_ne HO_194002.out BK186.out (by decide)) e_) hs_)); replace BK187 := Aside0.mk (blk_kept (viaK BK187) hkp (fun hs_ => (fun e_ => (Kd.R_ne HO_194002.out BK187.out (by decide)) e_) hs_)); replace BK193 := Aside0.mk (blk_kept (viaK BK193) hkp (fun hs_ => (fun e_ => (Kd.R_ne HO_194002.out BK193.out (by decide)) e_) hs_)); replace HO199 := Aside0.mk (Kd.S_mono (ok' := fun k_ => True) (Kd.S_keptB ((Kd.S_apart' HO199.out (Kd.R_typed HO_194002.out) (by decide))) hkp (fun k_ hk_ hs_ => (hk_.2) hs_)) (fun k_ hk_ => trivial)); replace BK202 := Aside0.mk (blk_kept (viaK BK202) hkp (fun hs_ => (fun e_ => (Kd.R_away HO_194002.out (fun _ hk => hk.2)) e_) hs_)); replace HO_194002 := Aside0.mk (Kd.R_reok rfl hy0 (fun k_ e_ => HO_194002.out.1 k_ e_)); replace HB := Aside0.mk (hb); (try clear hb); (try clear hkp); (try clear hy0); have hcz100_0 := bc0 BK185; have hcz100_1 := bc1 BK185; have hcz100_2 := bc2 BK185; have hfz100_0 := blk_frozen BK185.out 0; have hfz100_1 := blk_frozen BK185.out 1; have hfz100_2 := blk_frozen BK185.out 2) | ((with_reducible refine gate_callee (f := 71) rfl ?_); refine goesA (some 62) _ #[.int .i64 (wrap64 (x2_1 + t203)), .int .i64 0, .int .i64 (wrap64 (a0_1 - 1))] ?_ Try.func71; (with_reducible refine (spec_l1In.calls (wrap64 (x2_1 + t203)) 0 (wrap64 (a0_1 - 1)) false _ A51.out).mono ?_); rintro e w' ⟨rfl, ⟨nd, rfl⟩⟩; refine ⟨_, rfl, ?_⟩; (try (rw [drewN_self w99]; generalize hq_ : World.drewN w99 _ = w99; replace HO199 : Aside0 (Kd.S (Kd.slice 3 (Kd.int .i64)) 43 w99 w.heap.size (fun _ => True) v198 y197) := ⟨by rw [← hq_]; exact (viaS HO199)⟩; replace HO_194002 : Aside0 (Kd.R k89 89 w99 w.heap.size (fun k_ => k_ ≠ gb202) (.slice Ao88 x194002_1.length co88) t204) := ⟨by rw [← hq_]; exact (by (with_reducible repeat (first | apply Kd.R_alloc | apply Kd.R_drewN | apply Kd.R_drew)); exact Kd.R_mono HO_194002.out (fun _ hk => hk.2))⟩; replace BK185 : Aside0 (w99.heap[gb185]? = some (.cells #[.int .i64 a0_0, .int .i64 a0_1, .slice A0_2 l0_2.length c0_2] 32 (0, 0))) := ⟨by rw [← hq_]; exact (viaK BK185)⟩; replace BK186 : Aside0 (w99.heap[gb186]? = some (.cells #[.int .i64 x187000_1, .int .i64 x187001_1, .int .i64 x187002_1] 27 (0, 0))) := ⟨by rw [← hq_]; exact (viaK BK186)⟩; replace BK187 : Aside0 (w99.heap[gb187]? = some (.cells #[.int .i64 x188000_1, .int .i64 x188001_1, .slice none 0 0] 32 (0, 0))) := ⟨by rw [← hq_]; exact (viaK BK187)⟩; replace BK193 : Aside0 (w99.heap[gb193]? = some (.cells #[.int .i64 t188, .int .i64 t189, .slice Ao88 x194002_1.length co88] 32 (0, 0))) := ⟨by rw [← hq_]; exact (viaK BK193)⟩; replace BK202 : Aside0 (w99.heap[gb202]? = some (.cells #[.int .i64 t200, .int .i64 t201] 89 (0, 0))) := ⟨by rw [← hq_]; exact (viaK BK202)⟩; replace HB : Aside0 (Below w.heap.size w w99) := ⟨by rw [← hq_]; exact (viaB HB)⟩; clear hq_))))
       replace HO_194002 := Aside0.mk (Kd.R_drew HO_194002.out)
       replace HO199 := Aside0.mk (Kd.S_drew HO199.out)
       replace BK185 := Aside0.mk (blk_drew BK185.out)
       replace BK186 := Aside0.mk (blk_drew BK186.out)
       replace BK187 := Aside0.mk (blk_drew BK187.out)
       replace BK193 := Aside0.mk (blk_drew BK193.out)
       replace BK202 := Aside0.mk (blk_drew BK202.out)
       replace HB := Aside0.mk (below_drew1 HB.out)
       refine start_ (n := 8) (S := fun w' => w'.cell? ⟨gb193, 0, none⟩ = some (.int .i64 t188) ∧ w'.cell? ⟨gb193, 1, none⟩ = some (.int .i64 t189) ∧ w'.cell? ⟨gb193, 2, none⟩ = some (.slice Ao88 x194002_1.length co88)) (ds := []) #[false, false, false, false, false, false, false, false] (by kernel_rfl) rfl rfl ⟨(blk_cell BK193.out 0).trans rfl, (blk_cell BK193.out 1).trans rfl, (blk_cell BK193.out 2).trans rfl⟩ (fun hHeld => ?_); refine with_tabW spec_flGo.tab16 spec_flGo.bits16 (fun HT_ HW_ => ?_)
       generalize w99.drew = w101 at HO_194002 HO199 BK185 BK186 BK187 BK193 BK202 HB hHeld ⊢
       refine pure_ (i := 0) (N := some 64) (v := ?_) (a' := ?_) #[true, false, false, false, false, false, false, false] rfl rfl (any_of HT_.out (by kernel_rfl)) (fun _ _ _ h => h) (Or.inl ⟨by rfl, ?_⟩) ?_ ?_
       rotate_left
       ·intro w'
        go_simp
        with_reducible rfl
       rotate_left
       ·simp only [Act.put, q1, q2, q3, i64_w, i32_w]
        rfl
       refine pure_ (i := 1) (N := some 65) (v := ?_) (a' := ?_) #[true, true, false, false, false, false, false, false] rfl rfl (any_of HT_.out (by kernel_rfl)) (fun _ _ _ h => h) (Or.inl ⟨by rfl, ?_⟩) ?_ ?_
       rotate_left
       ·intro w'
        go_simp
        with_reducible rfl
       rotate_left
       ·simp only [Act.put, q1, q2, q3, i64_w, i32_w]
        rfl
       refine pure_ (i := 2) (N := some 66) (v := ?_) (a' := ?_) #[true, true, true, false, false, false, false, false] rfl rfl (any_of HT_.out (by kernel_rfl)) (fun _ _ _ h => h) (Or.inl ⟨by rfl, ?_⟩) ?_ ?_
       rotate_left
       ·intro w'
        go_simp
        with_reducible rfl
       rotate_left
       ·simp only [Act.put, q1, q2, q3, i64_w, i32_w]
        rfl
       refine pure_ (i := 4) (N := some 68) (v := ?_) (a' := ?_) #[true, true, true, false, true, false, false, false] rfl rfl (any_of HT_.out (by kernel_rfl)) (fun _ _ _ h => h) (Or.inl ⟨by rfl, ?_⟩) ?_ ?_
       rotate_left
       ·intro w'
        go_simp
        with_reducible rfl
       rotate_left
       ·simp only [Act.put, q1, q2, q3, i64_w, i32_w]
        rfl
       refine take_ (i := 3) (N := some 67) (v := ?_) (a' := ?_) #[true, true, true, true, true, false, false, false] rfl rfl (take_ofW HT_.out HW_.out (by kernel_rfl)) (fun _ _ _ h => h) (Or.inl ⟨by rfl, ?_⟩) hHeld ?_ ?_
       rotate_left
       ·rintro w' ⟨s0, s1, s2⟩
        go_simp
        with_reducible rfl
       rotate_left
       ·simp only [Act.put, q1, q2, q3, i64_w, i32_w]
        rfl
       refine one_ (i := 5) (N := none) #[true, true, true, true, true, true, false, false] rfl rfl (one_of HT_.out (by kernel_rfl)) (by decide) (fun K hK => ?_)
       have hs102 : w101.cell? ⟨gb186, 0, none⟩ = some (.int .i64 x187000_1) := (blk_cell BK186.out 0).trans rfl
       have hfs102 := blk_frozen BK186.out 0
       have hns102_0 := NB185_186.out
       have hns102_2 := NB187_186.out
       have hns102_3 := NB193_186.out
       have hns102_4 := NB202_186.out
       have hms102_0 := NB186_185.out
       have hms102_2 := NB186_187.out
       have hms102_3 := NB186_193.out
       have hms102_4 := NB186_202.out
       have hs103 : w101.cell? ⟨gb186, 1, none⟩ = some (.int .i64 x187001_1) := (blk_cell BK186.out 1).trans rfl
       have hfs103 := blk_frozen BK186.out 1
       have hns103_0 := NB185_186.out
       have hns103_2 := NB187_186.out
       have hns103_3 := NB193_186.out
       have hns103_4 := NB202_186.out
       have hms103_0 := NB186_185.out
       have hms103_2 := NB186_187.out
       have hms103_3 := NB186_193.out
       have hms103_4 := NB186_202.out
       have hs104 : w101.cell? ⟨gb186, 2, none⟩ = some (.int .i64 x187002_1) := (blk_cell BK186.out 2).trans rfl
       have hfs104 := blk_frozen BK186.out 2
       have hns104_0 := NB185_186.out
       have hns104_2 := NB187_186.out
       have hns104_3 := NB193_186.out
       have hns104_4 := NB202_186.out
       have hms104_0 := NB186_185.out
       have hms104_2 := NB186_187.out
       have hms104_3 := NB186_193.out
       have hms104_4 := NB186_202.out
       refine skip_ (w1 := ?_) (by rfl) rfl ?_ ?_
       rotate_left
       ·go_simp
        rfl
       refine hK.out _ _ ⟨((cell_far (p := ⟨gb186, _, none⟩) NB193_186.out _).trans (((cell_far (p := ⟨gb186, _, none⟩) NB193_186.out _).trans (((cell_far (p := ⟨gb186, _, none⟩) NB193_186.out _).trans (hHeld.1)))))), ((cell_far (p := ⟨gb186, _, none⟩) NB193_186.out _).trans (((cell_far (p := ⟨gb186, _, none⟩) NB193_186.out _).trans (((cell_far (p := ⟨gb186, _, none⟩) NB193_186.out _).trans (hHeld.2.1)))))), ((cell_far (p := ⟨gb186, _, none⟩) NB193_186.out _).trans (((cell_far (p := ⟨gb186, _, none⟩) NB193_186.out _).trans (((cell_far (p := ⟨gb186, _, none⟩) NB193_186.out _).trans (hHeld.2.2))))))⟩ (fun hHeld => ?_)
       clear hK K
       refine one_ (i := 6) (N := none) #[true, true, true, true, true, true, true, false] rfl rfl (one_of HT_.out (by kernel_rfl)) (by decide) (fun K hK => ?_)
       have hs105 : w101.cell? ⟨gb187, 0, none⟩ = some (.int .i64 x188000_1) := (blk_cell BK187.out 0).trans rfl
       have hfs105 := blk_frozen BK187.out 0
       have hns105_0 := NB185_187.out
       have hns105_1 := NB186_187.out
       have hns105_3 := NB193_187.out
       have hns105_4 := NB202_187.out
       have hms105_0 := NB187_185.out
       have hms105_1 := NB187_186.out
       have hms105_3 := NB187_193.out
       have hms105_4 := NB187_202.out
       have hs106 : w101.cell? ⟨gb187, 1, none⟩ = some (.int .i64 x188001_1) := (blk_cell BK187.out 1).trans rfl
       have hfs106 := blk_frozen BK187.out 1
       have hns106_0 := NB185_187.out
       have hns106_1 := NB186_187.out
       have hns106_3 := NB193_187.out
       have hns106_4 := NB202_187.out
       have hms106_0 := NB187_185.out
       have hms106_1 := NB187_186.out
       have hms106_3 := NB187_193.out
       have hms106_4 := NB187_202.out
       have hs107 : w101.cell? ⟨gb187, 2, none⟩ = some (.slice none 0 0) := (blk_cell BK187.out 2).trans rfl
       have hfs107 := blk_frozen BK187.out 2
       have hns107_0 := NB185_187.out
       have hns107_1 := NB186_187.out
       have hns107_3 := NB193_187.out
       have hns107_4 := NB202_187.out
       have hms107_0 := NB187_185.out
       have hms107_1 := NB187_186.out
       have hms107_3 := NB187_193.out
       have hms107_4 := NB187_202.out
       refine skip_ (w1 := ?_) (by rfl) rfl ?_ ?_
       rotate_left
       ·go_simp
        rfl
       refine hK.out _ _ ⟨((cell_far (p := ⟨gb187, _, none⟩) NB193_187.out _).trans (((cell_far (p := ⟨gb187, _, none⟩) NB193_187.out _).trans (((cell_far (p := ⟨gb187, _, none⟩) NB193_187.out _).trans (hHeld.1)))))), ((cell_far (p := ⟨gb187, _, none⟩) NB193_187.out _).trans (((cell_far (p := ⟨gb187, _, none⟩) NB193_187.out _).trans (((cell_far (p := ⟨gb187, _, none⟩) NB193_187.out _).trans (hHeld.2.1)))))), ((cell_far (p := ⟨gb187, _, none⟩) NB193_187.out _).trans (((cell_far (p := ⟨gb187, _, none⟩) NB193_187.out _).trans (((cell_far (p := ⟨gb187, _, none⟩) NB193_187.out _).trans (hHeld.2.2))))))⟩ (fun hHeld => ?_)
       clear hK K
       refine pure_ (i := 7) (N := some 8) (v := ?_) (a' := ?_) #[true, true, true, true, true, true, true, true] rfl rfl (any_of HT_.out (by kernel_rfl)) (fun _ _ _ h => h) (Or.inl ⟨by rfl, ?_⟩) ?_ ?_
       rotate_left
       ·intro w'
        go_simp
        with_reducible rfl
       rotate_left
       ·simp only [Act.put, q1, q2, q3, i64_w, i32_w]
        rfl
       refine done_ (done_of HT_.out (by kernel_rfl)) ?_
       try go_wp2
       refine bodyPost_ret (results_list (rs := [.cell 6 27, .cell 7 32, .tmp 8]) rfl (by simp) (.cell gb186 27 #[.int .i64 3, .int .i64 x12_1, .int .i64 (wrap64 (x2_1 + t203))] (0, 0) _ rfl (by (with_reducible repeat (first | refine blk_drewN ?_ _ | refine blk_drew ?_ | refine blk_alloc ?_ _)); refine blk_far ?_ NB186_187.out _; (with_reducible repeat (first | refine blk_drewN ?_ _ | refine blk_drew ?_ | refine blk_alloc ?_ _)); refine blk_far ?_ NB186_187.out _; (with_reducible repeat (first | refine blk_drewN ?_ _ | refine blk_drew ?_ | refine blk_alloc ?_ _)); refine blk_far ?_ NB186_187.out _; (with_reducible repeat (first | refine blk_drewN ?_ _ | refine blk_drew ?_ | refine blk_alloc ?_ _)); refine blk_put (cs := #[.int .i64 3, .int .i64 x12_1, .int .i64 x187002_1]) ?_ 2 _ rfl; (with_reducible repeat (first | refine blk_drewN ?_ _ | refine blk_drew ?_ | refine blk_alloc ?_ _)); refine blk_put (cs := #[.int .i64 3, .int .i64 x187001_1, .int .i64 x187002_1]) ?_ 1 _ rfl; (with_reducible repeat (first | refine blk_drewN ?_ _ | refine blk_drew ?_ | refine blk_alloc ?_ _)); refine blk_put (cs := #[.int .i64 x187000_1, .int .i64 x187001_1, .int .i64 x187002_1]) ?_ 0 _ rfl; (with_reducible repeat (first | refine blk_drewN ?_ _ | refine blk_drew ?_ | refine blk_alloc ?_ _)); exact BK186.out) Try.underlying27 rfl (by kernel_rfl) (.cell gb187 32 #[.int .i64 t188, .int .i64 t189, .slice Ao88 x194002_1.length co88] (0, 0) _ rfl (by (with_reducible repeat (first | refine blk_drewN ?_ _ | refine blk_drew ?_ | refine blk_alloc ?_ _)); refine blk_put (cs := #[.int .i64 t188, .int .i64 t189, .slice none 0 0]) ?_ 2 _ rfl; (with_reducible repeat (first | refine blk_drewN ?_ _ | refine blk_drew ?_ | refine blk_alloc ?_ _)); refine blk_put (cs := #[.int .i64 t188, .int .i64 x188001_1, .slice none 0 0]) ?_ 1 _ rfl; (with_reducible repeat (first | refine blk_drewN ?_ _ | refine blk_drew ?_ | refine blk_alloc ?_ _)); refine blk_put (cs := #[.int .i64 x188000_1, .int .i64 x188001_1, .slice none 0 0]) ?_ 0 _ rfl; (with_reducible repeat (first | refine blk_drewN ?_ _ | refine blk_drew ?_ | refine blk_alloc ?_ _)); refine blk_far ?_ NB187_186.out _; (with_reducible repeat (first | refine blk_drewN ?_ _ | refine blk_drew ?_ | refine blk_alloc ?_ _)); refine blk_far ?_ NB187_186.out _; (with_reducible repeat (first | refine blk_drewN ?_ _ | refine blk_drew ?_ | refine blk_alloc ?_ _)); refine blk_far ?_ NB187_186.out _; (with_reducible repeat (first | refine blk_drewN ?_ _ | refine blk_drew ?_ | refine blk_alloc ?_ _)); exact BK187.out) Try.underlying32 rfl (by kernel_rfl) (.tmp .nil)))) rfl ?_
       exact ⟨_, _, by first | rfl | (simp [errW_none, errW_some] <;> rfl) | (simp [*, errW_none, errW_some] <;> rfl), by (with_reducible repeat (first | apply Kd.R_alloc | apply Kd.R_drewN | apply Kd.R_drew)); exact Kd.R_mono (Kd.R_far (p := ⟨gb187, 2, none⟩) (Kd.R_far (p := ⟨gb187, 1, none⟩) (Kd.R_far (p := ⟨gb187, 0, none⟩) (Kd.R_far (p := ⟨gb186, 2, none⟩) (Kd.R_far (p := ⟨gb186, 1, none⟩) (Kd.R_far (p := ⟨gb186, 0, none⟩) (Kd.R_types (Kd.R_types HO_194002.out BK186.out (by decide)) BK187.out (by decide)) (fun _ hk => hk.1.2) (.int .i64 3)) (fun _ hk => hk.1.2) (.int .i64 x12_1)) (fun _ hk => hk.1.2) (.int .i64 (wrap64 (x2_1 + t203)))) (fun _ hk => hk.2) (.int .i64 t188)) (fun _ hk => hk.2) (.int .i64 t189)) (fun _ hk => hk.2) (.slice Ao88 x194002_1.length co88)) (fun _ hk => trivial), by (with_reducible repeat (first | apply Kd.S_alloc | apply Kd.S_drewN | apply Kd.S_drew)); exact Kd.S_mono (Kd.S_far (p := ⟨gb187, 2, none⟩) (Kd.S_far (p := ⟨gb187, 1, none⟩) (Kd.S_far (p := ⟨gb187, 0, none⟩) (Kd.S_far (p := ⟨gb186, 2, none⟩) (Kd.S_far (p := ⟨gb186, 1, none⟩) (Kd.S_far (p := ⟨gb186, 0, none⟩) (Kd.S_types (Kd.S_types HO199.out BK186.out (by decide)) BK187.out (by decide)) (fun _ hk => hk.1.2) (.int .i64 3)) (fun _ hk => hk.1.2) (.int .i64 x12_1)) (fun _ hk => hk.1.2) (.int .i64 (wrap64 (x2_1 + t203)))) (fun _ hk => hk.2) (.int .i64 t188)) (fun _ hk => hk.2) (.int .i64 t189)) (fun _ hk => hk.2) (.slice Ao88 x194002_1.length co88)) (fun _ hk => trivial), viaB HB⟩
    ·rw [if_neg c19] at H
     exact absurd H (by simp)
   ·rw [if_neg c18] at H
    have c18b0 := decide_eq_false c18
    clear c18
    simp only [Option.some.injEq, Prod.mk.injEq] at H
    obtain ⟨rfl, rfl, rfl, rfl, rfl, rfl, rfl⟩ := H
    have hnb108 := NB185_186.out
    have hnc108 := NB186_185.out
    have hnb109 := NB185_187.out
    have hnc109 := NB187_185.out
    have hnb110 := NB185_193.out
    have hnc110 := NB193_185.out
    have hcz111_0 := bc0 BK185
    have hcz111_1 := bc1 BK185
    have hcz111_2 := bc2 BK185
    have hfz111_0 := blk_frozen BK185.out 0
    have hfz111_1 := blk_frozen BK185.out 1
    have hfz111_2 := blk_frozen BK185.out 2
    try go_wp2
    replace HO_10 := Aside0.mk (Kd.S_drew HO_10.out)
    replace HO_194002 := Aside0.mk (Kd.R_drew HO_194002.out)
    replace BK185 := Aside0.mk (blk_drew BK185.out)
    replace BK186 := Aside0.mk (blk_drew BK186.out)
    replace BK187 := Aside0.mk (blk_drew BK187.out)
    replace BK193 := Aside0.mk (blk_drew BK193.out)
    replace HB := Aside0.mk (below_drew1 HB.out)
    obtain ⟨Ao118, co118, eo118⟩ := Kd.R_slice HO_194002.out
    (first | subst eo118 | (injection eo118 with f1_ f2_ f3_; have f4_ := f1_.symm; have f5_ := f3_.symm; clear f1_ f2_ f3_; subst f4_; subst f5_))
    refine start_ (n := 9) (S := fun w' => w'.cell? ⟨gb185, 0, none⟩ = some (.int .i64 a0_0) ∧ w'.cell? ⟨gb185, 1, none⟩ = some (.int .i64 a0_1) ∧ w'.cell? ⟨gb185, 2, none⟩ = some (.slice A0_2 l0_2.length c0_2) ∧ w'.cell? ⟨gb193, 0, none⟩ = some (.int .i64 t188) ∧ w'.cell? ⟨gb193, 1, none⟩ = some (.int .i64 t189) ∧ w'.cell? ⟨gb193, 2, none⟩ = some (.slice Ao118 x194002_1.length co118)) (ds := []) #[false, false, false, false, false, false, false, false, false] (by kernel_rfl) rfl rfl ⟨(blk_cell BK185.out 0).trans rfl, (blk_cell BK185.out 1).trans rfl, (blk_cell BK185.out 2).trans rfl, (blk_cell BK193.out 0).trans rfl, (blk_cell BK193.out 1).trans rfl, (blk_cell BK193.out 2).trans rfl⟩ (fun hHeld => ?_); refine with_tabW spec_flGo.tab17 spec_flGo.bits17 (fun HT_ HW_ => ?_)
    generalize wr.drew = w112 at HO_10 HO_194002 BK185 BK186 BK187 BK193 HB hHeld ⊢
    refine pure_ (i := 0) (N := some 69) (v := ?_) (a' := ?_) #[true, false, false, false, false, false, false, false, false] rfl rfl (any_of HT_.out (by kernel_rfl)) (fun _ _ _ h => h) (Or.inl ⟨by rfl, ?_⟩) ?_ ?_
    rotate_left
    ·intro w'
     go_simp
     with_reducible rfl
    rotate_left
    ·simp only [Act.put, q1, q2, q3, i64_w, i32_w]
     rfl
    refine pure_ (i := 2) (N := some 71) (v := ?_) (a' := ?_) #[true, false, true, false, false, false, false, false, false] rfl rfl (any_of HT_.out (by kernel_rfl)) (fun _ _ _ h => h) (Or.inl ⟨by rfl, ?_⟩) ?_ ?_
    rotate_left
    ·intro w'
     go_simp
     with_reducible rfl
    rotate_left
    ·simp only [Act.put, q1, q2, q3, i64_w, i32_w]
     rfl
    refine pure_ (i := 5) (N := some 74) (v := ?_) (a' := ?_) #[true, false, true, false, false, true, false, false, false] rfl rfl (any_of HT_.out (by kernel_rfl)) (fun _ _ _ h => h) (Or.inl ⟨by rfl, ?_⟩) ?_ ?_
    rotate_left
    ·intro w'
     go_simp
     with_reducible rfl
    rotate_left
    ·simp only [Act.put, q1, q2, q3, i64_w, i32_w]
     rfl
    refine take_ (i := 1) (N := some 70) (v := ?_) (a' := ?_) #[true, true, true, false, false, true, false, false, false] rfl rfl (take_ofW HT_.out HW_.out (by kernel_rfl)) (fun _ _ _ h => h) (Or.inl ⟨by rfl, ?_⟩) hHeld ?_ ?_
    rotate_left
    ·rintro w' ⟨s0, s1, s2, s3, s4, s5⟩
     go_simp
     with_reducible rfl
    rotate_left
    ·simp only [Act.put, q1, q2, q3, i64_w, i32_w]
     rfl
    refine pure_ (i := 3) (N := some 72) (v := ?_) (a' := ?_) #[true, true, true, true, false, true, false, false, false] rfl rfl (any_of HT_.out (by kernel_rfl)) (fun _ _ _ h => h) (Or.inl ⟨by rfl, ?_⟩) ?_ ?_
    rotate_left
    ·intro w'
     go_simp
     with_reducible rfl
    rotate_left
    ·simp only [Act.put, q1, q2, q3, i64_w, i32_w]
     rfl
    refine take_ (i := 4) (N := some 73) (v := ?_) (a' := ?_) #[true, true, true, true, true, true, false, false, false] rfl rfl (take_ofW HT_.out HW_.out (by kernel_rfl)) (fun _ _ _ h => h) (Or.inl ⟨by rfl, ?_⟩) hHeld ?_ ?_
    rotate_left
    ·rintro w' ⟨s0, s1, s2, s3, s4, s5⟩
     go_simp
     with_reducible rfl
    rotate_left
    ·simp only [Act.put, q1, q2, q3, i64_w, i32_w]
     rfl
    refine one_ (i := 6) (N := none) #[true, true, true, true, true, true, true, false, false] rfl rfl (one_of HT_.out (by kernel_rfl)) (by decide) (fun K hK => ?_)
    have hs113 : w112.cell? ⟨gb186, 0, none⟩ = some (.int .i64 x187000_1) := (blk_cell BK186.out 0).trans rfl
    have hfs113 := blk_frozen BK186.out 0
    have hns113_0 := NB185_186.out
    have hns113_2 := NB187_186.out
    have hns113_3 := NB193_186.out
    have hms113_0 := NB186_185.out
    have hms113_2 := NB186_187.out
    have hms113_3 := NB186_193.out
    have hs114 : w112.cell? ⟨gb186, 1, none⟩ = some (.int .i64 x187001_1) := (blk_cell BK186.out 1).trans rfl
    have hfs114 := blk_frozen BK186.out 1
    have hns114_0 := NB185_186.out
    have hns114_2 := NB187_186.out
    have hns114_3 := NB193_186.out
    have hms114_0 := NB186_185.out
    have hms114_2 := NB186_187.out
    have hms114_3 := NB186_193.out
    have hs115 : w112.cell? ⟨gb186, 2, none⟩ = some (.int .i64 x187002_1) := (blk_cell BK186.out 2).trans rfl
    have hfs115 := blk_frozen BK186.out 2
    have hns115_0 := NB185_186.out
    have hns115_2 := NB187_186.out
    have hns115_3 := NB193_186.out
    have hms115_0 := NB186_185.out
    have hms115_2 := NB186_187.out
    have hms115_3 := NB186_193.out
    refine skip_ (w1 := ?_) (by rfl) rfl ?_ ?_
    rotate_left
    ·go_simp
     rfl
    refine hK.out _ _ ⟨((cell_far (p := ⟨gb186, _, none⟩) NB185_186.out _).trans (((cell_far (p := ⟨gb186, _, none⟩) NB185_186.out _).trans (((cell_far (p := ⟨gb186, _, none⟩) NB185_186.out _).trans (hHeld.1)))))), ((cell_far (p := ⟨gb186, _, none⟩) NB185_186.out _).trans (((cell_far (p := ⟨gb186, _, none⟩) NB185_186.out _).trans (((cell_far (p := ⟨gb186, _, none⟩) NB185_186.out _).trans (hHeld.2.1)))))), ((cell_far (p := ⟨gb186, _, none⟩) NB185_186.out _).trans (((cell_far (p := ⟨gb186, _, none⟩) NB185_186.out _).trans (((cell_far (p := ⟨gb186, _, none⟩) NB185_186.out _).trans (hHeld.2.2.1)))))), ((cell_far (p := ⟨gb186, _, none⟩) NB193_186.out _).trans (((cell_far (p := ⟨gb186, _, none⟩) NB193_186.out _).trans (((cell_far (p := ⟨gb186, _, none⟩) NB193_186.out _).trans (hHeld.2.2.2.1)))))), ((cell_far (p := ⟨gb186, _, none⟩) NB193_186.out _).trans (((cell_far (p := ⟨gb186, _, none⟩) NB193_186.out _).trans (((cell_far (p := ⟨gb186, _, none⟩) NB193_186.out _).trans (hHeld.2.2.2.2.1)))))), ((cell_far (p := ⟨gb186, _, none⟩) NB193_186.out _).trans (((cell_far (p := ⟨gb186, _, none⟩) NB193_186.out _).trans (((cell_far (p := ⟨gb186, _, none⟩) NB193_186.out _).trans (hHeld.2.2.2.2.2))))))⟩ (fun hHeld => ?_)
    clear hK K
    refine one_ (i := 7) (N := none) #[true, true, true, true, true, true, true, true, false] rfl rfl (one_of HT_.out (by kernel_rfl)) (by decide) (fun K hK => ?_)
    have hs116 : w112.cell? ⟨gb187, 0, none⟩ = some (.int .i64 x188000_1) := (blk_cell BK187.out 0).trans rfl
    have hfs116 := blk_frozen BK187.out 0
    have hns116_0 := NB185_187.out
    have hns116_1 := NB186_187.out
    have hns116_3 := NB193_187.out
    have hms116_0 := NB187_185.out
    have hms116_1 := NB187_186.out
    have hms116_3 := NB187_193.out
    have hs117 : w112.cell? ⟨gb187, 1, none⟩ = some (.int .i64 x188001_1) := (blk_cell BK187.out 1).trans rfl
    have hfs117 := blk_frozen BK187.out 1
    have hns117_0 := NB185_187.out
    have hns117_1 := NB186_187.out
    have hns117_3 := NB193_187.out
    have hms117_0 := NB187_185.out
    have hms117_1 := NB187_186.out
    have hms117_3 := NB187_193.out
    have hs119 : w112.cell? ⟨gb187, 2, none⟩ = some (.slice none 0 0) := (blk_cell BK187.out 2).trans rfl
    have hfs119 := blk_frozen BK187.out 2
    have hns119_0 := NB185_187.out
    have hns119_1 := NB186_187.out
    have hns119_3 := NB193_187.out
    have hms119_0 := NB187_185.out
    have hms119_1 := NB187_186.out
    have hms119_3 := NB187_193.out
    refine skip_ (w1 := ?_) (by rfl) rfl ?_ ?_
    rotate_left
    ·go_simp
     rfl
    refine hK.out _ _ ⟨((cell_far (p := ⟨gb187, _, none⟩) NB185_187.out _).trans (((cell_far (p := ⟨gb187, _, none⟩) NB185_187.out _).trans (((cell_far (p := ⟨gb187, _, none⟩) NB185_187.out _).trans (hHeld.1)))))), ((cell_far (p := ⟨gb187, _, none⟩) NB185_187.out _).trans (((cell_far (p := ⟨gb187, _, none⟩) NB185_187.out _).trans (((cell_far (p := ⟨gb187, _, none⟩) NB185_187.out _).trans (hHeld.2.1)))))), ((cell_far (p := ⟨gb187, _, none⟩) NB185_187.out _).trans (((cell_far (p := ⟨gb187, _, none⟩) NB185_187.out _).trans (((cell_far (p := ⟨gb187, _, none⟩) NB185_187.out _).trans (hHeld.2.2.1)))))), ((cell_far (p := ⟨gb187, _, none⟩) NB193_187.out _).trans (((cell_far (p := ⟨gb187, _, none⟩) NB193_187.out _).trans (((cell_far (p := ⟨gb187, _, none⟩) NB193_187.out _).trans (hHeld.2.2.2.1)))))), ((cell_far (p := ⟨gb187, _, none⟩) NB193_187.out _).trans (((cell_far (p := ⟨gb187, _, none⟩) NB193_187.out _).trans (((cell_far (p := ⟨gb187, _, none⟩) NB193_187.out _).trans (hHeld.2.2.2.2.1)))))), ((cell_far (p := ⟨gb187, _, none⟩) NB193_187.out _).trans (((cell_far (p := ⟨gb187, _, none⟩) NB193_187.out _).trans (((cell_far (p := ⟨gb187, _, none⟩) NB193_187.out _).trans (hHeld.2.2.2.2.2))))))⟩ (fun hHeld => ?_)
    clear hK K
    refine pure_ (i := 8) (N := some 8) (v := ?_) (a' := ?_) #[true, true, true, true, true, true, true, true, true] rfl rfl (any_of HT_.out (by kernel_rfl)) (fun _ _ _ h => h) (Or.inl ⟨by rfl, ?_⟩) ?_ ?_
    rotate_left
    ·intro w'
     go_simp
     with_reducible rfl
    rotate_left
    ·simp only [Act.put, q1, q2, q3, i64_w, i32_w]
     rfl
    refine done_ (done_of HT_.out (by kernel_rfl)) ?_
    try go_wp2
    refine bodyPost_ret (results_list (rs := [.cell 6 27, .cell 7 32, .tmp 8]) rfl (by simp) (.cell gb186 27 #[.int .i64 1, .int .i64 a0_0, .int .i64 x2_1] (0, 0) _ rfl (by (with_reducible repeat (first | refine blk_drewN ?_ _ | refine blk_drew ?_ | refine blk_alloc ?_ _)); refine blk_far ?_ NB186_187.out _; (with_reducible repeat (first | refine blk_drewN ?_ _ | refine blk_drew ?_ | refine blk_alloc ?_ _)); refine blk_far ?_ NB186_187.out _; (with_reducible repeat (first | refine blk_drewN ?_ _ | refine blk_drew ?_ | refine blk_alloc ?_ _)); refine blk_far ?_ NB186_187.out _; (with_reducible repeat (first | refine blk_drewN ?_ _ | refine blk_drew ?_ | refine blk_alloc ?_ _)); refine blk_put (cs := #[.int .i64 1, .int .i64 a0_0, .int .i64 x187002_1]) ?_ 2 _ rfl; (with_reducible repeat (first | refine blk_drewN ?_ _ | refine blk_drew ?_ | refine blk_alloc ?_ _)); refine blk_put (cs := #[.int .i64 1, .int .i64 x187001_1, .int .i64 x187002_1]) ?_ 1 _ rfl; (with_reducible repeat (first | refine blk_drewN ?_ _ | refine blk_drew ?_ | refine blk_alloc ?_ _)); refine blk_put (cs := #[.int .i64 x187000_1, .int .i64 x187001_1, .int .i64 x187002_1]) ?_ 0 _ rfl; (with_reducible repeat (first | refine blk_drewN ?_ _ | refine blk_drew ?_ | refine blk_alloc ?_ _)); exact BK186.out) Try.underlying27 rfl (by kernel_rfl) (.cell gb187 32 #[.int .i64 t188, .int .i64 t189, .slice Ao118 x194002_1.length co118] (0, 0) _ rfl (by (with_reducible repeat (first | refine blk_drewN ?_ _ | refine blk_drew ?_ | refine blk_alloc ?_ _)); refine blk_put (cs := #[.int .i64 t188, .int .i64 t189, .slice none 0 0]) ?_ 2 _ rfl; (with_reducible repeat (first | refine blk_drewN ?_ _ | refine blk_drew ?_ | refine blk_alloc ?_ _)); refine blk_put (cs := #[.int .i64 t188, .int .i64 x188001_1, .slice none 0 0]) ?_ 1 _ rfl; (with_reducible repeat (first | refine blk_drewN ?_ _ | refine blk_drew ?_ | refine blk_alloc ?_ _)); refine blk_put (cs := #[.int .i64 x188000_1, .int .i64 x188001_1, .slice none 0 0]) ?_ 0 _ rfl; (with_reducible repeat (first | refine blk_drewN ?_ _ | refine blk_drew ?_ | refine blk_alloc ?_ _)); refine blk_far ?_ NB187_186.out _; (with_reducible repeat (first | refine blk_drewN ?_ _ | refine blk_drew ?_ | refine blk_alloc ?_ _)); refine blk_far ?_ NB187_186.out _; (with_reducible repeat (first | refine blk_drewN ?_ _ | refine blk_drew ?_ | refine blk_alloc ?_ _)); refine blk_far ?_ NB187_186.out _; (with_reducible repeat (first | refine blk_drewN ?_ _ | refine blk_drew ?_ | refine blk_alloc ?_ _)); exact BK187.out) Try.underlying32 rfl (by kernel_rfl) (.tmp .nil)))) rfl ?_
    exact ⟨_, _, by first | rfl | (simp [errW_none, errW_some] <;> rfl) | (simp [*, errW_none, errW_some] <;> rfl), by (with_reducible repeat (first | apply Kd.R_alloc | apply Kd.R_drewN | apply Kd.R_drew)); exact Kd.R_mono (Kd.R_far (p := ⟨gb187, 2, none⟩) (Kd.R_far (p := ⟨gb187, 1, none⟩) (Kd.R_far (p := ⟨gb187, 0, none⟩) (Kd.R_far (p := ⟨gb186, 2, none⟩) (Kd.R_far (p := ⟨gb186, 1, none⟩) (Kd.R_far (p := ⟨gb186, 0, none⟩) (Kd.R_types (Kd.R_types HO_194002.out BK186.out (by decide)) BK187.out (by decide)) (fun _ hk => hk.1.2) (.int .i64 1)) (fun _ hk => hk.1.2) (.int .i64 a0_0)) (fun _ hk => hk.1.2) (.int .i64 x2_1)) (fun _ hk => hk.2) (.int .i64 t188)) (fun _ hk => hk.2) (.int .i64 t189)) (fun _ hk => hk.2) (.slice Ao118 x194002_1.length co118)) (fun _ hk => trivial), by (with_reducible repeat (first | apply Kd.S_alloc | apply Kd.S_drewN | apply Kd.S_drew)); exact Kd.S_mono (Kd.S_far (p := ⟨gb187, 2, none⟩) (Kd.S_far (p := ⟨gb187, 1, none⟩) (Kd.S_far (p := ⟨gb187, 0, none⟩) (Kd.S_far (p := ⟨gb186, 2, none⟩) (Kd.S_far (p := ⟨gb186, 1, none⟩) (Kd.S_far (p := ⟨gb186, 0, none⟩) (Kd.S_types (Kd.S_types HO_10.out BK186.out (by decide)) BK187.out (by decide)) (fun _ hk => hk.1.2) (.int .i64 1)) (fun _ hk => hk.1.2) (.int .i64 a0_0)) (fun _ hk => hk.1.2) (.int .i64 x2_1)) (fun _ hk => hk.2) (.int .i64 t188)) (fun _ hk => hk.2) (.int .i64 t189)) (fun _ hk => hk.2) (.slice Ao118 x194002_1.length co118)) (fun _ hk => trivial), viaB HB⟩

end Go.Proofs.Ytoklfgjemfojgaa.PFnExactFallOf
