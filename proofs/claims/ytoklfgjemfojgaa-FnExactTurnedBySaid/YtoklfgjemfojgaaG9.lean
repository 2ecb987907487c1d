/- This text began as one that print.sh wrote for this seat (of the functions named below); it is this session's own: turned where Lean did not take the printed proof, where it was too long for a claim, or only in what it imports. -/
import Derived.Test.YtoklfgjemfojgaaG0
import Derived.Test.YtoklfgjemfojgaaG5
import Derived.Test.YtoklfgjemfojgaaG8
namespace Go.Proofs.Ytoklfgjemfojgaa.PAll
open Go.RowKit Go.Proofs.YtoklfgjemfojgaaW.PrintWords Go.Proofs.YtoklfgjemfojgaaW.PrintLast Go.Proofs.YtoklfgjemfojgaaW.PrintMore
attribute [local go_sem] max2_int min2_int max_two min_two max_three min_three max_four min_four   -- for this text's walks alone
set_option linter.unusedVariables false
set_option linter.unusedSimpArgs false

/-! ### spec_flRun: function 51 -/
def spec_flRun.f (k : Nat) (a0_0 : Int) (a0_1 : Int) (l0_2 : List (S89)) (a1 : Int) : Option (Int × Int × Int × Int × Int × (List (S89))) := (spec_ggGroups.f k a0_0 a0_1 l0_2).bind fun t220 => ((spec_flGo.f k a0_0 a0_1 l0_2 t220 a1).bind fun bt223 => (some (bt223.1, bt223.2.1, bt223.2.2.1, bt223.2.2.2.1, bt223.2.2.2.2.1, bt223.2.2.2.2.2.1)))
theorem spec_flRun.mono : ∀ a0 a1 a2 a3 k, LeO (spec_flRun.f k a0 a1 a2 a3) (spec_flRun.f (k + 1) a0 a1 a2 a3) := by
 intro a0 a1 a2 a3 k
 unfold spec_flRun.f
 repeat' first | (with_reducible first | exact spec_flGo.mono _ _ _ _ _ _ | exact spec_ggGroups.mono _ _ _ _ | exact LeO.refl _ | exact LeO.none _ | refine LeO.ite ?_ ?_ | refine LeO.bind ?_ (fun _ => ?_)) | exact spec_flGo.mono _ _ _ _ _ _ | exact spec_ggGroups.mono _ _ _ _ | exact LeO.none _ | refine LeO.ite ?_ ?_ | refine LeO.bind ?_ (fun _ => ?_)
def spec_flRun.T1 : Bool × List (List Nat × List Nat) := (true, [([], []), ([], []), ([1], [1]), ([], []), ([0, 2, 3, 2], [0, 2, 3]), ([4], [4]), ([5], [5]), ([5], [5]), ([5], [5]), ([], []), ([], []), ([9, 6, 4, 0, 1, 2, 3, 4, 5, 6, 9, 10], [6, 9]), ([10, 7, 11, 0, 1, 2, 3, 4, 5, 6, 7, 9, 10, 11], [7, 10]), ([8, 12, 0, 1, 2, 3, 4, 5, 6, 7, 8, 9, 10, 11, 12], [8])])
def spec_flRun.B1 : List Nat := [0, 0, 2, 0, 15, 31, 63, 63, 63, 0, 0, 1663, 3839, 8191]
theorem spec_flRun.tab1 : rtab .any (opsOf Try.f51 1) = spec_flRun.T1 := by kernel_rfl
theorem spec_flRun.bits1 : waitsOk spec_flRun.T1.2 spec_flRun.B1 = true := by kernel_rfl
set_option maxHeartbeats 8000000 in
set_option maxRecDepth 100000 in
theorem spec_flRun.calls (k : Nat) (a0_0 : Int) (a0_1 : Int) (A0_2 : Option Addr) (c0_2 : Nat) (l0_2 : List (S89)) (a1 : Int) (r1 : Int) (r2 : Int) (r3 : Int) (r4 : Int) (r5 : Int) (r6 : List (S89)) (w : World) (hr0_2 : Kd.C k89 w A0_2 l0_2.length l0_2) (hc0_2 : l0_2.length ≤ c0_2) (h : spec_flRun.f k a0_0 a0_1 l0_2 a1 = some (r1, r2, r3, r4, r5, r6)) :
  Calls Try.prog 51 #[.agg #[.int .i64 a0_0, .int .i64 a0_1, .slice A0_2 l0_2.length c0_2], .int .i64 a1] w fun e w' => ∃ v5_ : Value, e = .returned (.tuple #[.agg #[.int .i64 r1, .int .i64 r2, .int .i64 r3], .agg #[.int .i64 r4, .int .i64 r5, v5_]]) ∧ Kd.R k89 89 w' w.heap.size (fun _ => True) v5_ r6 ∧ Below w.heap.size w w' := by
 have hu32 := Try.underlying32
 have hu27 := Try.underlying27
 have HR0_2 := Aside0.mk hr0_2
 have HC0_2 := Aside0.mk hc0_2
 clear hr0_2 hc0_2
 have HB := Aside0.mk (Below.refl w.heap.size w)
 have H : ((spec_ggGroups.f k a0_0 a0_1 l0_2).bind fun t220 => ((spec_flGo.f k a0_0 a0_1 l0_2 t220 a1).bind fun bt223 => (some (bt223.1, bt223.2.1, bt223.2.2.1, bt223.2.2.2.1, bt223.2.2.2.2.1, bt223.2.2.2.2.2.1)))) = some (r1, r2, r3, r4, r5, r6) := h
 clear h
 replace H := Option.bind_eq_some_iff.mp H
 obtain ⟨t220, A30, H⟩ := H
 replace H : ((spec_flGo.f k a0_0 a0_1 l0_2 t220 a1).bind fun bt223 => (some (bt223.1, bt223.2.1, bt223.2.2.1, bt223.2.2.2.1, bt223.2.2.2.2.1, bt223.2.2.2.2.2.1))) = some (r1, r2, r3, r4, r5, r6) := H
 have A3 := Aside0.mk A30
 clear A30
 replace H := Option.bind_eq_some_iff.mp H
 obtain ⟨⟨t223, t224, t225, t226, t227, t228, t231⟩, A40, H⟩ := H
 replace H : (some (t223, t224, t225, t226, t227, t228)) = some (r1, r2, r3, r4, r5, r6) := H
 have A4 := Aside0.mk A40
 clear A40
 simp only [Option.some.injEq, Prod.mk.injEq] at H
 obtain ⟨rfl, rfl, rfl, rfl, rfl, rfl⟩ := H
 go_enter Try.func51, Try.ntmps51
 try go_wp2_with (first | ((with_reducible refine gate_dst (N := 2) rfl ?_); refine box_ev (N := 2) (cs := #[.int .i64 a0_0, .int .i64 a0_1, .slice A0_2 l0_2.length c0_2]) (t := 32) ?_; intro gb217 hg w5 hbox hb; have BK217 := Aside0.mk (hbox); have GW217 := gW (w := w) HB hg; have GE217 := gW (w := w) HB hg; replace HB := bB HB hb; clear hb hbox hg) | ((with_reducible refine gate_dst (N := 4) rfl ?_); refine box_ev (N := 4) (cs := #[.int .i64 0, .int .i64 0, .int .i64 0]) (t := 27) ?_; intro gb218 hg w6 hbox hb; have BK218 := Aside0.mk (hbox); have GW218 := gW (w := w) HB hg; have GE218 := gW (w := w) HB hg; have NB217_218 := neL BK217 hg; have NB218_217 := neG BK217 hg; replace BK217 := kB BK217 hb; replace HB := bB HB hb; clear hb hbox hg) | ((with_reducible refine gate_dst (N := 5) rfl ?_); refine box_ev (N := 5) (cs := #[.int .i64 0, .int .i64 0, .slice none 0 0]) (t := 32) ?_; intro gb219 hg w7 hbox hb; have BK219 := Aside0.mk (hbox); have GW219 := gW (w := w) HB hg; have GE219 := gW (w := w) HB hg; have NB217_219 := neL BK217 hg; have NB219_217 := neG BK217 hg; have NB218_219 := neL BK218 hg; have NB219_218 := neG BK218 hg; replace BK217 := kB BK217 hb; replace BK218 := kB BK218 hb; replace HB := bB HB hb; clear hb hbox hg))
 replace BK217 := Aside0.mk (blk_drew BK217.out)
 replace BK218 := Aside0.mk (blk_drew BK218.out)
 replace BK219 := Aside0.mk (blk_drew BK219.out)
 replace HB := Aside0.mk (below_drew1 HB.out)
 refine start_ (n := 14) (S := fun w' => w'.cell? ⟨gb217, 0, none⟩ = some (.int .i64 a0_0) ∧ w'.cell? ⟨gb217, 1, none⟩ = some (.int .i64 a0_1) ∧ w'.cell? ⟨gb217, 2, none⟩ = some (.slice A0_2 l0_2.length c0_2)) (ds := []) #[false, false, false, false, false, false, false, false, false, false, false, false, false, false] (by kernel_rfl) rfl rfl ⟨(blk_cell BK217.out 0).trans rfl, (blk_cell BK217.out 1).trans rfl, (blk_cell BK217.out 2).trans rfl⟩ (fun hHeld => ?_); refine with_tabW spec_flRun.tab1 spec_flRun.bits1 (fun HT_ HW_ => ?_)
 generalize w7.drew = w8 at BK217 BK218 BK219 HB hHeld ⊢
 refine pure_ (i := 3) (N := some 13) (v := ?_) (a' := ?_) #[false, false, false, true, false, false, false, false, false, false, false, false, false, false] rfl rfl (any_of HT_.out (by kernel_rfl)) (fun _ _ _ h => h) (Or.inl ⟨by rfl, ?_⟩) ?_ ?_
 rotate_left
 ·intro w'
  go_simp
  with_reducible rfl
 rotate_left
 ·simp only [Act.put, q1, q2, q3, i64_w, i32_w]
  rfl
 refine take_ (i := 0) (N := some 10) (v := ?_) (a' := ?_) #[true, false, false, true, false, false, false, false, false, false, false, false, false, false] rfl rfl (take_ofW HT_.out HW_.out (by kernel_rfl)) (fun _ _ _ h => h) (Or.inl ⟨by rfl, ?_⟩) hHeld ?_ ?_
 rotate_left
 ·rintro w' ⟨s0, s1, s2⟩
  go_simp
  with_reducible rfl
 rotate_left
 ·simp only [Act.put, q1, q2, q3, i64_w, i32_w]
  rfl
 refine take_ (i := 1) (N := some 11) (v := ?_) (a' := ?_) #[true, true, false, true, false, false, false, false, false, false, false, false, false, false] rfl rfl (take_ofW HT_.out HW_.out (by kernel_rfl)) (fun _ _ _ h => h) (Or.inl ⟨by rfl, ?_⟩) hHeld ?_ ?_
 rotate_left
 ·rintro w' ⟨s0, s1, s2⟩
  go_simp
  with_reducible rfl
 rotate_left
 ·simp only [Act.put, q1, q2, q3, i64_w, i32_w]
  rfl
 refine join_ (σ := Value × Value × Value × Nat × Nat) 3 #[true, true, true, true, true, true, true, true, true, true, true, false, false, false] (fun s_ => [(12, s_.1), (14, .tuple #[.agg #[.int .i64 t223, .int .i64 t224, .int .i64 t225], .agg #[.int .i64 t226, .int .i64 t227, s_.2.1], s_.2.2.1]), (6, .pointer (some ⟨s_.2.2.2.1, 0, none⟩)), (7, .pointer (some ⟨s_.2.2.2.2, 0, none⟩)), (9, .tuple #[.agg #[.int .i64 t223, .int .i64 t224, .int .i64 t225], .agg #[.int .i64 t226, .int .i64 t227, s_.2.1], s_.2.2.1]), (15, .agg #[.int .i64 t223, .int .i64 t224, .int .i64 t225]), (16, .agg #[.int .i64 t226, .int .i64 t227, s_.2.1]), (17, s_.2.2.1)]) (fun s_ w' => (w'.cell? ⟨gb217, 0, none⟩ = some (.int .i64 a0_0) ∧ w'.cell? ⟨gb217, 1, none⟩ = some (.int .i64 a0_1) ∧ w'.cell? ⟨gb217, 2, none⟩ = some (.slice A0_2 l0_2.length c0_2)) ∧ (Kd.R (Kd.int .i64) 3 w' w.heap.size (fun _ => True) s_.1 t220) ∧ (Kd.R k89 89 w' w.heap.size (fun _ => True) s_.2.1 t228) ∧ (Kd.S (Kd.slice 3 (Kd.int .i64)) 43 w' w.heap.size (fun k_ => some k_ ≠ (s_.1 : Value).ownBlock) s_.2.2.1 t231) ∧ (w'.heap[gb217]? = some (.cells #[.int .i64 a0_0, .int .i64 a0_1, .slice A0_2 l0_2.length c0_2] 32 (0, 0))) ∧ (w'.heap[gb218]? = some (.cells #[.int .i64 0, .int .i64 0, .int .i64 0] 27 (0, 0))) ∧ (w'.heap[gb219]? = some (.cells #[.int .i64 0, .int .i64 0, .slice none 0 0] 32 (0, 0))) ∧ (w'.heap[s_.2.2.2.1]? = some (.cells #[.int .i64 0, .int .i64 0, .int .i64 0] 27 (0, 0))) ∧ (w'.heap[s_.2.2.2.2]? = some (.cells #[.int .i64 0, .int .i64 0, .slice none 0 0] 32 (0, 0))) ∧ (w.heap.size ≤ s_.2.2.2.1) ∧ (w.heap.size ≤ s_.2.2.2.1) ∧ (gb217 ≠ s_.2.2.2.1) ∧ (s_.2.2.2.1 ≠ gb217) ∧ (gb218 ≠ s_.2.2.2.1) ∧ (s_.2.2.2.1 ≠ gb218) ∧ (gb219 ≠ s_.2.2.2.1) ∧ (s_.2.2.2.1 ≠ gb219) ∧ (s_.2.2.2.2 ≠ s_.2.2.2.1) ∧ (s_.2.2.2.1 ≠ s_.2.2.2.2) ∧ (w.heap.size ≤ s_.2.2.2.2) ∧ (w.heap.size ≤ s_.2.2.2.2) ∧ (gb217 ≠ s_.2.2.2.2) ∧ (s_.2.2.2.2 ≠ gb217) ∧ (gb218 ≠ s_.2.2.2.2) ∧ (s_.2.2.2.2 ≠ gb218) ∧ (gb219 ≠ s_.2.2.2.2) ∧ (s_.2.2.2.2 ≠ gb219) ∧ (Below w.heap.size w w')) ?_ ?_
 rotate_left
 ·intro hJ2_4_9_10
  refine join_ (σ := Value × Value × Value × Nat) 4 #[true, true, true, true, true, true, true, true, true, true, false, false, false, false] (fun s_ => [(12, s_.1), (14, .tuple #[.agg #[.int .i64 t223, .int .i64 t224, .int .i64 t225], .agg #[.int .i64 t226, .int .i64 t227, s_.2.1], s_.2.2.1]), (6, .pointer (some ⟨s_.2.2.2, 0, none⟩)), (9, .tuple #[.agg #[.int .i64 t223, .int .i64 t224, .int .i64 t225], .agg #[.int .i64 t226, .int .i64 t227, s_.2.1], s_.2.2.1]), (15, .agg #[.int .i64 t223, .int .i64 t224, .int .i64 t225]), (16, .agg #[.int .i64 t226, .int .i64 t227, s_.2.1]), (17, s_.2.2.1)]) (fun s_ w' => (w'.cell? ⟨gb217, 0, none⟩ = some (.int .i64 a0_0) ∧ w'.cell? ⟨gb217, 1, none⟩ = some (.int .i64 a0_1) ∧ w'.cell? ⟨gb217, 2, none⟩ = some (.slice A0_2 l0_2.length c0_2)) ∧ (Kd.R (Kd.int .i64) 3 w' w.heap.size (fun _ => True) s_.1 t220) ∧ (Kd.R k89 89 w' w.heap.size (fun _ => True) s_.2.1 t228) ∧ (Kd.S (Kd.slice 3 (Kd.int .i64)) 43 w' w.heap.size (fun k_ => some k_ ≠ (s_.1 : Value).ownBlock) s_.2.2.1 t231) ∧ (w'.heap[gb217]? = some (.cells #[.int .i64 a0_0, .int .i64 a0_1, .slice A0_2 l0_2.length c0_2] 32 (0, 0))) ∧ (w'.heap[gb218]? = some (.cells #[.int .i64 0, .int .i64 0, .int .i64 0] 27 (0, 0))) ∧ (w'.heap[gb219]? = some (.cells #[.int .i64 0, .int .i64 0, .slice none 0 0] 32 (0, 0))) ∧ (w'.heap[s_.2.2.2]? = some (.cells #[.int .i64 0, .int .i64 0, .int .i64 0] 27 (0, 0))) ∧ (w.heap.size ≤ s_.2.2.2) ∧ (w.heap.size ≤ s_.2.2.2) ∧ (gb217 ≠ s_.2.2.2) ∧ (s_.2.2.2 ≠ gb217) ∧ (gb218 ≠ s_.2.2.2) ∧ (s_.2.2.2 ≠ gb218) ∧ (gb219 ≠ s_.2.2.2) ∧ (s_.2.2.2 ≠ gb219) ∧ (Below w.heap.size w w')) ?_ ?_
  rotate_left
  ·intro hJ2_4_9
   refine join_ (σ := Value × Value × Value × Nat) 4 #[true, true, true, true, true, true, true, true, true, false, true, false, false, false] (fun s_ => [(12, s_.1), (14, .tuple #[.agg #[.int .i64 t223, .int .i64 t224, .int .i64 t225], .agg #[.int .i64 t226, .int .i64 t227, s_.2.1], s_.2.2.1]), (7, .pointer (some ⟨s_.2.2.2, 0, none⟩)), (9, .tuple #[.agg #[.int .i64 t223, .int .i64 t224, .int .i64 t225], .agg #[.int .i64 t226, .int .i64 t227, s_.2.1], s_.2.2.1]), (15, .agg #[.int .i64 t223, .int .i64 t224, .int .i64 t225]), (16, .agg #[.int .i64 t226, .int .i64 t227, s_.2.1]), (17, s_.2.2.1)]) (fun s_ w' => (w'.cell? ⟨gb217, 0, none⟩ = some (.int .i64 a0_0) ∧ w'.cell? ⟨gb217, 1, none⟩ = some (.int .i64 a0_1) ∧ w'.cell? ⟨gb217, 2, none⟩ = some (.slice A0_2 l0_2.length c0_2)) ∧ (Kd.R (Kd.int .i64) 3 w' w.heap.size (fun _ => True) s_.1 t220) ∧ (Kd.R k89 89 w' w.heap.size (fun _ => True) s_.2.1 t228) ∧ (Kd.S (Kd.slice 3 (Kd.int .i64)) 43 w' w.heap.size (fun k_ => some k_ ≠ (s_.1 : Value).ownBlock) s_.2.2.1 t231) ∧ (w'.heap[gb217]? = some (.cells #[.int .i64 a0_0, .int .i64 a0_1, .slice A0_2 l0_2.length c0_2] 32 (0, 0))) ∧ (w'.heap[gb218]? = some (.cells #[.int .i64 0, .int .i64 0, .int .i64 0] 27 (0, 0))) ∧ (w'.heap[gb219]? = some (.cells #[.int .i64 0, .int .i64 0, .slice none 0 0] 32 (0, 0))) ∧ (w'.heap[s_.2.2.2]? = some (.cells #[.int .i64 0, .int .i64 0, .slice none 0 0] 32 (0, 0))) ∧ (w.heap.size ≤ s_.2.2.2) ∧ (w.heap.size ≤ s_.2.2.2) ∧ (gb217 ≠ s_.2.2.2) ∧ (s_.2.2.2 ≠ gb217) ∧ (gb218 ≠ s_.2.2.2) ∧ (s_.2.2.2 ≠ gb218) ∧ (gb219 ≠ s_.2.2.2) ∧ (s_.2.2.2 ≠ gb219) ∧ (Below w.heap.size w w')) ?_ ?_
   rotate_left
   ·intro hJ2_4_10
    refine join_ (σ := Value × Nat × Nat) 8 #[true, true, true, true, false, false, false, false, false, true, true, false, false, false] (fun s_ => [(12, s_.1), (6, .pointer (some ⟨s_.2.1, 0, none⟩)), (7, .pointer (some ⟨s_.2.2, 0, none⟩))]) (fun s_ w' => (w'.cell? ⟨gb217, 0, none⟩ = some (.int .i64 a0_0) ∧ w'.cell? ⟨gb217, 1, none⟩ = some (.int .i64 a0_1) ∧ w'.cell? ⟨gb217, 2, none⟩ = some (.slice A0_2 l0_2.length c0_2)) ∧ (Kd.R (Kd.int .i64) 3 w' w.heap.size (fun _ => True) s_.1 t220) ∧ (w'.heap[gb217]? = some (.cells #[.int .i64 a0_0, .int .i64 a0_1, .slice A0_2 l0_2.length c0_2] 32 (0, 0))) ∧ (w'.heap[gb218]? = some (.cells #[.int .i64 0, .int .i64 0, .int .i64 0] 27 (0, 0))) ∧ (w'.heap[gb219]? = some (.cells #[.int .i64 0, .int .i64 0, .slice none 0 0] 32 (0, 0))) ∧ (w'.heap[s_.2.1]? = some (.cells #[.int .i64 0, .int .i64 0, .int .i64 0] 27 (0, 0))) ∧ (w'.heap[s_.2.2]? = some (.cells #[.int .i64 0, .int .i64 0, .slice none 0 0] 32 (0, 0))) ∧ (w.heap.size ≤ s_.2.1) ∧ (w.heap.size ≤ s_.2.1) ∧ (gb217 ≠ s_.2.1) ∧ (s_.2.1 ≠ gb217) ∧ (gb218 ≠ s_.2.1) ∧ (s_.2.1 ≠ gb218) ∧ (gb219 ≠ s_.2.1) ∧ (s_.2.1 ≠ gb219) ∧ (s_.2.2 ≠ s_.2.1) ∧ (s_.2.1 ≠ s_.2.2) ∧ (w.heap.size ≤ s_.2.2) ∧ (w.heap.size ≤ s_.2.2) ∧ (gb217 ≠ s_.2.2) ∧ (s_.2.2 ≠ gb217) ∧ (gb218 ≠ s_.2.2) ∧ (s_.2.2 ≠ gb218) ∧ (gb219 ≠ s_.2.2) ∧ (s_.2.2 ≠ gb219) ∧ (Below w.heap.size w w')) ?_ ?_
    rotate_left
    ·intro hJ2_9_10
     refine join_ (σ := Value × Value × Value) 5 #[true, true, true, true, true, true, true, true, true, false, false, false, false, false] (fun s_ => [(12, s_.1), (14, .tuple #[.agg #[.int .i64 t223, .int .i64 t224, .int .i64 t225], .agg #[.int .i64 t226, .int .i64 t227, s_.2.1], s_.2.2]), (9, .tuple #[.agg #[.int .i64 t223, .int .i64 t224, .int .i64 t225], .agg #[.int .i64 t226, .int .i64 t227, s_.2.1], s_.2.2]), (15, .agg #[.int .i64 t223, .int .i64 t224, .int .i64 t225]), (16, .agg #[.int .i64 t226, .int .i64 t227, s_.2.1]), (17, s_.2.2)]) (fun s_ w' => (w'.cell? ⟨gb217, 0, none⟩ = some (.int .i64 a0_0) ∧ w'.cell? ⟨gb217, 1, none⟩ = some (.int .i64 a0_1) ∧ w'.cell? ⟨gb217, 2, none⟩ = some (.slice A0_2 l0_2.length c0_2)) ∧ (Kd.R (Kd.int .i64) 3 w' w.heap.size (fun _ => True) s_.1 t220) ∧ (Kd.R k89 89 w' w.heap.size (fun _ => True) s_.2.1 t228) ∧ (Kd.S (Kd.slice 3 (Kd.int .i64)) 43 w' w.heap.size (fun k_ => some k_ ≠ (s_.1 : Value).ownBlock) s_.2.2 t231) ∧ (w'.heap[gb217]? = some (.cells #[.int .i64 a0_0, .int .i64 a0_1, .slice A0_2 l0_2.length c0_2] 32 (0, 0))) ∧ (w'.heap[gb218]? = some (.cells #[.int .i64 0, .int .i64 0, .int .i64 0] 27 (0, 0))) ∧ (w'.heap[gb219]? = some (.cells #[.int .i64 0, .int .i64 0, .slice none 0 0] 32 (0, 0))) ∧ (Below w.heap.size w w')) ?_ ?_
     rotate_left
     ·intro hJ2_4
      refine join_ (σ := Value × Nat) 9 #[true, true, true, true, false, false, false, false, false, true, false, false, false, false] (fun s_ => [(12, s_.1), (6, .pointer (some ⟨s_.2, 0, none⟩))]) (fun s_ w' => (w'.cell? ⟨gb217, 0, none⟩ = some (.int .i64 a0_0) ∧ w'.cell? ⟨gb217, 1, none⟩ = some (.int .i64 a0_1) ∧ w'.cell? ⟨gb217, 2, none⟩ = some (.slice A0_2 l0_2.length c0_2)) ∧ (Kd.R (Kd.int .i64) 3 w' w.heap.size (fun _ => True) s_.1 t220) ∧ (w'.heap[gb217]? = some (.cells #[.int .i64 a0_0, .int .i64 a0_1, .slice A0_2 l0_2.length c0_2] 32 (0, 0))) ∧ (w'.heap[gb218]? = some (.cells #[.int .i64 0, .int .i64 0, .int .i64 0] 27 (0, 0))) ∧ (w'.heap[gb219]? = some (.cells #[.int .i64 0, .int .i64 0, .slice none 0 0] 32 (0, 0))) ∧ (w'.heap[s_.2]? = some (.cells #[.int .i64 0, .int .i64 0, .int .i64 0] 27 (0, 0))) ∧ (w.heap.size ≤ s_.2) ∧ (w.heap.size ≤ s_.2) ∧ (gb217 ≠ s_.2) ∧ (s_.2 ≠ gb217) ∧ (gb218 ≠ s_.2) ∧ (s_.2 ≠ gb218) ∧ (gb219 ≠ s_.2) ∧ (s_.2 ≠ gb219) ∧ (Below w.heap.size w w')) ?_ ?_
      rotate_left
      ·intro hJ2_9
       refine join_ (σ := Value × Nat) 9 #[true, true, true, true, false, false, false, false, false, false, true, false, false, false] (fun s_ => [(12, s_.1), (7, .pointer (some ⟨s_.2, 0, none⟩))]) (fun s_ w' => (w'.cell? ⟨gb217, 0, none⟩ = some (.int .i64 a0_0) ∧ w'.cell? ⟨gb217, 1, none⟩ = some (.int .i64 a0_1) ∧ w'.cell? ⟨gb217, 2, none⟩ = some (.slice A0_2 l0_2.length c0_2)) ∧ (Kd.R (Kd.int .i64) 3 w' w.heap.size (fun _ => True) s_.1 t220) ∧ (w'.heap[gb217]? = some (.cells #[.int .i64 a0_0, .int .i64 a0_1, .slice A0_2 l0_2.length c0_2] 32 (0, 0))) ∧ (w'.heap[gb218]? = some (.cells #[.int .i64 0, .int .i64 0, .int .i64 0] 27 (0, 0))) ∧ (w'.heap[gb219]? = some (.cells #[.int .i64 0, .int .i64 0, .slice none 0 0] 32 (0, 0))) ∧ (w'.heap[s_.2]? = some (.cells #[.int .i64 0, .int .i64 0, .slice none 0 0] 32 (0, 0))) ∧ (w.heap.size ≤ s_.2) ∧ (w.heap.size ≤ s_.2) ∧ (gb217 ≠ s_.2) ∧ (s_.2 ≠ gb217) ∧ (gb218 ≠ s_.2) ∧ (s_.2 ≠ gb218) ∧ (gb219 ≠ s_.2) ∧ (s_.2 ≠ gb219) ∧ (Below w.heap.size w w')) ?_ ?_
       rotate_left
       ·intro hJ2_10
        refine join_ (σ := Nat × Nat) 9 #[true, true, false, true, false, false, false, false, false, true, true, false, false, false] (fun s_ => [(6, .pointer (some ⟨s_.1, 0, none⟩)), (7, .pointer (some ⟨s_.2, 0, none⟩))]) (fun s_ w' => (w'.cell? ⟨gb217, 0, none⟩ = some (.int .i64 a0_0) ∧ w'.cell? ⟨gb217, 1, none⟩ = some (.int .i64 a0_1) ∧ w'.cell? ⟨gb217, 2, none⟩ = some (.slice A0_2 l0_2.length c0_2)) ∧ (w'.heap[gb217]? = some (.cells #[.int .i64 a0_0, .int .i64 a0_1, .slice A0_2 l0_2.length c0_2] 32 (0, 0))) ∧ (w'.heap[gb218]? = some (.cells #[.int .i64 0, .int .i64 0, .int .i64 0] 27 (0, 0))) ∧ (w'.heap[gb219]? = some (.cells #[.int .i64 0, .int .i64 0, .slice none 0 0] 32 (0, 0))) ∧ (w'.heap[s_.1]? = some (.cells #[.int .i64 0, .int .i64 0, .int .i64 0] 27 (0, 0))) ∧ (w'.heap[s_.2]? = some (.cells #[.int .i64 0, .int .i64 0, .slice none 0 0] 32 (0, 0))) ∧ (w.heap.size ≤ s_.1) ∧ (w.heap.size ≤ s_.1) ∧ (gb217 ≠ s_.1) ∧ (s_.1 ≠ gb217) ∧ (gb218 ≠ s_.1) ∧ (s_.1 ≠ gb218) ∧ (gb219 ≠ s_.1) ∧ (s_.1 ≠ gb219) ∧ (s_.2 ≠ s_.1) ∧ (s_.1 ≠ s_.2) ∧ (w.heap.size ≤ s_.2) ∧ (w.heap.size ≤ s_.2) ∧ (gb217 ≠ s_.2) ∧ (s_.2 ≠ gb217) ∧ (gb218 ≠ s_.2) ∧ (s_.2 ≠ gb218) ∧ (gb219 ≠ s_.2) ∧ (s_.2 ≠ gb219) ∧ (Below w.heap.size w w')) ?_ ?_
        rotate_left
        ·intro hJ9_10
         refine join_ (σ := Value) 10 #[true, true, true, true, false, false, false, false, false, false, false, false, false, false] (fun s_ => [(12, s_)]) (fun s_ w' => (w'.cell? ⟨gb217, 0, none⟩ = some (.int .i64 a0_0) ∧ w'.cell? ⟨gb217, 1, none⟩ = some (.int .i64 a0_1) ∧ w'.cell? ⟨gb217, 2, none⟩ = some (.slice A0_2 l0_2.length c0_2)) ∧ (Kd.R (Kd.int .i64) 3 w' w.heap.size (fun _ => True) s_ t220) ∧ (w'.heap[gb217]? = some (.cells #[.int .i64 a0_0, .int .i64 a0_1, .slice A0_2 l0_2.length c0_2] 32 (0, 0))) ∧ (w'.heap[gb218]? = some (.cells #[.int .i64 0, .int .i64 0, .int .i64 0] 27 (0, 0))) ∧ (w'.heap[gb219]? = some (.cells #[.int .i64 0, .int .i64 0, .slice none 0 0] 32 (0, 0))) ∧ (Below w.heap.size w w')) ?_ ?_
         rotate_left
         ·intro hJ2
          refine join_ (σ := Nat) 10 #[true, true, false, true, false, false, false, false, false, true, false, false, false, false] (fun s_ => [(6, .pointer (some ⟨s_, 0, none⟩))]) (fun s_ w' => (w'.cell? ⟨gb217, 0, none⟩ = some (.int .i64 a0_0) ∧ w'.cell? ⟨gb217, 1, none⟩ = some (.int .i64 a0_1) ∧ w'.cell? ⟨gb217, 2, none⟩ = some (.slice A0_2 l0_2.length c0_2)) ∧ (w'.heap[gb217]? = some (.cells #[.int .i64 a0_0, .int .i64 a0_1, .slice A0_2 l0_2.length c0_2] 32 (0, 0))) ∧ (w'.heap[gb218]? = some (.cells #[.int .i64 0, .int .i64 0, .int .i64 0] 27 (0, 0))) ∧ (w'.heap[gb219]? = some (.cells #[.int .i64 0, .int .i64 0, .slice none 0 0] 32 (0, 0))) ∧ (w'.heap[s_]? = some (.cells #[.int .i64 0, .int .i64 0, .int .i64 0] 27 (0, 0))) ∧ (w.heap.size ≤ s_) ∧ (w.heap.size ≤ s_) ∧ (gb217 ≠ s_) ∧ (s_ ≠ gb217) ∧ (gb218 ≠ s_) ∧ (s_ ≠ gb218) ∧ (gb219 ≠ s_) ∧ (s_ ≠ gb219) ∧ (Below w.heap.size w w')) ?_ ?_
          rotate_left
          ·intro hJ9
           refine join_ (σ := Nat) 10 #[true, true, false, true, false, false, false, false, false, false, true, false, false, false] (fun s_ => [(7, .pointer (some ⟨s_, 0, none⟩))]) (fun s_ w' => (w'.cell? ⟨gb217, 0, none⟩ = some (.int .i64 a0_0) ∧ w'.cell? ⟨gb217, 1, none⟩ = some (.int .i64 a0_1) ∧ w'.cell? ⟨gb217, 2, none⟩ = some (.slice A0_2 l0_2.length c0_2)) ∧ (w'.heap[gb217]? = some (.cells #[.int .i64 a0_0, .int .i64 a0_1, .slice A0_2 l0_2.length c0_2] 32 (0, 0))) ∧ (w'.heap[gb218]? = some (.cells #[.int .i64 0, .int .i64 0, .int .i64 0] 27 (0, 0))) ∧ (w'.heap[gb219]? = some (.cells #[.int .i64 0, .int .i64 0, .slice none 0 0] 32 (0, 0))) ∧ (w'.heap[s_]? = some (.cells #[.int .i64 0, .int .i64 0, .slice none 0 0] 32 (0, 0))) ∧ (w.heap.size ≤ s_) ∧ (w.heap.size ≤ s_) ∧ (gb217 ≠ s_) ∧ (s_ ≠ gb217) ∧ (gb218 ≠ s_) ∧ (s_ ≠ gb218) ∧ (gb219 ≠ s_) ∧ (s_ ≠ gb219) ∧ (Below w.heap.size w w')) ?_ ?_
           rotate_left
           ·intro hJ10
            refine three_ (i := 2) (j := 9) (k := 10) (Ni := some 12) (Nj := some 6) (Nk := some 7) #[true, true, true, true, false, false, false, false, false, false, false, false, false, false] #[true, true, false, true, false, false, false, false, false, true, false, false, false, false] #[true, true, false, true, false, false, false, false, false, false, true, false, false, false] rfl rfl rfl rfl rfl rfl (three_of HT_.out (by kernel_rfl)) (by decide) (by decide) (by decide) (fun K hK => ?_) (fun K hK => ?_) (fun K hK => ?_)
            ·skip
             refine goes_ Try.func62 (by kernel_rfl) rfl #[.agg #[.int .i64 a0_0, .int .i64 a0_1, .slice A0_2 l0_2.length c0_2]] (by rfl) rfl rfl (by (try simp only [List.map_toArray, List.map_cons, List.map_nil]); first | done | rfl | (simp only [List.length_drop, List.length_take]; rfl)) ?_
             with_reducible refine (spec_ggGroups.calls k a0_0 a0_1 _ _ l0_2 t220 _ ?side1 ?side2 A3.out).mono ?_
             (case side1 => repeat (first | exact (Kd.C_below HR0_2.out HB.out) | (with_reducible refine Kd.C_alloc ?_ _) | (with_reducible refine Kd.C_drewN ?_ _) | (with_reducible refine Kd.C_drew ?_)))
             (case side2 => exact HC0_2.out)
             rintro e w9 ⟨v221, rfl, ho0, hb⟩
             refine ⟨_, rfl, ?_⟩
             have HO222 := Aside0.mk (Kd.R_lower ho0 (below_size (viaB HB)))
             replace BK217 := kB BK217 hb
             replace BK218 := kB BK218 hb
             replace BK219 := kB BK219 hb
             replace HB := bB HB hb
             (try clear hb); (try clear ho0)
             refine hK.out _ _ ⟨(blk_cell BK217.out 0).trans rfl, (blk_cell BK217.out 1).trans rfl, (blk_cell BK217.out 2).trans rfl⟩ (fun hHeld => ?_)
             clear hK K
             refine norm_ (a' := ?_) ?_ ?_
             rotate_left
             ·show Act.put _ (some 12) _ = _
              simp only [Act.put, q1, q2, q3, i64_w, i32_w]
              rfl
             exact norm_ (by first | (simp only [putAll, Act.put, q1, q2, q3]; done) | (simp only [putAll, Act.put, q1, q2, q3]; rfl)) (hJ2 (v221) _ ⟨hHeld, (viaR HO222), (viaK BK217), (viaK BK218), (viaK BK219), (viaB HB)⟩)
            ·skip
             refine box_step ?hg (N := 6) ?hd (cs := #[.int .i64 0, .int .i64 0, .int .i64 0]) (t := 27) ?hr ?_; (case hd => rfl); (case hg => rfl); (case hr => first | (go_simp; done) | (go_simp; rfl))
             intro gb234 hg w9 hbox hb
             have BK234 := Aside0.mk (hbox)
             have GW234 := gW (w := w) HB hg
             have GE234 := gW (w := w) HB hg
             have NB217_234 := neL BK217 hg
             have NB234_217 := neG BK217 hg
             have NB218_234 := neL BK218 hg
             have NB234_218 := neG BK218 hg
             have NB219_234 := neL BK219 hg
             have NB234_219 := neG BK219 hg
             replace BK217 := kB BK217 hb
             replace BK218 := kB BK218 hb
             replace BK219 := kB BK219 hb
             replace HB := bB HB hb
             clear hb hbox hg
             refine hK.out _ _ ⟨(blk_cell BK217.out 0).trans rfl, (blk_cell BK217.out 1).trans rfl, (blk_cell BK217.out 2).trans rfl⟩ (fun hHeld => ?_)
             clear hK K
             refine norm_ (a' := ?_) ?_ ?_
             rotate_left
             ·show Act.put _ (some 6) _ = _
              simp only [Act.put, q1, q2, q3, i64_w, i32_w]
              rfl
             exact norm_ (by first | (simp only [putAll, Act.put, q1, q2, q3]; done) | (simp only [putAll, Act.put, q1, q2, q3]; rfl)) (hJ9 (gb234) _ ⟨hHeld, (viaK BK217), (viaK BK218), (viaK BK219), (viaK BK234), GW234.out, GE234.out, NB217_234.out, NB234_217.out, NB218_234.out, NB234_218.out, NB219_234.out, NB234_219.out, (viaB HB)⟩)
            ·skip
             refine box_step ?hg (N := 7) ?hd (cs := #[.int .i64 0, .int .i64 0, .slice none 0 0]) (t := 32) ?hr ?_; (case hd => rfl); (case hg => rfl); (case hr => first | (go_simp; done) | (go_simp; rfl))
             intro gb235 hg w9 hbox hb
             have BK235 := Aside0.mk (hbox)
             have GW235 := gW (w := w) HB hg
             have GE235 := gW (w := w) HB hg
             have NB217_235 := neL BK217 hg
             have NB235_217 := neG BK217 hg
             have NB218_235 := neL BK218 hg
             have NB235_218 := neG BK218 hg
             have NB219_235 := neL BK219 hg
             have NB235_219 := neG BK219 hg
             replace BK217 := kB BK217 hb
             replace BK218 := kB BK218 hb
             replace BK219 := kB BK219 hb
             replace HB := bB HB hb
             clear hb hbox hg
             refine hK.out _ _ ⟨(blk_cell BK217.out 0).trans rfl, (blk_cell BK217.out 1).trans rfl, (blk_cell BK217.out 2).trans rfl⟩ (fun hHeld => ?_)
             clear hK K
             refine norm_ (a' := ?_) ?_ ?_
             rotate_left
             ·show Act.put _ (some 7) _ = _
              simp only [Act.put, q1, q2, q3, i64_w, i32_w]
              rfl
             exact norm_ (by first | (simp only [putAll, Act.put, q1, q2, q3]; done) | (simp only [putAll, Act.put, q1, q2, q3]; rfl)) (hJ10 (gb235) _ ⟨hHeld, (viaK BK217), (viaK BK218), (viaK BK219), (viaK BK235), GW235.out, GE235.out, NB217_235.out, NB235_217.out, NB218_235.out, NB235_218.out, NB219_235.out, NB235_219.out, (viaB HB)⟩)
           ·skip
            rintro gb235 w10 ⟨hS_, h0_, h1_, h2_, h3_, h4_, h5_, h6_, h7_, h8_, h9_, h10_, h11_, h12_⟩
            have BK235 : Aside0 (w10.heap[gb235]? = some (.cells #[.int .i64 0, .int .i64 0, .slice none 0 0] 32 (0, 0))) := ⟨h3_⟩
            have GW235 : Aside0 (w.heap.size ≤ gb235) := ⟨h4_⟩
            have GE235 : Aside0 (w.heap.size ≤ gb235) := ⟨h5_⟩
            have NB217_235 : Aside0 (gb217 ≠ gb235) := ⟨h6_⟩
            have NB235_217 : Aside0 (gb235 ≠ gb217) := ⟨h7_⟩
            have NB218_235 : Aside0 (gb218 ≠ gb235) := ⟨h8_⟩
            have NB235_218 : Aside0 (gb235 ≠ gb218) := ⟨h9_⟩
            have NB219_235 : Aside0 (gb219 ≠ gb235) := ⟨h10_⟩
            have NB235_219 : Aside0 (gb235 ≠ gb219) := ⟨h11_⟩
            replace BK217 : Aside0 (w10.heap[gb217]? = some (.cells #[.int .i64 a0_0, .int .i64 a0_1, .slice A0_2 l0_2.length c0_2] 32 (0, 0))) := ⟨h0_⟩
            replace BK218 : Aside0 (w10.heap[gb218]? = some (.cells #[.int .i64 0, .int .i64 0, .int .i64 0] 27 (0, 0))) := ⟨h1_⟩
            replace BK219 : Aside0 (w10.heap[gb219]? = some (.cells #[.int .i64 0, .int .i64 0, .slice none 0 0] 32 (0, 0))) := ⟨h2_⟩
            replace HB : Aside0 (Below w.heap.size w w10) := ⟨h12_⟩
            clear h0_ h1_ h2_ h3_ h4_ h5_ h6_ h7_ h8_ h9_ h10_ h11_ h12_
            have hHeld : w10.cell? ⟨gb217, 0, none⟩ = some (.int .i64 a0_0) ∧ w10.cell? ⟨gb217, 1, none⟩ = some (.int .i64 a0_1) ∧ w10.cell? ⟨gb217, 2, none⟩ = some (.slice A0_2 l0_2.length c0_2) := hS_
            refine norm_ (a' := ?_) ?_ ?_
            rotate_left
            ·simp only [putAll, Act.put, q1, q2, q3]
             rfl
            refine two_ (i := 2) (j := 9) (Ni := some 12) (Nj := some 6) #[true, true, true, true, false, false, false, false, false, false, true, false, false, false] #[true, true, false, true, false, false, false, false, false, true, true, false, false, false] rfl rfl rfl rfl (two_of HT_.out (by kernel_rfl)) (by decide) (by decide) (fun K hK => ?_) (fun K hK => ?_)
            ·skip
             refine goes_ Try.func62 (by kernel_rfl) rfl #[.agg #[.int .i64 a0_0, .int .i64 a0_1, .slice A0_2 l0_2.length c0_2]] (by rfl) rfl rfl (by (try simp only [List.map_toArray, List.map_cons, List.map_nil]); first | done | rfl | (simp only [List.length_drop, List.length_take]; rfl)) ?_
             with_reducible refine (spec_ggGroups.calls k a0_0 a0_1 _ _ l0_2 t220 _ ?side1 ?side2 A3.out).mono ?_
             (case side1 => repeat (first | exact (Kd.C_below HR0_2.out HB.out) | (with_reducible refine Kd.C_alloc ?_ _) | (with_reducible refine Kd.C_drewN ?_ _) | (with_reducible refine Kd.C_drew ?_)))
             (case side2 => exact HC0_2.out)
             rintro e w11 ⟨v221, rfl, ho0, hb⟩
             refine ⟨_, rfl, ?_⟩
             have HO222 := Aside0.mk (Kd.R_lower ho0 (below_size (viaB HB)))
             replace BK217 := kB BK217 hb
             replace BK218 := kB BK218 hb
             replace BK219 := kB BK219 hb
             replace BK235 := kB BK235 hb
             replace HB := bB HB hb
             (try clear hb); (try clear ho0)
             refine hK.out _ _ ⟨(blk_cell BK217.out 0).trans rfl, (blk_cell BK217.out 1).trans rfl, (blk_cell BK217.out 2).trans rfl⟩ (fun hHeld => ?_)
             clear hK K
             refine norm_ (a' := ?_) ?_ ?_
             rotate_left
             ·show Act.put _ (some 12) _ = _
              simp only [Act.put, q1, q2, q3, i64_w, i32_w]
              rfl
             exact norm_ (by first | (simp only [putAll, Act.put, q1, q2, q3]; done) | (simp only [putAll, Act.put, q1, q2, q3]; rfl)) (hJ2_10 (v221, gb235) _ ⟨hHeld, (viaR HO222), (viaK BK217), (viaK BK218), (viaK BK219), (viaK BK235), GW235.out, GE235.out, NB217_235.out, NB235_217.out, NB218_235.out, NB235_218.out, NB219_235.out, NB235_219.out, (viaB HB)⟩)
            ·skip
             refine box_step ?hg (N := 6) ?hd (cs := #[.int .i64 0, .int .i64 0, .int .i64 0]) (t := 27) ?hr ?_; (case hd => rfl); (case hg => rfl); (case hr => first | (go_simp; done) | (go_simp; rfl))
             intro gb234 hg w11 hbox hb
             have BK234 := Aside0.mk (hbox)
             have GW234 := gW (w := w) HB hg
             have GE234 := gW (w := w) HB hg
             have NB217_234 := neL BK217 hg
             have NB234_217 := neG BK217 hg
             have NB218_234 := neL BK218 hg
             have NB234_218 := neG BK218 hg
             have NB219_234 := neL BK219 hg
             have NB234_219 := neG BK219 hg
             have NB235_234 := neL BK235 hg
             have NB234_235 := neG BK235 hg
             replace BK217 := kB BK217 hb
             replace BK218 := kB BK218 hb
             replace BK219 := kB BK219 hb
             replace BK235 := kB BK235 hb
             replace HB := bB HB hb
             clear hb hbox hg
             refine hK.out _ _ ⟨(blk_cell BK217.out 0).trans rfl, (blk_cell BK217.out 1).trans rfl, (blk_cell BK217.out 2).trans rfl⟩ (fun hHeld => ?_)
             clear hK K
             refine norm_ (a' := ?_) ?_ ?_
             rotate_left
             ·show Act.put _ (some 6) _ = _
              simp only [Act.put, q1, q2, q3, i64_w, i32_w]
              rfl
             exact norm_ (by first | (simp only [putAll, Act.put, q1, q2, q3]; done) | (simp only [putAll, Act.put, q1, q2, q3]; rfl)) (hJ9_10 (gb234, gb235) _ ⟨hHeld, (viaK BK217), (viaK BK218), (viaK BK219), (viaK BK234), (viaK BK235), GW234.out, GE234.out, NB217_234.out, NB234_217.out, NB218_234.out, NB234_218.out, NB219_234.out, NB234_219.out, NB235_234.out, NB234_235.out, GW235.out, GE235.out, NB217_235.out, NB235_217.out, NB218_235.out, NB235_218.out, NB219_235.out, NB235_219.out, (viaB HB)⟩)
          ·skip
           rintro gb234 w10 ⟨hS_, h0_, h1_, h2_, h3_, h4_, h5_, h6_, h7_, h8_, h9_, h10_, h11_, h12_⟩
           have BK234 : Aside0 (w10.heap[gb234]? = some (.cells #[.int .i64 0, .int .i64 0, .int .i64 0] 27 (0, 0))) := ⟨h3_⟩
           have GW234 : Aside0 (w.heap.size ≤ gb234) := ⟨h4_⟩
           have GE234 : Aside0 (w.heap.size ≤ gb234) := ⟨h5_⟩
           have NB217_234 : Aside0 (gb217 ≠ gb234) := ⟨h6_⟩
           have NB234_217 : Aside0 (gb234 ≠ gb217) := ⟨h7_⟩
           have NB218_234 : Aside0 (gb218 ≠ gb234) := ⟨h8_⟩
           have NB234_218 : Aside0 (gb234 ≠ gb218) := ⟨h9_⟩
           have NB219_234 : Aside0 (gb219 ≠ gb234) := ⟨h10_⟩
           have NB234_219 : Aside0 (gb234 ≠ gb219) := ⟨h11_⟩
           replace BK217 : Aside0 (w10.heap[gb217]? = some (.cells #[.int .i64 a0_0, .int .i64 a0_1, .slice A0_2 l0_2.length c0_2] 32 (0, 0))) := ⟨h0_⟩
           replace BK218 : Aside0 (w10.heap[gb218]? = some (.cells #[.int .i64 0, .int .i64 0, .int .i64 0] 27 (0, 0))) := ⟨h1_⟩
           replace BK219 : Aside0 (w10.heap[gb219]? = some (.cells #[.int .i64 0, .int .i64 0, .slice none 0 0] 32 (0, 0))) := ⟨h2_⟩
           replace HB : Aside0 (Below w.heap.size w w10) := ⟨h12_⟩
           clear h0_ h1_ h2_ h3_ h4_ h5_ h6_ h7_ h8_ h9_ h10_ h11_ h12_
           have hHeld : w10.cell? ⟨gb217, 0, none⟩ = some (.int .i64 a0_0) ∧ w10.cell? ⟨gb217, 1, none⟩ = some (.int .i64 a0_1) ∧ w10.cell? ⟨gb217, 2, none⟩ = some (.slice A0_2 l0_2.length c0_2) := hS_
           refine norm_ (a' := ?_) ?_ ?_
           rotate_left
           ·simp only [putAll, Act.put, q1, q2, q3]
            rfl
           refine two_ (i := 2) (j := 10) (Ni := some 12) (Nj := some 7) #[true, true, true, true, false, false, false, false, false, true, false, false, false, false] #[true, true, false, true, false, false, false, false, false, true, true, false, false, false] rfl rfl rfl rfl (two_of HT_.out (by kernel_rfl)) (by decide) (by decide) (fun K hK => ?_) (fun K hK => ?_)
           ·skip
            refine goes_ Try.func62 (by kernel_rfl) rfl #[.agg #[.int .i64 a0_0, .int .i64 a0_1, .slice A0_2 l0_2.length c0_2]] (by rfl) rfl rfl (by (try simp only [List.map_toArray, List.map_cons, List.map_nil]); first | done | rfl | (simp only [List.length_drop, List.length_take]; rfl)) ?_
            with_reducible refine (spec_ggGroups.calls k a0_0 a0_1 _ _ l0_2 t220 _ ?side1 ?side2 A3.out).mono ?_
            (case side1 => repeat (first | exact (Kd.C_below HR0_2.out HB.out) | (with_reducible refine Kd.C_alloc ?_ _) | (with_reducible refine Kd.C_drewN ?_ _) | (with_reducible refine Kd.C_drew ?_)))
            (case side2 => exact HC0_2.out)
            rintro e w11 ⟨v221, rfl, ho0, hb⟩
            refine ⟨_, rfl, ?_⟩
            have HO222 := Aside0.mk (Kd.R_lower ho0 (below_size (viaB HB)))
            replace BK217 := kB BK217 hb
            replace BK218 := kB BK218 hb
            replace BK219 := kB BK219 hb
            replace BK234 := kB BK234 hb
            replace HB := bB HB hb
            (try clear hb); (try clear ho0)
            refine hK.out _ _ ⟨(blk_cell BK217.out 0).trans rfl, (blk_cell BK217.out 1).trans rfl, (blk_cell BK217.out 2).trans rfl⟩ (fun hHeld => ?_)
            clear hK K
            refine norm_ (a' := ?_) ?_ ?_
            rotate_left
            ·show Act.put _ (some 12) _ = _
             simp only [Act.put, q1, q2, q3, i64_w, i32_w]
             rfl
            exact norm_ (by first | (simp only [putAll, Act.put, q1, q2, q3]; done) | (simp only [putAll, Act.put, q1, q2, q3]; rfl)) (hJ2_9 (v221, gb234) _ ⟨hHeld, (viaR HO222), (viaK BK217), (viaK BK218), (viaK BK219), (viaK BK234), GW234.out, GE234.out, NB217_234.out, NB234_217.out, NB218_234.out, NB234_218.out, NB219_234.out, NB234_219.out, (viaB HB)⟩)
           ·skip
            refine box_step ?hg (N := 7) ?hd (cs := #[.int .i64 0, .int .i64 0, .slice none 0 0]) (t := 32) ?hr ?_; (case hd => rfl); (case hg => rfl); (case hr => first | (go_simp; done) | (go_simp; rfl))
            intro gb235 hg w11 hbox hb
            have BK235 := Aside0.mk (hbox)
            have GW235 := gW (w := w) HB hg
            have GE235 := gW (w := w) HB hg
            have NB217_235 := neL BK217 hg
            have NB235_217 := neG BK217 hg
            have NB218_235 := neL BK218 hg
            have NB235_218 := neG BK218 hg
            have NB219_235 := neL BK219 hg
            have NB235_219 := neG BK219 hg
            have NB234_235 := neL BK234 hg
            have NB235_234 := neG BK234 hg
            replace BK217 := kB BK217 hb
            replace BK218 := kB BK218 hb
            replace BK219 := kB BK219 hb
            replace BK234 := kB BK234 hb
            replace HB := bB HB hb
            clear hb hbox hg
            refine hK.out _ _ ⟨(blk_cell BK217.out 0).trans rfl, (blk_cell BK217.out 1).trans rfl, (blk_cell BK217.out 2).trans rfl⟩ (fun hHeld => ?_)
            clear hK K
            refine norm_ (a' := ?_) ?_ ?_
            rotate_left
            ·show Act.put _ (some 7) _ = _
             simp only [Act.put, q1, q2, q3, i64_w, i32_w]
             rfl
            exact norm_ (by first | (simp only [putAll, Act.put, q1, q2, q3]; done) | (simp only [putAll, Act.put, q1, q2, q3]; rfl)) (hJ9_10 (gb234, gb235) _ ⟨hHeld, (viaK BK217), (viaK BK218), (viaK BK219), (viaK BK234), (viaK BK235), GW234.out, GE234.out, NB217_234.out, NB234_217.out, NB218_234.out, NB234_218.out, NB219_234.out, NB234_219.out, NB235_234.out, NB234_235.out, GW235.out, GE235.out, NB217_235.out, NB235_217.out, NB218_235.out, NB235_218.out, NB219_235.out, NB235_219.out, (viaB HB)⟩)
         ·skip
          rintro v221 w10 ⟨hS_, h0_, h1_, h2_, h3_, h4_⟩
          have HO222 : Aside0 (Kd.R (Kd.int .i64) 3 w10 w.heap.size (fun _ => True) v221 t220) := ⟨h0_⟩
          replace BK217 : Aside0 (w10.heap[gb217]? = some (.cells #[.int .i64 a0_0, .int .i64 a0_1, .slice A0_2 l0_2.length c0_2] 32 (0, 0))) := ⟨h1_⟩
          replace BK218 : Aside0 (w10.heap[gb218]? = some (.cells #[.int .i64 0, .int .i64 0, .int .i64 0] 27 (0, 0))) := ⟨h2_⟩
          replace BK219 : Aside0 (w10.heap[gb219]? = some (.cells #[.int .i64 0, .int .i64 0, .slice none 0 0] 32 (0, 0))) := ⟨h3_⟩
          replace HB : Aside0 (Below w.heap.size w w10) := ⟨h4_⟩
          clear h0_ h1_ h2_ h3_ h4_
          have hHeld : w10.cell? ⟨gb217, 0, none⟩ = some (.int .i64 a0_0) ∧ w10.cell? ⟨gb217, 1, none⟩ = some (.int .i64 a0_1) ∧ w10.cell? ⟨gb217, 2, none⟩ = some (.slice A0_2 l0_2.length c0_2) := hS_
          obtain ⟨Ao11, co11, eo11⟩ := Kd.R_slice HO222.out
          (first | subst eo11 | (injection eo11 with f1_ f2_ f3_; have f4_ := f1_.symm; have f5_ := f3_.symm; clear f1_ f2_ f3_; subst f4_; subst f5_))
          refine norm_ (a' := ?_) ?_ ?_
          rotate_left
          ·simp only [putAll, Act.put, q1, q2, q3]
           rfl
          refine three_ (i := 4) (j := 9) (k := 10) (Ni := some 14) (Nj := some 6) (Nk := some 7) #[true, true, true, true, true, false, false, false, false, false, false, false, false, false] #[true, true, true, true, false, false, false, false, false, true, false, false, false, false] #[true, true, true, true, false, false, false, false, false, false, true, false, false, false] rfl rfl rfl rfl rfl rfl (three_of HT_.out (by kernel_rfl)) (by decide) (by decide) (by decide) (fun K hK => ?_) (fun K hK => ?_) (fun K hK => ?_)
          ·skip
           refine goes_ Try.func63 (by kernel_rfl) rfl #[.agg #[.int .i64 a0_0, .int .i64 a0_1, .slice A0_2 l0_2.length c0_2], .slice Ao11 t220.length co11, .int .i64 a1] (by rfl) rfl rfl (by (try simp only [List.map_toArray, List.map_cons, List.map_nil]); first | done | rfl | (simp only [List.length_drop, List.length_take]; rfl)) ?_
           with_reducible refine (spec_flGo.calls k a0_0 a0_1 _ _ l0_2 _ _ t220 a1 t223 t224 t225 t226 t227 t228 t231 _ ?side1 ?side2 ?side3 ?side4 A4.out).mono ?_
           (case side1 => repeat (first | exact (Kd.C_below HR0_2.out HB.out) | (with_reducible refine Kd.C_alloc ?_ _) | (with_reducible refine Kd.C_drewN ?_ _) | (with_reducible refine Kd.C_drew ?_)))
           (case side2 => exact HC0_2.out)
           (case side3 => repeat (first | exact (Kd.R_reads' HO222.out).2.2 | (with_reducible refine Kd.C_alloc ?_ _) | (with_reducible refine Kd.C_drewN ?_ _) | (with_reducible refine Kd.C_drew ?_)))
           (case side4 => exact (Kd.R_reads' HO222.out).2.1)
           rintro e w12 ⟨v229, v232, rfl, ho0, ho1, hb⟩
           refine ⟨_, rfl, ?_⟩
           have HO230 := Aside0.mk (Kd.R_lower ho0 (below_size (viaB HB)))
           have HO233 := Aside0.mk (Kd.S_lower (Kd.S_new' ho1 (Kd.R_lt (viaR HO222))) (below_size (viaB HB)))
           replace HO222 := Aside0.mk (Kd.R_below (viaR HO222) hb)
           replace BK217 := kB BK217 hb
           replace BK218 := kB BK218 hb
           replace BK219 := kB BK219 hb
           replace HB := bB HB hb
           (try clear hb); (try clear ho0); (try clear ho1)
           refine hK.out _ _ ⟨(blk_cell BK217.out 0).trans rfl, (blk_cell BK217.out 1).trans rfl, (blk_cell BK217.out 2).trans rfl⟩ (fun hHeld => ?_)
           clear hK K
           refine norm_ (a' := ?_) ?_ ?_
           rotate_left
           ·show Act.put _ (some 14) _ = _
            simp only [Act.put, q1, q2, q3, i64_w, i32_w]
            rfl
           refine pure_ (i := 5) (N := some 9) (v := ?_) (a' := ?_) #[true, true, true, true, true, true, false, false, false, false, false, false, false, false] rfl rfl (any_of HT_.out (by kernel_rfl)) (fun _ _ _ h => h) (Or.inl ⟨by rfl, ?_⟩) ?_ ?_
           rotate_left
           ·intro w'
            go_simp
            with_reducible rfl
           rotate_left
           ·simp only [Act.put, q1, q2, q3, i64_w, i32_w]
            rfl
           refine pure_ (i := 6) (N := some 15) (v := ?_) (a' := ?_) #[true, true, true, true, true, true, true, false, false, false, false, false, false, false] rfl rfl (any_of HT_.out (by kernel_rfl)) (fun _ _ _ h => h) (Or.inl ⟨by rfl, ?_⟩) ?_ ?_
           rotate_left
           ·intro w'
            go_simp
            with_reducible rfl
           rotate_left
           ·simp only [Act.put, q1, q2, q3, i64_w, i32_w]
            rfl
           refine pure_ (i := 7) (N := some 16) (v := ?_) (a' := ?_) #[true, true, true, true, true, true, true, true, false, false, false, false, false, false] rfl rfl (any_of HT_.out (by kernel_rfl)) (fun _ _ _ h => h) (Or.inl ⟨by rfl, ?_⟩) ?_ ?_
           rotate_left
           ·intro w'
            go_simp
            with_reducible rfl
           rotate_left
           ·simp only [Act.put, q1, q2, q3, i64_w, i32_w]
            rfl
           refine pure_ (i := 8) (N := some 17) (v := ?_) (a' := ?_) #[true, true, true, true, true, true, true, true, true, false, false, false, false, false] rfl rfl (any_of HT_.out (by kernel_rfl)) (fun _ _ _ h => h) (Or.inl ⟨by rfl, ?_⟩) ?_ ?_
           rotate_left
           ·intro w'
            go_simp
            with_reducible rfl
           rotate_left
           ·simp only [Act.put, q1, q2, q3, i64_w, i32_w]
            rfl
           exact norm_ (by first | (simp only [putAll, Act.put, q1, q2, q3]; done) | (simp only [putAll, Act.put, q1, q2, q3]; rfl)) (hJ2_4 (.slice Ao11 t220.length co11, v229, v232) _ ⟨hHeld, (viaR HO222), (viaR HO230), (by (with_reducible repeat (first | apply Kd.S_alloc | apply Kd.S_drewN | apply Kd.S_drew)); exact Kd.S_mono HO233.out (fun _ hk => hk.2)), (viaK BK217), (viaK BK218), (viaK BK219), (viaB HB)⟩)
          ·skip
           refine box_step ?hg (N := 6) ?hd (cs := #[.int .i64 0, .int .i64 0, .int .i64 0]) (t := 27) ?hr ?_; (case hd => rfl); (case hg => rfl); (case hr => first | (go_simp; done) | (go_simp; rfl))
           intro gb234 hg w11 hbox hb
           have BK234 := Aside0.mk (hbox)
           have GW234 := gW (w := w) HB hg
           have GE234 := gW (w := w) HB hg
           have NB217_234 := neL BK217 hg
           have NB234_217 := neG BK217 hg
           have NB218_234 := neL BK218 hg
           have NB234_218 := neG BK218 hg
           have NB219_234 := neL BK219 hg
           have NB234_219 := neG BK219 hg
           replace HO222 := Aside0.mk (Kd.R_below (viaR HO222) hb)
           replace BK217 := kB BK217 hb
           replace BK218 := kB BK218 hb
           replace BK219 := kB BK219 hb
           replace HB := bB HB hb
           clear hb hbox hg
           refine hK.out _ _ ⟨(blk_cell BK217.out 0).trans rfl, (blk_cell BK217.out 1).trans rfl, (blk_cell BK217.out 2).trans rfl⟩ (fun hHeld => ?_)
           clear hK K
           refine norm_ (a' := ?_) ?_ ?_
           rotate_left
           ·show Act.put _ (some 6) _ = _
            simp only [Act.put, q1, q2, q3, i64_w, i32_w]
            rfl
           exact norm_ (by first | (simp only [putAll, Act.put, q1, q2, q3]; done) | (simp only [putAll, Act.put, q1, q2, q3]; rfl)) (hJ2_9 ((.slice Ao11 t220.length co11), gb234) _ ⟨hHeld, (viaR HO222), (viaK BK217), (viaK BK218), (viaK BK219), (viaK BK234), GW234.out, GE234.out, NB217_234.out, NB234_217.out, NB218_234.out, NB234_218.out, NB219_234.out, NB234_219.out, (viaB HB)⟩)
          ·skip
           refine box_step ?hg (N := 7) ?hd (cs := #[.int .i64 0, .int .i64 0, .slice none 0 0]) (t := 32) ?hr ?_; (case hd => rfl); (case hg => rfl); (case hr => first | (go_simp; done) | (go_simp; rfl))
           intro gb235 hg w11 hbox hb
           have BK235 := Aside0.mk (hbox)
           have GW235 := gW (w := w) HB hg
           have GE235 := gW (w := w) HB hg
           have NB217_235 := neL BK217 hg
           have NB235_217 := neG BK217 hg
           have NB218_235 := neL BK218 hg
           have NB235_218 := neG BK218 hg
           have NB219_235 := neL BK219 hg
           have NB235_219 := neG BK219 hg
           replace HO222 := Aside0.mk (Kd.R_below (viaR HO222) hb)
           replace BK217 := kB BK217 hb
           replace BK218 := kB BK218 hb
           replace BK219 := kB BK219 hb
           replace HB := bB HB hb
           clear hb hbox hg
           refine hK.out _ _ ⟨(blk_cell BK217.out 0).trans rfl, (blk_cell BK217.out 1).trans rfl, (blk_cell BK217.out 2).trans rfl⟩ (fun hHeld => ?_)
           clear hK K
           refine norm_ (a' := ?_) ?_ ?_
           rotate_left
           ·show Act.put _ (some 7) _ = _
            simp only [Act.put, q1, q2, q3, i64_w, i32_w]
            rfl
           exact norm_ (by first | (simp only [putAll, Act.put, q1, q2, q3]; done) | (simp only [putAll, Act.put, q1, q2, q3]; rfl)) (hJ2_10 ((.slice Ao11 t220.length co11), gb235) _ ⟨hHeld, (viaR HO222), (viaK BK217), (viaK BK218), (viaK BK219), (viaK BK235), GW235.out, GE235.out, NB217_235.out, NB235_217.out, NB218_235.out, NB235_218.out, NB219_235.out, NB235_219.out, (viaB HB)⟩)
        ·skip
         rintro ⟨gb234, gb235⟩ w11 ⟨hS_, h0_, h1_, h2_, h3_, h4_, h5_, h6_, h7_, h8_, h9_, h10_, h11_, h12_, h13_, h14_, h15_, h16_, h17_, h18_, h19_, h20_, h21_, h22_, h23_⟩
         have BK234 : Aside0 (w11.heap[gb234]? = some (.cells #[.int .i64 0, .int .i64 0, .int .i64 0] 27 (0, 0))) := ⟨h3_⟩
         have BK235 : Aside0 (w11.heap[gb235]? = some (.cells #[.int .i64 0, .int .i64 0, .slice none 0 0] 32 (0, 0))) := ⟨h4_⟩
         have GW234 : Aside0 (w.heap.size ≤ gb234) := ⟨h5_⟩
         have GE234 : Aside0 (w.heap.size ≤ gb234) := ⟨h6_⟩
         have NB217_234 : Aside0 (gb217 ≠ gb234) := ⟨h7_⟩
         have NB234_217 : Aside0 (gb234 ≠ gb217) := ⟨h8_⟩
         have NB218_234 : Aside0 (gb218 ≠ gb234) := ⟨h9_⟩
         have NB234_218 : Aside0 (gb234 ≠ gb218) := ⟨h10_⟩
         have NB219_234 : Aside0 (gb219 ≠ gb234) := ⟨h11_⟩
         have NB234_219 : Aside0 (gb234 ≠ gb219) := ⟨h12_⟩
         have NB235_234 : Aside0 (gb235 ≠ gb234) := ⟨h13_⟩
         have NB234_235 : Aside0 (gb234 ≠ gb235) := ⟨h14_⟩
         have GW235 : Aside0 (w.heap.size ≤ gb235) := ⟨h15_⟩
         have GE235 : Aside0 (w.heap.size ≤ gb235) := ⟨h16_⟩
         have NB217_235 : Aside0 (gb217 ≠ gb235) := ⟨h17_⟩
         have NB235_217 : Aside0 (gb235 ≠ gb217) := ⟨h18_⟩
         have NB218_235 : Aside0 (gb218 ≠ gb235) := ⟨h19_⟩
         have NB235_218 : Aside0 (gb235 ≠ gb218) := ⟨h20_⟩
         have NB219_235 : Aside0 (gb219 ≠ gb235) := ⟨h21_⟩
         have NB235_219 : Aside0 (gb235 ≠ gb219) := ⟨h22_⟩
         replace BK217 : Aside0 (w11.heap[gb217]? = some (.cells #[.int .i64 a0_0, .int .i64 a0_1, .slice A0_2 l0_2.length c0_2] 32 (0, 0))) := ⟨h0_⟩
         replace BK218 : Aside0 (w11.heap[gb218]? = some (.cells #[.int .i64 0, .int .i64 0, .int .i64 0] 27 (0, 0))) := ⟨h1_⟩
         replace BK219 : Aside0 (w11.heap[gb219]? = some (.cells #[.int .i64 0, .int .i64 0, .slice none 0 0] 32 (0, 0))) := ⟨h2_⟩
         replace HB : Aside0 (Below w.heap.size w w11) := ⟨h23_⟩
         clear h0_ h1_ h2_ h3_ h4_ h5_ h6_ h7_ h8_ h9_ h10_ h11_ h12_ h13_ h14_ h15_ h16_ h17_ h18_ h19_ h20_ h21_ h22_ h23_
         have hHeld : w11.cell? ⟨gb217, 0, none⟩ = some (.int .i64 a0_0) ∧ w11.cell? ⟨gb217, 1, none⟩ = some (.int .i64 a0_1) ∧ w11.cell? ⟨gb217, 2, none⟩ = some (.slice A0_2 l0_2.length c0_2) := hS_
         refine norm_ (a' := ?_) ?_ ?_
         rotate_left
         ·simp only [putAll, Act.put, q1, q2, q3]
          rfl
         refine one_ (i := 2) (N := some 12) #[true, true, true, true, false, false, false, false, false, true, true, false, false, false] rfl rfl (one_of HT_.out (by kernel_rfl)) (by decide) (fun K hK => ?_)
         refine goes_ Try.func62 (by kernel_rfl) rfl #[.agg #[.int .i64 a0_0, .int .i64 a0_1, .slice A0_2 l0_2.length c0_2]] (by rfl) rfl rfl (by (try simp only [List.map_toArray, List.map_cons, List.map_nil]); first | done | rfl | (simp only [List.length_drop, List.length_take]; rfl)) ?_
         with_reducible refine (spec_ggGroups.calls k a0_0 a0_1 _ _ l0_2 t220 _ ?side1 ?side2 A3.out).mono ?_
         (case side1 => repeat (first | exact (Kd.C_below HR0_2.out HB.out) | (with_reducible refine Kd.C_alloc ?_ _) | (with_reducible refine Kd.C_drewN ?_ _) | (with_reducible refine Kd.C_drew ?_)))
         (case side2 => exact HC0_2.out)
         rintro e w12 ⟨v221, rfl, ho0, hb⟩
         refine ⟨_, rfl, ?_⟩
         have HO222 := Aside0.mk (Kd.R_lower ho0 (below_size (viaB HB)))
         replace BK217 := kB BK217 hb
         replace BK218 := kB BK218 hb
         replace BK219 := kB BK219 hb
         replace BK234 := kB BK234 hb
         replace BK235 := kB BK235 hb
         replace HB := bB HB hb
         (try clear hb); (try clear ho0)
         refine hK.out _ _ ⟨(blk_cell BK217.out 0).trans rfl, (blk_cell BK217.out 1).trans rfl, (blk_cell BK217.out 2).trans rfl⟩ (fun hHeld => ?_)
         clear hK K
         refine norm_ (a' := ?_) ?_ ?_
         rotate_left
         ·show Act.put _ (some 12) _ = _
          simp only [Act.put, q1, q2, q3, i64_w, i32_w]
          rfl
         exact norm_ (by first | (simp only [putAll, Act.put, q1, q2, q3]; done) | (simp only [putAll, Act.put, q1, q2, q3]; rfl)) (hJ2_9_10 (v221, gb234, gb235) _ ⟨hHeld, (viaR HO222), (viaK BK217), (viaK BK218), (viaK BK219), (viaK BK234), (viaK BK235), GW234.out, GE234.out, NB217_234.out, NB234_217.out, NB218_234.out, NB234_218.out, NB219_234.out, NB234_219.out, NB235_234.out, NB234_235.out, GW235.out, GE235.out, NB217_235.out, NB235_217.out, NB218_235.out, NB235_218.out, NB219_235.out, NB235_219.out, (viaB HB)⟩)
       ·skip
        rintro ⟨v221, gb235⟩ w11 ⟨hS_, h0_, h1_, h2_, h3_, h4_, h5_, h6_, h7_, h8_, h9_, h10_, h11_, h12_, h13_⟩
        have HO222 : Aside0 (Kd.R (Kd.int .i64) 3 w11 w.heap.size (fun _ => True) v221 t220) := ⟨h0_⟩
        have BK235 : Aside0 (w11.heap[gb235]? = some (.cells #[.int .i64 0, .int .i64 0, .slice none 0 0] 32 (0, 0))) := ⟨h4_⟩
        have GW235 : Aside0 (w.heap.size ≤ gb235) := ⟨h5_⟩
        have GE235 : Aside0 (w.heap.size ≤ gb235) := ⟨h6_⟩
        have NB217_235 : Aside0 (gb217 ≠ gb235) := ⟨h7_⟩
        have NB235_217 : Aside0 (gb235 ≠ gb217) := ⟨h8_⟩
        have NB218_235 : Aside0 (gb218 ≠ gb235) := ⟨h9_⟩
        have NB235_218 : Aside0 (gb235 ≠ gb218) := ⟨h10_⟩
        have NB219_235 : Aside0 (gb219 ≠ gb235) := ⟨h11_⟩
        have NB235_219 : Aside0 (gb235 ≠ gb219) := ⟨h12_⟩
        replace BK217 : Aside0 (w11.heap[gb217]? = some (.cells #[.int .i64 a0_0, .int .i64 a0_1, .slice A0_2 l0_2.length c0_2] 32 (0, 0))) := ⟨h1_⟩
        replace BK218 : Aside0 (w11.heap[gb218]? = some (.cells #[.int .i64 0, .int .i64 0, .int .i64 0] 27 (0, 0))) := ⟨h2_⟩
        replace BK219 : Aside0 (w11.heap[gb219]? = some (.cells #[.int .i64 0, .int .i64 0, .slice none 0 0] 32 (0, 0))) := ⟨h3_⟩
        replace HB : Aside0 (Below w.heap.size w w11) := ⟨h13_⟩
        clear h0_ h1_ h2_ h3_ h4_ h5_ h6_ h7_ h8_ h9_ h10_ h11_ h12_ h13_
        have hHeld : w11.cell? ⟨gb217, 0, none⟩ = some (.int .i64 a0_0) ∧ w11.cell? ⟨gb217, 1, none⟩ = some (.int .i64 a0_1) ∧ w11.cell? ⟨gb217, 2, none⟩ = some (.slice A0_2 l0_2.length c0_2) := hS_
        obtain ⟨Ao12, co12, eo12⟩ := Kd.R_slice HO222.out
        (first | subst eo12 | (injection eo12 with f1_ f2_ f3_; have f4_ := f1_.symm; have f5_ := f3_.symm; clear f1_ f2_ f3_; subst f4_; subst f5_))
        refine norm_ (a' := ?_) ?_ ?_
        rotate_left
        ·simp only [putAll, Act.put, q1, q2, q3]
         rfl
        refine two_ (i := 4) (j := 9) (Ni := some 14) (Nj := some 6) #[true, true, true, true, true, false, false, false, false, false, true, false, false, false] #[true, true, true, true, false, false, false, false, false, true, true, false, false, false] rfl rfl rfl rfl (two_of HT_.out (by kernel_rfl)) (by decide) (by decide) (fun K hK => ?_) (fun K hK => ?_)
        ·skip
         refine goes_ Try.func63 (by kernel_rfl) rfl #[.agg #[.int .i64 a0_0, .int .i64 a0_1, .slice A0_2 l0_2.length c0_2], .slice Ao12 t220.length co12, .int .i64 a1] (by rfl) rfl rfl (by (try simp only [List.map_toArray, List.map_cons, List.map_nil]); first | done | rfl | (simp only [List.length_drop, List.length_take]; rfl)) ?_
         with_reducible refine (spec_flGo.calls k a0_0 a0_1 _ _ l0_2 _ _ t220 a1 t223 t224 t225 t226 t227 t228 t231 _ ?side1 ?side2 ?side3 ?side4 A4.out).mono ?_
         (case side1 => repeat (first | exact (Kd.C_below HR0_2.out HB.out) | (with_reducible refine Kd.C_alloc ?_ _) | (with_reducible refine Kd.C_drewN ?_ _) | (with_reducible refine Kd.C_drew ?_)))
         (case side2 => exact HC0_2.out)
         (case side3 => repeat (first | exact (Kd.R_reads' HO222.out).2.2 | (with_reducible refine Kd.C_alloc ?_ _) | (with_reducible refine Kd.C_drewN ?_ _) | (with_reducible refine Kd.C_drew ?_)))
         (case side4 => exact (Kd.R_reads' HO222.out).2.1)
         rintro e w13 ⟨v229, v232, rfl, ho0, ho1, hb⟩
         refine ⟨_, rfl, ?_⟩
         have HO230 := Aside0.mk (Kd.R_lower ho0 (below_size (viaB HB)))
         have HO233 := Aside0.mk (Kd.S_lower (Kd.S_new' ho1 (Kd.R_lt (viaR HO222))) (below_size (viaB HB)))
         replace HO222 := Aside0.mk (Kd.R_below (viaR HO222) hb)
         replace BK217 := kB BK217 hb
         replace BK218 := kB BK218 hb
         replace BK219 := kB BK219 hb
         replace BK235 := kB BK235 hb
         replace HB := bB HB hb
         (try clear hb); (try clear ho0); (try clear ho1)
         refine hK.out _ _ ⟨(blk_cell BK217.out 0).trans rfl, (blk_cell BK217.out 1).trans rfl, (blk_cell BK217.out 2).trans rfl⟩ (fun hHeld => ?_)
         clear hK K
         refine norm_ (a' := ?_) ?_ ?_
         rotate_left
         ·show Act.put _ (some 14) _ = _
          simp only [Act.put, q1, q2, q3, i64_w, i32_w]
          rfl
         refine pure_ (i := 5) (N := some 9) (v := ?_) (a' := ?_) #[true, true, true, true, true, true, false, false, false, false, true, false, false, false] rfl rfl (any_of HT_.out (by kernel_rfl)) (fun _ _ _ h => h) (Or.inl ⟨by rfl, ?_⟩) ?_ ?_
         rotate_left
         ·intro w'
          go_simp
          with_reducible rfl
         rotate_left
         ·simp only [Act.put, q1, q2, q3, i64_w, i32_w]
          rfl
         refine pure_ (i := 6) (N := some 15) (v := ?_) (a' := ?_) #[true, true, true, true, true, true, true, false, false, false, true, false, false, false] rfl rfl (any_of HT_.out (by kernel_rfl)) (fun _ _ _ h => h) (Or.inl ⟨by rfl, ?_⟩) ?_ ?_
         rotate_left
         ·intro w'
          go_simp
          with_reducible rfl
         rotate_left
         ·simp only [Act.put, q1, q2, q3, i64_w, i32_w]
          rfl
         refine pure_ (i := 7) (N := some 16) (v := ?_) (a' := ?_) #[true, true, true, true, true, true, true, true, false, false, true, false, false, false] rfl rfl (any_of HT_.out (by kernel_rfl)) (fun _ _ _ h => h) (Or.inl ⟨by rfl, ?_⟩) ?_ ?_
         rotate_left
         ·intro w'
          go_simp
          with_reducible rfl
         rotate_left
         ·simp only [Act.put, q1, q2, q3, i64_w, i32_w]
          rfl
         refine pure_ (i := 8) (N := some 17) (v := ?_) (a' := ?_) #[true, true, true, true, true, true, true, true, true, false, true, false, false, false] rfl rfl (any_of HT_.out (by kernel_rfl)) (fun _ _ _ h => h) (Or.inl ⟨by rfl, ?_⟩) ?_ ?_
         rotate_left
         ·intro w'
          go_simp
          with_reducible rfl
         rotate_left
         ·simp only [Act.put, q1, q2, q3, i64_w, i32_w]
          rfl
         exact norm_ (by first | (simp only [putAll, Act.put, q1, q2, q3]; done) | (simp only [putAll, Act.put, q1, q2, q3]; rfl)) (hJ2_4_10 (.slice Ao12 t220.length co12, v229, v232, gb235) _ ⟨hHeld, (viaR HO222), (viaR HO230), (by (with_reducible repeat (first | apply Kd.S_alloc | apply Kd.S_drewN | apply Kd.S_drew)); exact Kd.S_mono HO233.out (fun _ hk => hk.2)), (viaK BK217), (viaK BK218), (viaK BK219), (viaK BK235), GW235.out, GE235.out, NB217_235.out, NB235_217.out, NB218_235.out, NB235_218.out, NB219_235.out, NB235_219.out, (viaB HB)⟩)
        ·skip
         refine box_step ?hg (N := 6) ?hd (cs := #[.int .i64 0, .int .i64 0, .int .i64 0]) (t := 27) ?hr ?_; (case hd => rfl); (case hg => rfl); (case hr => first | (go_simp; done) | (go_simp; rfl))
         intro gb234 hg w12 hbox hb
         have BK234 := Aside0.mk (hbox)
         have GW234 := gW (w := w) HB hg
         have GE234 := gW (w := w) HB hg
         have NB217_234 := neL BK217 hg
         have NB234_217 := neG BK217 hg
         have NB218_234 := neL BK218 hg
         have NB234_218 := neG BK218 hg
         have NB219_234 := neL BK219 hg
         have NB234_219 := neG BK219 hg
         have NB235_234 := neL BK235 hg
         have NB234_235 := neG BK235 hg
         replace HO222 := Aside0.mk (Kd.R_below (viaR HO222) hb)
         replace BK217 := kB BK217 hb
         replace BK218 := kB BK218 hb
         replace BK219 := kB BK219 hb
         replace BK235 := kB BK235 hb
         replace HB := bB HB hb
         clear hb hbox hg
         refine hK.out _ _ ⟨(blk_cell BK217.out 0).trans rfl, (blk_cell BK217.out 1).trans rfl, (blk_cell BK217.out 2).trans rfl⟩ (fun hHeld => ?_)
         clear hK K
         refine norm_ (a' := ?_) ?_ ?_
         rotate_left
         ·show Act.put _ (some 6) _ = _
          simp only [Act.put, q1, q2, q3, i64_w, i32_w]
          rfl
         exact norm_ (by first | (simp only [putAll, Act.put, q1, q2, q3]; done) | (simp only [putAll, Act.put, q1, q2, q3]; rfl)) (hJ2_9_10 ((.slice Ao12 t220.length co12), gb234, gb235) _ ⟨hHeld, (viaR HO222), (viaK BK217), (viaK BK218), (viaK BK219), (viaK BK234), (viaK BK235), GW234.out, GE234.out, NB217_234.out, NB234_217.out, NB218_234.out, NB234_218.out, NB219_234.out, NB234_219.out, NB235_234.out, NB234_235.out, GW235.out, GE235.out, NB217_235.out, NB235_217.out, NB218_235.out, NB235_218.out, NB219_235.out, NB235_219.out, (viaB HB)⟩)
      ·skip
       rintro ⟨v221, gb234⟩ w11 ⟨hS_, h0_, h1_, h2_, h3_, h4_, h5_, h6_, h7_, h8_, h9_, h10_, h11_, h12_, h13_⟩
       have HO222 : Aside0 (Kd.R (Kd.int .i64) 3 w11 w.heap.size (fun _ => True) v221 t220) := ⟨h0_⟩
       have BK234 : Aside0 (w11.heap[gb234]? = some (.cells #[.int .i64 0, .int .i64 0, .int .i64 0] 27 (0, 0))) := ⟨h4_⟩
       have GW234 : Aside0 (w.heap.size ≤ gb234) := ⟨h5_⟩
       have GE234 : Aside0 (w.heap.size ≤ gb234) := ⟨h6_⟩
       have NB217_234 : Aside0 (gb217 ≠ gb234) := ⟨h7_⟩
       have NB234_217 : Aside0 (gb234 ≠ gb217) := ⟨h8_⟩
       have NB218_234 : Aside0 (gb218 ≠ gb234) := ⟨h9_⟩
       have NB234_218 : Aside0 (gb234 ≠ gb218) := ⟨h10_⟩
       have NB219_234 : Aside0 (gb219 ≠ gb234) := ⟨h11_⟩
       have NB234_219 : Aside0 (gb234 ≠ gb219) := ⟨h12_⟩
       replace BK217 : Aside0 (w11.heap[gb217]? = some (.cells #[.int .i64 a0_0, .int .i64 a0_1, .slice A0_2 l0_2.length c0_2] 32 (0, 0))) := ⟨h1_⟩
       replace BK218 : Aside0 (w11.heap[gb218]? = some (.cells #[.int .i64 0, .int .i64 0, .int .i64 0] 27 (0, 0))) := ⟨h2_⟩
       replace BK219 : Aside0 (w11.heap[gb219]? = some (.cells #[.int .i64 0, .int .i64 0, .slice none 0 0] 32 (0, 0))) := ⟨h3_⟩
       replace HB : Aside0 (Below w.heap.size w w11) := ⟨h13_⟩
       clear h0_ h1_ h2_ h3_ h4_ h5_ h6_ h7_ h8_ h9_ h10_ h11_ h12_ h13_
       have hHeld : w11.cell? ⟨gb217, 0, none⟩ = some (.int .i64 a0_0) ∧ w11.cell? ⟨gb217, 1, none⟩ = some (.int .i64 a0_1) ∧ w11.cell? ⟨gb217, 2, none⟩ = some (.slice A0_2 l0_2.length c0_2) := hS_
       obtain ⟨Ao12, co12, eo12⟩ := Kd.R_slice HO222.out
       (first | subst eo12 | (injection eo12 with f1_ f2_ f3_; have f4_ := f1_.symm; have f5_ := f3_.symm; clear f1_ f2_ f3_; subst f4_; subst f5_))
       refine norm_ (a' := ?_) ?_ ?_
       rotate_left
       ·simp only [putAll, Act.put, q1, q2, q3]
        rfl
       refine two_ (i := 4) (j := 10) (Ni := some 14) (Nj := some 7) #[true, true, true, true, true, false, false, false, false, true, false, false, false, false] #[true, true, true, true, false, false, false, false, false, true, true, false, false, false] rfl rfl rfl rfl (two_of HT_.out (by kernel_rfl)) (by decide) (by decide) (fun K hK => ?_) (fun K hK => ?_)
       ·skip
        refine goes_ Try.func63 (by kernel_rfl) rfl #[.agg #[.int .i64 a0_0, .int .i64 a0_1, .slice A0_2 l0_2.length c0_2], .slice Ao12 t220.length co12, .int .i64 a1] (by rfl) rfl rfl (by (try simp only [List.map_toArray, List.map_cons, List.map_nil]); first | done | rfl | (simp only [List.length_drop, List.length_take]; rfl)) ?_
        with_reducible refine (spec_flGo.calls k a0_0 a0_1 _ _ l0_2 _ _ t220 a1 t223 t224 t225 t226 t227 t228 t231 _ ?side1 ?side2 ?side3 ?side4 A4.out).mono ?_
        (case side1 => repeat (first | exact (Kd.C_below HR0_2.out HB.out) | (with_reducible refine Kd.C_alloc ?_ _) | (with_reducible refine Kd.C_drewN ?_ _) | (with_reducible refine Kd.C_drew ?_)))
        (case side2 => exact HC0_2.out)
        (case side3 => repeat (first | exact (Kd.R_reads' HO222.out).2.2 | (with_reducible refine Kd.C_alloc ?_ _) | (with_reducible refine Kd.C_drewN ?_ _) | (with_reducible refine Kd.C_drew ?_)))
        (case side4 => exact (Kd.R_reads' HO222.out).2.1)
        rintro e w13 ⟨v229, v232, rfl, ho0, ho1, hb⟩
        refine ⟨_, rfl, ?_⟩
        have HO230 := Aside0.mk (Kd.R_lower ho0 (below_size (viaB HB)))
        have HO233 := Aside0.mk (Kd.S_lower (Kd.S_new' ho1 (Kd.R_lt (viaR HO222))) (below_size (viaB HB)))
        replace HO222 := Aside0.mk (Kd.R_below (viaR HO222) hb)
        replace BK217 := kB BK217 hb
        replace BK218 := kB BK218 hb
        replace BK219 := kB BK219 hb
        replace BK234 := kB BK234 hb
        replace HB := bB HB hb
        (try clear hb); (try clear ho0); (try clear ho1)
        refine hK.out _ _ ⟨(blk_cell BK217.out 0).trans rfl, (blk_cell BK217.out 1).trans rfl, (blk_cell BK217.out 2).trans rfl⟩ (fun hHeld => ?_)
        clear hK K
        refine norm_ (a' := ?_) ?_ ?_
        rotate_left
        ·show Act.put _ (some 14) _ = _
         simp only [Act.put, q1, q2, q3, i64_w, i32_w]
         rfl
        refine pure_ (i := 5) (N := some 9) (v := ?_) (a' := ?_) #[true, true, true, true, true, true, false, false, false, true, false, false, false, false] rfl rfl (any_of HT_.out (by kernel_rfl)) (fun _ _ _ h => h) (Or.inl ⟨by rfl, ?_⟩) ?_ ?_
        rotate_left
        ·intro w'
         go_simp
         with_reducible rfl
        rotate_left
        ·simp only [Act.put, q1, q2, q3, i64_w, i32_w]
         rfl
        refine pure_ (i := 6) (N := some 15) (v := ?_) (a' := ?_) #[true, true, true, true, true, true, true, false, false, true, false, false, false, false] rfl rfl (any_of HT_.out (by kernel_rfl)) (fun _ _ _ h => h) (Or.inl ⟨by rfl, ?_⟩) ?_ ?_
        rotate_left
        ·intro w'
         go_simp
         with_reducible rfl
        rotate_left
        ·simp only [Act.put, q1, q2, q3, i64_w, i32_w]
         rfl
        refine pure_ (i := 7) (N := some 16) (v := ?_) (a' := ?_) #[true, true, true, true, true, true, true, true, false, true, false, false, false, false] rfl rfl (any_of HT_.out (by kernel_rfl)) (fun _ _ _ h => h) (Or.inl ⟨by rfl, ?_⟩) ?_ ?_
        rotate_left
        ·intro w'
         go_simp
         with_reducible rfl
        rotate_left
        ·simp only [Act.put, q1, q2, q3, i64_w, i32_w]
         rfl
        refine pure_ (i := 8) (N := some 17) (v := ?_) (a' := ?_) #[true, true, true, true, true, true, true, true, true, true, false, false, false, false] rfl rfl (any_of HT_.out (by kernel_rfl)) (fun _ _ _ h => h) (Or.inl ⟨by rfl, ?_⟩) ?_ ?_
        rotate_left
        ·intro w'
         go_simp
         with_reducible rfl
        rotate_left
        ·simp only [Act.put, q1, q2, q3, i64_w, i32_w]
         rfl
        exact norm_ (by first | (simp only [putAll, Act.put, q1, q2, q3]; done) | (simp only [putAll, Act.put, q1, q2, q3]; rfl)) (hJ2_4_9 (.slice Ao12 t220.length co12, v229, v232, gb234) _ ⟨hHeld, (viaR HO222), (viaR HO230), (by (with_reducible repeat (first | apply Kd.S_alloc | apply Kd.S_drewN | apply Kd.S_drew)); exact Kd.S_mono HO233.out (fun _ hk => hk.2)), (viaK BK217), (viaK BK218), (viaK BK219), (viaK BK234), GW234.out, GE234.out, NB217_234.out, NB234_217.out, NB218_234.out, NB234_218.out, NB219_234.out, NB234_219.out, (viaB HB)⟩)
       ·skip
        refine box_step ?hg (N := 7) ?hd (cs := #[.int .i64 0, .int .i64 0, .slice none 0 0]) (t := 32) ?hr ?_; (case hd => rfl); (case hg => rfl); (case hr => first | (go_simp; done) | (go_simp; rfl))
        intro gb235 hg w12 hbox hb
        have BK235 := Aside0.mk (hbox)
        have GW235 := gW (w := w) HB hg
        have GE235 := gW (w := w) HB hg
        have NB217_235 := neL BK217 hg
        have NB235_217 := neG BK217 hg
        have NB218_235 := neL BK218 hg
        have NB235_218 := neG BK218 hg
        have NB219_235 := neL BK219 hg
        have NB235_219 := neG BK219 hg
        have NB234_235 := neL BK234 hg
        have NB235_234 := neG BK234 hg
        replace HO222 := Aside0.mk (Kd.R_below (viaR HO222) hb)
        replace BK217 := kB BK217 hb
        replace BK218 := kB BK218 hb
        replace BK219 := kB BK219 hb
        replace BK234 := kB BK234 hb
        replace HB := bB HB hb
        clear hb hbox hg
        refine hK.out _ _ ⟨(blk_cell BK217.out 0).trans rfl, (blk_cell BK217.out 1).trans rfl, (blk_cell BK217.out 2).trans rfl⟩ (fun hHeld => ?_)
        clear hK K
        refine norm_ (a' := ?_) ?_ ?_
        rotate_left
        ·show Act.put _ (some 7) _ = _
         simp only [Act.put, q1, q2, q3, i64_w, i32_w]
         rfl
        exact norm_ (by first | (simp only [putAll, Act.put, q1, q2, q3]; done) | (simp only [putAll, Act.put, q1, q2, q3]; rfl)) (hJ2_9_10 ((.slice Ao12 t220.length co12), gb234, gb235) _ ⟨hHeld, (viaR HO222), (viaK BK217), (viaK BK218), (viaK BK219), (viaK BK234), (viaK BK235), GW234.out, GE234.out, NB217_234.out, NB234_217.out, NB218_234.out, NB234_218.out, NB219_234.out, NB234_219.out, NB235_234.out, NB234_235.out, GW235.out, GE235.out, NB217_235.out, NB235_217.out, NB218_235.out, NB235_218.out, NB219_235.out, NB235_219.out, (viaB HB)⟩)
     ·skip
      rintro ⟨v221, v229, v232⟩ w12 ⟨hS_, h0_, h1_, h2_, h3_, h4_, h5_, h6_⟩
      have HO222 : Aside0 (Kd.R (Kd.int .i64) 3 w12 w.heap.size (fun _ => True) v221 t220) := ⟨h0_⟩
      have HO230 : Aside0 (Kd.R k89 89 w12 w.heap.size (fun _ => True) v229 t228) := ⟨h1_⟩
      have HO233 : Aside0 (Kd.S (Kd.slice 3 (Kd.int .i64)) 43 w12 w.heap.size (fun k_ => some k_ ≠ (v221 : Value).ownBlock) v232 t231) := ⟨h2_⟩
      replace BK217 : Aside0 (w12.heap[gb217]? = some (.cells #[.int .i64 a0_0, .int .i64 a0_1, .slice A0_2 l0_2.length c0_2] 32 (0, 0))) := ⟨h3_⟩
      replace BK218 : Aside0 (w12.heap[gb218]? = some (.cells #[.int .i64 0, .int .i64 0, .int .i64 0] 27 (0, 0))) := ⟨h4_⟩
      replace BK219 : Aside0 (w12.heap[gb219]? = some (.cells #[.int .i64 0, .int .i64 0, .slice none 0 0] 32 (0, 0))) := ⟨h5_⟩
      replace HB : Aside0 (Below w.heap.size w w12) := ⟨h6_⟩
      clear h0_ h1_ h2_ h3_ h4_ h5_ h6_
      have hHeld : w12.cell? ⟨gb217, 0, none⟩ = some (.int .i64 a0_0) ∧ w12.cell? ⟨gb217, 1, none⟩ = some (.int .i64 a0_1) ∧ w12.cell? ⟨gb217, 2, none⟩ = some (.slice A0_2 l0_2.length c0_2) := hS_
      refine norm_ (a' := ?_) ?_ ?_
      rotate_left
      ·simp only [putAll, Act.put, q1, q2, q3]
       rfl
      refine two_ (i := 9) (j := 10) (Ni := some 6) (Nj := some 7) #[true, true, true, true, true, true, true, true, true, true, false, false, false, false] #[true, true, true, true, true, true, true, true, true, false, true, false, false, false] rfl rfl rfl rfl (two_of HT_.out (by kernel_rfl)) (by decide) (by decide) (fun K hK => ?_) (fun K hK => ?_)
      ·skip
       refine box_step ?hg (N := 6) ?hd (cs := #[.int .i64 0, .int .i64 0, .int .i64 0]) (t := 27) ?hr ?_; (case hd => rfl); (case hg => rfl); (case hr => first | (go_simp; done) | (go_simp; rfl))
       intro gb234 hg w13 hbox hb
       have BK234 := Aside0.mk (hbox)
       have GW234 := gW (w := w) HB hg
       have GE234 := gW (w := w) HB hg
       have NB217_234 := neL BK217 hg
       have NB234_217 := neG BK217 hg
       have NB218_234 := neL BK218 hg
       have NB234_218 := neG BK218 hg
       have NB219_234 := neL BK219 hg
       have NB234_219 := neG BK219 hg
       replace HO222 := Aside0.mk (Kd.R_below (viaR HO222) hb)
       replace HO230 := Aside0.mk (Kd.R_below (viaR HO230) hb)
       replace HO233 := Aside0.mk (Kd.S_below (viaS HO233) hb)
       replace BK217 := kB BK217 hb
       replace BK218 := kB BK218 hb
       replace BK219 := kB BK219 hb
       replace HB := bB HB hb
       clear hb hbox hg
       refine hK.out _ _ ⟨(blk_cell BK217.out 0).trans rfl, (blk_cell BK217.out 1).trans rfl, (blk_cell BK217.out 2).trans rfl⟩ (fun hHeld => ?_)
       clear hK K
       refine norm_ (a' := ?_) ?_ ?_
       rotate_left
       ·show Act.put _ (some 6) _ = _
        simp only [Act.put, q1, q2, q3, i64_w, i32_w]
        rfl
       exact norm_ (by first | (simp only [putAll, Act.put, q1, q2, q3]; done) | (simp only [putAll, Act.put, q1, q2, q3]; rfl)) (hJ2_4_9 (v221, v229, v232, gb234) _ ⟨hHeld, (viaR HO222), (viaR HO230), (viaS HO233), (viaK BK217), (viaK BK218), (viaK BK219), (viaK BK234), GW234.out, GE234.out, NB217_234.out, NB234_217.out, NB218_234.out, NB234_218.out, NB219_234.out, NB234_219.out, (viaB HB)⟩)
      ·skip
       refine box_step ?hg (N := 7) ?hd (cs := #[.int .i64 0, .int .i64 0, .slice none 0 0]) (t := 32) ?hr ?_; (case hd => rfl); (case hg => rfl); (case hr => first | (go_simp; done) | (go_simp; rfl))
       intro gb235 hg w13 hbox hb
       have BK235 := Aside0.mk (hbox)
       have GW235 := gW (w := w) HB hg
       have GE235 := gW (w := w) HB hg
       have NB217_235 := neL BK217 hg
       have NB235_217 := neG BK217 hg
       have NB218_235 := neL BK218 hg
       have NB235_218 := neG BK218 hg
       have NB219_235 := neL BK219 hg
       have NB235_219 := neG BK219 hg
       replace HO222 := Aside0.mk (Kd.R_below (viaR HO222) hb)
       replace HO230 := Aside0.mk (Kd.R_below (viaR HO230) hb)
       replace HO233 := Aside0.mk (Kd.S_below (viaS HO233) hb)
       replace BK217 := kB BK217 hb
       replace BK218 := kB BK218 hb
       replace BK219 := kB BK219 hb
       replace HB := bB HB hb
       clear hb hbox hg
       refine hK.out _ _ ⟨(blk_cell BK217.out 0).trans rfl, (blk_cell BK217.out 1).trans rfl, (blk_cell BK217.out 2).trans rfl⟩ (fun hHeld => ?_)
       clear hK K
       refine norm_ (a' := ?_) ?_ ?_
       rotate_left
       ·show Act.put _ (some 7) _ = _
        simp only [Act.put, q1, q2, q3, i64_w, i32_w]
        rfl
       exact norm_ (by first | (simp only [putAll, Act.put, q1, q2, q3]; done) | (simp only [putAll, Act.put, q1, q2, q3]; rfl)) (hJ2_4_10 (v221, v229, v232, gb235) _ ⟨hHeld, (viaR HO222), (viaR HO230), (viaS HO233), (viaK BK217), (viaK BK218), (viaK BK219), (viaK BK235), GW235.out, GE235.out, NB217_235.out, NB235_217.out, NB218_235.out, NB235_218.out, NB219_235.out, NB235_219.out, (viaB HB)⟩)
    ·skip
     rintro ⟨v221, gb234, gb235⟩ w12 ⟨hS_, h0_, h1_, h2_, h3_, h4_, h5_, h6_, h7_, h8_, h9_, h10_, h11_, h12_, h13_, h14_, h15_, h16_, h17_, h18_, h19_, h20_, h21_, h22_, h23_, h24_⟩
     have HO222 : Aside0 (Kd.R (Kd.int .i64) 3 w12 w.heap.size (fun _ => True) v221 t220) := ⟨h0_⟩
     have BK234 : Aside0 (w12.heap[gb234]? = some (.cells #[.int .i64 0, .int .i64 0, .int .i64 0] 27 (0, 0))) := ⟨h4_⟩
     have BK235 : Aside0 (w12.heap[gb235]? = some (.cells #[.int .i64 0, .int .i64 0, .slice none 0 0] 32 (0, 0))) := ⟨h5_⟩
     have GW234 : Aside0 (w.heap.size ≤ gb234) := ⟨h6_⟩
     have GE234 : Aside0 (w.heap.size ≤ gb234) := ⟨h7_⟩
     have NB217_234 : Aside0 (gb217 ≠ gb234) := ⟨h8_⟩
     have NB234_217 : Aside0 (gb234 ≠ gb217) := ⟨h9_⟩
     have NB218_234 : Aside0 (gb218 ≠ gb234) := ⟨h10_⟩
     have NB234_218 : Aside0 (gb234 ≠ gb218) := ⟨h11_⟩
     have NB219_234 : Aside0 (gb219 ≠ gb234) := ⟨h12_⟩
     have NB234_219 : Aside0 (gb234 ≠ gb219) := ⟨h13_⟩
     have NB235_234 : Aside0 (gb235 ≠ gb234) := ⟨h14_⟩
     have NB234_235 : Aside0 (gb234 ≠ gb235) := ⟨h15_⟩
     have GW235 : Aside0 (w.heap.size ≤ gb235) := ⟨h16_⟩
     have GE235 : Aside0 (w.heap.size ≤ gb235) := ⟨h17_⟩
     have NB217_235 : Aside0 (gb217 ≠ gb235) := ⟨h18_⟩
     have NB235_217 : Aside0 (gb235 ≠ gb217) := ⟨h19_⟩
     have NB218_235 : Aside0 (gb218 ≠ gb235) := ⟨h20_⟩
     have NB235_218 : Aside0 (gb235 ≠ gb218) := ⟨h21_⟩
     have NB219_235 : Aside0 (gb219 ≠ gb235) := ⟨h22_⟩
     have NB235_219 : Aside0 (gb235 ≠ gb219) := ⟨h23_⟩
     replace BK217 : Aside0 (w12.heap[gb217]? = some (.cells #[.int .i64 a0_0, .int .i64 a0_1, .slice A0_2 l0_2.length c0_2] 32 (0, 0))) := ⟨h1_⟩
     replace BK218 : Aside0 (w12.heap[gb218]? = some (.cells #[.int .i64 0, .int .i64 0, .int .i64 0] 27 (0, 0))) := ⟨h2_⟩
     replace BK219 : Aside0 (w12.heap[gb219]? = some (.cells #[.int .i64 0, .int .i64 0, .slice none 0 0] 32 (0, 0))) := ⟨h3_⟩
     replace HB : Aside0 (Below w.heap.size w w12) := ⟨h24_⟩
     clear h0_ h1_ h2_ h3_ h4_ h5_ h6_ h7_ h8_ h9_ h10_ h11_ h12_ h13_ h14_ h15_ h16_ h17_ h18_ h19_ h20_ h21_ h22_ h23_ h24_
     have hHeld : w12.cell? ⟨gb217, 0, none⟩ = some (.int .i64 a0_0) ∧ w12.cell? ⟨gb217, 1, none⟩ = some (.int .i64 a0_1) ∧ w12.cell? ⟨gb217, 2, none⟩ = some (.slice A0_2 l0_2.length c0_2) := hS_
     obtain ⟨Ao13, co13, eo13⟩ := Kd.R_slice HO222.out
     (first | subst eo13 | (injection eo13 with f1_ f2_ f3_; have f4_ := f1_.symm; have f5_ := f3_.symm; clear f1_ f2_ f3_; subst f4_; subst f5_))
     refine norm_ (a' := ?_) ?_ ?_
     rotate_left
     ·simp only [putAll, Act.put, q1, q2, q3]
      rfl
     refine one_ (i := 4) (N := some 14) #[true, true, true, true, true, false, false, false, false, true, true, false, false, false] rfl rfl (one_of HT_.out (by kernel_rfl)) (by decide) (fun K hK => ?_)
     refine goes_ Try.func63 (by kernel_rfl) rfl #[.agg #[.int .i64 a0_0, .int .i64 a0_1, .slice A0_2 l0_2.length c0_2], .slice Ao13 t220.length co13, .int .i64 a1] (by rfl) rfl rfl (by (try simp only [List.map_toArray, List.map_cons, List.map_nil]); first | done | rfl | (simp only [List.length_drop, List.length_take]; rfl)) ?_
     with_reducible refine (spec_flGo.calls k a0_0 a0_1 _ _ l0_2 _ _ t220 a1 t223 t224 t225 t226 t227 t228 t231 _ ?side1 ?side2 ?side3 ?side4 A4.out).mono ?_
     (case side1 => repeat (first | exact (Kd.C_below HR0_2.out HB.out) | (with_reducible refine Kd.C_alloc ?_ _) | (with_reducible refine Kd.C_drewN ?_ _) | (with_reducible refine Kd.C_drew ?_)))
     (case side2 => exact HC0_2.out)
     (case side3 => repeat (first | exact (Kd.R_reads' HO222.out).2.2 | (with_reducible refine Kd.C_alloc ?_ _) | (with_reducible refine Kd.C_drewN ?_ _) | (with_reducible refine Kd.C_drew ?_)))
     (case side4 => exact (Kd.R_reads' HO222.out).2.1)
     rintro e w14 ⟨v229, v232, rfl, ho0, ho1, hb⟩
     refine ⟨_, rfl, ?_⟩
     have HO230 := Aside0.mk (Kd.R_lower ho0 (below_size (viaB HB)))
     have HO233 := Aside0.mk (Kd.S_lower (Kd.S_new' ho1 (Kd.R_lt (viaR HO222))) (below_size (viaB HB)))
     replace HO222 := Aside0.mk (Kd.R_below (viaR HO222) hb)
     replace BK217 := kB BK217 hb
     replace BK218 := kB BK218 hb
     replace BK219 := kB BK219 hb
     replace BK234 := kB BK234 hb
     replace BK235 := kB BK235 hb
     replace HB := bB HB hb
     (try clear hb); (try clear ho0); (try clear ho1)
     refine hK.out _ _ ⟨(blk_cell BK217.out 0).trans rfl, (blk_cell BK217.out 1).trans rfl, (blk_cell BK217.out 2).trans rfl⟩ (fun hHeld => ?_)
     clear hK K
     refine norm_ (a' := ?_) ?_ ?_
     rotate_left
     ·show Act.put _ (some 14) _ = _
      simp only [Act.put, q1, q2, q3, i64_w, i32_w]
      rfl
     refine pure_ (i := 5) (N := some 9) (v := ?_) (a' := ?_) #[true, true, true, true, true, true, false, false, false, true, true, false, false, false] rfl rfl (any_of HT_.out (by kernel_rfl)) (fun _ _ _ h => h) (Or.inl ⟨by rfl, ?_⟩) ?_ ?_
     rotate_left
     ·intro w'
      go_simp
      with_reducible rfl
     rotate_left
     ·simp only [Act.put, q1, q2, q3, i64_w, i32_w]
      rfl
     refine pure_ (i := 6) (N := some 15) (v := ?_) (a' := ?_) #[true, true, true, true, true, true, true, false, false, true, true, false, false, false] rfl rfl (any_of HT_.out (by kernel_rfl)) (fun _ _ _ h => h) (Or.inl ⟨by rfl, ?_⟩) ?_ ?_
     rotate_left
     ·intro w'
      go_simp
      with_reducible rfl
     rotate_left
     ·simp only [Act.put, q1, q2, q3, i64_w, i32_w]
      rfl
     refine pure_ (i := 7) (N := some 16) (v := ?_) (a' := ?_) #[true, true, true, true, true, true, true, true, false, true, true, false, false, false] rfl rfl (any_of HT_.out (by kernel_rfl)) (fun _ _ _ h => h) (Or.inl ⟨by rfl, ?_⟩) ?_ ?_
     rotate_left
     ·intro w'
      go_simp
      with_reducible rfl
     rotate_left
     ·simp only [Act.put, q1, q2, q3, i64_w, i32_w]
      rfl
     refine pure_ (i := 8) (N := some 17) (v := ?_) (a' := ?_) #[true, true, true, true, true, true, true, true, true, true, true, false, false, false] rfl rfl (any_of HT_.out (by kernel_rfl)) (fun _ _ _ h => h) (Or.inl ⟨by rfl, ?_⟩) ?_ ?_
     rotate_left
     ·intro w'
      go_simp
      with_reducible rfl
     rotate_left
     ·simp only [Act.put, q1, q2, q3, i64_w, i32_w]
      rfl
     exact norm_ (by first | (simp only [putAll, Act.put, q1, q2, q3]; done) | (simp only [putAll, Act.put, q1, q2, q3]; rfl)) (hJ2_4_9_10 (.slice Ao13 t220.length co13, v229, v232, gb234, gb235) _ ⟨hHeld, (viaR HO222), (viaR HO230), (by (with_reducible repeat (first | apply Kd.S_alloc | apply Kd.S_drewN | apply Kd.S_drew)); exact Kd.S_mono HO233.out (fun _ hk => hk.2)), (viaK BK217), (viaK BK218), (viaK BK219), (viaK BK234), (viaK BK235), GW234.out, GE234.out, NB217_234.out, NB234_217.out, NB218_234.out, NB234_218.out, NB219_234.out, NB234_219.out, NB235_234.out, NB234_235.out, GW235.out, GE235.out, NB217_235.out, NB235_217.out, NB218_235.out, NB235_218.out, NB219_235.out, NB235_219.out, (viaB HB)⟩)
   ·skip
    rintro ⟨v221, v229, v232, gb235⟩ w13 ⟨hS_, h0_, h1_, h2_, h3_, h4_, h5_, h6_, h7_, h8_, h9_, h10_, h11_, h12_, h13_, h14_, h15_⟩
    have HO222 : Aside0 (Kd.R (Kd.int .i64) 3 w13 w.heap.size (fun _ => True) v221 t220) := ⟨h0_⟩
    have HO230 : Aside0 (Kd.R k89 89 w13 w.heap.size (fun _ => True) v229 t228) := ⟨h1_⟩
    have HO233 : Aside0 (Kd.S (Kd.slice 3 (Kd.int .i64)) 43 w13 w.heap.size (fun k_ => some k_ ≠ (v221 : Value).ownBlock) v232 t231) := ⟨h2_⟩
    have BK235 : Aside0 (w13.heap[gb235]? = some (.cells #[.int .i64 0, .int .i64 0, .slice none 0 0] 32 (0, 0))) := ⟨h6_⟩
    have GW235 : Aside0 (w.heap.size ≤ gb235) := ⟨h7_⟩
    have GE235 : Aside0 (w.heap.size ≤ gb235) := ⟨h8_⟩
    have NB217_235 : Aside0 (gb217 ≠ gb235) := ⟨h9_⟩
    have NB235_217 : Aside0 (gb235 ≠ gb217) := ⟨h10_⟩
    have NB218_235 : Aside0 (gb218 ≠ gb235) := ⟨h11_⟩
    have NB235_218 : Aside0 (gb235 ≠ gb218) := ⟨h12_⟩
    have NB219_235 : Aside0 (gb219 ≠ gb235) := ⟨h13_⟩
    have NB235_219 : Aside0 (gb235 ≠ gb219) := ⟨h14_⟩
    replace BK217 : Aside0 (w13.heap[gb217]? = some (.cells #[.int .i64 a0_0, .int .i64 a0_1, .slice A0_2 l0_2.length c0_2] 32 (0, 0))) := ⟨h3_⟩
    replace BK218 : Aside0 (w13.heap[gb218]? = some (.cells #[.int .i64 0, .int .i64 0, .int .i64 0] 27 (0, 0))) := ⟨h4_⟩
    replace BK219 : Aside0 (w13.heap[gb219]? = some (.cells #[.int .i64 0, .int .i64 0, .slice none 0 0] 32 (0, 0))) := ⟨h5_⟩
    replace HB : Aside0 (Below w.heap.size w w13) := ⟨h15_⟩
    clear h0_ h1_ h2_ h3_ h4_ h5_ h6_ h7_ h8_ h9_ h10_ h11_ h12_ h13_ h14_ h15_
    have hHeld : w13.cell? ⟨gb217, 0, none⟩ = some (.int .i64 a0_0) ∧ w13.cell? ⟨gb217, 1, none⟩ = some (.int .i64 a0_1) ∧ w13.cell? ⟨gb217, 2, none⟩ = some (.slice A0_2 l0_2.length c0_2) := hS_
    refine norm_ (a' := ?_) ?_ ?_
    rotate_left
    ·simp only [putAll, Act.put, q1, q2, q3]
     rfl
    refine one_ (i := 9) (N := some 6) #[true, true, true, true, true, true, true, true, true, true, true, false, false, false] rfl rfl (one_of HT_.out (by kernel_rfl)) (by decide) (fun K hK => ?_)
    refine box_step ?hg (N := 6) ?hd (cs := #[.int .i64 0, .int .i64 0, .int .i64 0]) (t := 27) ?hr ?_; (case hd => rfl); (case hg => rfl); (case hr => first | (go_simp; done) | (go_simp; rfl))
    intro gb234 hg w14 hbox hb
    have BK234 := Aside0.mk (hbox)
    have GW234 := gW (w := w) HB hg
    have GE234 := gW (w := w) HB hg
    have NB217_234 := neL BK217 hg
    have NB234_217 := neG BK217 hg
    have NB218_234 := neL BK218 hg
    have NB234_218 := neG BK218 hg
    have NB219_234 := neL BK219 hg
    have NB234_219 := neG BK219 hg
    have NB235_234 := neL BK235 hg
    have NB234_235 := neG BK235 hg
    replace HO222 := Aside0.mk (Kd.R_below (viaR HO222) hb)
    replace HO230 := Aside0.mk (Kd.R_below (viaR HO230) hb)
    replace HO233 := Aside0.mk (Kd.S_below (viaS HO233) hb)
    replace BK217 := kB BK217 hb
    replace BK218 := kB BK218 hb
    replace BK219 := kB BK219 hb
    replace BK235 := kB BK235 hb
    replace HB := bB HB hb
    clear hb hbox hg
    refine hK.out _ _ ⟨(blk_cell BK217.out 0).trans rfl, (blk_cell BK217.out 1).trans rfl, (blk_cell BK217.out 2).trans rfl⟩ (fun hHeld => ?_)
    clear hK K
    refine norm_ (a' := ?_) ?_ ?_
    rotate_left
    ·show Act.put _ (some 6) _ = _
     simp only [Act.put, q1, q2, q3, i64_w, i32_w]
     rfl
    exact norm_ (by first | (simp only [putAll, Act.put, q1, q2, q3]; done) | (simp only [putAll, Act.put, q1, q2, q3]; rfl)) (hJ2_4_9_10 (v221, v229, v232, gb234, gb235) _ ⟨hHeld, (viaR HO222), (viaR HO230), (viaS HO233), (viaK BK217), (viaK BK218), (viaK BK219), (viaK BK234), (viaK BK235), GW234.out, GE234.out, NB217_234.out, NB234_217.out, NB218_234.out, NB234_218.out, NB219_234.out, NB234_219.out, NB235_234.out, NB234_235.out, GW235.out, GE235.out, NB217_235.out, NB235_217.out, NB218_235.out, NB235_218.out, NB219_235.out, NB235_219.out, (viaB HB)⟩)
  ·skip
   rintro ⟨v221, v229, v232, gb234⟩ w13 ⟨hS_, h0_, h1_, h2_, h3_, h4_, h5_, h6_, h7_, h8_, h9_, h10_, h11_, h12_, h13_, h14_, h15_⟩
   have HO222 : Aside0 (Kd.R (Kd.int .i64) 3 w13 w.heap.size (fun _ => True) v221 t220) := ⟨h0_⟩
   have HO230 : Aside0 (Kd.R k89 89 w13 w.heap.size (fun _ => True) v229 t228) := ⟨h1_⟩
   have HO233 : Aside0 (Kd.S (Kd.slice 3 (Kd.int .i64)) 43 w13 w.heap.size (fun k_ => some k_ ≠ (v221 : Value).ownBlock) v232 t231) := ⟨h2_⟩
   have BK234 : Aside0 (w13.heap[gb234]? = some (.cells #[.int .i64 0, .int .i64 0, .int .i64 0] 27 (0, 0))) := ⟨h6_⟩
   have GW234 : Aside0 (w.heap.size ≤ gb234) := ⟨h7_⟩
   have GE234 : Aside0 (w.heap.size ≤ gb234) := ⟨h8_⟩
   have NB217_234 : Aside0 (gb217 ≠ gb234) := ⟨h9_⟩
   have NB234_217 : Aside0 (gb234 ≠ gb217) := ⟨h10_⟩
   have NB218_234 : Aside0 (gb218 ≠ gb234) := ⟨h11_⟩
   have NB234_218 : Aside0 (gb234 ≠ gb218) := ⟨h12_⟩
   have NB219_234 : Aside0 (gb219 ≠ gb234) := ⟨h13_⟩
   have NB234_219 : Aside0 (gb234 ≠ gb219) := ⟨h14_⟩
   replace BK217 : Aside0 (w13.heap[gb217]? = some (.cells #[.int .i64 a0_0, .int .i64 a0_1, .slice A0_2 l0_2.length c0_2] 32 (0, 0))) := ⟨h3_⟩
   replace BK218 : Aside0 (w13.heap[gb218]? = some (.cells #[.int .i64 0, .int .i64 0, .int .i64 0] 27 (0, 0))) := ⟨h4_⟩
   replace BK219 : Aside0 (w13.heap[gb219]? = some (.cells #[.int .i64 0, .int .i64 0, .slice none 0 0] 32 (0, 0))) := ⟨h5_⟩
   replace HB : Aside0 (Below w.heap.size w w13) := ⟨h15_⟩
   clear h0_ h1_ h2_ h3_ h4_ h5_ h6_ h7_ h8_ h9_ h10_ h11_ h12_ h13_ h14_ h15_
   have hHeld : w13.cell? ⟨gb217, 0, none⟩ = some (.int .i64 a0_0) ∧ w13.cell? ⟨gb217, 1, none⟩ = some (.int .i64 a0_1) ∧ w13.cell? ⟨gb217, 2, none⟩ = some (.slice A0_2 l0_2.length c0_2) := hS_
   refine norm_ (a' := ?_) ?_ ?_
   rotate_left
   ·simp only [putAll, Act.put, q1, q2, q3]
    rfl
   refine one_ (i := 10) (N := some 7) #[true, true, true, true, true, true, true, true, true, true, true, false, false, false] rfl rfl (one_of HT_.out (by kernel_rfl)) (by decide) (fun K hK => ?_)
   refine box_step ?hg (N := 7) ?hd (cs := #[.int .i64 0, .int .i64 0, .slice none 0 0]) (t := 32) ?hr ?_; (case hd => rfl); (case hg => rfl); (case hr => first | (go_simp; done) | (go_simp; rfl))
   intro gb235 hg w14 hbox hb
   have BK235 := Aside0.mk (hbox)
   have GW235 := gW (w := w) HB hg
   have GE235 := gW (w := w) HB hg
   have NB217_235 := neL BK217 hg
   have NB235_217 := neG BK217 hg
   have NB218_235 := neL BK218 hg
   have NB235_218 := neG BK218 hg
   have NB219_235 := neL BK219 hg
   have NB235_219 := neG BK219 hg
   have NB234_235 := neL BK234 hg
   have NB235_234 := neG BK234 hg
   replace HO222 := Aside0.mk (Kd.R_below (viaR HO222) hb)
   replace HO230 := Aside0.mk (Kd.R_below (viaR HO230) hb)
   replace HO233 := Aside0.mk (Kd.S_below (viaS HO233) hb)
   replace BK217 := kB BK217 hb
   replace BK218 := kB BK218 hb
   replace BK219 := kB BK219 hb
   replace BK234 := kB BK234 hb
   replace HB := bB HB hb
   clear hb hbox hg
   refine hK.out _ _ ⟨(blk_cell BK217.out 0).trans rfl, (blk_cell BK217.out 1).trans rfl, (blk_cell BK217.out 2).trans rfl⟩ (fun hHeld => ?_)
   clear hK K
   refine norm_ (a' := ?_) ?_ ?_
   rotate_left
   ·show Act.put _ (some 7) _ = _
    simp only [Act.put, q1, q2, q3, i64_w, i32_w]
    rfl
   exact norm_ (by first | (simp only [putAll, Act.put, q1, q2, q3]; done) | (simp only [putAll, Act.put, q1, q2, q3]; rfl)) (hJ2_4_9_10 (v221, v229, v232, gb234, gb235) _ ⟨hHeld, (viaR HO222), (viaR HO230), (viaS HO233), (viaK BK217), (viaK BK218), (viaK BK219), (viaK BK234), (viaK BK235), GW234.out, GE234.out, NB217_234.out, NB234_217.out, NB218_234.out, NB234_218.out, NB219_234.out, NB234_219.out, NB235_234.out, NB234_235.out, GW235.out, GE235.out, NB217_235.out, NB235_217.out, NB218_235.out, NB235_218.out, NB219_235.out, NB235_219.out, (viaB HB)⟩)
 rintro ⟨v221, v229, v232, gb234, gb235⟩ w14 ⟨hS_, h0_, h1_, h2_, h3_, h4_, h5_, h6_, h7_, h8_, h9_, h10_, h11_, h12_, h13_, h14_, h15_, h16_, h17_, h18_, h19_, h20_, h21_, h22_, h23_, h24_, h25_, h26_⟩
 have HO222 : Aside0 (Kd.R (Kd.int .i64) 3 w14 w.heap.size (fun _ => True) v221 t220) := ⟨h0_⟩
 have HO230 : Aside0 (Kd.R k89 89 w14 w.heap.size (fun _ => True) v229 t228) := ⟨h1_⟩
 have HO233 : Aside0 (Kd.S (Kd.slice 3 (Kd.int .i64)) 43 w14 w.heap.size (fun k_ => some k_ ≠ (v221 : Value).ownBlock) v232 t231) := ⟨h2_⟩
 have BK234 : Aside0 (w14.heap[gb234]? = some (.cells #[.int .i64 0, .int .i64 0, .int .i64 0] 27 (0, 0))) := ⟨h6_⟩
 have BK235 : Aside0 (w14.heap[gb235]? = some (.cells #[.int .i64 0, .int .i64 0, .slice none 0 0] 32 (0, 0))) := ⟨h7_⟩
 have GW234 : Aside0 (w.heap.size ≤ gb234) := ⟨h8_⟩
 have GE234 : Aside0 (w.heap.size ≤ gb234) := ⟨h9_⟩
 have NB217_234 : Aside0 (gb217 ≠ gb234) := ⟨h10_⟩
 have NB234_217 : Aside0 (gb234 ≠ gb217) := ⟨h11_⟩
 have NB218_234 : Aside0 (gb218 ≠ gb234) := ⟨h12_⟩
 have NB234_218 : Aside0 (gb234 ≠ gb218) := ⟨h13_⟩
 have NB219_234 : Aside0 (gb219 ≠ gb234) := ⟨h14_⟩
 have NB234_219 : Aside0 (gb234 ≠ gb219) := ⟨h15_⟩
 have NB235_234 : Aside0 (gb235 ≠ gb234) := ⟨h16_⟩
 have NB234_235 : Aside0 (gb234 ≠ gb235) := ⟨h17_⟩
 have GW235 : Aside0 (w.heap.size ≤ gb235) := ⟨h18_⟩
 have GE235 : Aside0 (w.heap.size ≤ gb235) := ⟨h19_⟩
 have NB217_235 : Aside0 (gb217 ≠ gb235) := ⟨h20_⟩
 have NB235_217 : Aside0 (gb235 ≠ gb217) := ⟨h21_⟩
 have NB218_235 : Aside0 (gb218 ≠ gb235) := ⟨h22_⟩
 have NB235_218 : Aside0 (gb235 ≠ gb218) := ⟨h23_⟩
 have NB219_235 : Aside0 (gb219 ≠ gb235) := ⟨h24_⟩
 have NB235_219 : Aside0 (gb235 ≠ gb219) := ⟨h25_⟩
 replace BK217 : Aside0 (w14.heap[gb217]? = some (.cells #[.int .i64 a0_0, .int .i64 a0_1, .slice A0_2 l0_2.length c0_2] 32 (0, 0))) := ⟨h3_⟩
 replace BK218 : Aside0 (w14.heap[gb218]? = some (.cells #[.int .i64 0, .int .i64 0, .int .i64 0] 27 (0, 0))) := ⟨h4_⟩
 replace BK219 : Aside0 (w14.heap[gb219]? = some (.cells #[.int .i64 0, .int .i64 0, .slice none 0 0] 32 (0, 0))) := ⟨h5_⟩
 replace HB : Aside0 (Below w.heap.size w w14) := ⟨h26_⟩
 clear h0_ h1_ h2_ h3_ h4_ h5_ h6_ h7_ h8_ h9_ h10_ h11_ h12_ h13_ h14_ h15_ h16_ h17_ h18_ h19_ h20_ h21_ h22_ h23_ h24_ h25_ h26_
 have hHeld : w14.cell? ⟨gb217, 0, none⟩ = some (.int .i64 a0_0) ∧ w14.cell? ⟨gb217, 1, none⟩ = some (.int .i64 a0_1) ∧ w14.cell? ⟨gb217, 2, none⟩ = some (.slice A0_2 l0_2.length c0_2) := hS_
 obtain ⟨Ao20, co20, eo20⟩ := Kd.R_slice HO230.out
 (first | subst eo20 | (injection eo20 with f1_ f2_ f3_; have f4_ := f1_.symm; have f5_ := f3_.symm; clear f1_ f2_ f3_; subst f4_; subst f5_))
 refine norm_ (a' := ?_) ?_ ?_
 rotate_left
 ·simp only [putAll, Act.put, q1, q2, q3]
  rfl
 refine one_ (i := 11) (N := none) #[true, true, true, true, true, true, true, true, true, true, true, true, false, false] rfl rfl (one_of HT_.out (by kernel_rfl)) (by decide) (fun K hK => ?_)
 have hs15 : w14.cell? ⟨gb234, 0, none⟩ = some (.int .i64 0) := (blk_cell BK234.out 0).trans rfl
 have hfs15 := blk_frozen BK234.out 0
 have hns15_0 := NB217_234.out
 have hns15_1 := NB218_234.out
 have hns15_2 := NB219_234.out
 have hns15_4 := NB235_234.out
 have hms15_0 := NB234_217.out
 have hms15_1 := NB234_218.out
 have hms15_2 := NB234_219.out
 have hms15_4 := NB234_235.out
 have hs16 : w14.cell? ⟨gb234, 1, none⟩ = some (.int .i64 0) := (blk_cell BK234.out 1).trans rfl
 have hfs16 := blk_frozen BK234.out 1
 have hns16_0 := NB217_234.out
 have hns16_1 := NB218_234.out
 have hns16_2 := NB219_234.out
 have hns16_4 := NB235_234.out
 have hms16_0 := NB234_217.out
 have hms16_1 := NB234_218.out
 have hms16_2 := NB234_219.out
 have hms16_4 := NB234_235.out
 have hs17 : w14.cell? ⟨gb234, 2, none⟩ = some (.int .i64 0) := (blk_cell BK234.out 2).trans rfl
 have hfs17 := blk_frozen BK234.out 2
 have hns17_0 := NB217_234.out
 have hns17_1 := NB218_234.out
 have hns17_2 := NB219_234.out
 have hns17_4 := NB235_234.out
 have hms17_0 := NB234_217.out
 have hms17_1 := NB234_218.out
 have hms17_2 := NB234_219.out
 have hms17_4 := NB234_235.out
 refine skip_ (w1 := ?_) (by rfl) rfl ?_ ?_
 rotate_left
 ·go_simp
  rfl
 refine hK.out _ _ ⟨((cell_far (p := ⟨gb234, _, none⟩) NB217_234.out _).trans (((cell_far (p := ⟨gb234, _, none⟩) NB217_234.out _).trans (((cell_far (p := ⟨gb234, _, none⟩) NB217_234.out _).trans (hHeld.1)))))), ((cell_far (p := ⟨gb234, _, none⟩) NB217_234.out _).trans (((cell_far (p := ⟨gb234, _, none⟩) NB217_234.out _).trans (((cell_far (p := ⟨gb234, _, none⟩) NB217_234.out _).trans (hHeld.2.1)))))), ((cell_far (p := ⟨gb234, _, none⟩) NB217_234.out _).trans (((cell_far (p := ⟨gb234, _, none⟩) NB217_234.out _).trans (((cell_far (p := ⟨gb234, _, none⟩) NB217_234.out _).trans (hHeld.2.2))))))⟩ (fun hHeld => ?_)
 clear hK K
 refine one_ (i := 12) (N := none) #[true, true, true, true, true, true, true, true, true, true, true, true, true, false] rfl rfl (one_of HT_.out (by kernel_rfl)) (by decide) (fun K hK => ?_)
 have hs18 : w14.cell? ⟨gb235, 0, none⟩ = some (.int .i64 0) := (blk_cell BK235.out 0).trans rfl
 have hfs18 := blk_frozen BK235.out 0
 have hns18_0 := NB217_235.out
 have hns18_1 := NB218_235.out
 have hns18_2 := NB219_235.out
 have hns18_3 := NB234_235.out
 have hms18_0 := NB235_217.out
 have hms18_1 := NB235_218.out
 have hms18_2 := NB235_219.out
 have hms18_3 := NB235_234.out
 have hs19 : w14.cell? ⟨gb235, 1, none⟩ = some (.int .i64 0) := (blk_cell BK235.out 1).trans rfl
 have hfs19 := blk_frozen BK235.out 1
 have hns19_0 := NB217_235.out
 have hns19_1 := NB218_235.out
 have hns19_2 := NB219_235.out
 have hns19_3 := NB234_235.out
 have hms19_0 := NB235_217.out
 have hms19_1 := NB235_218.out
 have hms19_2 := NB235_219.out
 have hms19_3 := NB235_234.out
 have hs21 : w14.cell? ⟨gb235, 2, none⟩ = some (.slice none 0 0) := (blk_cell BK235.out 2).trans rfl
 have hfs21 := blk_frozen BK235.out 2
 have hns21_0 := NB217_235.out
 have hns21_1 := NB218_235.out
 have hns21_2 := NB219_235.out
 have hns21_3 := NB234_235.out
 have hms21_0 := NB235_217.out
 have hms21_1 := NB235_218.out
 have hms21_2 := NB235_219.out
 have hms21_3 := NB235_234.out
 refine skip_ (w1 := ?_) (by rfl) rfl ?_ ?_
 rotate_left
 ·go_simp
  rfl
 refine hK.out _ _ ⟨((cell_far (p := ⟨gb235, _, none⟩) NB217_235.out _).trans (((cell_far (p := ⟨gb235, _, none⟩) NB217_235.out _).trans (((cell_far (p := ⟨gb235, _, none⟩) NB217_235.out _).trans (hHeld.1)))))), ((cell_far (p := ⟨gb235, _, none⟩) NB217_235.out _).trans (((cell_far (p := ⟨gb235, _, none⟩) NB217_235.out _).trans (((cell_far (p := ⟨gb235, _, none⟩) NB217_235.out _).trans (hHeld.2.1)))))), ((cell_far (p := ⟨gb235, _, none⟩) NB217_235.out _).trans (((cell_far (p := ⟨gb235, _, none⟩) NB217_235.out _).trans (((cell_far (p := ⟨gb235, _, none⟩) NB217_235.out _).trans (hHeld.2.2))))))⟩ (fun hHeld => ?_)
 clear hK K
 refine pure_ (i := 13) (N := some 8) (v := ?_) (a' := ?_) #[true, true, true, true, true, true, true, true, true, true, true, true, true, true] rfl rfl (any_of HT_.out (by kernel_rfl)) (fun _ _ _ h => h) (Or.inl ⟨by rfl, ?_⟩) ?_ ?_
 rotate_left
 ·intro w'
  go_simp
  with_reducible rfl
 rotate_left
 ·simp only [Act.put, q1, q2, q3, i64_w, i32_w]
  rfl
 refine done_ (done_of HT_.out (by kernel_rfl)) ?_
 try go_wp2
 have n0_ : Aside0 (Kd.R (Kd.int .i64) 3 ((((((w14.setCell ⟨gb234, 0, none⟩ (.int .i64 t223)).setCell ⟨gb234, 1, none⟩ (.int .i64 t224)).setCell ⟨gb234, 2, none⟩ (.int .i64 t225)).setCell ⟨gb235, 0, none⟩ (.int .i64 t226)).setCell ⟨gb235, 1, none⟩ (.int .i64 t227)).setCell ⟨gb235, 2, none⟩ (.slice Ao20 t228.length co20)) w.heap.size (fun _ => True) v221 t220) := ⟨by (with_reducible repeat (first | apply Kd.R_alloc | apply Kd.R_drewN | apply Kd.R_drew)); exact Kd.R_mono (Kd.R_far (p := ⟨gb235, 2, none⟩) (Kd.R_far (p := ⟨gb235, 1, none⟩) (Kd.R_far (p := ⟨gb235, 0, none⟩) (Kd.R_far (p := ⟨gb234, 2, none⟩) (Kd.R_far (p := ⟨gb234, 1, none⟩) (Kd.R_far (p := ⟨gb234, 0, none⟩) (Kd.R_types (Kd.R_types HO222.out BK234.out (by decide)) BK235.out (by decide)) (fun _ hk => hk.1.2) (.int .i64 t223)) (fun _ hk => hk.1.2) (.int .i64 t224)) (fun _ hk => hk.1.2) (.int .i64 t225)) (fun _ hk => hk.2) (.int .i64 t226)) (fun _ hk => hk.2) (.int .i64 t227)) (fun _ hk => hk.2) (.slice Ao20 t228.length co20)) (fun _ hk => trivial)⟩
 have n1_ : Aside0 (Kd.R k89 89 ((((((w14.setCell ⟨gb234, 0, none⟩ (.int .i64 t223)).setCell ⟨gb234, 1, none⟩ (.int .i64 t224)).setCell ⟨gb234, 2, none⟩ (.int .i64 t225)).setCell ⟨gb235, 0, none⟩ (.int .i64 t226)).setCell ⟨gb235, 1, none⟩ (.int .i64 t227)).setCell ⟨gb235, 2, none⟩ (.slice Ao20 t228.length co20)) w.heap.size (fun _ => True) (.slice Ao20 t228.length co20) t228) := ⟨by (with_reducible repeat (first | apply Kd.R_alloc | apply Kd.R_drewN | apply Kd.R_drew)); exact Kd.R_mono (Kd.R_far (p := ⟨gb235, 2, none⟩) (Kd.R_far (p := ⟨gb235, 1, none⟩) (Kd.R_far (p := ⟨gb235, 0, none⟩) (Kd.R_far (p := ⟨gb234, 2, none⟩) (Kd.R_far (p := ⟨gb234, 1, none⟩) (Kd.R_far (p := ⟨gb234, 0, none⟩) (Kd.R_types (Kd.R_types HO230.out BK234.out (by decide)) BK235.out (by decide)) (fun _ hk => hk.1.2) (.int .i64 t223)) (fun _ hk => hk.1.2) (.int .i64 t224)) (fun _ hk => hk.1.2) (.int .i64 t225)) (fun _ hk => hk.2) (.int .i64 t226)) (fun _ hk => hk.2) (.int .i64 t227)) (fun _ hk => hk.2) (.slice Ao20 t228.length co20)) (fun _ hk => trivial)⟩
 have n2_ : Aside0 (Kd.S (Kd.slice 3 (Kd.int .i64)) 43 ((((((w14.setCell ⟨gb234, 0, none⟩ (.int .i64 t223)).setCell ⟨gb234, 1, none⟩ (.int .i64 t224)).setCell ⟨gb234, 2, none⟩ (.int .i64 t225)).setCell ⟨gb235, 0, none⟩ (.int .i64 t226)).setCell ⟨gb235, 1, none⟩ (.int .i64 t227)).setCell ⟨gb235, 2, none⟩ (.slice Ao20 t228.length co20)) w.heap.size (fun k_ => some k_ ≠ (v221 : Value).ownBlock) v232 t231) := ⟨by (with_reducible repeat (first | apply Kd.S_alloc | apply Kd.S_drewN | apply Kd.S_drew)); exact Kd.S_mono (Kd.S_far (p := ⟨gb235, 2, none⟩) (Kd.S_far (p := ⟨gb235, 1, none⟩) (Kd.S_far (p := ⟨gb235, 0, none⟩) (Kd.S_far (p := ⟨gb234, 2, none⟩) (Kd.S_far (p := ⟨gb234, 1, none⟩) (Kd.S_far (p := ⟨gb234, 0, none⟩) (Kd.S_types (Kd.S_types HO233.out BK234.out (by decide)) BK235.out (by decide)) (fun _ hk => hk.1.2) (.int .i64 t223)) (fun _ hk => hk.1.2) (.int .i64 t224)) (fun _ hk => hk.1.2) (.int .i64 t225)) (fun _ hk => hk.2) (.int .i64 t226)) (fun _ hk => hk.2) (.int .i64 t227)) (fun _ hk => hk.2) (.slice Ao20 t228.length co20)) (fun _ hk => hk.1.1)⟩
 have n3_ : Aside0 (((((((w14.setCell ⟨gb234, 0, none⟩ (.int .i64 t223)).setCell ⟨gb234, 1, none⟩ (.int .i64 t224)).setCell ⟨gb234, 2, none⟩ (.int .i64 t225)).setCell ⟨gb235, 0, none⟩ (.int .i64 t226)).setCell ⟨gb235, 1, none⟩ (.int .i64 t227)).setCell ⟨gb235, 2, none⟩ (.slice Ao20 t228.length co20)).heap[gb217]? = some (.cells #[.int .i64 a0_0, .int .i64 a0_1, .slice A0_2 l0_2.length c0_2] 32 (0, 0))) := ⟨by (with_reducible repeat (first | refine blk_drewN ?_ _ | refine blk_drew ?_ | refine blk_alloc ?_ _)); refine blk_far ?_ NB217_235.out _; (with_reducible repeat (first | refine blk_drewN ?_ _ | refine blk_drew ?_ | refine blk_alloc ?_ _)); refine blk_far ?_ NB217_235.out _; (with_reducible repeat (first | refine blk_drewN ?_ _ | refine blk_drew ?_ | refine blk_alloc ?_ _)); refine blk_far ?_ NB217_235.out _; (with_reducible repeat (first | refine blk_drewN ?_ _ | refine blk_drew ?_ | refine blk_alloc ?_ _)); refine blk_far ?_ NB217_234.out _; (with_reducible repeat (first | refine blk_drewN ?_ _ | refine blk_drew ?_ | refine blk_alloc ?_ _)); refine blk_far ?_ NB217_234.out _; (with_reducible repeat (first | refine blk_drewN ?_ _ | refine blk_drew ?_ | refine blk_alloc ?_ _)); refine blk_far ?_ NB217_234.out _; (with_reducible repeat (first | refine blk_drewN ?_ _ | refine blk_drew ?_ | refine blk_alloc ?_ _)); exact BK217.out⟩
 have n4_ : Aside0 (((((((w14.setCell ⟨gb234, 0, none⟩ (.int .i64 t223)).setCell ⟨gb234, 1, none⟩ (.int .i64 t224)).setCell ⟨gb234, 2, none⟩ (.int .i64 t225)).setCell ⟨gb235, 0, none⟩ (.int .i64 t226)).setCell ⟨gb235, 1, none⟩ (.int .i64 t227)).setCell ⟨gb235, 2, none⟩ (.slice Ao20 t228.length co20)).heap[gb218]? = some (.cells #[.int .i64 0, .int .i64 0, .int .i64 0] 27 (0, 0))) := ⟨by (with_reducible repeat (first | refine blk_drewN ?_ _ | refine blk_drew ?_ | refine blk_alloc ?_ _)); refine blk_far ?_ NB218_235.out _; (with_reducible repeat (first | refine blk_drewN ?_ _ | refine blk_drew ?_ | refine blk_alloc ?_ _)); refine blk_far ?_ NB218_235.out _; (with_reducible repeat (first | refine blk_drewN ?_ _ | refine blk_drew ?_ | refine blk_alloc ?_ _)); refine blk_far ?_ NB218_235.out _; (with_reducible repeat (first | refine blk_drewN ?_ _ | refine blk_drew ?_ | refine blk_alloc ?_ _)); refine blk_far ?_ NB218_234.out _; (with_reducible repeat (first | refine blk_drewN ?_ _ | refine blk_drew ?_ | refine blk_alloc ?_ _)); refine blk_far ?_ NB218_234.out _; (with_reducible repeat (first | refine blk_drewN ?_ _ | refine blk_drew ?_ | refine blk_alloc ?_ _)); refine blk_far ?_ NB218_234.out _; (with_reducible repeat (first | refine blk_drewN ?_ _ | refine blk_drew ?_ | refine blk_alloc ?_ _)); exact BK218.out⟩
 have n5_ : Aside0 (((((((w14.setCell ⟨gb234, 0, none⟩ (.int .i64 t223)).setCell ⟨gb234, 1, none⟩ (.int .i64 t224)).setCell ⟨gb234, 2, none⟩ (.int .i64 t225)).setCell ⟨gb235, 0, none⟩ (.int .i64 t226)).setCell ⟨gb235, 1, none⟩ (.int .i64 t227)).setCell ⟨gb235, 2, none⟩ (.slice Ao20 t228.length co20)).heap[gb219]? = some (.cells #[.int .i64 0, .int .i64 0, .slice none 0 0] 32 (0, 0))) := ⟨by (with_reducible repeat (first | refine blk_drewN ?_ _ | refine blk_drew ?_ | refine blk_alloc ?_ _)); refine blk_far ?_ NB219_235.out _; (with_reducible repeat (first | refine blk_drewN ?_ _ | refine blk_drew ?_ | refine blk_alloc ?_ _)); refine blk_far ?_ NB219_235.out _; (with_reducible repeat (first | refine blk_drewN ?_ _ | refine blk_drew ?_ | refine blk_alloc ?_ _)); refine blk_far ?_ NB219_235.out _; (with_reducible repeat (first | refine blk_drewN ?_ _ | refine blk_drew ?_ | refine blk_alloc ?_ _)); refine blk_far ?_ NB219_234.out _; (with_reducible repeat (first | refine blk_drewN ?_ _ | refine blk_drew ?_ | refine blk_alloc ?_ _)); refine blk_far ?_ NB219_234.out _; (with_reducible repeat (first | refine blk_drewN ?_ _ | refine blk_drew ?_ | refine blk_alloc ?_ _)); refine blk_far ?_ NB219_234.out _; (with_reducible repeat (first | refine blk_drewN ?_ _ | refine blk_drew ?_ | refine blk_alloc ?_ _)); exact BK219.out⟩
 have n6_ : Aside0 (((((((w14.setCell ⟨gb234, 0, none⟩ (.int .i64 t223)).setCell ⟨gb234, 1, none⟩ (.int .i64 t224)).setCell ⟨gb234, 2, none⟩ (.int .i64 t225)).setCell ⟨gb235, 0, none⟩ (.int .i64 t226)).setCell ⟨gb235, 1, none⟩ (.int .i64 t227)).setCell ⟨gb235, 2, none⟩ (.slice Ao20 t228.length co20)).heap[gb234]? = some (.cells #[.int .i64 t223, .int .i64 t224, .int .i64 t225] 27 (0, 0))) := ⟨by (with_reducible repeat (first | refine blk_drewN ?_ _ | refine blk_drew ?_ | refine blk_alloc ?_ _)); refine blk_far ?_ NB234_235.out _; (with_reducible repeat (first | refine blk_drewN ?_ _ | refine blk_drew ?_ | refine blk_alloc ?_ _)); refine blk_far ?_ NB234_235.out _; (with_reducible repeat (first | refine blk_drewN ?_ _ | refine blk_drew ?_ | refine blk_alloc ?_ _)); refine blk_far ?_ NB234_235.out _; (with_reducible repeat (first | refine blk_drewN ?_ _ | refine blk_drew ?_ | refine blk_alloc ?_ _)); refine blk_put (cs := #[.int .i64 t223, .int .i64 t224, .int .i64 0]) ?_ 2 _ rfl; (with_reducible repeat (first | refine blk_drewN ?_ _ | refine blk_drew ?_ | refine blk_alloc ?_ _)); refine blk_put (cs := #[.int .i64 t223, .int .i64 0, .int .i64 0]) ?_ 1 _ rfl; (with_reducible repeat (first | refine blk_drewN ?_ _ | refine blk_drew ?_ | refine blk_alloc ?_ _)); refine blk_put (cs := #[.int .i64 0, .int .i64 0, .int .i64 0]) ?_ 0 _ rfl; (with_reducible repeat (first | refine blk_drewN ?_ _ | refine blk_drew ?_ | refine blk_alloc ?_ _)); exact BK234.out⟩
 have n7_ : Aside0 (((((((w14.setCell ⟨gb234, 0, none⟩ (.int .i64 t223)).setCell ⟨gb234, 1, none⟩ (.int .i64 t224)).setCell ⟨gb234, 2, none⟩ (.int .i64 t225)).setCell ⟨gb235, 0, none⟩ (.int .i64 t226)).setCell ⟨gb235, 1, none⟩ (.int .i64 t227)).setCell ⟨gb235, 2, none⟩ (.slice Ao20 t228.length co20)).heap[gb235]? = some (.cells #[.int .i64 t226, .int .i64 t227, .slice Ao20 t228.length co20] 32 (0, 0))) := ⟨by (with_reducible repeat (first | refine blk_drewN ?_ _ | refine blk_drew ?_ | refine blk_alloc ?_ _)); refine blk_put (cs := #[.int .i64 t226, .int .i64 t227, .slice none 0 0]) ?_ 2 _ rfl; (with_reducible repeat (first | refine blk_drewN ?_ _ | refine blk_drew ?_ | refine blk_alloc ?_ _)); refine blk_put (cs := #[.int .i64 t226, .int .i64 0, .slice none 0 0]) ?_ 1 _ rfl; (with_reducible repeat (first | refine blk_drewN ?_ _ | refine blk_drew ?_ | refine blk_alloc ?_ _)); refine blk_put (cs := #[.int .i64 0, .int .i64 0, .slice none 0 0]) ?_ 0 _ rfl; (with_reducible repeat (first | refine blk_drewN ?_ _ | refine blk_drew ?_ | refine blk_alloc ?_ _)); refine blk_far ?_ NB235_234.out _; (with_reducible repeat (first | refine blk_drewN ?_ _ | refine blk_drew ?_ | refine blk_alloc ?_ _)); refine blk_far ?_ NB235_234.out _; (with_reducible repeat (first | refine blk_drewN ?_ _ | refine blk_drew ?_ | refine blk_alloc ?_ _)); refine blk_far ?_ NB235_234.out _; (with_reducible repeat (first | refine blk_drewN ?_ _ | refine blk_drew ?_ | refine blk_alloc ?_ _)); exact BK235.out⟩
 have n8_ : Aside0 (Below w.heap.size w ((((((w14.setCell ⟨gb234, 0, none⟩ (.int .i64 t223)).setCell ⟨gb234, 1, none⟩ (.int .i64 t224)).setCell ⟨gb234, 2, none⟩ (.int .i64 t225)).setCell ⟨gb235, 0, none⟩ (.int .i64 t226)).setCell ⟨gb235, 1, none⟩ (.int .i64 t227)).setCell ⟨gb235, 2, none⟩ (.slice Ao20 t228.length co20))) := ⟨viaB HB⟩
 (try clear HO222); (try clear HO230); (try clear HO233); (try clear BK217); (try clear BK218); (try clear BK219); (try clear BK234); (try clear BK235); (try clear HB)
 generalize ((((((w14.setCell ⟨gb234, 0, none⟩ (.int .i64 t223)).setCell ⟨gb234, 1, none⟩ (.int .i64 t224)).setCell ⟨gb234, 2, none⟩ (.int .i64 t225)).setCell ⟨gb235, 0, none⟩ (.int .i64 t226)).setCell ⟨gb235, 1, none⟩ (.int .i64 t227)).setCell ⟨gb235, 2, none⟩ (.slice Ao20 t228.length co20)) = w22 at n0_ n1_ n2_ n3_ n4_ n5_ n6_ n7_ n8_ ⊢
 have HO222 := n0_
 have HO230 := n1_
 have HO233 := n2_
 have BK217 := n3_
 have BK218 := n4_
 have BK219 := n5_
 have BK234 := n6_
 have BK235 := n7_
 have HB := n8_
 clear n0_ n1_ n2_ n3_ n4_ n5_ n6_ n7_ n8_
 replace HO222 := Aside0.mk (Kd.R_drew HO222.out)
 replace HO230 := Aside0.mk (Kd.R_drew HO230.out)
 replace HO233 := Aside0.mk (Kd.S_drew HO233.out)
 replace BK217 := Aside0.mk (blk_drew BK217.out)
 replace BK218 := Aside0.mk (blk_drew BK218.out)
 replace BK219 := Aside0.mk (blk_drew BK219.out)
 replace BK234 := Aside0.mk (blk_drew BK234.out)
 replace BK235 := Aside0.mk (blk_drew BK235.out)
 replace HB := Aside0.mk (below_drew1 HB.out)
 refine start_ (n := 4) (S := fun w' => w'.cell? ⟨gb234, 0, none⟩ = some (.int .i64 t223) ∧ w'.cell? ⟨gb234, 1, none⟩ = some (.int .i64 t224) ∧ w'.cell? ⟨gb234, 2, none⟩ = some (.int .i64 t225) ∧ w'.cell? ⟨gb235, 0, none⟩ = some (.int .i64 t226) ∧ w'.cell? ⟨gb235, 1, none⟩ = some (.int .i64 t227) ∧ w'.cell? ⟨gb235, 2, none⟩ = some (.slice Ao20 t228.length co20)) (ds := []) #[false, false, false, false] (by kernel_rfl) rfl rfl ⟨(blk_cell BK234.out 0).trans rfl, (blk_cell BK234.out 1).trans rfl, (blk_cell BK234.out 2).trans rfl, (blk_cell BK235.out 0).trans rfl, (blk_cell BK235.out 1).trans rfl, (blk_cell BK235.out 2).trans rfl⟩ (fun hHeld => ?_)
 generalize w22.drew = w23 at HO222 HO230 HO233 BK217 BK218 BK219 BK234 BK235 HB hHeld ⊢
 refine take_ (i := 0) (N := some 18) (v := ?_) (a' := ?_) #[true, false, false, false] rfl rfl (by kernel_rfl) (fun _ _ _ h => h) (Or.inl ⟨by rfl, ?_⟩) hHeld ?_ ?_
 rotate_left
 ·rintro w' ⟨s0, s1, s2, s3, s4, s5⟩
  go_simp
  with_reducible rfl
 rotate_left
 ·simp only [Act.put, q1, q2, q3, i64_w, i32_w]
  rfl
 refine take_ (i := 1) (N := some 19) (v := ?_) (a' := ?_) #[true, true, false, false] rfl rfl (by kernel_rfl) (fun _ _ _ h => h) (Or.inl ⟨by rfl, ?_⟩) hHeld ?_ ?_
 rotate_left
 ·rintro w' ⟨s0, s1, s2, s3, s4, s5⟩
  go_simp
  with_reducible rfl
 rotate_left
 ·simp only [Act.put, q1, q2, q3, i64_w, i32_w]
  rfl
 refine one_ (i := 2) (N := none) #[true, true, true, false] rfl rfl (by kernel_rfl) (by decide) (fun K hK => ?_)
 have hs24 : w23.cell? ⟨gb218, 0, none⟩ = some (.int .i64 0) := (blk_cell BK218.out 0).trans rfl
 have hfs24 := blk_frozen BK218.out 0
 have hns24_0 := NB217_218.out
 have hns24_2 := NB219_218.out
 have hns24_3 := NB234_218.out
 have hns24_4 := NB235_218.out
 have hms24_0 := NB218_217.out
 have hms24_2 := NB218_219.out
 have hms24_3 := NB218_234.out
 have hms24_4 := NB218_235.out
 have hs25 : w23.cell? ⟨gb218, 1, none⟩ = some (.int .i64 0) := (blk_cell BK218.out 1).trans rfl
 have hfs25 := blk_frozen BK218.out 1
 have hns25_0 := NB217_218.out
 have hns25_2 := NB219_218.out
 have hns25_3 := NB234_218.out
 have hns25_4 := NB235_218.out
 have hms25_0 := NB218_217.out
 have hms25_2 := NB218_219.out
 have hms25_3 := NB218_234.out
 have hms25_4 := NB218_235.out
 have hs26 : w23.cell? ⟨gb218, 2, none⟩ = some (.int .i64 0) := (blk_cell BK218.out 2).trans rfl
 have hfs26 := blk_frozen BK218.out 2
 have hns26_0 := NB217_218.out
 have hns26_2 := NB219_218.out
 have hns26_3 := NB234_218.out
 have hns26_4 := NB235_218.out
 have hms26_0 := NB218_217.out
 have hms26_2 := NB218_219.out
 have hms26_3 := NB218_234.out
 have hms26_4 := NB218_235.out
 refine skip_ (w1 := ?_) (by rfl) rfl ?_ ?_
 rotate_left
 ·go_simp
  rfl
 refine hK.out _ _ ⟨((cell_far (p := ⟨gb218, _, none⟩) NB234_218.out _).trans (((cell_far (p := ⟨gb218, _, none⟩) NB234_218.out _).trans (((cell_far (p := ⟨gb218, _, none⟩) NB234_218.out _).trans (hHeld.1)))))), ((cell_far (p := ⟨gb218, _, none⟩) NB234_218.out _).trans (((cell_far (p := ⟨gb218, _, none⟩) NB234_218.out _).trans (((cell_far (p := ⟨gb218, _, none⟩) NB234_218.out _).trans (hHeld.2.1)))))), ((cell_far (p := ⟨gb218, _, none⟩) NB234_218.out _).trans (((cell_far (p := ⟨gb218, _, none⟩) NB234_218.out _).trans (((cell_far (p := ⟨gb218, _, none⟩) NB234_218.out _).trans (hHeld.2.2.1)))))), ((cell_far (p := ⟨gb218, _, none⟩) NB235_218.out _).trans (((cell_far (p := ⟨gb218, _, none⟩) NB235_218.out _).trans (((cell_far (p := ⟨gb218, _, none⟩) NB235_218.out _).trans (hHeld.2.2.2.1)))))), ((cell_far (p := ⟨gb218, _, none⟩) NB235_218.out _).trans (((cell_far (p := ⟨gb218, _, none⟩) NB235_218.out _).trans (((cell_far (p := ⟨gb218, _, none⟩) NB235_218.out _).trans (hHeld.2.2.2.2.1)))))), ((cell_far (p := ⟨gb218, _, none⟩) NB235_218.out _).trans (((cell_far (p := ⟨gb218, _, none⟩) NB235_218.out _).trans (((cell_far (p := ⟨gb218, _, none⟩) NB235_218.out _).trans (hHeld.2.2.2.2.2))))))⟩ (fun hHeld => ?_)
 clear hK K
 refine one_ (i := 3) (N := none) #[true, true, true, true] rfl rfl (by kernel_rfl) (by decide) (fun K hK => ?_)
 have hs27 : w23.cell? ⟨gb219, 0, none⟩ = some (.int .i64 0) := (blk_cell BK219.out 0).trans rfl
 have hfs27 := blk_frozen BK219.out 0
 have hns27_0 := NB217_219.out
 have hns27_1 := NB218_219.out
 have hns27_3 := NB234_219.out
 have hns27_4 := NB235_219.out
 have hms27_0 := NB219_217.out
 have hms27_1 := NB219_218.out
 have hms27_3 := NB219_234.out
 have hms27_4 := NB219_235.out
 have hs28 : w23.cell? ⟨gb219, 1, none⟩ = some (.int .i64 0) := (blk_cell BK219.out 1).trans rfl
 have hfs28 := blk_frozen BK219.out 1
 have hns28_0 := NB217_219.out
 have hns28_1 := NB218_219.out
 have hns28_3 := NB234_219.out
 have hns28_4 := NB235_219.out
 have hms28_0 := NB219_217.out
 have hms28_1 := NB219_218.out
 have hms28_3 := NB219_234.out
 have hms28_4 := NB219_235.out
 have hs29 : w23.cell? ⟨gb219, 2, none⟩ = some (.slice none 0 0) := (blk_cell BK219.out 2).trans rfl
 have hfs29 := blk_frozen BK219.out 2
 have hns29_0 := NB217_219.out
 have hns29_1 := NB218_219.out
 have hns29_3 := NB234_219.out
 have hns29_4 := NB235_219.out
 have hms29_0 := NB219_217.out
 have hms29_1 := NB219_218.out
 have hms29_3 := NB219_234.out
 have hms29_4 := NB219_235.out
 refine skip_ (w1 := ?_) (by rfl) rfl ?_ ?_
 rotate_left
 ·go_simp
  rfl
 refine hK.out _ _ ⟨((cell_far (p := ⟨gb219, _, none⟩) NB234_219.out _).trans (((cell_far (p := ⟨gb219, _, none⟩) NB234_219.out _).trans (((cell_far (p := ⟨gb219, _, none⟩) NB234_219.out _).trans (hHeld.1)))))), ((cell_far (p := ⟨gb219, _, none⟩) NB234_219.out _).trans (((cell_far (p := ⟨gb219, _, none⟩) NB234_219.out _).trans (((cell_far (p := ⟨gb219, _, none⟩) NB234_219.out _).trans (hHeld.2.1)))))), ((cell_far (p := ⟨gb219, _, none⟩) NB234_219.out _).trans (((cell_far (p := ⟨gb219, _, none⟩) NB234_219.out _).trans (((cell_far (p := ⟨gb219, _, none⟩) NB234_219.out _).trans (hHeld.2.2.1)))))), ((cell_far (p := ⟨gb219, _, none⟩) NB235_219.out _).trans (((cell_far (p := ⟨gb219, _, none⟩) NB235_219.out _).trans (((cell_far (p := ⟨gb219, _, none⟩) NB235_219.out _).trans (hHeld.2.2.2.1)))))), ((cell_far (p := ⟨gb219, _, none⟩) NB235_219.out _).trans (((cell_far (p := ⟨gb219, _, none⟩) NB235_219.out _).trans (((cell_far (p := ⟨gb219, _, none⟩) NB235_219.out _).trans (hHeld.2.2.2.2.1)))))), ((cell_far (p := ⟨gb219, _, none⟩) NB235_219.out _).trans (((cell_far (p := ⟨gb219, _, none⟩) NB235_219.out _).trans (((cell_far (p := ⟨gb219, _, none⟩) NB235_219.out _).trans (hHeld.2.2.2.2.2))))))⟩ (fun hHeld => ?_)
 clear hK K
 refine done_ (by kernel_rfl) ?_
 try go_wp2
 refine bodyPost_ret (results_cc rfl _ _ gb218 gb219 27 32 #[.int .i64 t223, .int .i64 t224, .int .i64 t225] #[.int .i64 t226, .int .i64 t227, .slice Ao20 t228.length co20] (0, 0) (0, 0) _ _ rfl (by (with_reducible repeat (first | refine blk_drewN ?_ _ | refine blk_drew ?_ | refine blk_alloc ?_ _)); refine blk_far ?_ NB218_219.out _; (with_reducible repeat (first | refine blk_drewN ?_ _ | refine blk_drew ?_ | refine blk_alloc ?_ _)); refine blk_far ?_ NB218_219.out _; (with_reducible repeat (first | refine blk_drewN ?_ _ | refine blk_drew ?_ | refine blk_alloc ?_ _)); refine blk_far ?_ NB218_219.out _; (with_reducible repeat (first | refine blk_drewN ?_ _ | refine blk_drew ?_ | refine blk_alloc ?_ _)); refine blk_put (cs := #[.int .i64 t223, .int .i64 t224, .int .i64 0]) ?_ 2 _ rfl; (with_reducible repeat (first | refine blk_drewN ?_ _ | refine blk_drew ?_ | refine blk_alloc ?_ _)); refine blk_put (cs := #[.int .i64 t223, .int .i64 0, .int .i64 0]) ?_ 1 _ rfl; (with_reducible repeat (first | refine blk_drewN ?_ _ | refine blk_drew ?_ | refine blk_alloc ?_ _)); refine blk_put (cs := #[.int .i64 0, .int .i64 0, .int .i64 0]) ?_ 0 _ rfl; (with_reducible repeat (first | refine blk_drewN ?_ _ | refine blk_drew ?_ | refine blk_alloc ?_ _)); exact BK218.out) Try.underlying27 rfl (by kernel_rfl) rfl (by (with_reducible repeat (first | refine blk_drewN ?_ _ | refine blk_drew ?_ | refine blk_alloc ?_ _)); refine blk_put (cs := #[.int .i64 t226, .int .i64 t227, .slice none 0 0]) ?_ 2 _ rfl; (with_reducible repeat (first | refine blk_drewN ?_ _ | refine blk_drew ?_ | refine blk_alloc ?_ _)); refine blk_put (cs := #[.int .i64 t226, .int .i64 0, .slice none 0 0]) ?_ 1 _ rfl; (with_reducible repeat (first | refine blk_drewN ?_ _ | refine blk_drew ?_ | refine blk_alloc ?_ _)); refine blk_put (cs := #[.int .i64 0, .int .i64 0, .slice none 0 0]) ?_ 0 _ rfl; (with_reducible repeat (first | refine blk_drewN ?_ _ | refine blk_drew ?_ | refine blk_alloc ?_ _)); refine blk_far ?_ NB219_218.out _; (with_reducible repeat (first | refine blk_drewN ?_ _ | refine blk_drew ?_ | refine blk_alloc ?_ _)); refine blk_far ?_ NB219_218.out _; (with_reducible repeat (first | refine blk_drewN ?_ _ | refine blk_drew ?_ | refine blk_alloc ?_ _)); refine blk_far ?_ NB219_218.out _; (with_reducible repeat (first | refine blk_drewN ?_ _ | refine blk_drew ?_ | refine blk_alloc ?_ _)); exact BK219.out) Try.underlying32 rfl (by kernel_rfl)) rfl ?_
 exact ⟨_, by first | rfl | (simp [errW_none, errW_some] <;> rfl) | (simp [*, errW_none, errW_some] <;> rfl), by (with_reducible repeat (first | apply Kd.R_alloc | apply Kd.R_drewN | apply Kd.R_drew)); exact Kd.R_mono (Kd.R_far (p := ⟨gb219, 2, none⟩) (Kd.R_far (p := ⟨gb219, 1, none⟩) (Kd.R_far (p := ⟨gb219, 0, none⟩) (Kd.R_far (p := ⟨gb218, 2, none⟩) (Kd.R_far (p := ⟨gb218, 1, none⟩) (Kd.R_far (p := ⟨gb218, 0, none⟩) (Kd.R_types (Kd.R_types HO230.out BK218.out (by decide)) BK219.out (by decide)) (fun _ hk => hk.1.2) (.int .i64 t223)) (fun _ hk => hk.1.2) (.int .i64 t224)) (fun _ hk => hk.1.2) (.int .i64 t225)) (fun _ hk => hk.2) (.int .i64 t226)) (fun _ hk => hk.2) (.int .i64 t227)) (fun _ hk => hk.2) (.slice Ao20 t228.length co20)) (fun _ hk => trivial), viaB HB⟩

end Go.Proofs.Ytoklfgjemfojgaa.PAll
