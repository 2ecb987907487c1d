/- This text began as one that print.sh wrote for this claim (of the functions named below); it is this session's own: turned where Lean did not take the printed proof, where it was too long for a claim, or only in what it imports. -/
import Derived.Test.YtoklfgjemfojgaaHFnExactFallOfx0
import Derived.Test.YtoklfgjemfojgaaHFnExactFallOfx3
import Derived.Test.YtoklfgjemfojgaaHFnExactFallOfx6
namespace Go.Proofs.Ytoklfgjemfojgaa.PFnExactFallOf
open Go.RowKit Go.Proofs.YtoklfgjemfojgaaW.PrintWords Go.Proofs.YtoklfgjemfojgaaW.PrintLast Go.Proofs.YtoklfgjemfojgaaW.PrintMore
attribute [local go_sem] max2_int min2_int max_two min_two max_three min_three max_four min_four   -- for this text's walks alone
set_option linter.unusedVariables false
set_option linter.unusedSimpArgs false

/-! ### spec_flRun: function 51 -/
def spec_flRun.f (k : Nat) (a0_0 : Int) (a0_1 : Int) (l0_2 : List (S89)) (a1 : Int) : Option (Int × Int × Int × Int × Int × (List (S89))) := (spec_ggGroups.f k a0_0 a0_1 l0_2).bind fun t209 => ((spec_flGo.f k a0_0 a0_1 l0_2 t209 a1).bind fun bt212 => (some (bt212.1, bt212.2.1, bt212.2.2.1, bt212.2.2.2.1, bt212.2.2.2.2.1, bt212.2.2.2.2.2.1)))
theorem spec_flRun.mono : ∀ a0 a1 a2 a3 k, LeO (spec_flRun.f k a0 a1 a2 a3) (spec_flRun.f (k + 1) a0 a1 a2 a3) := by
 intro a0 a1 a2 a3 k
 unfold spec_flRun.f
 repeat' first
   | (with_reducible exact spec_flGo.mono _ _ _ _ _ _)
   | (with_reducible exact spec_ggGroups.mono _ _ _ _)
   | (with_reducible exact LeO.refl _)
   | (with_reducible exact LeO.none _)
   | (with_reducible refine LeO.ite ?_ ?_)
   | (with_reducible refine LeO.bind ?_ (fun _ => ?_))
   | exact spec_flGo.mono _ _ _ _ _ _
   | exact spec_ggGroups.mono _ _ _ _
   | exact LeO.none _
   | refine LeO.ite ?_ ?_
   | refine LeO.bind ?_ (fun _ => ?_)
def spec_flRun.T1 : Bool × List (List Nat × List Nat) := (true, [([], []), ([], []), ([1], [1]), ([], []), ([0, 2, 3, 2], [0, 2, 3]), ([4], [4]), ([5], [5]), ([5], [5]), ([5], [5]), ([], []), ([], []), ([9, 6, 4, 0, 1, 2, 3, 4, 5, 6, 9, 10], [6, 9]), ([10, 7, 11, 0, 1, 2, 3, 4, 5, 6, 7, 9, 10, 11], [7, 10]), ([8, 12, 0, 1, 2, 3, 4, 5, 6, 7, 8, 9, 10, 11, 12], [8])])
def spec_flRun.B1 : List Nat := [0, 0, 2, 0, 15, 31, 63, 63, 63, 0, 0, 1663, 3839, 8191]
theorem spec_flRun.tab1 : rtab .any (opsOf Try.f51 1) = spec_flRun.T1 := by kernel_rfl
theorem spec_flRun.bits1 : waitsOk spec_flRun.T1.2 spec_flRun.B1 = true := by kernel_rfl
set_option maxHeartbeats 8000000 in
set_option maxRecDepth 100000 in
theorem spec_flRun.calls (k : Nat) (a0_0 : Int) (a0_1 : Int) (A0_2 : Option Addr) (c0_2 : Nat) (l0_2 : List (S89)) (a1 : Int) (r1 : Int) (r2 : Int) (r3 : Int) (r4 : Int) (r5 : Int) (r6 : List (S89)) (w : World) (hr0_2 : Kd.C k89 w A0_2 l0_2.length l0_2) (hc0_2 : l0_2.length ≤ c0_2) (h : spec_flRun.f k a0_0 a0_1 l0_2 a1 = some (r1, r2, r3, r4, r5, r6)) :
  Calls Try.prog 51 #[.agg #[.int .i64 a0_0, .int .i64 a0_1, .slice A0_2 l0_2.length c0_2], .int .i64 a1] w fun e w' => ∃ v5_ : Value, e = .returned (.tuple #[.agg #[.int .i64 r1, .int .i64 r2, .int .i64 r3], .agg #[.int .i64 r4, .int .i64 r5, v5_]]) ∧ Kd.R k89 89 w' w.heap.size (fun _ => True) v5_ r6 ∧ Below w.heap.size w w' := by
 have hu32 := Try.underlying32
 have hu27 := Try.underlying27
 have HR0_2 := Aside0.mk hr0_2
 have HC0_2 := Aside0.mk hc0_2
 clear hr0_2 hc0_2
 have HB := Aside0.mk (Below.refl w.heap.size w)
 have H : ((spec_ggGroups.f k a0_0 a0_1 l0_2).bind fun t209 => ((spec_flGo.f k a0_0 a0_1 l0_2 t209 a1).bind fun bt212 => (some (bt212.1, bt212.2.1, bt212.2.2.1, bt212.2.2.2.1, bt212.2.2.2.2.1, bt212.2.2.2.2.2.1)))) = some (r1, r2, r3, r4, r5, r6) := h
 clear h
 replace H := Option.bind_eq_some_iff.mp H
 obtain ⟨t209, A30, H⟩ := H
 replace H : ((spec_flGo.f k a0_0 a0_1 l0_2 t209 a1).bind fun bt212 => (some (bt212.1, bt212.2.1, bt212.2.2.1, bt212.2.2.2.1, bt212.2.2.2.2.1, bt212.2.2.2.2.2.1))) = some (r1, r2, r3, r4, r5, r6) := H
 have A3 := Aside0.mk A30
 clear A30
 replace H := Option.bind_eq_some_iff.mp H
 obtain ⟨⟨t212, t213, t214, t215, t216, t217, t220⟩, A40, H⟩ := H
 replace H : (some (t212, t213, t214, t215, t216, t217)) = some (r1, r2, r3, r4, r5, r6) := H
 have A4 := Aside0.mk A40
 clear A40
 simp only [Option.some.injEq, Prod.mk.injEq] at H
 obtain ⟨rfl, rfl, rfl, rfl, rfl, rfl⟩ := H
 go_enter Try.func51, Try.ntmps51
 try go_wp2_with (first | ((with_reducible refine gate_dst (N := 2) rfl ?_); refine box_ev (N := 2) (cs := #[.int .i64 a0_0, .int .i64 a0_1, .slice A0_2 l0_2.length c0_2]) (t := 32) ?_; intro gb206 hg w5 hbox hb; have BK206 := Aside0.mk (hbox); have GW206 := gW (w := w) HB hg; have GE206 := gW (w := w) HB hg; replace HB := bB HB hb; clear hb hbox hg) | ((with_reducible refine gate_dst (N := 4) rfl ?_); refine box_ev (N := 4) (cs := #[.int .i64 0, .int .i64 0, .int .i64 0]) (t := 27) ?_; intro gb207 hg w6 hbox hb; have BK207 := Aside0.mk (hbox); have GW207 := gW (w := w) HB hg; have GE207 := gW (w := w) HB hg; have NB206_207 := neL BK206 hg; have NB207_206 := neG BK206 hg; replace BK206 := kB BK206 hb; replace HB := bB HB hb; clear hb hbox hg) | ((with_reducible refine gate_dst (N := 5) rfl ?_); refine box_ev (N := 5) (cs := #[.int .i64 0, .int .i64 0, .slice none 0 0]) (t := 32) ?_; intro gb208 hg w7 hbox hb; have BK208 := Aside0.mk (hbox); have GW208 := gW (w := w) HB hg; have GE208 := gW (w := w) HB hg; have NB206_208 := neL BK206 hg; have NB208_206 := neG BK206 hg; have NB207_208 := neL BK207 hg; have NB208_207 := neG BK207 hg; replace BK206 := kB BK206 hb; replace BK207 := kB BK207 hb; replace HB := bB HB hb; clear hb hbox hg))
 replace BK206 := Aside0.mk (blk_drew BK206.out)
 replace BK207 := Aside0.mk (blk_drew BK207.out)
 replace BK208 := Aside0.mk (blk_drew BK208.out)
 replace HB := Aside0.mk (below_drew1 HB.out)
 refine start_ (n := 14) (S := fun w' => w'.cell? ⟨gb206, 0, none⟩ = some (.int .i64 a0_0) ∧ w'.cell? ⟨gb206, 1, none⟩ = some (.int .i64 a0_1) ∧ w'.cell? ⟨gb206, 2, none⟩ = some (.slice A0_2 l0_2.length c0_2)) (ds := []) #[false, false, false, false, false, false, false, false, false, false, false, false, false, false] (by kernel_rfl) rfl rfl ⟨(blk_cell BK206.out 0).trans rfl, (blk_cell BK206.out 1).trans rfl, (blk_cell BK206.out 2).trans rfl⟩ (fun hHeld => ?_); refine with_tabW spec_flRun.tab1 spec_flRun.bits1 (fun HT_ HW_ => ?_)
 generalize w7.drew = w8 at BK206 BK207 BK208 HB hHeld ⊢
 refine pure_ (i := 3) (N := some 13) (v := ?_) (a' := ?_) #[false, false, false, true, false, false, false, false, false, false, false, false, false, false] rfl rfl (any_of HT_.out (by kernel_rfl)) (fun _ _ _ h => h) (Or.inl ⟨by rfl, ?_⟩) ?_ ?_
 rotate_left
 ·intro w'
  go_simp
  with_reducible rfl
 rotate_left
 ·simp only [Act.put, q1, q2, q3, i64_w, i32_w]
  rfl
 refine take_ (i := 0) (N := some 10) (v := ?_) (a' := ?_) #[true, false, false, true, false, false, false, false, false, false, false, false, false, false] rfl rfl (take_ofW HT_.out HW_.out (by kernel_rfl)) (fun _ _ _ h => h) (Or.inl ⟨by rfl, ?_⟩) hHeld ?_ ?_
 rotate_left
 ·rintro w' ⟨s0, s1, s2⟩
  go_simp
  with_reducible rfl
 rotate_left
 ·simp only [Act.put, q1, q2, q3, i64_w, i32_w]
  rfl
 refine take_ (i := 1) (N := some 11) (v := ?_) (a' := ?_) #[true, true, false, true, false, false, false, false, false, false, false, false, false, false] rfl rfl (take_ofW HT_.out HW_.out (by kernel_rfl)) (fun _ _ _ h => h) (Or.inl ⟨by rfl, ?_⟩) hHeld ?_ ?_
 rotate_left
 ·rintro w' ⟨s0, s1, s2⟩
  go_simp
  with_reducible rfl
 rotate_left
 ·simp only [Act.put, q1, q2, q3, i64_w, i32_w]
  rfl
 refine join_ (σ := Value × Value × Value × Nat × Nat) 3 #[true, true, true, true, true, true, true, true, true, true, true, false, false, false] (fun s_ => [(12, s_.1), (14, .tuple #[.agg #[.int .i64 t212, .int .i64 t213, .int .i64 t214], .agg #[.int .i64 t215, .int .i64 t216, s_.2.1], s_.2.2.1]), (6, .pointer (some ⟨s_.2.2.2.1, 0, none⟩)), (7, .pointer (some ⟨s_.2.2.2.2, 0, none⟩)), (9, .tuple #[.agg #[.int .i64 t212, .int .i64 t213, .int .i64 t214], .agg #[.int .i64 t215, .int .i64 t216, s_.2.1], s_.2.2.1]), (15, .agg #[.int .i64 t212, .int .i64 t213, .int .i64 t214]), (16, .agg #[.int .i64 t215, .int .i64 t216, s_.2.1]), (17, s_.2.2.1)]) (fun s_ w' => (w'.cell? ⟨gb206, 0, none⟩ = some (.int .i64 a0_0) ∧ w'.cell? ⟨gb206, 1, none⟩ = some (.int .i64 a0_1) ∧ w'.cell? ⟨gb206, 2, none⟩ = some (.slice A0_2 l0_2.length c0_2)) ∧ (Kd.R (Kd.int .i64) 3 w' w.heap.size (fun _ => True) s_.1 t209) ∧ (Kd.R k89 89 w' w.heap.size (fun _ => True) s_.2.1 t217) ∧ (Kd.S (Kd.slice 3 (Kd.int .i64)) 43 w' w.heap.size (fun k_ => some k_ ≠ (s_.1 : Value).ownBlock) s_.2.2.1 t220) ∧ (w'.heap[gb206]? = some (.cells #[.int .i64 a0_0, .int .i64 a0_1, .slice A0_2 l0_2.length c0_2] 32 (0, 0))) ∧ (w'.heap[gb207]? = some (.cells #[.int .i64 0, .int .i64 0, .int .i64 0] 27 (0, 0))) ∧ (w'.heap[gb208]? = some (.cells #[.int .i64 0, .int .i64 0, .slice none 0 0] 32 (0, 0))) ∧ (w'.heap[s_.2.2.2.1]? = some (.cells #[.int .i64 0, .int .i64 0, .int .i64 0] 27 (0, 0))) ∧ (w'.heap[s_.2.2.2.2]? = some (.cells #[.int .i64 0, .int .i64 0, .slice none 0 0] 32 (0, 0))) ∧ (w.heap.size ≤ s_.2.2.2.1) ∧ (w.heap.size ≤ s_.2.2.2.1) ∧ (gb206 ≠ s_.2.2.2.1) ∧ (s_.2.2.2.1 ≠ gb206) ∧ (gb207 ≠ s_.2.2.2.1) ∧ (s_.2.2.2.1 ≠ gb207) ∧ (gb208 ≠ s_.2.2.2.1) ∧ (s_.2.2.2.1 ≠ gb208) ∧ (s_.2.2.2.2 ≠ s_.2.2.2.1) ∧ (s_.2.2.2.1 ≠ s_.2.2.2.2) ∧ (w.heap.size ≤ s_.2.2.2.2) ∧ (w.heap.size ≤ s_.2.2.2.2) ∧ (gb206 ≠ s_.2.2.2.2) ∧ (s_.2.2.2.2 ≠ gb206) ∧ (gb207 ≠ s_.2.2.2.2) ∧ (s_.2.2.2.2 ≠ gb207) ∧ (gb208 ≠ s_.2.2.2.2) ∧ (s_.2.2.2.2 ≠ gb208) ∧ (Below w.heap.size w w')) ?_ ?_
 rotate_left
 ·intro hJ2_4_9_10
  refine join_ (σ := Value × Value × Value × Nat) 4 #[true, true, true, true, true, true, true, true, true, true, false, false, false, false] (fun s_ => [(12, s_.1), (14, .tuple #[.agg #[.int .i64 t212, .int .i64 t213, .int .i64 t214], .agg #[.int .i64 t215, .int .i64 t216, s_.2.1], s_.2.2.1]), (6, .pointer (some ⟨s_.2.2.2, 0, none⟩)), (9, .tuple #[.agg #[.int .i64 t212, .int .i64 t213, .int .i64 t214], .agg #[.int .i64 t215, .int .i64 t216, s_.2.1], s_.2.2.1]), (15, .agg #[.int .i64 t212, .int .i64 t213, .int .i64 t214]), (16, .agg #[.int .i64 t215, .int .i64 t216, s_.2.1]), (17, s_.2.2.1)]) (fun s_ w' => (w'.cell? ⟨gb206, 0, none⟩ = some (.int .i64 a0_0) ∧ w'.cell? ⟨gb206, 1, none⟩ = some (.int .i64 a0_1) ∧ w'.cell? ⟨gb206, 2, none⟩ = some (.slice A0_2 l0_2.length c0_2)) ∧ (Kd.R (Kd.int .i64) 3 w' w.heap.size (fun _ => True) s_.1 t209) ∧ (Kd.R k89 89 w' w.heap.size (fun _ => True) s_.2.1 t217) ∧ (Kd.S (Kd.slice 3 (Kd.int .i64)) 43 w' w.heap.size (fun k_ => some k_ ≠ (s_.1 : Value).ownBlock) s_.2.2.1 t220) ∧ (w'.heap[gb206]? = some (.cells #[.int .i64 a0_0, .int .i64 a0_1, .slice A0_2 l0_2.length c0_2] 32 (0, 0))) ∧ (w'.heap[gb207]? = some (.cells #[.int .i64 0, .int .i64 0, .int .i64 0] 27 (0, 0))) ∧ (w'.heap[gb208]? = some (.cells #[.int .i64 0, .int .i64 0, .slice none 0 0] 32 (0, 0))) ∧ (w'.heap[s_.2.2.2]? = some (.cells #[.int .i64 0, .int .i64 0, .int .i64 0] 27 (0, 0))) ∧ (w.heap.size ≤ s_.2.2.2) ∧ (w.heap.size ≤ s_.2.2.2) ∧ (gb206 ≠ s_.2.2.2) ∧ (s_.2.2.2 ≠ gb206) ∧ (gb207 ≠ s_.2.2.2) ∧ (s_.2.2.2 ≠ gb207) ∧ (gb208 ≠ s_.2.2.2) ∧ (s_.2.2.2 ≠ gb208) ∧ (Below w.heap.size w w')) ?_ ?_
  rotate_left
  ·intro hJ2_4_9
   refine join_ (σ := Value × Value × Value × Nat) 4 #[true, true, true, true, true, true, true, true, true, false, true, false, false, false] (fun s_ => [(12, s_.1), (14, .tuple #[.agg #[.int .i64 t212, .int .i64 t213, .int .i64 t214], .agg #[.int .i64 t215, .int .i64 t216, s_.2.1], s_.2.2.1]), (7, .pointer (some ⟨s_.2.2.2, 0, none⟩)), (9, .tuple #[.agg #[.int .i64 t212, .int .i64 t213, .int .i64 t214], .agg #[.int .i64 t215, .int .i64 t216, s_.2.1], s_.2.2.1]), (15, .agg #[.int .i64 t212, .int .i64 t213, .int .i64 t214]), (16, .agg #[.int .i64 t215, .int .i64 t216, s_.2.1]), (17, s_.2.2.1)]) (fun s_ w' => (w'.cell? ⟨gb206, 0, none⟩ = some (.int .i64 a0_0) ∧ w'.cell? ⟨gb206, 1, none⟩ = some (.int .i64 a0_1) ∧ w'.cell? ⟨gb206, 2, none⟩ = some (.slice A0_2 l0_2.length c0_2)) ∧ (Kd.R (Kd.int .i64) 3 w' w.heap.size (fun _ => True) s_.1 t209) ∧ (Kd.R k89 89 w' w.heap.size (fun _ => True) s_.2.1 t217) ∧ (Kd.S (Kd.slice 3 (Kd.int .i64)) 43 w' w.heap.size (fun k_ => some k_ ≠ (s_.1 : Value).ownBlock) s_.2.2.1 t220) ∧ (w'.heap[gb206]? = some (.cells #[.int .i64 a0_0, .int .i64 a0_1, .slice A0_2 l0_2.length c0_2] 32 (0, 0))) ∧ (w'.heap[gb207]? = some (.cells #[.int .i64 0, .int .i64 0, .int .i64 0] 27 (0, 0))) ∧ (w'.heap[gb208]? = some (.cells #[.int .i64 0, .int .i64 0, .slice none 0 0] 32 (0, 0))) ∧ (w'.heap[s_.2.2.2]? = some (.cells #[.int .i64 0, .int .i64 0, .slice none 0 0] 32 (0, 0))) ∧ (w.heap.size ≤ s_.2.2.2) ∧ (w.heap.size ≤ s_.2.2.2) ∧ (gb206 ≠ s_.2.2.2) ∧ (s_.2.2.2 ≠ gb206) ∧ (gb207 ≠ s_.2.2.2) ∧ (s_.2.2.2 ≠ gb207) ∧ (gb208 ≠ s_.2.2.2) ∧ (s_.2.2.2 ≠ gb208) ∧ (Below w.heap.size w w')) ?_ ?_
   rotate_left
   ·intro hJ2_4_10
    refine join_ (σ := Value × Nat × Nat) 8 #[true, true, true, true, false, false, false, false, false, true, true, false, false, false] (fun s_ => [(12, s_.1), (6, .pointer (some ⟨s_.2.1, 0, none⟩)), (7, .pointer (some ⟨s_.2.2, 0, none⟩))]) (fun s_ w' => (w'.cell? ⟨gb206, 0, none⟩ = some (.int .i64 a0_0) ∧ w'.cell? ⟨gb206, 1, none⟩ = some (.int .i64 a0_1) ∧ w'.cell? ⟨gb206, 2, none⟩ = some (.slice A0_2 l0_2.length c0_2)) ∧ (Kd.R (Kd.int .i64) 3 w' w.heap.size (fun _ => True) s_.1 t209) ∧ (w'.heap[gb206]? = some (.cells #[.int .i64 a0_0, .int .i64 a0_1, .slice A0_2 l0_2.length c0_2] 32 (0, 0))) ∧ (w'.heap[gb207]? = some (.cells #[.int .i64 0, .int .i64 0, .int .i64 0] 27 (0, 0))) ∧ (w'.heap[gb208]? = some (.cells #[.int .i64 0, .int .i64 0, .slice none 0 0] 32 (0, 0))) ∧ (w'.heap[s_.2.1]? = some (.cells #[.int .i64 0, .int .i64 0, .int .i64 0] 27 (0, 0))) ∧ (w'.heap[s_.2.2]? = some (.cells #[.int .i64 0, .int .i64 0, .slice none 0 0] 32 (0, 0))) ∧ (w.heap.size ≤ s_.2.1) ∧ (w.heap.size ≤ s_.2.1) ∧ (gb206 ≠ s_.2.1) ∧ (s_.2.1 ≠ gb206) ∧ (gb207 ≠ s_.2.1) ∧ (s_.2.1 ≠ gb207) ∧ (gb208 ≠ s_.2.1) ∧ (s_.2.1 ≠ gb208) ∧ (s_.2.2 ≠ s_.2.1) ∧ (s_.2.1 ≠ s_.2.2) ∧ (w.heap.size ≤ s_.2.2) ∧ (w.heap.size ≤ s_.2.2) ∧ (gb206 ≠ s_.2.2) ∧ (s_.2.2 ≠ gb206) ∧ (gb207 ≠ s_.2.2) ∧ (s_.2.2 ≠ gb207) ∧ (gb208 ≠ s_.2.2) ∧ (s_.2.2 ≠ gb208) ∧ (Below w.heap.size w w')) ?_ ?_
    rotate_left
    ·intro hJ2_9_10
     refine join_ (σ := Value × Value × Value) 5 #[true, true, true, true, true, true, true, true, true, false, false, false, false, false] (fun s_ => [(12, s_.1), (14, .tuple #[.agg #[.int .i64 t212, .int .i64 t213, .int .i64 t214], .agg #[.int .i64 t215, .int .i64 t216, s_.2.1], s_.2.2]), (9, .tuple #[.agg #[.int .i64 t212, .int .i64 t213, .int .i64 t214], .agg #[.int .i64 t215, .int .i64 t216, s_.2.1], s_.2.2]), (15, .agg #[.int .i64 t212, .int .i64 t213, .int .i64 t214]), (16, .agg #[.int .i64 t215, .int .i64 t216, s_.2.1]), (17, s_.2.2)]) (fun s_ w' => (w'.cell? ⟨gb206, 0, none⟩ = some (.int .i64 a0_0) ∧ w'.cell? ⟨gb206, 1, none⟩ = some (.int .i64 a0_1) ∧ w'.cell? ⟨gb206, 2, none⟩ = some (.slice A0_2 l0_2.length c0_2)) ∧ (Kd.R (Kd.int .i64) 3 w' w.heap.size (fun _ => True) s_.1 t209) ∧ (Kd.R k89 89 w' w.heap.size (fun _ => True) s_.2.1 t217) ∧ (Kd.S (Kd.slice 3 (Kd.int .i64)) 43 w' w.heap.size (fun k_ => some k_ ≠ (s_.1 : Value).ownBlock) s_.2.2 t220) ∧ (w'.heap[gb206]? = some (.cells #[.int .i64 a0_0, .int .i64 a0_1, .slice A0_2 l0_2.length c0_2] 32 (0, 0))) ∧ (w'.heap[gb207]? = some (.cells #[.int .i64 0, .int .i64 0, .int .i64 0] 27 (0, 0))) ∧ (w'.heap[gb208]? = some (.cells #[.int .i64 0, .int .i64 0, .slice none 0 0] 32 (0, 0))) ∧ (Below w.heap.size w w')) ?_ ?_
     rotate_left
     ·intro hJ2_4
      refine join_ (σ := Value × Nat) 9 #[true, true, true, true, false, false, false, false, false, true, false, false, false, false] (fun s_ => [(12, s_.1), (6, .pointer (some ⟨s_.2, 0, none⟩))]) (fun s_ w' => (w'.cell? ⟨gb206, 0, none⟩ = some (.int .i64 a0_0) ∧ w'.cell? ⟨gb206, 1, none⟩ = some (.int .i64 a0_1) ∧ w'.cell? ⟨gb206, 2, none⟩ = some (.slice A0_2 l0_2.length c0_2)) ∧ (Kd.R (Kd.int .i64) 3 w' w.heap.size (fun _ => True) s_.1 t209) ∧ (w'.heap[gb206]? = some (.cells #[.int .i64 a0_0, .int .i64 a0_1, .slice A0_2 l0_2.length c0_2] 32 (0, 0))) ∧ (w'.heap[gb207]? = some (.cells #[.int .i64 0, .int .i64 0, .int .i64 0] 27 (0, 0))) ∧ (w'.heap[gb208]? = some (.cells #[.int .i64 0, .int .i64 0, .slice none 0 0] 32 (0, 0))) ∧ (w'.heap[s_.2]? = some (.cells #[.int .i64 0, .int .i64 0, .int .i64 0] 27 (0, 0))) ∧ (w.heap.size ≤ s_.2) ∧ (w.heap.size ≤ s_.2) ∧ (gb206 ≠ s_.2) ∧ (s_.2 ≠ gb206) ∧ (gb207 ≠ s_.2) ∧ (s_.2 ≠ gb207) ∧ (gb208 ≠ s_.2) ∧ (s_.2 ≠ gb208) ∧ (Below w.heap.size w w')) ?_ ?_
      rotate_left
      ·intro hJ2_9
       refine join_ (σ := Value × Nat) 9 #[true, true, true, true, false, false, false, false, false, false, true, false, false, false] (fun s_ => [(12, s_.1), (7, .pointer (some ⟨s_.2, 0, none⟩))]) (fun s_ w' => (w'.cell? ⟨gb206, 0, none⟩ = some (.int .i64 a0_0) ∧ w'.cell? ⟨gb206, 1, none⟩ = some (.int .i64 a0_1) ∧ w'.cell? ⟨gb206, 2, none⟩ = some (.slice A0_2 l0_2.length c0_2)) ∧ (Kd.R (Kd.int .i64) 3 w' w.heap.size (fun _ => True) s_.1 t209) ∧ (w'.heap[gb206]? = some (.cells #[.int .i64 a0_0, .int .i64 a0_1, .slice A0_2 l0_2.length c0_2] 32 (0, 0))) ∧ (w'.heap[gb207]? = some (.cells #[.int .i64 0, .int .i64 0, .int .i64 0] 27 (0, 0))) ∧ (w'.heap[gb208]? = some (.cells #[.int .i64 0, .int .i64 0, .slice none 0 0] 32 (0, 0))) ∧ (w'.heap[s_.2]? = some (.cells #[.int .i64 0, .int .i64 0, .slice none 0 0] 32 (0, 0))) ∧ (w.heap.size ≤ s_.2) ∧ (w.heap.size ≤ s_.2) ∧ (gb206 ≠ s_.2) ∧ (s_.2 ≠ gb206) ∧ (gb207 ≠ s_.2) ∧ (s_.2 ≠ gb207) ∧ (gb208 ≠ s_.2) ∧ (s_.2 ≠ gb208) ∧ (Below w.heap.size w w')) ?_ ?_
       rotate_left
       ·intro hJ2_10
        refine join_ (σ := Nat × Nat) 9 #[true, true, false, true, false, false, false, false, false, true, true, false, false, false] (fun s_ => [(6, .pointer (some ⟨s_.1, 0, none⟩)), (7, .pointer (some ⟨s_.2, 0, none⟩))]) (fun s_ w' => (w'.cell? ⟨gb206, 0, none⟩ = some (.int .i64 a0_0) ∧ w'.cell? ⟨gb206, 1, none⟩ = some (.int .i64 a0_1) ∧ w'.cell? ⟨gb206, 2, none⟩ = some (.slice A0_2 l0_2.length c0_2)) ∧ (w'.heap[gb206]? = some (.cells #[.int .i64 a0_0, .int .i64 a0_1, .slice A0_2 l0_2.length c0_2] 32 (0, 0))) ∧ (w'.heap[gb207]? = some (.cells #[.int .i64 0, .int .i64 0, .int .i64 0] 27 (0, 0))) ∧ (w'.heap[gb208]? = some (.cells #[.int .i64 0, .int .i64 0, .slice none 0 0] 32 (0, 0))) ∧ (w'.heap[s_.1]? = some (.cells #[.int .i64 0, .int .i64 0, .int .i64 0] 27 (0, 0))) ∧ (w'.heap[s_.2]? = some (.cells #[.int .i64 0, .int .i64 0, .slice none 0 0] 32 (0, 0))) ∧ (w.heap.size ≤ s_.1) ∧ (w.heap.size ≤ s_.1) ∧ (gb206 ≠ s_.1) ∧ (s_.1 ≠ gb206) ∧ (gb207 ≠ s_.1) ∧ (s_.1 ≠ gb207) ∧ (gb208 ≠ s_.1) ∧ (s_.1 ≠ gb208) ∧ (s_.2 ≠ s_.1) ∧ (s_.1 ≠ s_.2) ∧ (w.heap.size ≤ s_.2) ∧ (w.heap.size ≤ s_.2) ∧ (gb206 ≠ s_.2) ∧ (s_.2 ≠ gb206) ∧ (gb207 ≠ s_.2) ∧ (s_.2 ≠ gb207) ∧ (gb208 ≠ s_.2) ∧ (s_.2 ≠ gb208) ∧ (Below w.heap.size w w')) ?_ ?_
        rotate_left
        ·intro hJ9_10
         refine join_ (σ := Value) 10 #[true, true, true, true, false, false, false, false, false, false, false, false, false, false] (fun s_ => [(12, s_)]) (fun s_ w' => (w'.cell? ⟨gb206, 0, none⟩ = some (.int .i64 a0_0) ∧ w'.cell? ⟨gb206, 1, none⟩ = some (.int .i64 a0_1) ∧ w'.cell? ⟨gb206, 2, none⟩ = some (.slice A0_2 l0_2.length c0_2)) ∧ (Kd.R (Kd.int .i64) 3 w' w.heap.size (fun _ => True) s_ t209) ∧ (w'.heap[gb206]? = some (.cells #[.int .i64 a0_0, .int .i64 a0_1, .slice A0_2 l0_2.length c0_2] 32 (0, 0))) ∧ (w'.heap[gb207]? = some (.cells #[.int .i64 0, .int .i64 0, .int .i64 0] 27 (0, 0))) ∧ (w'.heap[gb208]? = some (.cells #[.int .i64 0, .int .i64 0, .slice none 0 0] 32 (0, 0))) ∧ (Below w.heap.size w w')) ?_ ?_
         rotate_left
         ·intro hJ2
          refine join_ (σ := Nat) 10 #[true, true, false, true, false, false, false, false, false, true, false, false, false, false] (fun s_ => [(6, .pointer (some ⟨s_, 0, none⟩))]) (fun s_ w' => (w'.cell? ⟨gb206, 0, none⟩ = some (.int .i64 a0_0) ∧ w'.cell? ⟨gb206, 1, none⟩ = some (.int .i64 a0_1) ∧ w'.cell? ⟨gb206, 2, none⟩ = some (.slice A0_2 l0_2.length c0_2)) ∧ (w'.heap[gb206]? = some (.cells #[.int .i64 a0_0, .int .i64 a0_1, .slice A0_2 l0_2.length c0_2] 32 (0, 0))) ∧ (w'.heap[gb207]? = some (.cells #[.int .i64 0, .int .i64 0, .int .i64 0] 27 (0, 0))) ∧ (w'.heap[gb208]? = some (.cells #[.int .i64 0, .int .i64 0, .slice none 0 0] 32 (0, 0))) ∧ (w'.heap[s_]? = some (.cells #[.int .i64 0, .int .i64 0, .int .i64 0] 27 (0, 0))) ∧ (w.heap.size ≤ s_) ∧ (w.heap.size ≤ s_) ∧ (gb206 ≠ s_) ∧ (s_ ≠ gb206) ∧ (gb207 ≠ s_) ∧ (s_ ≠ gb207) ∧ (gb208 ≠ s_) ∧ (s_ ≠ gb208) ∧ (Below w.heap.size w w')) ?_ ?_
          rotate_left
          ·intro hJ9
           refine join_ (σ := Nat) 10 #[true, true, false, true, false, false, false, false, false, false, true, false, false, false] (fun s_ => [(7, .pointer (some ⟨s_, 0, none⟩))]) (fun s_ w' => (w'.cell? ⟨gb206, 0, none⟩ = some (.int .i64 a0_0) ∧ w'.cell? ⟨gb206, 1, none⟩ = some (.int .i64 a0_1) ∧ w'.cell? ⟨gb206, 2, none⟩ = some (.slice A0_2 l0_2.length c0_2)) ∧ (w'.heap[gb206]? = some (.cells #[.int .i64 a0_0, .int .i64 a0_1, .slice A0_2 l0_2.length c0_2] 32 (0, 0))) ∧ (w'.heap[gb207]? = some (.cells #[.int .i64 0, .int .i64 0, .int .i64 0] 27 (0, 0))) ∧ (w'.heap[gb208]? = some (.cells #[.int .i64 0, .int .i64 0, .slice none 0 0] 32 (0, 0))) ∧ (w'.heap[s_]? = some (.cells #[.int .i64 0, .int .i64 0, .slice none 0 0] 32 (0, 0))) ∧ (w.heap.size ≤ s_) ∧ (w.heap.size ≤ s_) ∧ (gb206 ≠ s_) ∧ (s_ ≠ gb206) ∧ (gb207 ≠ s_) ∧ (s_ ≠ gb207) ∧ (gb208 ≠ s_) ∧ (s_ ≠ gb208) ∧ (Below w.heap.size w w')) ?_ ?_
           rotate_left
           ·intro hJ10
            refine three_ (i := 2) (j := 9) (k := 10) (Ni := some 12) (Nj := some 6) (Nk := some 7) #[true, true, true, true, false, false, false, false, false, false, false, false, false, false] #[true, true, false, true, false, false, false, false, false, true, false, false, false, false] #[true, true, false, true, false, false, false, false, false, false, true, false, false, false] rfl rfl rfl rfl rfl rfl (three_of HT_.out (by kernel_rfl)) (by decide) (by decide) (by decide) (fun K hK => ?_) (fun K hK => ?_) (fun K hK => ?_)
            ·skip
             refine goes_ Try.func62 (by kernel_rfl) rfl #[.agg #[.int .i64 a0_0, .int .i64 a0_1, .slice A0_2 l0_2.length c0_2]] (by rfl) rfl rfl (by (try simp only [List.map_toArray, List.map_cons, List.map_nil]); first | done | rfl | (simp only [List.length_drop, List.length_take]; rfl)) ?_
             with_reducible refine (spec_ggGroups.calls k a0_0 a0_1 _ _ l0_2 t209 _ ?side1 ?side2 A3.out).mono ?_
             (case side1 => repeat (first | exact (Kd.C_below HR0_2.out HB.out) | (with_reducible refine Kd.C_alloc ?_ _) | (with_reducible refine Kd.C_drewN ?_ _) | (with_reducible refine Kd.C_drew ?_)))
             (case side2 => exact HC0_2.out)
             rintro e w9 ⟨v210, rfl, ho0, hb⟩
             refine ⟨_, rfl, ?_⟩
             have HO211 := Aside0.mk (Kd.R_lower ho0 (below_size (viaB HB)))
             replace BK206 := kB BK206 hb
             replace BK207 := kB BK207 hb
             replace BK208 := kB BK208 hb
             replace HB := bB HB hb
             (try clear hb); (try clear hb2); (try clear hk); (try clear hi); (try clear ho0)
             refine hK.out _ _ ⟨(blk_cell BK206.out 0).trans rfl, (blk_cell BK206.out 1).trans rfl, (blk_cell BK206.out 2).trans rfl⟩ (fun hHeld => ?_)
             clear hK K
             refine norm_ (a' := ?_) ?_ ?_
             rotate_left
             ·show Act.put _ (some 12) _ = _
              simp only [Act.put, q1, q2, q3, i64_w, i32_w]
              rfl
             exact norm_ (by first | (simp only [putAll, Act.put, q1, q2, q3]; done) | (simp only [putAll, Act.put, q1, q2, q3]; rfl)) (hJ2 (v210) _ ⟨hHeld, (viaR HO211), (viaK BK206), (viaK BK207), (viaK BK208), (viaB HB)⟩)
            ·skip
             refine box_step ?hg (N := 6) ?hd (cs := #[.int .i64 0, .int .i64 0, .int .i64 0]) (t := 27) ?hr ?_; (case hd => rfl); (case hg => rfl); (case hr => first | (go_simp; done) | (go_simp; rfl))
             intro gb223 hg w9 hbox hb
             have BK223 := Aside0.mk (hbox)
             have GW223 := gW (w := w) HB hg
             have GE223 := gW (w := w) HB hg
             have NB206_223 := neL BK206 hg
             have NB223_206 := neG BK206 hg
             have NB207_223 := neL BK207 hg
             have NB223_207 := neG BK207 hg
             have NB208_223 := neL BK208 hg
             have NB223_208 := neG BK208 hg
             replace BK206 := kB BK206 hb
             replace BK207 := kB BK207 hb
             replace BK208 := kB BK208 hb
             replace HB := bB HB hb
             clear hb hbox hg
             refine hK.out _ _ ⟨(blk_cell BK206.out 0).trans rfl, (blk_cell BK206.out 1).trans rfl, (blk_cell BK206.out 2).trans rfl⟩ (fun hHeld => ?_)
             clear hK K
             refine norm_ (a' := ?_) ?_ ?_
             rotate_left
             ·show Act.put _ (some 6) _ = _
              simp only [Act.put, q1, q2, q3, i64_w, i32_w]
              rfl
             exact norm_ (by first | (simp only [putAll, Act.put, q1, q2, q3]; done) | (simp only [putAll, Act.put, q1, q2, q3]; rfl)) (hJ9 (gb223) _ ⟨hHeld, (viaK BK206), (viaK BK207), (viaK BK208), (viaK BK223), GW223.out, GE223.out, NB206_223.out, NB223_206.out, NB207_223.out, NB223_207.out, NB208_223.out, NB223_208.out, (viaB HB)⟩)
            ·skip
             refine box_step ?hg (N := 7) ?hd (cs := #[.int .i64 0, .int .i64 0, .slice none 0 0]) (t := 32) ?hr ?_; (case hd => rfl); (case hg => rfl); (case hr => first | (go_simp; done) | (go_simp; rfl))
             intro gb224 hg w9 hbox hb
             have BK224 := Aside0.mk (hbox)
             have GW224 := gW (w := w) HB hg
             have GE224 := gW (w := w) HB hg
             have NB206_224 := neL BK206 hg
             have NB224_206 := neG BK206 hg
             have NB207_224 := neL BK207 hg
             have NB224_207 := neG BK207 hg
             have NB208_224 := neL BK208 hg
             have NB224_208 := neG BK208 hg
             replace BK206 := kB BK206 hb
             replace BK207 := kB BK207 hb
             replace BK208 := kB BK208 hb
             replace HB := bB HB hb
             clear hb hbox hg
             refine hK.out _ _ ⟨(blk_cell BK206.out 0).trans rfl, (blk_cell BK206.out 1).trans rfl, (blk_cell BK206.out 2).trans rfl⟩ (fun hHeld => ?_)
             clear hK K
             refine norm_ (a' := ?_) ?_ ?_
             rotate_left
             ·show Act.put _ (some 7) _ = _
              simp only [Act.put, q1, q2, q3, i64_w, i32_w]
              rfl
             exact norm_ (by first | (simp only [putAll, Act.put, q1, q2, q3]; done) | (simp only [putAll, Act.put, q1, q2, q3]; rfl)) (hJ10 (gb224) _ ⟨hHeld, (viaK BK206), (viaK BK207), (viaK BK208), (viaK BK224), GW224.out, GE224.out, NB206_224.out, NB224_206.out, NB207_224.out, NB224_207.out, NB208_224.out, NB224_208.out, (viaB HB)⟩)
           ·skip
            rintro gb224 w10 ⟨hS_, h0_, h1_, h2_, h3_, h4_, h5_, h6_, h7_, h8_, h9_, h10_, h11_, h12_⟩
            have BK224 : Aside0 (w10.heap[gb224]? = some (.cells #[.int .i64 0, .int .i64 0, .slice none 0 0] 32 (0, 0))) := ⟨h3_⟩
            have GW224 : Aside0 (w.heap.size ≤ gb224) := ⟨h4_⟩
            have GE224 : Aside0 (w.heap.size ≤ gb224) := ⟨h5_⟩
            have NB206_224 : Aside0 (gb206 ≠ gb224) := ⟨h6_⟩
            have NB224_206 : Aside0 (gb224 ≠ gb206) := ⟨h7_⟩
            have NB207_224 : Aside0 (gb207 ≠ gb224) := ⟨h8_⟩
            have NB224_207 : Aside0 (gb224 ≠ gb207) := ⟨h9_⟩
            have NB208_224 : Aside0 (gb208 ≠ gb224) := ⟨h10_⟩
            have NB224_208 : Aside0 (gb224 ≠ gb208) := ⟨h11_⟩
            replace BK206 : Aside0 (w10.heap[gb206]? = some (.cells #[.int .i64 a0_0, .int .i64 a0_1, .slice A0_2 l0_2.length c0_2] 32 (0, 0))) := ⟨h0_⟩
            replace BK207 : Aside0 (w10.heap[gb207]? = some (.cells #[.int .i64 0, .int .i64 0, .int .i64 0] 27 (0, 0))) := ⟨h1_⟩
            replace BK208 : Aside0 (w10.heap[gb208]? = some (.cells #[.int .i64 0, .int .i64 0, .slice none 0 0] 32 (0, 0))) := ⟨h2_⟩
            replace HB : Aside0 (Below w.heap.size w w10) := ⟨h12_⟩
            clear h0_ h1_ h2_ h3_ h4_ h5_ h6_ h7_ h8_ h9_ h10_ h11_ h12_
            have hHeld : w10.cell? ⟨gb206, 0, none⟩ = some (.int .i64 a0_0) ∧ w10.cell? ⟨gb206, 1, none⟩ = some (.int .i64 a0_1) ∧ w10.cell? ⟨gb206, 2, none⟩ = some (.slice A0_2 l0_2.length c0_2) := hS_
            refine norm_ (a' := ?_) ?_ ?_
            rotate_left
            ·simp only [putAll, Act.put, q1, q2, q3]
             rfl
            refine two_ (i := 2) (j := 9) (Ni := some 12) (Nj := some 6) #[true, true, true, true, false, false, false, false, false, false, true, false, false, false] #[true, true, false, true, false, false, false, false, false, true, true, false, false, false] rfl rfl rfl rfl (two_of HT_.out (by kernel_rfl)) (by decide) (by decide) (fun K hK => ?_) (fun K hK => ?_)
            ·skip
             refine goes_ Try.func62 (by kernel_rfl) rfl #[.agg #[.int .i64 a0_0, .int .i64 a0_1, .slice A0_2 l0_2.length c0_2]] (by rfl) rfl rfl (by (try simp only [List.map_toArray, List.map_cons, List.map_nil]); first | done | rfl | (simp only [List.length_drop, List.length_take]; rfl)) ?_
             with_reducible refine (spec_ggGroups.calls k a0_0 a0_1 _ _ l0_2 t209 _ ?side1 ?side2 A3.out).mono ?_
             (case side1 => repeat (first | exact (Kd.C_below HR0_2.out HB.out) | (with_reducible refine Kd.C_alloc ?_ _) | (with_reducible refine Kd.C_drewN ?_ _) | (with_reducible refine Kd.C_drew ?_)))
             (case side2 => exact HC0_2.out)
             rintro e w11 ⟨v210, rfl, ho0, hb⟩
             refine ⟨_, rfl, ?_⟩
             have HO211 := Aside0.mk (Kd.R_lower ho0 (below_size (viaB HB)))
             replace BK206 := kB BK206 hb
             replace BK207 := kB BK207 hb
             replace BK208 := kB BK208 hb
             replace BK224 := kB BK224 hb
             replace HB := bB HB hb
             (try clear hb); (try clear hb2); (try clear hk); (try clear hi); (try clear ho0)
             refine hK.out _ _ ⟨(blk_cell BK206.out 0).trans rfl, (blk_cell BK206.out 1).trans rfl, (blk_cell BK206.out 2).trans rfl⟩ (fun hHeld => ?_)
             clear hK K
             refine norm_ (a' := ?_) ?_ ?_
             rotate_left
             ·show Act.put _ (some 12) _ = _
              simp only [Act.put, q1, q2, q3, i64_w, i32_w]
              rfl
             exact norm_ (by first | (simp only [putAll, Act.put, q1, q2, q3]; done) | (simp only [putAll, Act.put, q1, q2, q3]; rfl)) (hJ2_10 (v210, gb224) _ ⟨hHeld, (viaR HO211), (viaK BK206), (viaK BK207), (viaK BK208), (viaK BK224), GW224.out, GE224.out, NB206_224.out, NB224_206.out, NB207_224.out, NB224_207.out, NB208_224.out, NB224_208.out, (viaB HB)⟩)
            ·skip
             refine box_step ?hg (N := 6) ?hd (cs := #[.int .i64 0, .int .i64 0, .int .i64 0]) (t := 27) ?hr ?_; (case hd => rfl); (case hg => rfl); (case hr => first | (go_simp; done) | (go_simp; rfl))
             intro gb223 hg w11 hbox hb
             have BK223 := Aside0.mk (hbox)
             have GW223 := gW (w := w) HB hg
             have GE223 := gW (w := w) HB hg
             have NB206_223 := neL BK206 hg
             have NB223_206 := neG BK206 hg
             have NB207_223 := neL BK207 hg
             have NB223_207 := neG BK207 hg
             have NB208_223 := neL BK208 hg
             have NB223_208 := neG BK208 hg
             have NB224_223 := neL BK224 hg
             have NB223_224 := neG BK224 hg
             replace BK206 := kB BK206 hb
             replace BK207 := kB BK207 hb
             replace BK208 := kB BK208 hb
             replace BK224 := kB BK224 hb
             replace HB := bB HB hb
             clear hb hbox hg
             refine hK.out _ _ ⟨(blk_cell BK206.out 0).trans rfl, (blk_cell BK206.out 1).trans rfl, (blk_cell BK206.out 2).trans rfl⟩ (fun hHeld => ?_)
             clear hK K
             refine norm_ (a' := ?_) ?_ ?_
             rotate_left
             ·show Act.put _ (some 6) _ = _
              simp only [Act.put, q1, q2, q3, i64_w, i32_w]
              rfl
             exact norm_ (by first | (simp only [putAll, Act.put, q1, q2, q3]; done) | (simp only [putAll, Act.put, q1, q2, q3]; rfl)) (hJ9_10 (gb223, gb224) _ ⟨hHeld, (viaK BK206), (viaK BK207), (viaK BK208), (viaK BK223), (viaK BK224), GW223.out, GE223.out, NB206_223.out, NB223_206.out, NB207_223.out, NB223_207.out, NB208_223.out, NB223_208.out, NB224_223.out, NB223_224.out, GW224.out, GE224.out, NB206_224.out, NB224_206.out, NB207_224.out, NB224_207.out, NB208_224.out, NB224_208.out, (viaB HB)⟩)
          ·skip
           rintro gb223 w10 ⟨hS_, h0_, h1_, h2_, h3_, h4_, h5_, h6_, h7_, h8_, h9_, h10_, h11_, h12_⟩
           have BK223 : Aside0 (w10.heap[gb223]? = some (.cells #[.int .i64 0, .int .i64 0, .int .i64 0] 27 (0, 0))) := ⟨h3_⟩
           have GW223 : Aside0 (w.heap.size ≤ gb223) := ⟨h4_⟩
           have GE223 : Aside0 (w.heap.size ≤ gb223) := ⟨h5_⟩
           have NB206_223 : Aside0 (gb206 ≠ gb223) := ⟨h6_⟩
           have NB223_206 : Aside0 (gb223 ≠ gb206) := ⟨h7_⟩
           have NB207_223 : Aside0 (gb207 ≠ gb223) := ⟨h8_⟩
           have NB223_207 : Aside0 (gb223 ≠ gb207) := ⟨h9_⟩
           have NB208_223 : Aside0 (gb208 ≠ gb223) := ⟨h10_⟩
           have NB223_208 : Aside0 (gb223 ≠ gb208) := ⟨h11_⟩
           replace BK206 : Aside0 (w10.heap[gb206]? = some (.cells #[.int .i64 a0_0, .int .i64 a0_1, .slice A0_2 l0_2.length c0_2] 32 (0, 0))) := ⟨h0_⟩
           replace BK207 : Aside0 (w10.heap[gb207]? = some (.cells #[.int .i64 0, .int .i64 0, .int .i64 0] 27 (0, 0))) := ⟨h1_⟩
           replace BK208 : Aside0 (w10.heap[gb208]? = some (.cells #[.int .i64 0, .int .i64 0, .slice none 0 0] 32 (0, 0))) := ⟨h2_⟩
           replace HB : Aside0 (Below w.heap.size w w10) := ⟨h12_⟩
           clear h0_ h1_ h2_ h3_ h4_ h5_ h6_ h7_ h8_ h9_ h10_ h11_ h12_
           have hHeld : w10.cell? ⟨gb206, 0, none⟩ = some (.int .i64 a0_0) ∧ w10.cell? ⟨gb206, 1, none⟩ = some (.int .i64 a0_1) ∧ w10.cell? ⟨gb206, 2, none⟩ = some (.slice A0_2 l0_2.length c0_2) := hS_
           refine norm_ (a' := ?_) ?_ ?_
           rotate_left
           ·simp only [putAll, Act.put, q1, q2, q3]
            rfl
           refine two_ (i := 2) (j := 10) (Ni := some 12) (Nj := some 7) #[true, true, true, true, false, false, false, false, false, true, false, false, false, false] #[true, true, false, true, false, false, false, false, false, true, true, false, false, false] rfl rfl rfl rfl (two_of HT_.out (by kernel_rfl)) (by decide) (by decide) (fun K hK => ?_) (fun K hK => ?_)
           ·skip
            refine goes_ Try.func62 (by kernel_rfl) rfl #[.agg #[.int .i64 a0_0, .int .i64 a0_1, .slice A0_2 l0_2.length c0_2]] (by rfl) rfl rfl (by (try simp only [List.map_toArray, List.map_cons, List.map_nil]); first | done | rfl | (simp only [List.length_drop, List.length_take]; rfl)) ?_
            with_reducible refine (spec_ggGroups.calls k a0_0 a0_1 _ _ l0_2 t209 _ ?side1 ?side2 A3.out).mono ?_
            (case side1 => repeat (first | exact (Kd.C_below HR0_2.out HB.out) | (with_reducible refine Kd.C_alloc ?_ _) | (with_reducible refine Kd.C_drewN ?_ _) | (with_reducible refine Kd.C_drew ?_)))
            (case side2 => exact HC0_2.out)
            rintro e w11 ⟨v210, rfl, ho0, hb⟩
            refine ⟨_, rfl, ?_⟩
            have HO211 := Aside0.mk (Kd.R_lower ho0 (below_size (viaB HB)))
            replace BK206 := kB BK206 hb
            replace BK207 := kB BK207 hb
            replace BK208 := kB BK208 hb
            replace BK223 := kB BK223 hb
            replace HB := bB HB hb
            (try clear hb); (try clear hb2); (try clear hk); (try clear hi); (try clear ho0)
            refine hK.out _ _ ⟨(blk_cell BK206.out 0).trans rfl, (blk_cell BK206.out 1).trans rfl, (blk_cell BK206.out 2).trans rfl⟩ (fun hHeld => ?_)
            clear hK K
            refine norm_ (a' := ?_) ?_ ?_
            rotate_left
            ·show Act.put _ (some 12) _ = _
             simp only [Act.put, q1, q2, q3, i64_w, i32_w]
             rfl
            exact norm_ (by first | (simp only [putAll, Act.put, q1, q2, q3]; done) | (simp only [putAll, Act.put, q1, q2, q3]; rfl)) (hJ2_9 (v210, gb223) _ ⟨hHeld, (viaR HO211), (viaK BK206), (viaK BK207), (viaK BK208), (viaK BK223), GW223.out, GE223.out, NB206_223.out, NB223_206.out, NB207_223.out, NB223_207.out, NB208_223.out, NB223_208.out, (viaB HB)⟩)
           ·skip
            refine box_step ?hg (N := 7) ?hd (cs := #[.int .i64 0, .int .i64 0, .slice none 0 0]) (t := 32) ?hr ?_; (case hd => rfl); (case hg => rfl); (case hr => first | (go_simp; done) | (go_simp; rfl))
            intro gb224 hg w11 hbox hb
            have BK224 := Aside0.mk (hbox)
            have GW224 := gW (w := w) HB hg
            have GE224 := gW (w := w) HB hg
            have NB206_224 := neL BK206 hg
            have NB224_206 := neG BK206 hg
            have NB207_224 := neL BK207 hg
            have NB224_207 := neG BK207 hg
            have NB208_224 := neL BK208 hg
            have NB224_208 := neG BK208 hg
            have NB223_224 := neL BK223 hg
            have NB224_223 := neG BK223 hg
            replace BK206 := kB BK206 hb
            replace BK207 := kB BK207 hb
            replace BK208 := kB BK208 hb
            replace BK223 := kB BK223 hb
            replace HB := bB HB hb
            clear hb hbox hg
            refine hK.out _ _ ⟨(blk_cell BK206.out 0).trans rfl, (blk_cell BK206.out 1).trans rfl, (blk_cell BK206.out 2).trans rfl⟩ (fun hHeld => ?_)
            clear hK K
            refine norm_ (a' := ?_) ?_ ?_
            rotate_left
            ·show Act.put _ (some 7) _ = _
             simp only [Act.put, q1, q2, q3, i64_w, i32_w]
             rfl
            exact norm_ (by first | (simp only [putAll, Act.put, q1, q2, q3]; done) | (simp only [putAll, Act.put, q1, q2, q3]; rfl)) (hJ9_10 (gb223, gb224) _ ⟨hHeld, (viaK BK206), (viaK BK207), (viaK BK208), (viaK BK223), (viaK BK224), GW223.out, GE223.out, NB206_223.out, NB223_206.out, NB207_223.out, NB223_207.out, NB208_223.out, NB223_208.out, NB224_223.out, NB223_224.out, GW224.out, GE224.out, NB206_224.out, NB224_206.out, NB207_224.out, NB224_207.out, NB208_224.out, NB224_208.out, (viaB HB)⟩)
         ·skip
          rintro v210 w10 ⟨hS_, h0_, h1_, h2_, h3_, h4_⟩
          have HO211 : Aside0 (Kd.R (Kd.int .i64) 3 w10 w.heap.size (fun _ => True) v210 t209) := ⟨h0_⟩
          replace BK206 : Aside0 (w10.heap[gb206]? = some (.cells #[.int .i64 a0_0, .int .i64 a0_1, .slice A0_2 l0_2.length c0_2] 32 (0, 0))) := ⟨h1_⟩
          replace BK207 : Aside0 (w10.heap[gb207]? = some (.cells #[.int .i64 0, .int .i64 0, .int .i64 0] 27 (0, 0))) := ⟨h2_⟩
          replace BK208 : Aside0 (w10.heap[gb208]? = some (.cells #[.int .i64 0, .int .i64 0, .slice none 0 0] 32 (0, 0))) := ⟨h3_⟩
          replace HB : Aside0 (Below w.heap.size w w10) := ⟨h4_⟩
          clear h0_ h1_ h2_ h3_ h4_
          have hHeld : w10.cell? ⟨gb206, 0, none⟩ = some (.int .i64 a0_0) ∧ w10.cell? ⟨gb206, 1, none⟩ = some (.int .i64 a0_1) ∧ w10.cell? ⟨gb206, 2, none⟩ = some (.slice A0_2 l0_2.length c0_2) := hS_
          obtain ⟨Ao11, co11, eo11⟩ := Kd.R_slice HO211.out
          (first | subst eo11 | (injection eo11 with f1_ f2_ f3_; have f4_ := f1_.symm; have f5_ := f3_.symm; clear f1_ f2_ f3_; subst f4_; subst f5_))
          refine norm_ (a' := ?_) ?_ ?_
          rotate_left
          ·simp only [putAll, Act.put, q1, q2, q3]
           rfl
          refine three_ (i := 4) (j := 9) (k := 10) (Ni := some 14) (Nj := some 6) (Nk := some 7) #[true, true, true, true, true, false, false, false, false, false, false, false, false, false] #[true, true, true, true, false, false, false, false, false, true, false, false, false, false] #[true, true, true, true, false, false, false, false, false, false, true, false, false, false] rfl rfl rfl rfl rfl rfl (three_of HT_.out (by kernel_rfl)) (by decide) (by decide) (by decide) (fun K hK => ?_) (fun K hK => ?_) (fun K hK => ?_)
          ·skip
           refine goes_ Try.func63 (by kernel_rfl) rfl #[.agg #[.int .i64 a0_0, .int .i64 a0_1, .slice A0_2 l0_2.length c0_2], .slice Ao11 t209.length co11, .int .i64 a1] (by rfl) rfl rfl (by (try simp only [List.map_toArray, List.map_cons, List.map_nil]); first | done | rfl | (simp only [List.length_drop, List.length_take]; rfl)) ?_
           with_reducible refine (spec_flGo.calls k a0_0 a0_1 _ _ l0_2 _ _ t209 a1 t212 t213 t214 t215 t216 t217 t220 _ ?side1 ?side2 ?side3 ?side4 A4.out).mono ?_
           (case side1 => repeat (first | exact (Kd.C_below HR0_2.out HB.out) | (with_reducible refine Kd.C_alloc ?_ _) | (with_reducible refine Kd.C_drewN ?_ _) | (with_reducible refine Kd.C_drew ?_)))
           (case side2 => exact HC0_2.out)
           (case side3 => repeat (first | exact (Kd.R_reads' HO211.out).2.2 | (with_reducible refine Kd.C_alloc ?_ _) | (with_reducible refine Kd.C_drewN ?_ _) | (with_reducible refine Kd.C_drew ?_)))
           (case side4 => exact (Kd.R_reads' HO211.out).2.1)
           rintro e w12 ⟨v218, v221, rfl, ho0, ho1, hb⟩
           refine ⟨_, rfl, ?_⟩
           have HO219 := Aside0.mk (Kd.R_lower ho0 (below_size (viaB HB)))
           have HO222 := Aside0.mk (Kd.S_lower (Kd.S_new' ho1 (Kd.R_lt (viaR HO211))) (below_size (viaB HB)))
           replace HO211 := Aside0.mk (Kd.R_below (viaR HO211) hb)
           replace BK206 := kB BK206 hb
           replace BK207 := kB BK207 hb
           replace BK208 := kB BK208 hb
           replace HB := bB HB hb
           (try clear hb); (try clear hb2); (try clear hk); (try clear hi); (try clear ho0); (try clear ho1)
           refine hK.out _ _ ⟨(blk_cell BK206.out 0).trans rfl, (blk_cell BK206.out 1).trans rfl, (blk_cell BK206.out 2).trans rfl⟩ (fun hHeld => ?_)
           clear hK K
           refine norm_ (a' := ?_) ?_ ?_
           rotate_left
           ·show Act.put _ (some 14) _ = _
            simp only [Act.put, q1, q2, q3, i64_w, i32_w]
            rfl
           refine pure_ (i := 5) (N := some 9) (v := ?_) (a' := ?_) #[true, true, true, true, true, true, false, false, false, false, false, false, false, false] rfl rfl (any_of HT_.out (by kernel_rfl)) (fun _ _ _ h => h) (Or.inl ⟨by rfl, ?_⟩) ?_ ?_
           rotate_left
           ·intro w'
            go_simp
            with_reducible rfl
           rotate_left
           ·simp only [Act.put, q1, q2, q3, i64_w, i32_w]
            rfl
           refine pure_ (i := 6) (N := some 15) (v := ?_) (a' := ?_) #[true, true, true, true, true, true, true, false, false, false, false, false, false, false] rfl rfl (any_of HT_.out (by kernel_rfl)) (fun _ _ _ h => h) (Or.inl ⟨by rfl, ?_⟩) ?_ ?_
           rotate_left
           ·intro w'
            go_simp
            with_reducible rfl
           rotate_left
           ·simp only [Act.put, q1, q2, q3, i64_w, i32_w]
            rfl
           refine pure_ (i := 7) (N := some 16) (v := ?_) (a' := ?_) #[true, true, true, true, true, true, true, true, false, false, false, false, false, false] rfl rfl (any_of HT_.out (by kernel_rfl)) (fun _ _ _ h => h) (Or.inl ⟨by rfl, ?_⟩) ?_ ?_
           rotate_left
           ·intro w'
            go_simp
            with_reducible rfl
           rotate_left
           ·simp only [Act.put, q1, q2, q3, i64_w, i32_w]
            rfl
           refine pure_ (i := 8) (N := some 17) (v := ?_) (a' := ?_) #[true, true, true, true, true, true, true, true, true, false, false, false, false, false] rfl rfl (any_of HT_.out (by kernel_rfl)) (fun _ _ _ h => h) (Or.inl ⟨by rfl, ?_⟩) ?_ ?_
           rotate_left
           ·intro w'
            go_simp
            with_reducible rfl
           rotate_left
           ·simp only [Act.put, q1, q2, q3, i64_w, i32_w]
            rfl
           exact norm_ (by first | (simp only [putAll, Act.put, q1, q2, q3]; done) | (simp only [putAll, Act.put, q1, q2, q3]; rfl)) (hJ2_4 (.slice Ao11 t209.length co11, v218, v221) _ ⟨hHeld, (viaR HO211), (viaR HO219), (by (with_reducible repeat (first | apply Kd.S_alloc | apply Kd.S_drewN | apply Kd.S_drew)); exact Kd.S_mono HO222.out (fun _ hk => hk.2)), (viaK BK206), (viaK BK207), (viaK BK208), (viaB HB)⟩)
          ·skip
           refine box_step ?hg (N := 6) ?hd (cs := #[.int .i64 0, .int .i64 0, .int .i64 0]) (t := 27) ?hr ?_; (case hd => rfl); (case hg => rfl); (case hr => first | (go_simp; done) | (go_simp; rfl))
           intro gb223 hg w11 hbox hb
           have BK223 := Aside0.mk (hbox)
           have GW223 := gW (w := w) HB hg
           have GE223 := gW (w := w) HB hg
           have NB206_223 := neL BK206 hg
           have NB223_206 := neG BK206 hg
           have NB207_223 := neL BK207 hg
           have NB223_207 := neG BK207 hg
           have NB208_223 := neL BK208 hg
           have NB223_208 := neG BK208 hg
           replace HO211 := Aside0.mk (Kd.R_below (viaR HO211) hb)
           replace BK206 := kB BK206 hb
           replace BK207 := kB BK207 hb
           replace BK208 := kB BK208 hb
           replace HB := bB HB hb
           clear hb hbox hg
           refine hK.out _ _ ⟨(blk_cell BK206.out 0).trans rfl, (blk_cell BK206.out 1).trans rfl, (blk_cell BK206.out 2).trans rfl⟩ (fun hHeld => ?_)
           clear hK K
           refine norm_ (a' := ?_) ?_ ?_
           rotate_left
           ·show Act.put _ (some 6) _ = _
            simp only [Act.put, q1, q2, q3, i64_w, i32_w]
            rfl
           exact norm_ (by first | (simp only [putAll, Act.put, q1, q2, q3]; done) | (simp only [putAll, Act.put, q1, q2, q3]; rfl)) (hJ2_9 ((.slice Ao11 t209.length co11), gb223) _ ⟨hHeld, (viaR HO211), (viaK BK206), (viaK BK207), (viaK BK208), (viaK BK223), GW223.out, GE223.out, NB206_223.out, NB223_206.out, NB207_223.out, NB223_207.out, NB208_223.out, NB223_208.out, (viaB HB)⟩)
          ·skip
           refine box_step ?hg (N := 7) ?hd (cs := #[.int .i64 0, .int .i64 0, .slice none 0 0]) (t := 32) ?hr ?_; (case hd => rfl); (case hg => rfl); (case hr => first | (go_simp; done) | (go_simp; rfl))
           intro gb224 hg w11 hbox hb
           have BK224 := Aside0.mk (hbox)
           have GW224 := gW (w := w) HB hg
           have GE224 := gW (w := w) HB hg
           have NB206_224 := neL BK206 hg
           have NB224_206 := neG BK206 hg
           have NB207_224 := neL BK207 hg
           have NB224_207 := neG BK207 hg
           have NB208_224 := neL BK208 hg
           have NB224_208 := neG BK208 hg
           replace HO211 := Aside0.mk (Kd.R_below (viaR HO211) hb)
           replace BK206 := kB BK206 hb
           replace BK207 := kB BK207 hb
           replace BK208 := kB BK208 hb
           replace HB := bB HB hb
           clear hb hbox hg
           refine hK.out _ _ ⟨(blk_cell BK206.out 0).trans rfl, (blk_cell BK206.out 1).trans rfl, (blk_cell BK206.out 2).trans rfl⟩ (fun hHeld => ?_)
           clear hK K
           refine norm_ (a' := ?_) ?_ ?_
           rotate_left
           ·show Act.put _ (some 7) _ = _
            simp only [Act.put, q1, q2, q3, i64_w, i32_w]
            rfl
           exact norm_ (by first | (simp only [putAll, Act.put, q1, q2, q3]; done) | (simp only [putAll, Act.put, q1, q2, q3]; rfl)) (hJ2_10 ((.slice Ao11 t209.length co11), gb224) _ ⟨hHeld, (viaR HO211), (viaK BK206), (viaK BK207), (viaK BK208), (viaK BK224), GW224.out, GE224.out, NB206_224.out, NB224_206.out, NB207_224.out, NB224_207.out, NB208_224.out, NB224_208.out, (viaB HB)⟩)
        ·skip
         rintro ⟨gb223, gb224⟩ w11 ⟨hS_, h0_, h1_, h2_, h3_, h4_, h5_, h6_, h7_, h8_, h9_, h10_, h11_, h12_, h13_, h14_, h15_, h16_, h17_, h18_, h19_, h20_, h21_, h22_, h23_⟩
         have BK223 : Aside0 (w11.heap[gb223]? = some (.cells #[.int .i64 0, .int .i64 0, .int .i64 0] 27 (0, 0))) := ⟨h3_⟩
         have BK224 : Aside0 (w11.heap[gb224]? = some (.cells #[.int .i64 0, .int .i64 0, .slice none 0 0] 32 (0, 0))) := ⟨h4_⟩
         have GW223 : Aside0 (w.heap.size ≤ gb223) := ⟨h5_⟩
         have GE223 : Aside0 (w.heap.size ≤ gb223) := ⟨h6_⟩
         have NB206_223 : Aside0 (gb206 ≠ gb223) := ⟨h7_⟩
         have NB223_206 : Aside0 (gb223 ≠ gb206) := ⟨h8_⟩
         have NB207_223 : Aside0 (gb207 ≠ gb223) := ⟨h9_⟩
         have NB223_207 : Aside0 (gb223 ≠ gb207) := ⟨h10_⟩
         have NB208_223 : Aside0 (gb208 ≠ gb223) := ⟨h11_⟩
         have NB223_208 : Aside0 (gb223 ≠ gb208) := ⟨h12_⟩
         have NB224_223 : Aside0 (gb224 ≠ gb223) := ⟨h13_⟩
         have NB223_224 : Aside0 (gb223 ≠ gb224) := ⟨h14_⟩
         have GW224 : Aside0 (w.heap.size ≤ gb224) := ⟨h15_⟩
         have GE224 : Aside0 (w.heap.size ≤ gb224) := ⟨h16_⟩
         have NB206_224 : Aside0 (gb206 ≠ gb224) := ⟨h17_⟩
         have NB224_206 : Aside0 (gb224 ≠ gb206) := ⟨h18_⟩
         have NB207_224 : Aside0 (gb207 ≠ gb224) := ⟨h19_⟩
         have NB224_207 : Aside0 (gb224 ≠ gb207) := ⟨h20_⟩
         have NB208_224 : Aside0 (gb208 ≠ gb224) := ⟨h21_⟩
         have NB224_208 : Aside0 (gb224 ≠ gb208) := ⟨h22_⟩
         replace BK206 : Aside0 (w11.heap[gb206]? = some (.cells #[.int .i64 a0_0, .int .i64 a0_1, .slice A0_2 l0_2.length c0_2] 32 (0, 0))) := ⟨h0_⟩
         replace BK207 : Aside0 (w11.heap[gb207]? = some (.cells #[.int .i64 0, .int .i64 0, .int .i64 0] 27 (0, 0))) := ⟨h1_⟩
         replace BK208 : Aside0 (w11.heap[gb208]? = some (.cells #[.int .i64 0, .int .i64 0, .slice none 0 0] 32 (0, 0))) := ⟨h2_⟩
         replace HB : Aside0 (Below w.heap.size w w11) := ⟨h23_⟩
         clear h0_ h1_ h2_ h3_ h4_ h5_ h6_ h7_ h8_ h9_ h10_ h11_ h12_ h13_ h14_ h15_ h16_ h17_ h18_ h19_ h20_ h21_ h22_ h23_
         have hHeld : w11.cell? ⟨gb206, 0, none⟩ = some (.int .i64 a0_0) ∧ w11.cell? ⟨gb206, 1, none⟩ = some (.int .i64 a0_1) ∧ w11.cell? ⟨gb206, 2, none⟩ = some (.slice A0_2 l0_2.length c0_2) := hS_
         refine norm_ (a' := ?_) ?_ ?_
         rotate_left
         ·simp only [putAll, Act.put, q1, q2, q3]
          rfl
         refine one_ (i := 2) (N := some 12) #[true, true, true, true, false, false, false, false, false, true, true, false, false, false] rfl rfl (one_of HT_.out (by kernel_rfl)) (by decide) (fun K hK => ?_)
         refine goes_ Try.func62 (by kernel_rfl) rfl #[.agg #[.int .i64 a0_0, .int .i64 a0_1, .slice A0_2 l0_2.length c0_2]] (by rfl) rfl rfl (by (try simp only [List.map_toArray, List.map_cons, List.map_nil]); first | done | rfl | (simp only [List.length_drop, List.length_take]; rfl)) ?_
         with_reducible refine (spec_ggGroups.calls k a0_0 a0_1 _ _ l0_2 t209 _ ?side1 ?side2 A3.out).mono ?_
         (case side1 => repeat (first | exact (Kd.C_below HR0_2.out HB.out) | (with_reducible refine Kd.C_alloc ?_ _) | (with_reducible refine Kd.C_drewN ?_ _) | (with_reducible refine Kd.C_drew ?_)))
         (case side2 => exact HC0_2.out)
         rintro e w12 ⟨v210, rfl, ho0, hb⟩
         refine ⟨_, rfl, ?_⟩
         have HO211 := Aside0.mk (Kd.R_lower ho0 (below_size (viaB HB)))
         replace BK206 := kB BK206 hb
         replace BK207 := kB BK207 hb
         replace BK208 := kB BK208 hb
         replace BK223 := kB BK223 hb
         replace BK224 := kB BK224 hb
         replace HB := bB HB hb
         (try clear hb); (try clear hb2); (try clear hk); (try clear hi); (try clear ho0)
         refine hK.out _ _ ⟨(blk_cell BK206.out 0).trans rfl, (blk_cell BK206.out 1).trans rfl, (blk_cell BK206.out 2).trans rfl⟩ (fun hHeld => ?_)
         clear hK K
         refine norm_ (a' := ?_) ?_ ?_
         rotate_left
         ·show Act.put _ (some 12) _ = _
          simp only [Act.put, q1, q2, q3, i64_w, i32_w]
          rfl
         exact norm_ (by first | (simp only [putAll, Act.put, q1, q2, q3]; done) | (simp only [putAll, Act.put, q1, q2, q3]; rfl)) (hJ2_9_10 (v210, gb223, gb224) _ ⟨hHeld, (viaR HO211), (viaK BK206), (viaK BK207), (viaK BK208), (viaK BK223), (viaK BK224), GW223.out, GE223.out, NB206_223.out, NB223_206.out, NB207_223.out, NB223_207.out, NB208_223.out, NB223_208.out, NB224_223.out, NB223_224.out, GW224.out, GE224.out, NB206_224.out, NB224_206.out, NB207_224.out, NB224_207.out, NB208_224.out, NB224_208.out, (viaB HB)⟩)
       ·skip
        rintro ⟨v210, gb224⟩ w11 ⟨hS_, h0_, h1_, h2_, h3_, h4_, h5_, h6_, h7_, h8_, h9_, h10_, h11_, h12_, h13_⟩
        have HO211 : Aside0 (Kd.R (Kd.int .i64) 3 w11 w.heap.size (fun _ => True) v210 t209) := ⟨h0_⟩
        have BK224 : Aside0 (w11.heap[gb224]? = some (.cells #[.int .i64 0, .int .i64 0, .slice none 0 0] 32 (0, 0))) := ⟨h4_⟩
        have GW224 : Aside0 (w.heap.size ≤ gb224) := ⟨h5_⟩
        have GE224 : Aside0 (w.heap.size ≤ gb224) := ⟨h6_⟩
        have NB206_224 : Aside0 (gb206 ≠ gb224) := ⟨h7_⟩
        have NB224_206 : Aside0 (gb224 ≠ gb206) := ⟨h8_⟩
        have NB207_224 : Aside0 (gb207 ≠ gb224) := ⟨h9_⟩
        have NB224_207 : Aside0 (gb224 ≠ gb207) := ⟨h10_⟩
        have NB208_224 : Aside0 (gb208 ≠ gb224) := ⟨h11_⟩
        have NB224_208 : Aside0 (gb224 ≠ gb208) := ⟨h12_⟩
        replace BK206 : Aside0 (w11.heap[gb206]? = some (.cells #[.int .i64 a0_0, .int .i64 a0_1, .slice A0_2 l0_2.length c0_2] 32 (0, 0))) := ⟨h1_⟩
        replace BK207 : Aside0 (w11.heap[gb207]? = some (.cells #[.int .i64 0, .int .i64 0, .int .i64 0] 27 (0, 0))) := ⟨h2_⟩
        replace BK208 : Aside0 (w11.heap[gb208]? = some (.cells #[.int .i64 0, .int .i64 0, .slice none 0 0] 32 (0, 0))) := ⟨h3_⟩
        replace HB : Aside0 (Below w.heap.size w w11) := ⟨h13_⟩
        clear h0_ h1_ h2_ h3_ h4_ h5_ h6_ h7_ h8_ h9_ h10_ h11_ h12_ h13_
        have hHeld : w11.cell? ⟨gb206, 0, none⟩ = some (.int .i64 a0_0) ∧ w11.cell? ⟨gb206, 1, none⟩ = some (.int .i64 a0_1) ∧ w11.cell? ⟨gb206, 2, none⟩ = some (.slice A0_2 l0_2.length c0_2) := hS_
        obtain ⟨Ao12, co12, eo12⟩ := Kd.R_slice HO211.out
        (first | subst eo12 | (injection eo12 with f1_ f2_ f3_; have f4_ := f1_.symm; have f5_ := f3_.symm; clear f1_ f2_ f3_; subst f4_; subst f5_))
        refine norm_ (a' := ?_) ?_ ?_
        rotate_left
        ·simp only [putAll, Act.put, q1, q2, q3]
         rfl
        refine two_ (i := 4) (j := 9) (Ni := some 14) (Nj := some 6) #[true, true, true, true, true, false, false, false, false, false, true, false, false, false] #[true, true, true, true, false, false, false, false, false, true, true, false, false, false] rfl rfl rfl rfl (two_of HT_.out (by kernel_rfl)) (by decide) (by decide) (fun K hK => ?_) (fun K hK => ?_)
        ·skip
         refine goes_ Try.func63 (by kernel_rfl) rfl #[.agg #[.int .i64 a0_0, .int .i64 a0_1, .slice A0_2 l0_2.length c0_2], .slice Ao12 t209.length co12, .int .i64 a1] (by rfl) rfl rfl (by (try simp only [List.map_toArray, List.map_cons, List.map_nil]); first | done | rfl | (simp only [List.length_drop, List.length_take]; rfl)) ?_
         with_reducible refine (spec_flGo.calls k a0_0 a0_1 _ _ l0_2 _ _ t209 a1 t212 t213 t214 t215 t216 t217 t220 _ ?side1 ?side2 ?side3 ?side4 A4.out).mono ?_
         (case side1 => repeat (first | exact (Kd.C_below HR0_2.out HB.out) | (with_reducible refine Kd.C_alloc ?_ _) | (with_reducible refine Kd.C_drewN ?_ _) | (with_reducible refine Kd.C_drew ?_)))
         (case side2 => exact HC0_2.out)
         (case side3 => repeat (first | exact (Kd.R_reads' HO211.out).2.2 | (with_reducible refine Kd.C_alloc ?_ _) | (with_reducible refine Kd.C_drewN ?_ _) | (with_reducible refine Kd.C_drew ?_)))
         (case side4 => exact (Kd.R_reads' HO211.out).2.1)
         rintro e w13 ⟨v218, v221, rfl, ho0, ho1, hb⟩
         refine ⟨_, rfl, ?_⟩
         have HO219 := Aside0.mk (Kd.R_lower ho0 (below_size (viaB HB)))
         have HO222 := Aside0.mk (Kd.S_lower (Kd.S_new' ho1 (Kd.R_lt (viaR HO211))) (below_size (viaB HB)))
         replace HO211 := Aside0.mk (Kd.R_below (viaR HO211) hb)
         replace BK206 := kB BK206 hb
         replace BK207 := kB BK207 hb
         replace BK208 := kB BK208 hb
         replace BK224 := kB BK224 hb
         replace HB := bB HB hb
         (try clear hb); (try clear hb2); (try clear hk); (try clear hi); (try clear ho0); (try clear ho1)
         refine hK.out _ _ ⟨(blk_cell BK206.out 0).trans rfl, (blk_cell BK206.out 1).trans rfl, (blk_cell BK206.out 2).trans rfl⟩ (fun hHeld => ?_)
         clear hK K
         refine norm_ (a' := ?_) ?_ ?_
         rotate_left
         ·show Act.put _ (some 14) _ = _
          simp only [Act.put, q1, q2, q3, i64_w, i32_w]
          rfl
         refine pure_ (i := 5) (N := some 9) (v := ?_) (a' := ?_) #[true, true, true, true, true, true, false, false, false, false, true, false, false, false] rfl rfl (any_of HT_.out (by kernel_rfl)) (fun _ _ _ h => h) (Or.inl ⟨by rfl, ?_⟩) ?_ ?_
         rotate_left
         ·intro w'
          go_simp
          with_reducible rfl
         rotate_left
         ·simp only [Act.put, q1, q2, q3, i64_w, i32_w]
          rfl
         refine pure_ (i := 6) (N := some 15) (v := ?_) (a' := ?_) #[true, true, true, true, true, true, true, false, false, false, true, false, false, false] rfl rfl (any_of HT_.out (by kernel_rfl)) (fun _ _ _ h => h) (Or.inl ⟨by rfl, ?_⟩) ?_ ?_
         rotate_left
         ·intro w'
          go_simp
          with_reducible rfl
         rotate_left
         ·simp only [Act.put, q1, q2, q3, i64_w, i32_w]
          rfl
         refine pure_ (i := 7) (N := some 16) (v := ?_) (a' := ?_) #[true, true, true, true, true, true, true, true, false, false, true, false, false, false] rfl rfl (any_of HT_.out (by kernel_rfl)) (fun _ _ _ h => h) (Or.inl ⟨by rfl, ?_⟩) ?_ ?_
         rotate_left
         ·intro w'
          go_simp
          with_reducible rfl
         rotate_left
         ·simp only [Act.put, q1, q2, q3, i64_w, i32_w]
          rfl
         refine pure_ (i := 8) (N := some 17) (v := ?_) (a' := ?_) #[true, true, true, true, true, true, true, true, true, false, true, false, false, false] rfl rfl (any_of HT_.out (by kernel_rfl)) (fun _ _ _ h => h) (Or.inl ⟨by rfl, ?_⟩) ?_ ?_
         rotate_left
         ·intro w'
          go_simp
          with_reducible rfl
         rotate_left
         ·simp only [Act.put, q1, q2, q3, i64_w, i32_w]
          rfl
         exact norm_ (by first | (simp only [putAll, Act.put, q1, q2, q3]; done) | (simp only [putAll, Act.put, q1, q2, q3]; rfl)) (hJ2_4_10 (.slice Ao12 t209.length co12, v218, v221, gb224) _ ⟨hHeld, (viaR HO211), (viaR HO219), (by (with_reducible repeat (first | apply Kd.S_alloc | apply Kd.S_drewN | apply Kd.S_drew)); exact Kd.S_mono HO222.out (fun _ hk => hk.2)), (viaK BK206), (viaK BK207), (viaK BK208), (viaK BK224), GW224.out, GE224.out, NB206_224.out, NB224_206.out, NB207_224.out, NB224_207.out, NB208_224.out, NB224_208.out, (viaB HB)⟩)
        ·skip
         refine box_step ?hg (N := 6) ?hd (cs := #[.int .i64 0, .int .i64 0, .int .i64 0]) (t := 27) ?hr ?_; (case hd => rfl); (case hg => rfl); (case hr => first | (go_simp; done) | (go_simp; rfl))
         intro gb223 hg w12 hbox hb
         have BK223 := Aside0.mk (hbox)
         have GW223 := gW (w := w) HB hg
         have GE223 := gW (w := w) HB hg
         have NB206_223 := neL BK206 hg
         have NB223_206 := neG BK206 hg
         have NB207_223 := neL BK207 hg
         have NB223_207 := neG BK207 hg
         have NB208_223 := neL BK208 hg
         have NB223_208 := neG BK208 hg
         have NB224_223 := neL BK224 hg
         have NB223_224 := neG BK224 hg
         replace HO211 := Aside0.mk (Kd.R_below (viaR HO211) hb)
         replace BK206 := kB BK206 hb
         replace BK207 := kB BK207 hb
         replace BK208 := kB BK208 hb
         replace BK224 := kB BK224 hb
         replace HB := bB HB hb
         clear hb hbox hg
         refine hK.out _ _ ⟨(blk_cell BK206.out 0).trans rfl, (blk_cell BK206.out 1).trans rfl, (blk_cell BK206.out 2).trans rfl⟩ (fun hHeld => ?_)
         clear hK K
         refine norm_ (a' := ?_) ?_ ?_
         rotate_left
         ·show Act.put _ (some 6) _ = _
          simp only [Act.put, q1, q2, q3, i64_w, i32_w]
          rfl
         exact norm_ (by first | (simp only [putAll, Act.put, q1, q2, q3]; done) | (simp only [putAll, Act.put, q1, q2, q3]; rfl)) (hJ2_9_10 ((.slice Ao12 t209.length co12), gb223, gb224) _ ⟨hHeld, (viaR HO211), (viaK BK206), (viaK BK207), (viaK BK208), (viaK BK223), (viaK BK224), GW223.out, GE223.out, NB206_223.out, NB223_206.out, NB207_223.out, NB223_207.out, NB208_223.out, NB223_208.out, NB224_223.out, NB223_224.out, GW224.out, GE224.out, NB206_224.out, NB224_206.out, NB207_224.out, NB224_207.out, NB208_224.out, NB224_208.out, (viaB HB)⟩)
      ·skip
       rintro ⟨v210, gb223⟩ w11 ⟨hS_, h0_, h1_, h2_, h3_, h4_, h5_, h6_, h7_, h8_, h9_, h10_, h11_, h12_, h13_⟩
       have HO211 : Aside0 (Kd.R (Kd.int .i64) 3 w11 w.heap.size (fun _ => True) v210 t209) := ⟨h0_⟩
       have BK223 : Aside0 (w11.heap[gb223]? = some (.cells #[.int .i64 0, .int .i64 0, .int .i64 0] 27 (0, 0))) := ⟨h4_⟩
       have GW223 : Aside0 (w.heap.size ≤ gb223) := ⟨h5_⟩
       have GE223 : Aside0 (w.heap.size ≤ gb223) := ⟨h6_⟩
       have NB206_223 : Aside0 (gb206 ≠ gb223) := ⟨h7_⟩
       have NB223_206 : Aside0 (gb223 ≠ gb206) := ⟨h8_⟩
       have NB207_223 : Aside0 (gb207 ≠ gb223) := ⟨h9_⟩
       have NB223_207 : Aside0 (gb223 ≠ gb207) := ⟨h10_⟩
       have NB208_223 : Aside0 (gb208 ≠ gb223) := ⟨h11_⟩
       have NB223_208 : Aside0 (gb223 ≠ gb208) := ⟨h12_⟩
       replace BK206 : Aside0 (w11.heap[gb206]? = some (.cells #[.int .i64 a0_0, .int .i64 a0_1, .slice A0_2 l0_2.length c0_2] 32 (0, 0))) := ⟨h1_⟩
       replace BK207 : Aside0 (w11.heap[gb207]? = some (.cells #[.int .i64 0, .int .i64 0, .int .i64 0] 27 (0, 0))) := ⟨h2_⟩
       replace BK208 : Aside0 (w11.heap[gb208]? = some (.cells #[.int .i64 0, .int .i64 0, .slice none 0 0] 32 (0, 0))) := ⟨h3_⟩
       replace HB : Aside0 (Below w.heap.size w w11) := ⟨h13_⟩
       clear h0_ h1_ h2_ h3_ h4_ h5_ h6_ h7_ h8_ h9_ h10_ h11_ h12_ h13_
       have hHeld : w11.cell? ⟨gb206, 0, none⟩ = some (.int .i64 a0_0) ∧ w11.cell? ⟨gb206, 1, none⟩ = some (.int .i64 a0_1) ∧ w11.cell? ⟨gb206, 2, none⟩ = some (.slice A0_2 l0_2.length c0_2) := hS_
       obtain ⟨Ao12, co12, eo12⟩ := Kd.R_slice HO211.out
       (first | subst eo12 | (injection eo12 with f1_ f2_ f3_; have f4_ := f1_.symm; have f5_ := f3_.symm; clear f1_ f2_ f3_; subst f4_; subst f5_))
       refine norm_ (a' := ?_) ?_ ?_
       rotate_left
       ·simp only [putAll, Act.put, q1, q2, q3]
        rfl
       refine two_ (i := 4) (j := 10) (Ni := some 14) (Nj := some 7) #[true, true, true, true, true, false, false, false, false, true, false, false, false, false] #[true, true, true, true, false, false, false, false, false, true, true, false, false, false] rfl rfl rfl rfl (two_of HT_.out (by kernel_rfl)) (by decide) (by decide) (fun K hK => ?_) (fun K hK => ?_)
       ·skip
        refine goes_ Try.func63 (by kernel_rfl) rfl #[.agg #[.int .i64 a0_0, .int .i64 a0_1, .slice A0_2 l0_2.length c0_2], .slice Ao12 t209.length co12, .int .i64 a1] (by rfl) rfl rfl (by (try simp only [List.map_toArray, List.map_cons, List.map_nil]); first | done | rfl | (simp only [List.length_drop, List.length_take]; rfl)) ?_
        with_reducible refine (spec_flGo.calls k a0_0 a0_1 _ _ l0_2 _ _ t209 a1 t212 t213 t214 t215 t216 t217 t220 _ ?side1 ?side2 ?side3 ?side4 A4.out).mono ?_
        (case side1 => repeat (first | exact (Kd.C_below HR0_2.out HB.out) | (with_reducible refine Kd.C_alloc ?_ _) | (with_reducible refine Kd.C_drewN ?_ _) | (with_reducible refine Kd.C_drew ?_)))
        (case side2 => exact HC0_2.out)
        (case side3 => repeat (first | exact (Kd.R_reads' HO211.out).2.2 | (with_reducible refine Kd.C_alloc ?_ _) | (with_reducible refine Kd.C_drewN ?_ _) | (with_reducible refine Kd.C_drew ?_)))
        (case side4 => exact (Kd.R_reads' HO211.out).2.1)
        rintro e w13 ⟨v218, v221, rfl, ho0, ho1, hb⟩
        refine ⟨_, rfl, ?_⟩
        have HO219 := Aside0.mk (Kd.R_lower ho0 (below_size (viaB HB)))
        have HO222 := Aside0.mk (Kd.S_lower (Kd.S_new' ho1 (Kd.R_lt (viaR HO211))) (below_size (viaB HB)))
        replace HO211 := Aside0.mk (Kd.R_below (viaR HO211) hb)
        replace BK206 := kB BK206 hb
        replace BK207 := kB BK207 hb
        replace BK208 := kB BK208 hb
        replace BK223 := kB BK223 hb
        replace HB := bB HB hb
        (try clear hb); (try clear hb2); (try clear hk); (try clear hi); (try clear ho0); (try clear ho1)
        refine hK.out _ _ ⟨(blk_cell BK206.out 0).trans rfl, (blk_cell BK206.out 1).trans rfl, (blk_cell BK206.out 2).trans rfl⟩ (fun hHeld => ?_)
        clear hK K
        refine norm_ (a' := ?_) ?_ ?_
        rotate_left
        ·show Act.put _ (some 14) _ = _
         simp only [Act.put, q1, q2, q3, i64_w, i32_w]
         rfl
        refine pure_ (i := 5) (N := some 9) (v := ?_) (a' := ?_) #[true, true, true, true, true, true, false, false, false, true, false, false, false, false] rfl rfl (any_of HT_.out (by kernel_rfl)) (fun _ _ _ h => h) (Or.inl ⟨by rfl, ?_⟩) ?_ ?_
        rotate_left
        ·intro w'
         go_simp
         with_reducible rfl
        rotate_left
        ·simp only [Act.put, q1, q2, q3, i64_w, i32_w]
         rfl
        refine pure_ (i := 6) (N := some 15) (v := ?_) (a' := ?_) #[true, true, true, true, true, true, true, false, false, true, false, false, false, false] rfl rfl (any_of HT_.out (by kernel_rfl)) (fun _ _ _ h => h) (Or.inl ⟨by rfl, ?_⟩) ?_ ?_
        rotate_left
        ·intro w'
         go_simp
         with_reducible rfl
        rotate_left
        ·simp only [Act.put, q1, q2, q3, i64_w, i32_w]
         rfl
        refine pure_ (i := 7) (N := some 16) (v := ?_) (a' := ?_) #[true, true, true, true, true, true, true, true, false, true, false, false, false, false] rfl rfl (any_of HT_.out (by kernel_rfl)) (fun _ _ _ h => h) (Or.inl ⟨by rfl, ?_⟩) ?_ ?_
        rotate_left
        ·intro w'
         go_simp
         with_reducible rfl
        rotate_left
        ·simp only [Act.put, q1, q2, q3, i64_w, i32_w]
         rfl
        refine pure_ (i := 8) (N := some 17) (v := ?_) (a' := ?_) #[true, true, true, true, true, true, true, true, true, true, false, false, false, false] rfl rfl (any_of HT_.out (by kernel_rfl)) (fun _ _ _ h => h) (Or.inl ⟨by rfl, ?_⟩) ?_ ?_
        rotate_left
        ·intro w'
         go_simp
         with_reducible rfl
        rotate_left
        ·simp only [Act.put, q1, q2, q3, i64_w, i32_w]
         rfl
        exact norm_ (by first | (simp only [putAll, Act.put, q1, q2, q3]; done) | (simp only [putAll, Act.put, q1, q2, q3]; rfl)) (hJ2_4_9 (.slice Ao12 t209.length co12, v218, v221, gb223) _ ⟨hHeld, (viaR HO211), (viaR HO219), (by (with_reducible repeat (first | apply Kd.S_alloc | apply Kd.S_drewN | apply Kd.S_drew)); exact Kd.S_mono HO222.out (fun _ hk => hk.2)), (viaK BK206), (viaK BK207), (viaK BK208), (viaK BK223), GW223.out, GE223.out, NB206_223.out, NB223_206.out, NB207_223.out, NB223_207.out, NB208_223.out, NB223_208.out, (viaB HB)⟩)
       ·skip
        refine box_step ?hg (N := 7) ?hd (cs := #[.int .i64 0, .int .i64 0, .slice none 0 0]) (t := 32) ?hr ?_; (case hd => rfl); (case hg => rfl); (case hr => first | (go_simp; done) | (go_simp; rfl))
        intro gb224 hg w12 hbox hb
        have BK224 := Aside0.mk (hbox)
        have GW224 := gW (w := w) HB hg
        have GE224 := gW (w := w) HB hg
        have NB206_224 := neL BK206 hg
        have NB224_206 := neG BK206 hg
        have NB207_224 := neL BK207 hg
        have NB224_207 := neG BK207 hg
        have NB208_224 := neL BK208 hg
        have NB224_208 := neG BK208 hg
        have NB223_224 := neL BK223 hg
        have NB224_223 := neG BK223 hg
        replace HO211 := Aside0.mk (Kd.R_below (viaR HO211) hb)
        replace BK206 := kB BK206 hb
        replace BK207 := kB BK207 hb
        replace BK208 := kB BK208 hb
        replace BK223 := kB BK223 hb
        replace HB := bB HB hb
        clear hb hbox hg
        refine hK.out _ _ ⟨(blk_cell BK206.out 0).trans rfl, (blk_cell BK206.out 1).trans rfl, (blk_cell BK206.out 2).trans rfl⟩ (fun hHeld => ?_)
        clear hK K
        refine norm_ (a' := ?_) ?_ ?_
        rotate_left
        ·show Act.put _ (some 7) _ = _
         simp only [Act.put, q1, q2, q3, i64_w, i32_w]
         rfl
        exact norm_ (by first | (simp only [putAll, Act.put, q1, q2, q3]; done) | (simp only [putAll, Act.put, q1, q2, q3]; rfl)) (hJ2_9_10 ((.slice Ao12 t209.length co12), gb223, gb224) _ ⟨hHeld, (viaR HO211), (viaK BK206), (viaK BK207), (viaK BK208), (viaK BK223), (viaK BK224), GW223.out, GE223.out, NB206_223.out, NB223_206.out, NB207_223.out, NB223_207.out, NB208_223.out, NB223_208.out, NB224_223.out, NB223_224.out, GW224.out, GE224.out, NB206_224.out, NB224_206.out, NB207_224.out, NB224_207.out, NB208_224.out, NB224_208.out, (viaB HB)⟩)
     ·skip
      rintro ⟨v210, v218, v221⟩ w12 ⟨hS_, h0_, h1_, h2_, h3_, h4_, h5_, h6_⟩
      have HO211 : Aside0 (Kd.R (Kd.int .i64) 3 w12 w.heap.size (fun _ => True) v210 t209) := ⟨h0_⟩
      have HO219 : Aside0 (Kd.R k89 89 w12 w.heap.size (fun _ => True) v218 t217) := ⟨h1_⟩
      have HO222 : Aside0 (Kd.S (Kd.slice 3 (Kd.int .i64)) 43 w12 w.heap.size (fun k_ => some k_ ≠ (v210 : Value).ownBlock) v221 t220) := ⟨h2_⟩
      replace BK206 : Aside0 (w12.heap[gb206]? = some (.cells #[.int .i64 a0_0, .int .i64 a0_1, .slice A0_2 l0_2.length c0_2] 32 (0, 0))) := ⟨h3_⟩
      replace BK207 : Aside0 (w12.heap[gb207]? = some (.cells #[.int .i64 0, .int .i64 0, .int .i64 0] 27 (0, 0))) := ⟨h4_⟩
      replace BK208 : Aside0 (w12.heap[gb208]? = some (.cells #[.int .i64 0, .int .i64 0, .slice none 0 0] 32 (0, 0))) := ⟨h5_⟩
      replace HB : Aside0 (Below w.heap.size w w12) := ⟨h6_⟩
      clear h0_ h1_ h2_ h3_ h4_ h5_ h6_
      have hHeld : w12.cell? ⟨gb206, 0, none⟩ = some (.int .i64 a0_0) ∧ w12.cell? ⟨gb206, 1, none⟩ = some (.int .i64 a0_1) ∧ w12.cell? ⟨gb206, 2, none⟩ = some (.slice A0_2 l0_2.length c0_2) := hS_
      refine norm_ (a' := ?_) ?_ ?_
      rotate_left
      ·simp only [putAll, Act.put, q1, q2, q3]
       rfl
      refine two_ (i := 9) (j := 10) (Ni := some 6) (Nj := some 7) #[true, true, true, true, true, true, true, true, true, true, false, false, false, false] #[true, true, true, true, true, true, true, true, true, false, true, false, false, false] rfl rfl rfl rfl (two_of HT_.out (by kernel_rfl)) (by decide) (by decide) (fun K hK => ?_) (fun K hK => ?_)
      ·skip
       refine box_step ?hg (N := 6) ?hd (cs := #[.int .i64 0, .int .i64 0, .int .i64 0]) (t := 27) ?hr ?_; (case hd => rfl); (case hg => rfl); (case hr => first | (go_simp; done) | (go_simp; rfl))
       intro gb223 hg w13 hbox hb
       have BK223 := Aside0.mk (hbox)
       have GW223 := gW (w := w) HB hg
       have GE223 := gW (w := w) HB hg
       have NB206_223 := neL BK206 hg
       have NB223_206 := neG BK206 hg
       have NB207_223 := neL BK207 hg
       have NB223_207 := neG BK207 hg
       have NB208_223 := neL BK208 hg
       have NB223_208 := neG BK208 hg
       replace HO211 := Aside0.mk (Kd.R_below (viaR HO211) hb)
       replace HO219 := Aside0.mk (Kd.R_below (viaR HO219) hb)
       replace HO222 := Aside0.mk (Kd.S_below (viaS HO222) hb)
       replace BK206 := kB BK206 hb
       replace BK207 := kB BK207 hb
       replace BK208 := kB BK208 hb
       replace HB := bB HB hb
       clear hb hbox hg
       refine hK.out _ _ ⟨(blk_cell BK206.out 0).trans rfl, (blk_cell BK206.out 1).trans rfl, (blk_cell BK206.out 2).trans rfl⟩ (fun hHeld => ?_)
       clear hK K
       refine norm_ (a' := ?_) ?_ ?_
       rotate_left
       ·show Act.put _ (some 6) _ = _
        simp only [Act.put, q1, q2, q3, i64_w, i32_w]
        rfl
       exact norm_ (by first | (simp only [putAll, Act.put, q1, q2, q3]; done) | (simp only [putAll, Act.put, q1, q2, q3]; rfl)) (hJ2_4_9 (v210, v218, v221, gb223) _ ⟨hHeld, (viaR HO211), (viaR HO219), (viaS HO222), (viaK BK206), (viaK BK207), (viaK BK208), (viaK BK223), GW223.out, GE223.out, NB206_223.out, NB223_206.out, NB207_223.out, NB223_207.out, NB208_223.out, NB223_208.out, (viaB HB)⟩)
      ·skip
       refine box_step ?hg (N := 7) ?hd (cs := #[.int .i64 0, .int .i64 0, .slice none 0 0]) (t := 32) ?hr ?_; (case hd => rfl); (case hg => rfl); (case hr => first | (go_simp; done) | (go_simp; rfl))
       intro gb224 hg w13 hbox hb
       have BK224 := Aside0.mk (hbox)
       have GW224 := gW (w := w) HB hg
       have GE224 := gW (w := w) HB hg
       have NB206_224 := neL BK206 hg
       have NB224_206 := neG BK206 hg
       have NB207_224 := neL BK207 hg
       have NB224_207 := neG BK207 hg
       have NB208_224 := neL BK208 hg
       have NB224_208 := neG BK208 hg
       replace HO211 := Aside0.mk (Kd.R_below (viaR HO211) hb)
       replace HO219 := Aside0.mk (Kd.R_below (viaR HO219) hb)
       replace HO222 := Aside0.mk (Kd.S_below (viaS HO222) hb)
       replace BK206 := kB BK206 hb
       replace BK207 := kB BK207 hb
       replace BK208 := kB BK208 hb
       replace HB := bB HB hb
       clear hb hbox hg
       refine hK.out _ _ ⟨(blk_cell BK206.out 0).trans rfl, (blk_cell BK206.out 1).trans rfl, (blk_cell BK206.out 2).trans rfl⟩ (fun hHeld => ?_)
       clear hK K
       refine norm_ (a' := ?_) ?_ ?_
       rotate_left
       ·show Act.put _ (some 7) _ = _
        simp only [Act.put, q1, q2, q3, i64_w, i32_w]
        rfl
       exact norm_ (by first | (simp only [putAll, Act.put, q1, q2, q3]; done) | (simp only [putAll, Act.put, q1, q2, q3]; rfl)) (hJ2_4_10 (v210, v218, v221, gb224) _ ⟨hHeld, (viaR HO211), (viaR HO219), (viaS HO222), (viaK BK206), (viaK BK207), (viaK BK208), (viaK BK224), GW224.out, GE224.out, NB206_224.out, NB224_206.out, NB207_224.out, NB224_207.out, NB208_224.out, NB224_208.out, (viaB HB)⟩)
    ·skip
     rintro ⟨v210, gb223, gb224⟩ w12 ⟨hS_, h0_, h1_, h2_, h3_, h4_, h5_, h6_, h7_, h8_, h9_, h10_, h11_, h12_, h13_, h14_, h15_, h16_, h17_, h18_, h19_, h20_, h21_, h22_, h23_, h24_⟩
     have HO211 : Aside0 (Kd.R (Kd.int .i64) 3 w12 w.heap.size (fun _ => True) v210 t209) := ⟨h0_⟩
     have BK223 : Aside0 (w12.heap[gb223]? = some (.cells #[.int .i64 0, .int .i64 0, .int .i64 0] 27 (0, 0))) := ⟨h4_⟩
     have BK224 : Aside0 (w12.heap[gb224]? = some (.cells #[.int .i64 0, .int .i64 0, .slice none 0 0] 32 (0, 0))) := ⟨h5_⟩
     have GW223 : Aside0 (w.heap.size ≤ gb223) := ⟨h6_⟩
     have GE223 : Aside0 (w.heap.size ≤ gb223) := ⟨h7_⟩
     have NB206_223 : Aside0 (gb206 ≠ gb223) := ⟨h8_⟩
     have NB223_206 : Aside0 (gb223 ≠ gb206) := ⟨h9_⟩
     have NB207_223 : Aside0 (gb207 ≠ gb223) := ⟨h10_⟩
     have NB223_207 : Aside0 (gb223 ≠ gb207) := ⟨h11_⟩
     have NB208_223 : Aside0 (gb208 ≠ gb223) := ⟨h12_⟩
     have NB223_208 : Aside0 (gb223 ≠ gb208) := ⟨h13_⟩
     have NB224_223 : Aside0 (gb224 ≠ gb223) := ⟨h14_⟩
     have NB223_224 : Aside0 (gb223 ≠ gb224) := ⟨h15_⟩
     have GW224 : Aside0 (w.heap.size ≤ gb224) := ⟨h16_⟩
     have GE224 : Aside0 (w.heap.size ≤ gb224) := ⟨h17_⟩
     have NB206_224 : Aside0 (gb206 ≠ gb224) := ⟨h18_⟩
     have NB224_206 : Aside0 (gb224 ≠ gb206) := ⟨h19_⟩
     have NB207_224 : Aside0 (gb207 ≠ gb224) := ⟨h20_⟩
     have NB224_207 : Aside0 (gb224 ≠ gb207) := ⟨h21_⟩
     have NB208_224 : Aside0 (gb208 ≠ gb224) := ⟨h22_⟩
     have NB224_208 : Aside0 (gb224 ≠ gb208) := ⟨h23_⟩
     replace BK206 : Aside0 (w12.heap[gb206]? = some (.cells #[.int .i64 a0_0, .int .i64 a0_1, .slice A0_2 l0_2.length c0_2] 32 (0, 0))) := ⟨h1_⟩
     replace BK207 : Aside0 (w12.heap[gb207]? = some (.cells #[.int .i64 0, .int .i64 0, .int .i64 0] 27 (0, 0))) := ⟨h2_⟩
     replace BK208 : Aside0 (w12.heap[gb208]? = some (.cells #[.int .i64 0, .int .i64 0, .slice none 0 0] 32 (0, 0))) := ⟨h3_⟩
     replace HB : Aside0 (Below w.heap.size w w12) := ⟨h24_⟩
     clear h0_ h1_ h2_ h3_ h4_ h5_ h6_ h7_ h8_ h9_ h10_ h11_ h12_ h13_ h14_ h15_ h16_ h17_ h18_ h19_ h20_ h21_ h22_ h23_ h24_
     have hHeld : w12.cell? ⟨gb206, 0, none⟩ = some (.int .i64 a0_0) ∧ w12.cell? ⟨gb206, 1, none⟩ = some (.int .i64 a0_1) ∧ w12.cell? ⟨gb206, 2, none⟩ = some (.slice A0_2 l0_2.length c0_2) := hS_
     obtain ⟨Ao13, co13, eo13⟩ := Kd.R_slice HO211.out
     (first | subst eo13 | (injection eo13 with f1_ f2_ f3_; have f4_ := f1_.symm; have f5_ := f3_.symm; clear f1_ f2_ f3_; subst f4_; subst f5_))
     refine norm_ (a' := ?_) ?_ ?_
     rotate_left
     ·simp only [putAll, Act.put, q1, q2, q3]
      rfl
     refine one_ (i := 4) (N := some 14) #[true, true, true, true, true, false, false, false, false, true, true, false, false, false] rfl rfl (one_of HT_.out (by kernel_rfl)) (by decide) (fun K hK => ?_)
     refine goes_ Try.func63 (by kernel_rfl) rfl #[.agg #[.int .i64 a0_0, .int .i64 a0_1, .slice A0_2 l0_2.length c0_2], .slice Ao13 t209.length co13, .int .i64 a1] (by rfl) rfl rfl (by (try simp only [List.map_toArray, List.map_cons, List.map_nil]); first | done | rfl | (simp only [List.length_drop, List.length_take]; rfl)) ?_
     with_reducible refine (spec_flGo.calls k a0_0 a0_1 _ _ l0_2 _ _ t209 a1 t212 t213 t214 t215 t216 t217 t220 _ ?side1 ?side2 ?side3 ?side4 A4.out).mono ?_
     (case side1 => repeat (first | exact (Kd.C_below HR0_2.out HB.out) | (with_reducible refine Kd.C_alloc ?_ _) | (with_reducible refine Kd.C_drewN ?_ _) | (with_reducible refine Kd.C_drew ?_)))
     (case side2 => exact HC0_2.out)
     (case side3 => repeat (first | exact (Kd.R_reads' HO211.out).2.2 | (with_reducible refine Kd.C_alloc ?_ _) | (with_reducible refine Kd.C_drewN ?_ _) | (with_reducible refine Kd.C_drew ?_)))
     (case side4 => exact (Kd.R_reads' HO211.out).2.1)
     rintro e w14 ⟨v218, v221, rfl, ho0, ho1, hb⟩
     refine ⟨_, rfl, ?_⟩
     have HO219 := Aside0.mk (Kd.R_lower ho0 (below_size (viaB HB)))
     have HO222 := Aside0.mk (Kd.S_lower (Kd.S_new' ho1 (Kd.R_lt (viaR HO211))) (below_size (viaB HB)))
     replace HO211 := Aside0.mk (Kd.R_below (viaR HO211) hb)
     replace BK206 := kB BK206 hb
     replace BK207 := kB BK207 hb
     replace BK208 := kB BK208 hb
     replace BK223 := kB BK223 hb
     replace BK224 := kB BK224 hb
     replace HB := bB HB hb
     (try clear hb); (try clear hb2); (try clear hk); (try clear hi); (try clear ho0); (try clear ho1)
     refine hK.out _ _ ⟨(blk_cell BK206.out 0).trans rfl, (blk_cell BK206.out 1).trans rfl, (blk_cell BK206.out 2).trans rfl⟩ (fun hHeld => ?_)
     clear hK K
     refine norm_ (a' := ?_) ?_ ?_
     rotate_left
     ·show Act.put _ (some 14) _ = _
      simp only [Act.put, q1, q2, q3, i64_w, i32_w]
      rfl
     refine pure_ (i := 5) (N := some 9) (v := ?_) (a' := ?_) #[true, true, true, true, true, true, false, false, false, true, true, false, false, false] rfl rfl (any_of HT_.out (by kernel_rfl)) (fun _ _ _ h => h) (Or.inl ⟨by rfl, ?_⟩) ?_ ?_
     rotate_left
     ·intro w'
      go_simp
      with_reducible rfl
     rotate_left
     ·simp only [Act.put, q1, q2, q3, i64_w, i32_w]
      rfl
     refine pure_ (i := 6) (N := some 15) (v := ?_) (a' := ?_) #[true, true, true, true, true, true, true, false, false, true, true, false, false, false] rfl rfl (any_of HT_.out (by kernel_rfl)) (fun _ _ _ h => h) (Or.inl ⟨by rfl, ?_⟩) ?_ ?_
     rotate_left
     ·intro w'
      go_simp
      with_reducible rfl
     rotate_left
     ·simp only [Act.put, q1, q2, q3, i64_w, i32_w]
      rfl
     refine pure_ (i := 7) (N := some 16) (v := ?_) (a' := ?_) #[true, true, true, true, true, true, true, true, false, true, true, false, false, false] rfl rfl (any_of HT_.out (by kernel_rfl)) (fun _ _ _ h => h) (Or.inl ⟨by rfl, ?_⟩) ?_ ?_
     rotate_left
     ·intro w'
      go_simp
      with_reducible rfl
     rotate_left
     ·simp only [Act.put, q1, q2, q3, i64_w, i32_w]
      rfl
     refine pure_ (i := 8) (N := some 17) (v := ?_) (a' := ?_) #[true, true, true, true, true, true, true, true, true, true, true, false, false, false] rfl rfl (any_of HT_.out (by kernel_rfl)) (fun _ _ _ h => h) (Or.inl ⟨by rfl, ?_⟩) ?_ ?_
     rotate_left
     ·intro w'
      go_simp
      with_reducible rfl
     rotate_left
     ·simp only [Act.put, q1, q2, q3, i64_w, i32_w]
      rfl
     exact norm_ (by first | (simp only [putAll, Act.put, q1, q2, q3]; done) | (simp only [putAll, Act.put, q1, q2, q3]; rfl)) (hJ2_4_9_10 (.slice Ao13 t209.length co13, v218, v221, gb223, gb224) _ ⟨hHeld, (viaR HO211), (viaR HO219), (by (with_reducible repeat (first | apply Kd.S_alloc | apply Kd.S_drewN | apply Kd.S_drew)); exact Kd.S_mono HO222.out (fun _ hk => hk.2)), (viaK BK206), (viaK BK207), (viaK BK208), (viaK BK223), (viaK BK224), GW223.out, GE223.out, NB206_223.out, NB223_206.out, NB207_223.out, NB223_207.out, NB208_223.out, NB223_208.out, NB224_223.out, NB223_224.out, GW224.out, GE224.out, NB206_224.out, NB224_206.out, NB207_224.out, NB224_207.out, NB208_224.out, NB224_208.out, (viaB HB)⟩)
   ·skip
    rintro ⟨v210, v218, v221, gb224⟩ w13 ⟨hS_, h0_, h1_, h2_, h3_, h4_, h5_, h6_, h7_, h8_, h9_, h10_, h11_, h12_, h13_, h14_, h15_⟩
    have HO211 : Aside0 (Kd.R (Kd.int .i64) 3 w13 w.heap.size (fun _ => True) v210 t209) := ⟨h0_⟩
    have HO219 : Aside0 (Kd.R k89 89 w13 w.heap.size (fun _ => True) v218 t217) := ⟨h1_⟩
    have HO222 : Aside0 (Kd.S (Kd.slice 3 (Kd.int .i64)) 43 w13 w.heap.size (fun k_ => some k_ ≠ (v210 : Value).ownBlock) v221 t220) := ⟨h2_⟩
    have BK224 : Aside0 (w13.heap[gb224]? = some (.cells #[.int .i64 0, .int .i64 0, .slice none 0 0] 32 (0, 0))) := ⟨h6_⟩
    have GW224 : Aside0 (w.heap.size ≤ gb224) := ⟨h7_⟩
    have GE224 : Aside0 (w.heap.size ≤ gb224) := ⟨h8_⟩
    have NB206_224 : Aside0 (gb206 ≠ gb224) := ⟨h9_⟩
    have NB224_206 : Aside0 (gb224 ≠ gb206) := ⟨h10_⟩
    have NB207_224 : Aside0 (gb207 ≠ gb224) := ⟨h11_⟩
    have NB224_207 : Aside0 (gb224 ≠ gb207) := ⟨h12_⟩
    have NB208_224 : Aside0 (gb208 ≠ gb224) := ⟨h13_⟩
    have NB224_208 : Aside0 (gb224 ≠ gb208) := ⟨h14_⟩
    replace BK206 : Aside0 (w13.heap[gb206]? = some (.cells #[.int .i64 a0_0, .int .i64 a0_1, .slice A0_2 l0_2.length c0_2] 32 (0, 0))) := ⟨h3_⟩
    replace BK207 : Aside0 (w13.heap[gb207]? = some (.cells #[.int .i64 0, .int .i64 0, .int .i64 0] 27 (0, 0))) := ⟨h4_⟩
    replace BK208 : Aside0 (w13.heap[gb208]? = some (.cells #[.int .i64 0, .int .i64 0, .slice none 0 0] 32 (0, 0))) := ⟨h5_⟩
    replace HB : Aside0 (Below w.heap.size w w13) := ⟨h15_⟩
    clear h0_ h1_ h2_ h3_ h4_ h5_ h6_ h7_ h8_ h9_ h10_ h11_ h12_ h13_ h14_ h15_
    have hHeld : w13.cell? ⟨gb206, 0, none⟩ = some (.int .i64 a0_0) ∧ w13.cell? ⟨gb206, 1, none⟩ = some (.int .i64 a0_1) ∧ w13.cell? ⟨gb206, 2, none⟩ = some (.slice A0_2 l0_2.length c0_2) := hS_
    refine norm_ (a' := ?_) ?_ ?_
    rotate_left
    ·simp only [putAll, Act.put, q1, q2, q3]
     rfl
    refine one_ (i := 9) (N := some 6) #[true, true, true, true, true, true, true, true, true, true, true, false, false, false] rfl rfl (one_of HT_.out (by kernel_rfl)) (by decide) (fun K hK => ?_)
    refine box_step ?hg (N := 6) ?hd (cs := #[.int .i64 0, .int .i64 0, .int .i64 0]) (t := 27) ?hr ?_; (case hd => rfl); (case hg => rfl); (case hr => first | (go_simp; done) | (go_simp; rfl))
    intro gb223 hg w14 hbox hb
    have BK223 := Aside0.mk (hbox)
    have GW223 := gW (w := w) HB hg
    have GE223 := gW (w := w) HB hg
    have NB206_223 := neL BK206 hg
    have NB223_206 := neG BK206 hg
    have NB207_223 := neL BK207 hg
    have NB223_207 := neG BK207 hg
    have NB208_223 := neL BK208 hg
    have NB223_208 := neG BK208 hg
    have NB224_223 := neL BK224 hg
    have NB223_224 := neG BK224 hg
    replace HO211 := Aside0.mk (Kd.R_below (viaR HO211) hb)
    replace HO219 := Aside0.mk (Kd.R_below (viaR HO219) hb)
    replace HO222 := Aside0.mk (Kd.S_below (viaS HO222) hb)
    replace BK206 := kB BK206 hb
    replace BK207 := kB BK207 hb
    replace BK208 := kB BK208 hb
    replace BK224 := kB BK224 hb
    replace HB := bB HB hb
    clear hb hbox hg
    refine hK.out _ _ ⟨(blk_cell BK206.out 0).trans rfl, (blk_cell BK206.out 1).trans rfl, (blk_cell BK206.out 2).trans rfl⟩ (fun hHeld => ?_)
    clear hK K
    refine norm_ (a' := ?_) ?_ ?_
    rotate_left
    ·show Act.put _ (some 6) _ = _
     simp only [Act.put, q1, q2, q3, i64_w, i32_w]
     rfl
    exact norm_ (by first | (simp only [putAll, Act.put, q1, q2, q3]; done) | (simp only [putAll, Act.put, q1, q2, q3]; rfl)) (hJ2_4_9_10 (v210, v218, v221, gb223, gb224) _ ⟨hHeld, (viaR HO211), (viaR HO219), (viaS HO222), (viaK BK206), (viaK BK207), (viaK BK208), (viaK BK223), (viaK BK224), GW223.out, GE223.out, NB206_223.out, NB223_206.out, NB207_223.out, NB223_207.out, NB208_223.out, NB223_208.out, NB224_223.out, NB223_224.out, GW224.out, GE224.out, NB206_224.out, NB224_206.out, NB207_224.out, NB224_207.out, NB208_224.out, NB224_208.out, (viaB HB)⟩)
  ·skip
   rintro ⟨v210, v218, v221, gb223⟩ w13 ⟨hS_, h0_, h1_, h2_, h3_, h4_, h5_, h6_, h7_, h8_, h9_, h10_, h11_, h12_, h13_, h14_, h15_⟩
   have HO211 : Aside0 (Kd.R (Kd.int .i64) 3 w13 w.heap.size (fun _ => True) v210 t209) := ⟨h0_⟩
   have HO219 : Aside0 (Kd.R k89 89 w13 w.heap.size (fun _ => True) v218 t217) := ⟨h1_⟩
   have HO222 : Aside0 (Kd.S (Kd.slice 3 (Kd.int .i64)) 43 w13 w.heap.size (fun k_ => some k_ ≠ (v210 : Value).ownBlock) v221 t220) := ⟨h2_⟩
   have BK223 : Aside0 (w13.heap[gb223]? = some (.cells #[.int .i64 0, .int .i64 0, .int .i64 0] 27 (0, 0))) := ⟨h6_⟩
   have GW223 : Aside0 (w.heap.size ≤ gb223) := ⟨h7_⟩
   have GE223 : Aside0 (w.heap.size ≤ gb223) := ⟨h8_⟩
   have NB206_223 : Aside0 (gb206 ≠ gb223) := ⟨h9_⟩
   have NB223_206 : Aside0 (gb223 ≠ gb206) := ⟨h10_⟩
   have NB207_223 : Aside0 (gb207 ≠ gb223) := ⟨h11_⟩
   have NB223_207 : Aside0 (gb223 ≠ gb207) := ⟨h12_⟩
   have NB208_223 : Aside0 (gb208 ≠ gb223) := ⟨h13_⟩
   have NB223_208 : Aside0 (gb223 ≠ gb208) := ⟨h14_⟩
   replace BK206 : Aside0 (w13.heap[gb206]? = some (.cells #[.int .i64 a0_0, .int .i64 a0_1, .slice A0_2 l0_2.length c0_2] 32 (0, 0))) := ⟨h3_⟩
   replace BK207 : Aside0 (w13.heap[gb207]? = some (.cells #[.int .i64 0, .int .i64 0, .int .i64 0] 27 (0, 0))) := ⟨h4_⟩
   replace BK208 : Aside0 (w13.heap[gb208]? = some (.cells #[.int .i64 0, .int .i64 0, .slice none 0 0] 32 (0, 0))) := ⟨h5_⟩
   replace HB : Aside0 (Below w.heap.size w w13) := ⟨h15_⟩
   clear h0_ h1_ h2_ h3_ h4_ h5_ h6_ h7_ h8_ h9_ h10_ h11_ h12_ h13_ h14_ h15_
   have hHeld : w13.cell? ⟨gb206, 0, none⟩ = some (.int .i64 a0_0) ∧ w13.cell? ⟨gb206, 1, none⟩ = some (.int .i64 a0_1) ∧ w13.cell? ⟨gb206, 2, none⟩ = some (.slice A0_2 l0_2.length c0_2) := hS_
   refine norm_ (a' := ?_) ?_ ?_
   rotate_left
   ·simp only [putAll, Act.put, q1, q2, q3]
    rfl
   refine one_ (i := 10) (N := some 7) #[true, true, true, true, true, true, true, true, true, true, true, false, false, false] rfl rfl (one_of HT_.out (by kernel_rfl)) (by decide) (fun K hK => ?_)
   refine box_step ?hg (N := 7) ?hd (cs := #[.int .i64 0, .int .i64 0, .slice none 0 0]) (t := 32) ?hr ?_; (case hd => rfl); (case hg => rfl); (case hr => first | (go_simp; done) | (go_simp; rfl))
   intro gb224 hg w14 hbox hb
   have BK224 := Aside0.mk (hbox)
   have GW224 := gW (w := w) HB hg
   have GE224 := gW (w := w) HB hg
   have NB206_224 := neL BK206 hg
   have NB224_206 := neG BK206 hg
   have NB207_224 := neL BK207 hg
   have NB224_207 := neG BK207 hg
   have NB208_224 := neL BK208 hg
   have NB224_208 := neG BK208 hg
   have NB223_224 := neL BK223 hg
   have NB224_223 := neG BK223 hg
   replace HO211 := Aside0.mk (Kd.R_below (viaR HO211) hb)
   replace HO219 := Aside0.mk (Kd.R_below (viaR HO219) hb)
   replace HO222 := Aside0.mk (Kd.S_below (viaS HO222) hb)
   replace BK206 := kB BK206 hb
   replace BK207 := kB BK207 hb
   replace BK208 := kB BK208 hb
   replace BK223 := kB BK223 hb
   replace HB := bB HB hb
   clear hb hbox hg
   refine hK.out _ _ ⟨(blk_cell BK206.out 0).trans rfl, (blk_cell BK206.out 1).trans rfl, (blk_cell BK206.out 2).trans rfl⟩ (fun hHeld => ?_)
   clear hK K
   refine norm_ (a' := ?_) ?_ ?_
   rotate_left
   ·show Act.put _ (some 7) _ = _
    simp only [Act.put, q1, q2, q3, i64_w, i32_w]
    rfl
   exact norm_ (by first | (simp only [putAll, Act.put, q1, q2, q3]; done) | (simp only [putAll, Act.put, q1, q2, q3]; rfl)) (hJ2_4_9_10 (v210, v218, v221, gb223, gb224) _ ⟨hHeld, (viaR HO211), (viaR HO219), (viaS HO222), (viaK BK206), (viaK BK207), (viaK BK208), (viaK BK223), (viaK BK224), GW223.out, GE223.out, NB206_223.out, NB223_206.out, NB207_223.out, NB223_207.out, NB208_223.out, NB223_208.out, NB224_223.out, NB223_224.out, GW224.out, GE224.out, NB206_224.out, NB224_206.out, NB207_224.out, NB224_207.out, NB208_224.out, NB224_208.out, (viaB HB)⟩)
 rintro ⟨v210, v218, v221, gb223, gb224⟩ w14 ⟨hS_, h0_, h1_, h2_, h3_, h4_, h5_, h6_, h7_, h8_, h9_, h10_, h11_, h12_, h13_, h14_, h15_, h16_, h17_, h18_, h19_, h20_, h21_, h22_, h23_, h24_, h25_, h26_⟩
 have HO211 : Aside0 (Kd.R (Kd.int .i64) 3 w14 w.heap.size (fun _ => True) v210 t209) := ⟨h0_⟩
 have HO219 : Aside0 (Kd.R k89 89 w14 w.heap.size (fun _ => True) v218 t217) := ⟨h1_⟩
 have HO222 : Aside0 (Kd.S (Kd.slice 3 (Kd.int .i64)) 43 w14 w.heap.size (fun k_ => some k_ ≠ (v210 : Value).ownBlock) v221 t220) := ⟨h2_⟩
 have BK223 : Aside0 (w14.heap[gb223]? = some (.cells #[.int .i64 0, .int .i64 0, .int .i64 0] 27 (0, 0))) := ⟨h6_⟩
 have BK224 : Aside0 (w14.heap[gb224]? = some (.cells #[.int .i64 0, .int .i64 0, .slice none 0 0] 32 (0, 0))) := ⟨h7_⟩
 have GW223 : Aside0 (w.heap.size ≤ gb223) := ⟨h8_⟩
 have GE223 : Aside0 (w.heap.size ≤ gb223) := ⟨h9_⟩
 have NB206_223 : Aside0 (gb206 ≠ gb223) := ⟨h10_⟩
 have NB223_206 : Aside0 (gb223 ≠ gb206) := ⟨h11_⟩
 have NB207_223 : Aside0 (gb207 ≠ gb223) := ⟨h12_⟩
 have NB223_207 : Aside0 (gb223 ≠ gb207) := ⟨h13_⟩
 have NB208_223 : Aside0 (gb208 ≠ gb223) := ⟨h14_⟩
 have NB223_208 : Aside0 (gb223 ≠ gb208) := ⟨h15_⟩
 have NB224_223 : Aside0 (gb224 ≠ gb223) := ⟨h16_⟩
 have NB223_224 : Aside0 (gb223 ≠ gb224) := ⟨h17_⟩
 have GW224 : Aside0 (w.heap.size ≤ gb224) := ⟨h18_⟩
 have GE224 : Aside0 (w.heap.size ≤ gb224) := ⟨h19_⟩
 have NB206_224 : Aside0 (gb206 ≠ gb224) := ⟨h20_⟩
 have NB224_206 : Aside0 (gb224 ≠ gb206) := ⟨h21_⟩
 have NB207_224 : Aside0 (gb207 ≠ gb224) := ⟨h22_⟩
 have NB224_207 : Aside0 (gb224 ≠ gb207) := ⟨h23_⟩
 have NB208_224 : Aside0 (gb208 ≠ gb224) := ⟨h24_⟩
 have NB224_208 : Aside0 (gb224 ≠ gb208) := ⟨h25_⟩
 replace BK206 : Aside0 (w14.heap[gb206]? = some (.cells #[.int .i64 a0_0, .int .i64 a0_1, .slice A0_2 l0_2.length c0_2] 32 (0, 0))) := ⟨h3_⟩
 replace BK207 : Aside0 (w14.heap[gb207]? = some (.cells #[.int .i64 0, .int .i64 0, .int .i64 0] 27 (0, 0))) := ⟨h4_⟩
 replace BK208 : Aside0 (w14.heap[gb208]? = some (.cells #[.int .i64 0, .int .i64 0, .slice none 0 0] 32 (0, 0))) := ⟨h5_⟩
 replace HB : Aside0 (Below w.heap.size w w14) := ⟨h26_⟩
 clear h0_ h1_ h2_ h3_ h4_ h5_ h6_ h7_ h8_ h9_ h10_ h11_ h12_ h13_ h14_ h15_ h16_ h17_ h18_ h19_ h20_ h21_ h22_ h23_ h24_ h25_ h26_
 have hHeld : w14.cell? ⟨gb206, 0, none⟩ = some (.int .i64 a0_0) ∧ w14.cell? ⟨gb206, 1, none⟩ = some (.int .i64 a0_1) ∧ w14.cell? ⟨gb206, 2, none⟩ = some (.slice A0_2 l0_2.length c0_2) := hS_
 obtain ⟨Ao20, co20, eo20⟩ := Kd.R_slice HO219.out
 (first | subst eo20 | (injection eo20 with f1_ f2_ f3_; have f4_ := f1_.symm; have f5_ := f3_.symm; clear f1_ f2_ f3_; subst f4_; subst f5_))
 refine norm_ (a' := ?_) ?_ ?_
 rotate_left
 ·simp only [putAll, Act.put, q1, q2, q3]
  rfl
 refine one_ (i := 11) (N := none) #[true, true, true, true, true, true, true, true, true, true, true, true, false, false] rfl rfl (one_of HT_.out (by kernel_rfl)) (by decide) (fun K hK => ?_)
 have hs15 : w14.cell? ⟨gb223, 0, none⟩ = some (.int .i64 0) := (blk_cell BK223.out 0).trans rfl
 have hfs15 := blk_frozen BK223.out 0
 have hns15_0 := NB206_223.out
 have hns15_1 := NB207_223.out
 have hns15_2 := NB208_223.out
 have hns15_4 := NB224_223.out
 have hms15_0 := NB223_206.out
 have hms15_1 := NB223_207.out
 have hms15_2 := NB223_208.out
 have hms15_4 := NB223_224.out
 have hs16 : w14.cell? ⟨gb223, 1, none⟩ = some (.int .i64 0) := (blk_cell BK223.out 1).trans rfl
 have hfs16 := blk_frozen BK223.out 1
 have hns16_0 := NB206_223.out
 have hns16_1 := NB207_223.out
 have hns16_2 := NB208_223.out
 have hns16_4 := NB224_223.out
 have hms16_0 := NB223_206.out
 have hms16_1 := NB223_207.out
 have hms16_2 := NB223_208.out
 have hms16_4 := NB223_224.out
 have hs17 : w14.cell? ⟨gb223, 2, none⟩ = some (.int .i64 0) := (blk_cell BK223.out 2).trans rfl
 have hfs17 := blk_frozen BK223.out 2
 have hns17_0 := NB206_223.out
 have hns17_1 := NB207_223.out
 have hns17_2 := NB208_223.out
 have hns17_4 := NB224_223.out
 have hms17_0 := NB223_206.out
 have hms17_1 := NB223_207.out
 have hms17_2 := NB223_208.out
 have hms17_4 := NB223_224.out
 refine skip_ (w1 := ?_) (by rfl) rfl ?_ ?_
 rotate_left
 ·go_simp
  rfl
 refine hK.out _ _ ⟨((cell_far (p := ⟨gb223, _, none⟩) NB206_223.out _).trans (((cell_far (p := ⟨gb223, _, none⟩) NB206_223.out _).trans (((cell_far (p := ⟨gb223, _, none⟩) NB206_223.out _).trans (hHeld.1)))))), ((cell_far (p := ⟨gb223, _, none⟩) NB206_223.out _).trans (((cell_far (p := ⟨gb223, _, none⟩) NB206_223.out _).trans (((cell_far (p := ⟨gb223, _, none⟩) NB206_223.out _).trans (hHeld.2.1)))))), ((cell_far (p := ⟨gb223, _, none⟩) NB206_223.out _).trans (((cell_far (p := ⟨gb223, _, none⟩) NB206_223.out _).trans (((cell_far (p := ⟨gb223, _, none⟩) NB206_223.out _).trans (hHeld.2.2))))))⟩ (fun hHeld => ?_)
 clear hK K
 refine one_ (i := 12) (N := none) #[true, true, true, true, true, true, true, true, true, true, true, true, true, false] rfl rfl (one_of HT_.out (by kernel_rfl)) (by decide) (fun K hK => ?_)
 have hs18 : w14.cell? ⟨gb224, 0, none⟩ = some (.int .i64 0) := (blk_cell BK224.out 0).trans rfl
 have hfs18 := blk_frozen BK224.out 0
 have hns18_0 := NB206_224.out
 have hns18_1 := NB207_224.out
 have hns18_2 := NB208_224.out
 have hns18_3 := NB223_224.out
 have hms18_0 := NB224_206.out
 have hms18_1 := NB224_207.out
 have hms18_2 := NB224_208.out
 have hms18_3 := NB224_223.out
 have hs19 : w14.cell? ⟨gb224, 1, none⟩ = some (.int .i64 0) := (blk_cell BK224.out 1).trans rfl
 have hfs19 := blk_frozen BK224.out 1
 have hns19_0 := NB206_224.out
 have hns19_1 := NB207_224.out
 have hns19_2 := NB208_224.out
 have hns19_3 := NB223_224.out
 have hms19_0 := NB224_206.out
 have hms19_1 := NB224_207.out
 have hms19_2 := NB224_208.out
 have hms19_3 := NB224_223.out
 have hs21 : w14.cell? ⟨gb224, 2, none⟩ = some (.slice none 0 0) := (blk_cell BK224.out 2).trans rfl
 have hfs21 := blk_frozen BK224.out 2
 have hns21_0 := NB206_224.out
 have hns21_1 := NB207_224.out
 have hns21_2 := NB208_224.out
 have hns21_3 := NB223_224.out
 have hms21_0 := NB224_206.out
 have hms21_1 := NB224_207.out
 have hms21_2 := NB224_208.out
 have hms21_3 := NB224_223.out
 refine skip_ (w1 := ?_) (by rfl) rfl ?_ ?_
 rotate_left
 ·go_simp
  rfl
 refine hK.out _ _ ⟨((cell_far (p := ⟨gb224, _, none⟩) NB206_224.out _).trans (((cell_far (p := ⟨gb224, _, none⟩) NB206_224.out _).trans (((cell_far (p := ⟨gb224, _, none⟩) NB206_224.out _).trans (hHeld.1)))))), ((cell_far (p := ⟨gb224, _, none⟩) NB206_224.out _).trans (((cell_far (p := ⟨gb224, _, none⟩) NB206_224.out _).trans (((cell_far (p := ⟨gb224, _, none⟩) NB206_224.out _).trans (hHeld.2.1)))))), ((cell_far (p := ⟨gb224, _, none⟩) NB206_224.out _).trans (((cell_far (p := ⟨gb224, _, none⟩) NB206_224.out _).trans (((cell_far (p := ⟨gb224, _, none⟩) NB206_224.out _).trans (hHeld.2.2))))))⟩ (fun hHeld => ?_)
 clear hK K
 refine pure_ (i := 13) (N := some 8) (v := ?_) (a' := ?_) #[true, true, true, true, true, true, true, true, true, true, true, true, true, true] rfl rfl (any_of HT_.out (by kernel_rfl)) (fun _ _ _ h => h) (Or.inl ⟨by rfl, ?_⟩) ?_ ?_
 rotate_left
 ·intro w'
  go_simp
  with_reducible rfl
 rotate_left
 ·simp only [Act.put, q1, q2, q3, i64_w, i32_w]
  rfl
 refine done_ (done_of HT_.out (by kernel_rfl)) ?_
 try go_wp2
 have n0_ : Aside0 (Kd.R (Kd.int .i64) 3 ((((((w14.setCell ⟨gb223, 0, none⟩ (.int .i64 t212)).setCell ⟨gb223, 1, none⟩ (.int .i64 t213)).setCell ⟨gb223, 2, none⟩ (.int .i64 t214)).setCell ⟨gb224, 0, none⟩ (.int .i64 t215)).setCell ⟨gb224, 1, none⟩ (.int .i64 t216)).setCell ⟨gb224, 2, none⟩ (.slice Ao20 t217.length co20)) w.heap.size (fun _ => True) v210 t209) := ⟨by (with_reducible repeat (first | apply Kd.R_alloc | apply Kd.R_drewN | apply Kd.R_drew)); exact Kd.R_mono (Kd.R_far (p := ⟨gb224, 2, none⟩) (Kd.R_far (p := ⟨gb224, 1, none⟩) (Kd.R_far (p := ⟨gb224, 0, none⟩) (Kd.R_far (p := ⟨gb223, 2, none⟩) (Kd.R_far (p := ⟨gb223, 1, none⟩) (Kd.R_far (p := ⟨gb223, 0, none⟩) (Kd.R_types (Kd.R_types HO211.out BK223.out (by decide)) BK224.out (by decide)) (fun _ hk => hk.1.2) (.int .i64 t212)) (fun _ hk => hk.1.2) (.int .i64 t213)) (fun _ hk => hk.1.2) (.int .i64 t214)) (fun _ hk => hk.2) (.int .i64 t215)) (fun _ hk => hk.2) (.int .i64 t216)) (fun _ hk => hk.2) (.slice Ao20 t217.length co20)) (fun _ hk => trivial)⟩
 have n1_ : Aside0 (Kd.R k89 89 ((((((w14.setCell ⟨gb223, 0, none⟩ (.int .i64 t212)).setCell ⟨gb223, 1, none⟩ (.int .i64 t213)).setCell ⟨gb223, 2, none⟩ (.int .i64 t214)).setCell ⟨gb224, 0, none⟩ (.int .i64 t215)).setCell ⟨gb224, 1, none⟩ (.int .i64 t216)).setCell ⟨gb224, 2, none⟩ (.slice Ao20 t217.length co20)) w.heap.size (fun _ => True) (.slice Ao20 t217.length co20) t217) := ⟨by (with_reducible repeat (first | apply Kd.R_alloc | apply Kd.R_drewN | apply Kd.R_drew)); exact Kd.R_mono (Kd.R_far (p := ⟨gb224, 2, none⟩) (Kd.R_far (p := ⟨gb224, 1, none⟩) (Kd.R_far (p := ⟨gb224, 0, none⟩) (Kd.R_far (p := ⟨gb223, 2, none⟩) (Kd.R_far (p := ⟨gb223, 1, none⟩) (Kd.R_far (p := ⟨gb223, 0, none⟩) (Kd.R_types (Kd.R_types HO219.out BK223.out (by decide)) BK224.out (by decide)) (fun _ hk => hk.1.2) (.int .i64 t212)) (fun _ hk => hk.1.2) (.int .i64 t213)) (fun _ hk => hk.1.2) (.int .i64 t214)) (fun _ hk => hk.2) (.int .i64 t215)) (fun _ hk => hk.2) (.int .i64 t216)) (fun _ hk => hk.2) (.slice Ao20 t217.length co20)) (fun _ hk => trivial)⟩
 have n2_ : Aside0 (Kd.S (Kd.slice 3 (Kd.int .i64)) 43 ((((((w14.setCell ⟨gb223, 0, none⟩ (.int .i64 t212)).setCell ⟨gb223, 1, none⟩ (.int .i64 t213)).setCell ⟨gb223, 2, none⟩ (.int .i64 t214)).setCell ⟨gb224, 0, none⟩ (.int .i64 t215)).setCell ⟨gb224, 1, none⟩ (.int .i64 t216)).setCell ⟨gb224, 2, none⟩ (.slice Ao20 t217.length co20)) w.heap.size (fun k_ => some k_ ≠ (v210 : Value).ownBlock) v221 t220) := ⟨by (with_reducible repeat (first | apply Kd.S_alloc | apply Kd.S_drewN | apply Kd.S_drew)); exact Kd.S_mono (Kd.S_far (p := ⟨gb224, 2, none⟩) (Kd.S_far (p := ⟨gb224, 1, none⟩) (Kd.S_far (p := ⟨gb224, 0, none⟩) (Kd.S_far (p := ⟨gb223, 2, none⟩) (Kd.S_far (p := ⟨gb223, 1, none⟩) (Kd.S_far (p := ⟨gb223, 0, none⟩) (Kd.S_types (Kd.S_types HO222.out BK223.out (by decide)) BK224.out (by decide)) (fun _ hk => hk.1.2) (.int .i64 t212)) (fun _ hk => hk.1.2) (.int .i64 t213)) (fun _ hk => hk.1.2) (.int .i64 t214)) (fun _ hk => hk.2) (.int .i64 t215)) (fun _ hk => hk.2) (.int .i64 t216)) (fun _ hk => hk.2) (.slice Ao20 t217.length co20)) (fun _ hk => hk.1.1)⟩
 have n3_ : Aside0 (((((((w14.setCell ⟨gb223, 0, none⟩ (.int .i64 t212)).setCell ⟨gb223, 1, none⟩ (.int .i64 t213)).setCell ⟨gb223, 2, none⟩ (.int .i64 t214)).setCell ⟨gb224, 0, none⟩ (.int .i64 t215)).setCell ⟨gb224, 1, none⟩ (.int .i64 t216)).setCell ⟨gb224, 2, none⟩ (.slice Ao20 t217.length co20)).heap[gb206]? = some (.cells #[.int .i64 a0_0, .int .i64 a0_1, .slice A0_2 l0_2.length c0_2] 32 (0, 0))) := ⟨by (with_reducible repeat (first | refine blk_drewN ?_ _ | refine blk_drew ?_ | refine blk_alloc ?_ _)); refine blk_far ?_ NB206_224.out _; (with_reducible repeat (first | refine blk_drewN ?_ _ | refine blk_drew ?_ | refine blk_alloc ?_ _)); refine blk_far ?_ NB206_224.out _; (with_reducible repeat (first | refine blk_drewN ?_ _ | refine blk_drew ?_ | refine blk_alloc ?_ _)); refine blk_far ?_ NB206_224.out _; (with_reducible repeat (first | refine blk_drewN ?_ _ | refine blk_drew ?_ | refine blk_alloc ?_ _)); refine blk_far ?_ NB206_223.out _; (with_reducible repeat (first | refine blk_drewN ?_ _ | refine blk_drew ?_ | refine blk_alloc ?_ _)); refine blk_far ?_ NB206_223.out _; (with_reducible repeat (first | refine blk_drewN ?_ _ | refine blk_drew ?_ | refine blk_alloc ?_ _)); refine blk_far ?_ NB206_223.out _; (with_reducible repeat (first | refine blk_drewN ?_ _ | refine blk_drew ?_ | refine blk_alloc ?_ _)); exact BK206.out⟩
 have n4_ : Aside0 (((((((w14.setCell ⟨gb223, 0, none⟩ (.int .i64 t212)).setCell ⟨gb223, 1, none⟩ (.int .i64 t213)).setCell ⟨gb223, 2, none⟩ (.int .i64 t214)).setCell ⟨gb224, 0, none⟩ (.int .i64 t215)).setCell ⟨gb224, 1, none⟩ (.int .i64 t216)).setCell ⟨gb224, 2, none⟩ (.slice Ao20 t217.length co20)).heap[gb207]? = some (.cells #[.int .i64 0, .int .i64 0, .int .i64 0] 27 (0, 0))) := ⟨by (with_reducible repeat (first | refine blk_drewN ?_ _ | refine blk_drew ?_ | refine blk_alloc ?_ _)); refine blk_far ?_ NB207_224.out _; (with_reducible repeat (first | refine blk_drewN ?_ _ | refine blk_drew ?_ | refine blk_alloc ?_ _)); refine blk_far ?_ NB207_224.out _; (with_reducible repeat (first | refine blk_drewN ?_ _ | refine blk_drew ?_ | refine blk_alloc ?_ _)); refine blk_far ?_ NB207_224.out _; (with_reducible repeat (first | refine blk_drewN ?_ _ | refine blk_drew ?_ | refine blk_alloc ?_ _)); refine blk_far ?_ NB207_223.out _; (with_reducible repeat (first | refine blk_drewN ?_ _ | refine blk_drew ?_ | refine blk_alloc ?_ _)); refine blk_far ?_ NB207_223.out _; (with_reducible repeat (first | refine blk_drewN ?_ _ | refine blk_drew ?_ | refine blk_alloc ?_ _)); refine blk_far ?_ NB207_223.out _; (with_reducible repeat (first | refine blk_drewN ?_ _ | refine blk_drew ?_ | refine blk_alloc ?_ _)); exact BK207.out⟩
 have n5_ : Aside0 (((((((w14.setCell ⟨gb223, 0, none⟩ (.int .i64 t212)).setCell ⟨gb223, 1, none⟩ (.int .i64 t213)).setCell ⟨gb223, 2, none⟩ (.int .i64 t214)).setCell ⟨gb224, 0, none⟩ (.int .i64 t215)).setCell ⟨gb224, 1, none⟩ (.int .i64 t216)).setCell ⟨gb224, 2, none⟩ (.slice Ao20 t217.length co20)).heap[gb208]? = some (.cells #[.int .i64 0, .int .i64 0, .slice none 0 0] 32 (0, 0))) := ⟨by (with_reducible repeat (first | refine blk_drewN ?_ _ | refine blk_drew ?_ | refine blk_alloc ?_ _)); refine blk_far ?_ NB208_224.out _; (with_reducible repeat (first | refine blk_drewN ?_ _ | refine blk_drew ?_ | refine blk_alloc ?_ _)); refine blk_far ?_ NB208_224.out _; (with_reducible repeat (first | refine blk_drewN ?_ _ | refine blk_drew ?_ | refine blk_alloc ?_ _)); refine blk_far ?_ NB208_224.out _; (with_reducible repeat (first | refine blk_drewN ?_ _ | refine blk_drew ?_ | refine blk_alloc ?_ _)); refine blk_far ?_ NB208_223.out _; (with_reducible repeat (first | refine blk_drewN ?_ _ | refine blk_drew ?_ | refine blk_alloc ?_ _)); refine blk_far ?_ NB208_223.out _; (with_reducible repeat (first | refine blk_drewN ?_ _ | refine blk_drew ?_ | refine blk_alloc ?_ _)); refine blk_far ?_ NB208_223.out _; (with_reducible repeat (first | refine blk_drewN ?_ _ | refine blk_drew ?_ | refine blk_alloc ?_ _)); exact BK208.out⟩
 have n6_ : Aside0 (((((((w14.setCell ⟨gb223, 0, none⟩ (.int .i64 t212)).setCell ⟨gb223, 1, none⟩ (.int .i64 t213)).setCell ⟨gb223, 2, none⟩ (.int .i64 t214)).setCell ⟨gb224, 0, none⟩ (.int .i64 t215)).setCell ⟨gb224, 1, none⟩ (.int .i64 t216)).setCell ⟨gb224, 2, none⟩ (.slice Ao20 t217.length co20)).heap[gb223]? = some (.cells #[.int .i64 t212, .int .i64 t213, .int .i64 t214] 27 (0, 0))) := ⟨by (with_reducible repeat (first | refine blk_drewN ?_ _ | refine blk_drew ?_ | refine blk_alloc ?_ _)); refine blk_far ?_ NB223_224.out _; (with_reducible repeat (first | refine blk_drewN ?_ _ | refine blk_drew ?_ | refine blk_alloc ?_ _)); refine blk_far ?_ NB223_224.out _; (with_reducible repeat (first | refine blk_drewN ?_ _ | refine blk_drew ?_ | refine blk_alloc ?_ _)); refine blk_far ?_ NB223_224.out _; (with_reducible repeat (first | refine blk_drewN ?_ _ | refine blk_drew ?_ | refine blk_alloc ?_ _)); refine blk_put (cs := #[.int .i64 t212, .int .i64 t213, .int .i64 0]) ?_ 2 _ rfl; (with_reducible repeat (first | refine blk_drewN ?_ _ | refine blk_drew ?_ | refine blk_alloc ?_ _)); refine blk_put (cs := #[.int .i64 t212, .int .i64 0, .int .i64 0]) ?_ 1 _ rfl; (with_reducible repeat (first | refine blk_drewN ?_ _ | refine blk_drew ?_ | refine blk_alloc ?_ _)); refine blk_put (cs := #[.int .i64 0, .int .i64 0, .int .i64 0]) ?_ 0 _ rfl; (with_reducible repeat (first | refine blk_drewN ?_ _ | refine blk_drew ?_ | refine blk_alloc ?_ _)); exact BK223.out⟩
 have n7_ : Aside0 (((((((w14.setCell ⟨gb223, 0, none⟩ (.int .i64 t212)).setCell ⟨gb223, 1, none⟩ (.int .i64 t213)).setCell ⟨gb223, 2, none⟩ (.int .i64 t214)).setCell ⟨gb224, 0, none⟩ (.int .i64 t215)).setCell ⟨gb224, 1, none⟩ (.int .i64 t216)).setCell ⟨gb224, 2, none⟩ (.slice Ao20 t217.length co20)).heap[gb224]? = some (.cells #[.int .i64 t215, .int .i64 t216, .slice Ao20 t217.length co20] 32 (0, 0))) := ⟨by (with_reducible repeat (first | refine blk_drewN ?_ _ | refine blk_drew ?_ | refine blk_alloc ?_ _)); refine blk_put (cs := #[.int .i64 t215, .int .i64 t216, .slice none 0 0]) ?_ 2 _ rfl; (with_reducible repeat (first | refine blk_drewN ?_ _ | refine blk_drew ?_ | refine blk_alloc ?_ _)); refine blk_put (cs := #[.int .i64 t215, .int .i64 0, .slice none 0 0]) ?_ 1 _ rfl; (with_reducible repeat (first | refine blk_drewN ?_ _ | refine blk_drew ?_ | refine blk_alloc ?_ _)); refine blk_put (cs := #[.int .i64 0, .int .i64 0, .slice none 0 0]) ?_ 0 _ rfl; (with_reducible repeat (first | refine blk_drewN ?_ _ | refine blk_drew ?_ | refine blk_alloc ?_ _)); refine blk_far ?_ NB224_223.out _; (with_reducible repeat (first | refine blk_drewN ?_ _ | refine blk_drew ?_ | refine blk_alloc ?_ _)); refine blk_far ?_ NB224_223.out _; (with_reducible repeat (first | refine blk_drewN ?_ _ | refine blk_drew ?_ | refine blk_alloc ?_ _)); refine blk_far ?_ NB224_223.out _; (with_reducible repeat (first | refine blk_drewN ?_ _ | refine blk_drew ?_ | refine blk_alloc ?_ _)); exact BK224.out⟩
 have n8_ : Aside0 (Below w.heap.size w ((((((w14.setCell ⟨gb223, 0, none⟩ (.int .i64 t212)).setCell ⟨gb223, 1, none⟩ (.int .i64 t213)).setCell ⟨gb223, 2, none⟩ (.int .i64 t214)).setCell ⟨gb224, 0, none⟩ (.int .i64 t215)).setCell ⟨gb224, 1, none⟩ (.int .i64 t216)).setCell ⟨gb224, 2, none⟩ (.slice Ao20 t217.length co20))) := ⟨viaB HB⟩
 (try clear HO211); (try clear HO219); (try clear HO222); (try clear BK206); (try clear BK207); (try clear BK208); (try clear BK223); (try clear BK224); (try clear HB)
 generalize ((((((w14.setCell ⟨gb223, 0, none⟩ (.int .i64 t212)).setCell ⟨gb223, 1, none⟩ (.int .i64 t213)).setCell ⟨gb223, 2, none⟩ (.int .i64 t214)).setCell ⟨gb224, 0, none⟩ (.int .i64 t215)).setCell ⟨gb224, 1, none⟩ (.int .i64 t216)).setCell ⟨gb224, 2, none⟩ (.slice Ao20 t217.length co20)) = w22 at n0_ n1_ n2_ n3_ n4_ n5_ n6_ n7_ n8_ ⊢
 have HO211 := n0_
 have HO219 := n1_
 have HO222 := n2_
 have BK206 := n3_
 have BK207 := n4_
 have BK208 := n5_
 have BK223 := n6_
 have BK224 := n7_
 have HB := n8_
 clear n0_ n1_ n2_ n3_ n4_ n5_ n6_ n7_ n8_
 replace HO211 := Aside0.mk (Kd.R_drew HO211.out)
 replace HO219 := Aside0.mk (Kd.R_drew HO219.out)
 replace HO222 := Aside0.mk (Kd.S_drew HO222.out)
 replace BK206 := Aside0.mk (blk_drew BK206.out)
 replace BK207 := Aside0.mk (blk_drew BK207.out)
 replace BK208 := Aside0.mk (blk_drew BK208.out)
 replace BK223 := Aside0.mk (blk_drew BK223.out)
 replace BK224 := Aside0.mk (blk_drew BK224.out)
 replace HB := Aside0.mk (below_drew1 HB.out)
 refine start_ (n := 4) (S := fun w' => w'.cell? ⟨gb223, 0, none⟩ = some (.int .i64 t212) ∧ w'.cell? ⟨gb223, 1, none⟩ = some (.int .i64 t213) ∧ w'.cell? ⟨gb223, 2, none⟩ = some (.int .i64 t214) ∧ w'.cell? ⟨gb224, 0, none⟩ = some (.int .i64 t215) ∧ w'.cell? ⟨gb224, 1, none⟩ = some (.int .i64 t216) ∧ w'.cell? ⟨gb224, 2, none⟩ = some (.slice Ao20 t217.length co20)) (ds := []) #[false, false, false, false] (by kernel_rfl) rfl rfl ⟨(blk_cell BK223.out 0).trans rfl, (blk_cell BK223.out 1).trans rfl, (blk_cell BK223.out 2).trans rfl, (blk_cell BK224.out 0).trans rfl, (blk_cell BK224.out 1).trans rfl, (blk_cell BK224.out 2).trans rfl⟩ (fun hHeld => ?_)
 generalize w22.drew = w23 at HO211 HO219 HO222 BK206 BK207 BK208 BK223 BK224 HB hHeld ⊢
 refine take_ (i := 0) (N := some 18) (v := ?_) (a' := ?_) #[true, false, false, false] rfl rfl (by kernel_rfl) (fun _ _ _ h => h) (Or.inl ⟨by rfl, ?_⟩) hHeld ?_ ?_
 rotate_left
 ·rintro w' ⟨s0, s1, s2, s3, s4, s5⟩
  go_simp
  with_reducible rfl
 rotate_left
 ·simp only [Act.put, q1, q2, q3, i64_w, i32_w]
  rfl
 refine take_ (i := 1) (N := some 19) (v := ?_) (a' := ?_) #[true, true, false, false] rfl rfl (by kernel_rfl) (fun _ _ _ h => h) (Or.inl ⟨by rfl, ?_⟩) hHeld ?_ ?_
 rotate_left
 ·rintro w' ⟨s0, s1, s2, s3, s4, s5⟩
  go_simp
  with_reducible rfl
 rotate_left
 ·simp only [Act.put, q1, q2, q3, i64_w, i32_w]
  rfl
 refine one_ (i := 2) (N := none) #[true, true, true, false] rfl rfl (by kernel_rfl) (by decide) (fun K hK => ?_)
 have hs24 : w23.cell? ⟨gb207, 0, none⟩ = some (.int .i64 0) := (blk_cell BK207.out 0).trans rfl
 have hfs24 := blk_frozen BK207.out 0
 have hns24_0 := NB206_207.out
 have hns24_2 := NB208_207.out
 have hns24_3 := NB223_207.out
 have hns24_4 := NB224_207.out
 have hms24_0 := NB207_206.out
 have hms24_2 := NB207_208.out
 have hms24_3 := NB207_223.out
 have hms24_4 := NB207_224.out
 have hs25 : w23.cell? ⟨gb207, 1, none⟩ = some (.int .i64 0) := (blk_cell BK207.out 1).trans rfl
 have hfs25 := blk_frozen BK207.out 1
 have hns25_0 := NB206_207.out
 have hns25_2 := NB208_207.out
 have hns25_3 := NB223_207.out
 have hns25_4 := NB224_207.out
 have hms25_0 := NB207_206.out
 have hms25_2 := NB207_208.out
 have hms25_3 := NB207_223.out
 have hms25_4 := NB207_224.out
 have hs26 : w23.cell? ⟨gb207, 2, none⟩ = some (.int .i64 0) := (blk_cell BK207.out 2).trans rfl
 have hfs26 := blk_frozen BK207.out 2
 have hns26_0 := NB206_207.out
 have hns26_2 := NB208_207.out
 have hns26_3 := NB223_207.out
 have hns26_4 := NB224_207.out
 have hms26_0 := NB207_206.out
 have hms26_2 := NB207_208.out
 have hms26_3 := NB207_223.out
 have hms26_4 := NB207_224.out
 refine skip_ (w1 := ?_) (by rfl) rfl ?_ ?_
 rotate_left
 ·go_simp
  rfl
 refine hK.out _ _ ⟨((cell_far (p := ⟨gb207, _, none⟩) NB223_207.out _).trans (((cell_far (p := ⟨gb207, _, none⟩) NB223_207.out _).trans (((cell_far (p := ⟨gb207, _, none⟩) NB223_207.out _).trans (hHeld.1)))))), ((cell_far (p := ⟨gb207, _, none⟩) NB223_207.out _).trans (((cell_far (p := ⟨gb207, _, none⟩) NB223_207.out _).trans (((cell_far (p := ⟨gb207, _, none⟩) NB223_207.out _).trans (hHeld.2.1)))))), ((cell_far (p := ⟨gb207, _, none⟩) NB223_207.out _).trans (((cell_far (p := ⟨gb207, _, none⟩) NB223_207.out _).trans (((cell_far (p := ⟨gb207, _, none⟩) NB223_207.out _).trans (hHeld.2.2.1)))))), ((cell_far (p := ⟨gb207, _, none⟩) NB224_207.out _).trans (((cell_far (p := ⟨gb207, _, none⟩) NB224_207.out _).trans (((cell_far (p := ⟨gb207, _, none⟩) NB224_207.out _).trans (hHeld.2.2.2.1)))))), ((cell_far (p := ⟨gb207, _, none⟩) NB224_207.out _).trans (((cell_far (p := ⟨gb207, _, none⟩) NB224_207.out _).trans (((cell_far (p := ⟨gb207, _, none⟩) NB224_207.out _).trans (hHeld.2.2.2.2.1)))))), ((cell_far (p := ⟨gb207, _, none⟩) NB224_207.out _).trans (((cell_far (p := ⟨gb207, _, none⟩) NB224_207.out _).trans (((cell_far (p := ⟨gb207, _, none⟩) NB224_207.out _).trans (hHeld.2.2.2.2.2))))))⟩ (fun hHeld => ?_)
 clear hK K
 refine one_ (i := 3) (N := none) #[true, true, true, true] rfl rfl (by kernel_rfl) (by decide) (fun K hK => ?_)
 have hs27 : w23.cell? ⟨gb208, 0, none⟩ = some (.int .i64 0) := (blk_cell BK208.out 0).trans rfl
 have hfs27 := blk_frozen BK208.out 0
 have hns27_0 := NB206_208.out
 have hns27_1 := NB207_208.out
 have hns27_3 := NB223_208.out
 have hns27_4 := NB224_208.out
 have hms27_0 := NB208_206.out
 have hms27_1 := NB208_207.out
 have hms27_3 := NB208_223.out
 have hms27_4 := NB208_224.out
 have hs28 : w23.cell? ⟨gb208, 1, none⟩ = some (.int .i64 0) := (blk_cell BK208.out 1).trans rfl
 have hfs28 := blk_frozen BK208.out 1
 have hns28_0 := NB206_208.out
 have hns28_1 := NB207_208.out
 have hns28_3 := NB223_208.out
 have hns28_4 := NB224_208.out
 have hms28_0 := NB208_206.out
 have hms28_1 := NB208_207.out
 have hms28_3 := NB208_223.out
 have hms28_4 := NB208_224.out
 have hs29 : w23.cell? ⟨gb208, 2, none⟩ = some (.slice none 0 0) := (blk_cell BK208.out 2).trans rfl
 have hfs29 := blk_frozen BK208.out 2
 have hns29_0 := NB206_208.out
 have hns29_1 := NB207_208.out
 have hns29_3 := NB223_208.out
 have hns29_4 := NB224_208.out
 have hms29_0 := NB208_206.out
 have hms29_1 := NB208_207.out
 have hms29_3 := NB208_223.out
 have hms29_4 := NB208_224.out
 refine skip_ (w1 := ?_) (by rfl) rfl ?_ ?_
 rotate_left
 ·go_simp
  rfl
 refine hK.out _ _ ⟨((cell_far (p := ⟨gb208, _, none⟩) NB223_208.out _).trans (((cell_far (p := ⟨gb208, _, none⟩) NB223_208.out _).trans (((cell_far (p := ⟨gb208, _, none⟩) NB223_208.out _).trans (hHeld.1)))))), ((cell_far (p := ⟨gb208, _, none⟩) NB223_208.out _).trans (((cell_far (p := ⟨gb208, _, none⟩) NB223_208.out _).trans (((cell_far (p := ⟨gb208, _, none⟩) NB223_208.out _).trans (hHeld.2.1)))))), ((cell_far (p := ⟨gb208, _, none⟩) NB223_208.out _).trans (((cell_far (p := ⟨gb208, _, none⟩) NB223_208.out _).trans (((cell_far (p := ⟨gb208, _, none⟩) NB223_208.out _).trans (hHeld.2.2.1)))))), ((cell_far (p := ⟨gb208, _, none⟩) NB224_208.out _).trans (((cell_far (p := ⟨gb208, _, none⟩) NB224_208.out _).trans (((cell_far (p := ⟨gb208, _, none⟩) NB224_208.out _).trans (hHeld.2.2.2.1)))))), ((cell_far (p := ⟨gb208, _, none⟩) NB224_208.out _).trans (((cell_far (p := ⟨gb208, _, none⟩) NB224_208.out _).trans (((cell_far (p := ⟨gb208, _, none⟩) NB224_208.out _).trans (hHeld.2.2.2.2.1)))))), ((cell_far (p := ⟨gb208, _, none⟩) NB224_208.out _).trans (((cell_far (p := ⟨gb208, _, none⟩) NB224_208.out _).trans (((cell_far (p := ⟨gb208, _, none⟩) NB224_208.out _).trans (hHeld.2.2.2.2.2))))))⟩ (fun hHeld => ?_)
 clear hK K
 refine done_ (by kernel_rfl) ?_
 try go_wp2
 refine bodyPost_ret (results_cc rfl _ _ gb207 gb208 27 32 #[.int .i64 t212, .int .i64 t213, .int .i64 t214] #[.int .i64 t215, .int .i64 t216, .slice Ao20 t217.length co20] (0, 0) (0, 0) _ _ rfl (by (with_reducible repeat (first | refine blk_drewN ?_ _ | refine blk_drew ?_ | refine blk_alloc ?_ _)); refine blk_far ?_ NB207_208.out _; (with_reducible repeat (first | refine blk_drewN ?_ _ | refine blk_drew ?_ | refine blk_alloc ?_ _)); refine blk_far ?_ NB207_208.out _; (with_reducible repeat (first | refine blk_drewN ?_ _ | refine blk_drew ?_ | refine blk_alloc ?_ _)); refine blk_far ?_ NB207_208.out _; (with_reducible repeat (first | refine blk_drewN ?_ _ | refine blk_drew ?_ | refine blk_alloc ?_ _)); refine blk_put (cs := #[.int .i64 t212, .int .i64 t213, .int .i64 0]) ?_ 2 _ rfl; (with_reducible repeat (first | refine blk_drewN ?_ _ | refine blk_drew ?_ | refine blk_alloc ?_ _)); refine blk_put (cs := #[.int .i64 t212, .int .i64 0, .int .i64 0]) ?_ 1 _ rfl; (with_reducible repeat (first | refine blk_drewN ?_ _ | refine blk_drew ?_ | refine blk_alloc ?_ _)); refine blk_put (cs := #[.int .i64 0, .int .i64 0, .int .i64 0]) ?_ 0 _ rfl; (with_reducible repeat (first | refine blk_drewN ?_ _ | refine blk_drew ?_ | refine blk_alloc ?_ _)); exact BK207.out) Try.underlying27 rfl (by kernel_rfl) rfl (by (with_reducible repeat (first | refine blk_drewN ?_ _ | refine blk_drew ?_ | refine blk_alloc ?_ _)); refine blk_put (cs := #[.int .i64 t215, .int .i64 t216, .slice none 0 0]) ?_ 2 _ rfl; (with_reducible repeat (first | refine blk_drewN ?_ _ | refine blk_drew ?_ | refine blk_alloc ?_ _)); refine blk_put (cs := #[.int .i64 t215, .int .i64 0, .slice none 0 0]) ?_ 1 _ rfl; (with_reducible repeat (first | refine blk_drewN ?_ _ | refine blk_drew ?_ | refine blk_alloc ?_ _)); refine blk_put (cs := #[.int .i64 0, .int .i64 0, .slice none 0 0]) ?_ 0 _ rfl; (with_reducible repeat (first | refine blk_drewN ?_ _ | refine blk_drew ?_ | refine blk_alloc ?_ _)); refine blk_far ?_ NB208_207.out _; (with_reducible repeat (first | refine blk_drewN ?_ _ | refine blk_drew ?_ | refine blk_alloc ?_ _)); refine blk_far ?_ NB208_207.out _; (with_reducible repeat (first | refine blk_drewN ?_ _ | refine blk_drew ?_ | refine blk_alloc ?_ _)); refine blk_far ?_ NB208_207.out _; (with_reducible repeat (first | refine blk_drewN ?_ _ | refine blk_drew ?_ | refine blk_alloc ?_ _)); exact BK208.out) Try.underlying32 rfl (by kernel_rfl)) rfl ?_
 exact ⟨_, by first | rfl | (simp [errW_none, errW_some] <;> rfl) | (simp [*, errW_none, errW_some] <;> rfl), by (with_reducible repeat (first | apply Kd.R_alloc | apply Kd.R_drewN | apply Kd.R_drew)); exact Kd.R_mono (Kd.R_far (p := ⟨gb208, 2, none⟩) (Kd.R_far (p := ⟨gb208, 1, none⟩) (Kd.R_far (p := ⟨gb208, 0, none⟩) (Kd.R_far (p := ⟨gb207, 2, none⟩) (Kd.R_far (p := ⟨gb207, 1, none⟩) (Kd.R_far (p := ⟨gb207, 0, none⟩) (Kd.R_types (Kd.R_types HO219.out BK207.out (by decide)) BK208.out (by decide)) (fun _ hk => hk.1.2) (.int .i64 t212)) (fun _ hk => hk.1.2) (.int .i64 t213)) (fun _ hk => hk.1.2) (.int .i64 t214)) (fun _ hk => hk.2) (.int .i64 t215)) (fun _ hk => hk.2) (.int .i64 t216)) (fun _ hk => hk.2) (.slice Ao20 t217.length co20)) (fun _ hk => trivial), viaB HB⟩

end Go.Proofs.Ytoklfgjemfojgaa.PFnExactFallOf
