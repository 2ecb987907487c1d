/- This text began as one that print.sh wrote for this claim (of the functions named below); it is this session's own: turned where Lean did not take the printed proof, where it was too long for a claim, or only in what it imports. -/
import Derived.Test.YtoklfgjemfojgaaHFnExactBoardAfterx0
import Derived.Test.YtoklfgjemfojgaaHFnExactBoardAfterx3
import Derived.Test.YtoklfgjemfojgaaHFnExactBoardAfterx6
namespace Go.Proofs.Ytoklfgjemfojgaa.PFnExactBoardAfter
open Go.RowKit Go.Proofs.YtoklfgjemfojgaaW.PrintWords Go.Proofs.YtoklfgjemfojgaaW.PrintLast Go.Proofs.YtoklfgjemfojgaaW.PrintMore
attribute [local go_sem] max2_int min2_int max_two min_two max_three min_three max_four min_four   -- for this text's walks alone
set_option linter.unusedVariables false
set_option linter.unusedSimpArgs false

/-! ### spec_flRun: function 51 -/
def spec_flRun.f (k : Nat) (a0_0 : Int) (a0_1 : Int) (l0_2 : List (S89)) (a1 : Int) : Option (Int × Int × Int × Int × Int × (List (S89))) := (spec_ggGroups.f k a0_0 a0_1 l0_2).bind fun t233 => ((spec_flGo.f k a0_0 a0_1 l0_2 t233 a1).bind fun bt236 => (some (bt236.1, bt236.2.1, bt236.2.2.1, bt236.2.2.2.1, bt236.2.2.2.2.1, bt236.2.2.2.2.2.1)))
theorem spec_flRun.mono : ∀ a0 a1 a2 a3 k, LeO (spec_flRun.f k a0 a1 a2 a3) (spec_flRun.f (k + 1) a0 a1 a2 a3) := by
 intro a0 a1 a2 a3 k
 unfold spec_flRun.f
 repeat' first
   | (with_reducible exact spec_flGo.mono _ _ _ _ _ _)
   | (with_reducible exact spec_ggGroups.mono _ _ _ _)
   | (with_reducible exact LeO.refl _)
   | (with_reducible exact LeO.none _)
   | (with_reducible refine LeO.ite ?_ ?_)
   | (with_reducible refine LeO.bind ?_ (fun _ => ?_))
   | exact spec_flGo.mono _ _ _ _ _ _
   | exact spec_ggGroups.mono _ _ _ _
   | exact LeO.none _
   | refine LeO.ite ?_ ?_
   | refine LeO.bind ?_ (fun _ => ?_)
def spec_flRun.T1 : Bool × List (List Nat × List Nat) := (true, [([], []), ([], []), ([1], [1]), ([], []), ([0, 2, 3, 2], [0, 2, 3]), ([4], [4]), ([5], [5]), ([5], [5]), ([5], [5]), ([], []), ([], []), ([9, 6, 4, 0, 1, 2, 3, 4, 5, 6, 9, 10], [6, 9]), ([10, 7, 11, 0, 1, 2, 3, 4, 5, 6, 7, 9, 10, 11], [7, 10]), ([8, 12, 0, 1, 2, 3, 4, 5, 6, 7, 8, 9, 10, 11, 12], [8])])
def spec_flRun.B1 : List Nat := [0, 0, 2, 0, 15, 31, 63, 63, 63, 0, 0, 1663, 3839, 8191]
theorem spec_flRun.tab1 : rtab .any (opsOf Try.f51 1) = spec_flRun.T1 := by kernel_rfl
theorem spec_flRun.bits1 : waitsOk spec_flRun.T1.2 spec_flRun.B1 = true := by kernel_rfl
set_option maxHeartbeats 8000000 in
set_option maxRecDepth 100000 in
theorem spec_flRun.calls (k : Nat) (a0_0 : Int) (a0_1 : Int) (A0_2 : Option Addr) (c0_2 : Nat) (l0_2 : List (S89)) (a1 : Int) (r1 : Int) (r2 : Int) (r3 : Int) (r4 : Int) (r5 : Int) (r6 : List (S89)) (w : World) (hr0_2 : Kd.C k89 w A0_2 l0_2.length l0_2) (hc0_2 : l0_2.length ≤ c0_2) (h : spec_flRun.f k a0_0 a0_1 l0_2 a1 = some (r1, r2, r3, r4, r5, r6)) :
  Calls Try.prog 51 #[.agg #[.int .i64 a0_0, .int .i64 a0_1, .slice A0_2 l0_2.length c0_2], .int .i64 a1] w fun e w' => ∃ v5_ : Value, e = .returned (.tuple #[.agg #[.int .i64 r1, .int .i64 r2, .int .i64 r3], .agg #[.int .i64 r4, .int .i64 r5, v5_]]) ∧ Kd.R k89 89 w' w.heap.size (fun _ => True) v5_ r6 ∧ Below w.heap.size w w' := by
 have hu32 := Try.underlying32
 have hu27 := Try.underlying27
 have HR0_2 := Aside0.mk hr0_2
 have HC0_2 := Aside0.mk hc0_2
 clear hr0_2 hc0_2
 have HB := Aside0.mk (Below.refl w.heap.size w)
 have H : ((spec_ggGroups.f k a0_0 a0_1 l0_2).bind fun t233 => ((spec_flGo.f k a0_0 a0_1 l0_2 t233 a1).bind fun bt236 => (some (bt236.1, bt236.2.1, bt236.2.2.1, bt236.2.2.2.1, bt236.2.2.2.2.1, bt236.2.2.2.2.2.1)))) = some (r1, r2, r3, r4, r5, r6) := h
 clear h
 replace H := Option.bind_eq_some_iff.mp H
 obtain ⟨t233, A30, H⟩ := H
 replace H : ((spec_flGo.f k a0_0 a0_1 l0_2 t233 a1).bind fun bt236 => (some (bt236.1, bt236.2.1, bt236.2.2.1, bt236.2.2.2.1, bt236.2.2.2.2.1, bt236.2.2.2.2.2.1))) = some (r1, r2, r3, r4, r5, r6) := H
 have A3 := Aside0.mk A30
 clear A30
 replace H := Option.bind_eq_some_iff.mp H
 obtain ⟨⟨t236, t237, t238, t239, t240, t241, t244⟩, A40, H⟩ := H
 replace H : (some (t236, t237, t238, t239, t240, t241)) = some (r1, r2, r3, r4, r5, r6) := H
 have A4 := Aside0.mk A40
 clear A40
 simp only [Option.some.injEq, Prod.mk.injEq] at H
 obtain ⟨rfl, rfl, rfl, rfl, rfl, rfl⟩ := H
 go_enter Try.func51, Try.ntmps51
 try go_wp2_with (first | ((with_reducible refine gate_dst (N := 2) rfl ?_); refine box_ev (N := 2) (cs := #[.int .i64 a0_0, .int .i64 a0_1, .slice A0_2 l0_2.length c0_2]) (t := 32) ?_; intro gb230 hg w5 hbox hb; have BK230 := Aside0.mk (hbox); have GW230 := gW (w := w) HB hg; have GE230 := gW (w := w) HB hg; replace HB := bB HB hb; clear hb hbox hg) | ((with_reducible refine gate_dst (N := 4) rfl ?_); refine box_ev (N := 4) (cs := #[.int .i64 0, .int .i64 0, .int .i64 0]) (t := 27) ?_; intro gb231 hg w6 hbox hb; have BK231 := Aside0.mk (hbox); have GW231 := gW (w := w) HB hg; have GE231 := gW (w := w) HB hg; have NB230_231 := neL BK230 hg; have NB231_230 := neG BK230 hg; replace BK230 := kB BK230 hb; replace HB := bB HB hb; clear hb hbox hg) | ((with_reducible refine gate_dst (N := 5) rfl ?_); refine box_ev (N := 5) (cs := #[.int .i64 0, .int .i64 0, .slice none 0 0]) (t := 32) ?_; intro gb232 hg w7 hbox hb; have BK232 := Aside0.mk (hbox); have GW232 := gW (w := w) HB hg; have GE232 := gW (w := w) HB hg; have NB230_232 := neL BK230 hg; have NB232_230 := neG BK230 hg; have NB231_232 := neL BK231 hg; have NB232_231 := neG BK231 hg; replace BK230 := kB BK230 hb; replace BK231 := kB BK231 hb; replace HB := bB HB hb; clear hb hbox hg))
 replace BK230 := Aside0.mk (blk_drew BK230.out)
 replace BK231 := Aside0.mk (blk_drew BK231.out)
 replace BK232 := Aside0.mk (blk_drew BK232.out)
 replace HB := Aside0.mk (below_drew1 HB.out)
 refine start_ (n := 14) (S := fun w' => w'.cell? ⟨gb230, 0, none⟩ = some (.int .i64 a0_0) ∧ w'.cell? ⟨gb230, 1, none⟩ = some (.int .i64 a0_1) ∧ w'.cell? ⟨gb230, 2, none⟩ = some (.slice A0_2 l0_2.length c0_2)) (ds := []) #[false, false, false, false, false, false, false, false, false, false, false, false, false, false] (by kernel_rfl) rfl rfl ⟨(blk_cell BK230.out 0).trans rfl, (blk_cell BK230.out 1).trans rfl, (blk_cell BK230.out 2).trans rfl⟩ (fun hHeld => ?_); refine with_tabW spec_flRun.tab1 spec_flRun.bits1 (fun HT_ HW_ => ?_)
 generalize w7.drew = w8 at BK230 BK231 BK232 HB hHeld ⊢
 refine pure_ (i := 3) (N := some 13) (v := ?_) (a' := ?_) #[false, false, false, true, false, false, false, false, false, false, false, false, false, false] rfl rfl (any_of HT_.out (by kernel_rfl)) (fun _ _ _ h => h) (Or.inl ⟨by rfl, ?_⟩) ?_ ?_
 rotate_left
 ·intro w'
  go_simp
  with_reducible rfl
 rotate_left
 ·simp only [Act.put, q1, q2, q3, i64_w, i32_w]
  rfl
 refine take_ (i := 0) (N := some 10) (v := ?_) (a' := ?_) #[true, false, false, true, false, false, false, false, false, false, false, false, false, false] rfl rfl (take_ofW HT_.out HW_.out (by kernel_rfl)) (fun _ _ _ h => h) (Or.inl ⟨by rfl, ?_⟩) hHeld ?_ ?_
 rotate_left
 ·rintro w' ⟨s0, s1, s2⟩
  go_simp
  with_reducible rfl
 rotate_left
 ·simp only [Act.put, q1, q2, q3, i64_w, i32_w]
  rfl
 refine take_ (i := 1) (N := some 11) (v := ?_) (a' := ?_) #[true, true, false, true, false, false, false, false, false, false, false, false, false, false] rfl rfl (take_ofW HT_.out HW_.out (by kernel_rfl)) (fun _ _ _ h => h) (Or.inl ⟨by rfl, ?_⟩) hHeld ?_ ?_
 rotate_left
 ·rintro w' ⟨s0, s1, s2⟩
  go_simp
  with_reducible rfl
 rotate_left
 ·simp only [Act.put, q1, q2, q3, i64_w, i32_w]
  rfl
 refine join_ (σ := Value × Value × Value × Nat × Nat) 3 #[true, true, true, true, true, true, true, true, true, true, true, false, false, false] (fun s_ => [(12, s_.1), (14, .tuple #[.agg #[.int .i64 t236, .int .i64 t237, .int .i64 t238], .agg #[.int .i64 t239, .int .i64 t240, s_.2.1], s_.2.2.1]), (6, .pointer (some ⟨s_.2.2.2.1, 0, none⟩)), (7, .pointer (some ⟨s_.2.2.2.2, 0, none⟩)), (9, .tuple #[.agg #[.int .i64 t236, .int .i64 t237, .int .i64 t238], .agg #[.int .i64 t239, .int .i64 t240, s_.2.1], s_.2.2.1]), (15, .agg #[.int .i64 t236, .int .i64 t237, .int .i64 t238]), (16, .agg #[.int .i64 t239, .int .i64 t240, s_.2.1]), (17, s_.2.2.1)]) (fun s_ w' => (w'.cell? ⟨gb230, 0, none⟩ = some (.int .i64 a0_0) ∧ w'.cell? ⟨gb230, 1, none⟩ = some (.int .i64 a0_1) ∧ w'.cell? ⟨gb230, 2, none⟩ = some (.slice A0_2 l0_2.length c0_2)) ∧ (Kd.R (Kd.int .i64) 3 w' w.heap.size (fun _ => True) s_.1 t233) ∧ (Kd.R k89 89 w' w.heap.size (fun _ => True) s_.2.1 t241) ∧ (Kd.S (Kd.slice 3 (Kd.int .i64)) 43 w' w.heap.size (fun k_ => some k_ ≠ (s_.1 : Value).ownBlock) s_.2.2.1 t244) ∧ (w'.heap[gb230]? = some (.cells #[.int .i64 a0_0, .int .i64 a0_1, .slice A0_2 l0_2.length c0_2] 32 (0, 0))) ∧ (w'.heap[gb231]? = some (.cells #[.int .i64 0, .int .i64 0, .int .i64 0] 27 (0, 0))) ∧ (w'.heap[gb232]? = some (.cells #[.int .i64 0, .int .i64 0, .slice none 0 0] 32 (0, 0))) ∧ (w'.heap[s_.2.2.2.1]? = some (.cells #[.int .i64 0, .int .i64 0, .int .i64 0] 27 (0, 0))) ∧ (w'.heap[s_.2.2.2.2]? = some (.cells #[.int .i64 0, .int .i64 0, .slice none 0 0] 32 (0, 0))) ∧ (w.heap.size ≤ s_.2.2.2.1) ∧ (w.heap.size ≤ s_.2.2.2.1) ∧ (gb230 ≠ s_.2.2.2.1) ∧ (s_.2.2.2.1 ≠ gb230) ∧ (gb231 ≠ s_.2.2.2.1) ∧ (s_.2.2.2.1 ≠ gb231) ∧ (gb232 ≠ s_.2.2.2.1) ∧ (s_.2.2.2.1 ≠ gb232) ∧ (s_.2.2.2.2 ≠ s_.2.2.2.1) ∧ (s_.2.2.2.1 ≠ s_.2.2.2.2) ∧ (w.heap.size ≤ s_.2.2.2.2) ∧ (w.heap.size ≤ s_.2.2.2.2) ∧ (gb230 ≠ s_.2.2.2.2) ∧ (s_.2.2.2.2 ≠ gb230) ∧ (gb231 ≠ s_.2.2.2.2) ∧ (s_.2.2.2.2 ≠ gb231) ∧ (gb232 ≠ s_.2.2.2.2) ∧ (s_.2.2.2.2 ≠ gb232) ∧ (Below w.heap.size w w')) ?_ ?_
 rotate_left
 ·intro hJ2_4_9_10
  refine join_ (σ := Value × Value × Value × Nat) 4 #[true, true, true, true, true, true, true, true, true, true, false, false, false, false] (fun s_ => [(12, s_.1), (14, .tuple #[.agg #[.int .i64 t236, .int .i64 t237, .int .i64 t238], .agg #[.int .i64 t239, .int .i64 t240, s_.2.1], s_.2.2.1]), (6, .pointer (some ⟨s_.2.2.2, 0, none⟩)), (9, .tuple #[.agg #[.int .i64 t236, .int .i64 t237, .int .i64 t238], .agg #[.int .i64 t239, .int .i64 t240, s_.2.1], s_.2.2.1]), (15, .agg #[.int .i64 t236, .int .i64 t237, .int .i64 t238]), (16, .agg #[.int .i64 t239, .int .i64 t240, s_.2.1]), (17, s_.2.2.1)]) (fun s_ w' => (w'.cell? ⟨gb230, 0, none⟩ = some (.int .i64 a0_0) ∧ w'.cell? ⟨gb230, 1, none⟩ = some (.int .i64 a0_1) ∧ w'.cell? ⟨gb230, 2, none⟩ = some (.slice A0_2 l0_2.length c0_2)) ∧ (Kd.R (Kd.int .i64) 3 w' w.heap.size (fun _ => True) s_.1 t233) ∧ (Kd.R k89 89 w' w.heap.size (fun _ => True) s_.2.1 t241) ∧ (Kd.S (Kd.slice 3 (Kd.int .i64)) 43 w' w.heap.size (fun k_ => some k_ ≠ (s_.1 : Value).ownBlock) s_.2.2.1 t244) ∧ (w'.heap[gb230]? = some (.cells #[.int .i64 a0_0, .int .i64 a0_1, .slice A0_2 l0_2.length c0_2] 32 (0, 0))) ∧ (w'.heap[gb231]? = some (.cells #[.int .i64 0, .int .i64 0, .int .i64 0] 27 (0, 0))) ∧ (w'.heap[gb232]? = some (.cells #[.int .i64 0, .int .i64 0, .slice none 0 0] 32 (0, 0))) ∧ (w'.heap[s_.2.2.2]? = some (.cells #[.int .i64 0, .int .i64 0, .int .i64 0] 27 (0, 0))) ∧ (w.heap.size ≤ s_.2.2.2) ∧ (w.heap.size ≤ s_.2.2.2) ∧ (gb230 ≠ s_.2.2.2) ∧ (s_.2.2.2 ≠ gb230) ∧ (gb231 ≠ s_.2.2.2) ∧ (s_.2.2.2 ≠ gb231) ∧ (gb232 ≠ s_.2.2.2) ∧ (s_.2.2.2 ≠ gb232) ∧ (Below w.heap.size w w')) ?_ ?_
  rotate_left
  ·intro hJ2_4_9
   refine join_ (σ := Value × Value × Value × Nat) 4 #[true, true, true, true, true, true, true, true, true, false, true, false, false, false] (fun s_ => [(12, s_.1), (14, .tuple #[.agg #[.int .i64 t236, .int .i64 t237, .int .i64 t238], .agg #[.int .i64 t239, .int .i64 t240, s_.2.1], s_.2.2.1]), (7, .pointer (some ⟨s_.2.2.2, 0, none⟩)), (9, .tuple #[.agg #[.int .i64 t236, .int .i64 t237, .int .i64 t238], .agg #[.int .i64 t239, .int .i64 t240, s_.2.1], s_.2.2.1]), (15, .agg #[.int .i64 t236, .int .i64 t237, .int .i64 t238]), (16, .agg #[.int .i64 t239, .int .i64 t240, s_.2.1]), (17, s_.2.2.1)]) (fun s_ w' => (w'.cell? ⟨gb230, 0, none⟩ = some (.int .i64 a0_0) ∧ w'.cell? ⟨gb230, 1, none⟩ = some (.int .i64 a0_1) ∧ w'.cell? ⟨gb230, 2, none⟩ = some (.slice A0_2 l0_2.length c0_2)) ∧ (Kd.R (Kd.int .i64) 3 w' w.heap.size (fun _ => True) s_.1 t233) ∧ (Kd.R k89 89 w' w.heap.size (fun _ => True) s_.2.1 t241) ∧ (Kd.S (Kd.slice 3 (Kd.int .i64)) 43 w' w.heap.size (fun k_ => some k_ ≠ (s_.1 : Value).ownBlock) s_.2.2.1 t244) ∧ (w'.heap[gb230]? = some (.cells #[.int .i64 a0_0, .int .i64 a0_1, .slice A0_2 l0_2.length c0_2] 32 (0, 0))) ∧ (w'.heap[gb231]? = some (.cells #[.int .i64 0, .int .i64 0, .int .i64 0] 27 (0, 0))) ∧ (w'.heap[gb232]? = some (.cells #[.int .i64 0, .int .i64 0, .slice none 0 0] 32 (0, 0))) ∧ (w'.heap[s_.2.2.2]? = some (.cells #[.int .i64 0, .int .i64 0, .slice none 0 0] 32 (0, 0))) ∧ (w.heap.size ≤ s_.2.2.2) ∧ (w.heap.size ≤ s_.2.2.2) ∧ (gb230 ≠ s_.2.2.2) ∧ (s_.2.2.2 ≠ gb230) ∧ (gb231 ≠ s_.2.2.2) ∧ (s_.2.2.2 ≠ gb231) ∧ (gb232 ≠ s_.2.2.2) ∧ (s_.2.2.2 ≠ gb232) ∧ (Below w.heap.size w w')) ?_ ?_
   rotate_left
   ·intro hJ2_4_10
    refine join_ (σ := Value × Nat × Nat) 8 #[true, true, true, true, false, false, false, false, false, true, true, false, false, false] (fun s_ => [(12, s_.1), (6, .pointer (some ⟨s_.2.1, 0, none⟩)), (7, .pointer (some ⟨s_.2.2, 0, none⟩))]) (fun s_ w' => (w'.cell? ⟨gb230, 0, none⟩ = some (.int .i64 a0_0) ∧ w'.cell? ⟨gb230, 1, none⟩ = some (.int .i64 a0_1) ∧ w'.cell? ⟨gb230, 2, none⟩ = some (.slice A0_2 l0_2.length c0_2)) ∧ (Kd.R (Kd.int .i64) 3 w' w.heap.size (fun _ => True) s_.1 t233) ∧ (w'.heap[gb230]? = some (.cells #[.int .i64 a0_0, .int .i64 a0_1, .slice A0_2 l0_2.length c0_2] 32 (0, 0))) ∧ (w'.heap[gb231]? = some (.cells #[.int .i64 0, .int .i64 0, .int .i64 0] 27 (0, 0))) ∧ (w'.heap[gb232]? = some (.cells #[.int .i64 0, .int .i64 0, .slice none 0 0] 32 (0, 0))) ∧ (w'.heap[s_.2.1]? = some (.cells #[.int .i64 0, .int .i64 0, .int .i64 0] 27 (0, 0))) ∧ (w'.heap[s_.2.2]? = some (.cells #[.int .i64 0, .int .i64 0, .slice none 0 0] 32 (0, 0))) ∧ (w.heap.size ≤ s_.2.1) ∧ (w.heap.size ≤ s_.2.1) ∧ (gb230 ≠ s_.2.1) ∧ (s_.2.1 ≠ gb230) ∧ (gb231 ≠ s_.2.1) ∧ (s_.2.1 ≠ gb231) ∧ (gb232 ≠ s_.2.1) ∧ (s_.2.1 ≠ gb232) ∧ (s_.2.2 ≠ s_.2.1) ∧ (s_.2.1 ≠ s_.2.2) ∧ (w.heap.size ≤ s_.2.2) ∧ (w.heap.size ≤ s_.2.2) ∧ (gb230 ≠ s_.2.2) ∧ (s_.2.2 ≠ gb230) ∧ (gb231 ≠ s_.2.2) ∧ (s_.2.2 ≠ gb231) ∧ (gb232 ≠ s_.2.2) ∧ (s_.2.2 ≠ gb232) ∧ (Below w.heap.size w w')) ?_ ?_
    rotate_left
    ·intro hJ2_9_10
     refine join_ (σ := Value × Value × Value) 5 #[true, true, true, true, true, true, true, true, true, false, false, false, false, false] (fun s_ => [(12, s_.1), (14, .tuple #[.agg #[.int .i64 t236, .int .i64 t237, .int .i64 t238], .agg #[.int .i64 t239, .int .i64 t240, s_.2.1], s_.2.2]), (9, .tuple #[.agg #[.int .i64 t236, .int .i64 t237, .int .i64 t238], .agg #[.int .i64 t239, .int .i64 t240, s_.2.1], s_.2.2]), (15, .agg #[.int .i64 t236, .int .i64 t237, .int .i64 t238]), (16, .agg #[.int .i64 t239, .int .i64 t240, s_.2.1]), (17, s_.2.2)]) (fun s_ w' => (w'.cell? ⟨gb230, 0, none⟩ = some (.int .i64 a0_0) ∧ w'.cell? ⟨gb230, 1, none⟩ = some (.int .i64 a0_1) ∧ w'.cell? ⟨gb230, 2, none⟩ = some (.slice A0_2 l0_2.length c0_2)) ∧ (Kd.R (Kd.int .i64) 3 w' w.heap.size (fun _ => True) s_.1 t233) ∧ (Kd.R k89 89 w' w.heap.size (fun _ => True) s_.2.1 t241) ∧ (Kd.S (Kd.slice 3 (Kd.int .i64)) 43 w' w.heap.size (fun k_ => some k_ ≠ (s_.1 : Value).ownBlock) s_.2.2 t244) ∧ (w'.heap[gb230]? = some (.cells #[.int .i64 a0_0, .int .i64 a0_1, .slice A0_2 l0_2.length c0_2] 32 (0, 0))) ∧ (w'.heap[gb231]? = some (.cells #[.int .i64 0, .int .i64 0, .int .i64 0] 27 (0, 0))) ∧ (w'.heap[gb232]? = some (.cells #[.int .i64 0, .int .i64 0, .slice none 0 0] 32 (0, 0))) ∧ (Below w.heap.size w w')) ?_ ?_
     rotate_left
     ·intro hJ2_4
      refine join_ (σ := Value × Nat) 9 #[true, true, true, true, false, false, false, false, false, true, false, false, false, false] (fun s_ => [(12, s_.1), (6, .pointer (some ⟨s_.2, 0, none⟩))]) (fun s_ w' => (w'.cell? ⟨gb230, 0, none⟩ = some (.int .i64 a0_0) ∧ w'.cell? ⟨gb230, 1, none⟩ = some (.int .i64 a0_1) ∧ w'.cell? ⟨gb230, 2, none⟩ = some (.slice A0_2 l0_2.length c0_2)) ∧ (Kd.R (Kd.int .i64) 3 w' w.heap.size (fun _ => True) s_.1 t233) ∧ (w'.heap[gb230]? = some (.cells #[.int .i64 a0_0, .int .i64 a0_1, .slice A0_2 l0_2.length c0_2] 32 (0, 0))) ∧ (w'.heap[gb231]? = some (.cells #[.int .i64 0, .int .i64 0, .int .i64 0] 27 (0, 0))) ∧ (w'.heap[gb232]? = some (.cells #[.int .i64 0, .int .i64 0, .slice none 0 0] 32 (0, 0))) ∧ (w'.heap[s_.2]? = some (.cells #[.int .i64 0, .int .i64 0, .int .i64 0] 27 (0, 0))) ∧ (w.heap.size ≤ s_.2) ∧ (w.heap.size ≤ s_.2) ∧ (gb230 ≠ s_.2) ∧ (s_.2 ≠ gb230) ∧ (gb231 ≠ s_.2) ∧ (s_.2 ≠ gb231) ∧ (gb232 ≠ s_.2) ∧ (s_.2 ≠ gb232) ∧ (Below w.heap.size w w')) ?_ ?_
      rotate_left
      ·intro hJ2_9
       refine join_ (σ := Value × Nat) 9 #[true, true, true, true, false, false, false, false, false, false, true, false, false, false] (fun s_ => [(12, s_.1), (7, .pointer (some ⟨s_.2, 0, none⟩))]) (fun s_ w' => (w'.cell? ⟨gb230, 0, none⟩ = some (.int .i64 a0_0) ∧ w'.cell? ⟨gb230, 1, none⟩ = some (.int .i64 a0_1) ∧ w'.cell? ⟨gb230, 2, none⟩ = some (.slice A0_2 l0_2.length c0_2)) ∧ (Kd.R (Kd.int .i64) 3 w' w.heap.size (fun _ => True) s_.1 t233) ∧ (w'.heap[gb230]? = some (.cells #[.int .i64 a0_0, .int .i64 a0_1, .slice A0_2 l0_2.length c0_2] 32 (0, 0))) ∧ (w'.heap[gb231]? = some (.cells #[.int .i64 0, .int .i64 0, .int .i64 0] 27 (0, 0))) ∧ (w'.heap[gb232]? = some (.cells #[.int .i64 0, .int .i64 0, .slice none 0 0] 32 (0, 0))) ∧ (w'.heap[s_.2]? = some (.cells #[.int .i64 0, .int .i64 0, .slice none 0 0] 32 (0, 0))) ∧ (w.heap.size ≤ s_.2) ∧ (w.heap.size ≤ s_.2) ∧ (gb230 ≠ s_.2) ∧ (s_.2 ≠ gb230) ∧ (gb231 ≠ s_.2) ∧ (s_.2 ≠ gb231) ∧ (gb232 ≠ s_.2) ∧ (s_.2 ≠ gb232) ∧ (Below w.heap.size w w')) ?_ ?_
       rotate_left
       ·intro hJ2_10
        refine join_ (σ := Nat × Nat) 9 #[true, true, false, true, false, false, false, false, false, true, true, false, false, false] (fun s_ => [(6, .pointer (some ⟨s_.1, 0, none⟩)), (7, .pointer (some ⟨s_.2, 0, none⟩))]) (fun s_ w' => (w'.cell? ⟨gb230, 0, none⟩ = some (.int .i64 a0_0) ∧ w'.cell? ⟨gb230, 1, none⟩ = some (.int .i64 a0_1) ∧ w'.cell? ⟨gb230, 2, none⟩ = some (.slice A0_2 l0_2.length c0_2)) ∧ (w'.heap[gb230]? = some (.cells #[.int .i64 a0_0, .int .i64 a0_1, .slice A0_2 l0_2.length c0_2] 32 (0, 0))) ∧ (w'.heap[gb231]? = some (.cells #[.int .i64 0, .int .i64 0, .int .i64 0] 27 (0, 0))) ∧ (w'.heap[gb232]? = some (.cells #[.int .i64 0, .int .i64 0, .slice none 0 0] 32 (0, 0))) ∧ (w'.heap[s_.1]? = some (.cells #[.int .i64 0, .int .i64 0, .int .i64 0] 27 (0, 0))) ∧ (w'.heap[s_.2]? = some (.cells #[.int .i64 0, .int .i64 0, .slice none 0 0] 32 (0, 0))) ∧ (w.heap.size ≤ s_.1) ∧ (w.heap.size ≤ s_.1) ∧ (gb230 ≠ s_.1) ∧ (s_.1 ≠ gb230) ∧ (gb231 ≠ s_.1) ∧ (s_.1 ≠ gb231) ∧ (gb232 ≠ s_.1) ∧ (s_.1 ≠ gb232) ∧ (s_.2 ≠ s_.1) ∧ (s_.1 ≠ s_.2) ∧ (w.heap.size ≤ s_.2) ∧ (w.heap.size ≤ s_.2) ∧ (gb230 ≠ s_.2) ∧ (s_.2 ≠ gb230) ∧ (gb231 ≠ s_.2) ∧ (s_.2 ≠ gb231) ∧ (gb232 ≠ s_.2) ∧ (s_.2 ≠ gb232) ∧ (Below w.heap.size w w')) ?_ ?_
        rotate_left
        ·intro hJ9_10
         refine join_ (σ := Value) 10 #[true, true, true, true, false, false, false, false, false, false, false, false, false, false] (fun s_ => [(12, s_)]) (fun s_ w' => (w'.cell? ⟨gb230, 0, none⟩ = some (.int .i64 a0_0) ∧ w'.cell? ⟨gb230, 1, none⟩ = some (.int .i64 a0_1) ∧ w'.cell? ⟨gb230, 2, none⟩ = some (.slice A0_2 l0_2.length c0_2)) ∧ (Kd.R (Kd.int .i64) 3 w' w.heap.size (fun _ => True) s_ t233) ∧ (w'.heap[gb230]? = some (.cells #[.int .i64 a0_0, .int .i64 a0_1, .slice A0_2 l0_2.length c0_2] 32 (0, 0))) ∧ (w'.heap[gb231]? = some (.cells #[.int .i64 0, .int .i64 0, .int .i64 0] 27 (0, 0))) ∧ (w'.heap[gb232]? = some (.cells #[.int .i64 0, .int .i64 0, .slice none 0 0] 32 (0, 0))) ∧ (Below w.heap.size w w')) ?_ ?_
         rotate_left
         ·intro hJ2
          refine join_ (σ := Nat) 10 #[true, true, false, true, false, false, false, false, false, true, false, false, false, false] (fun s_ => [(6, .pointer (some ⟨s_, 0, none⟩))]) (fun s_ w' => (w'.cell? ⟨gb230, 0, none⟩ = some (.int .i64 a0_0) ∧ w'.cell? ⟨gb230, 1, none⟩ = some (.int .i64 a0_1) ∧ w'.cell? ⟨gb230, 2, none⟩ = some (.slice A0_2 l0_2.length c0_2)) ∧ (w'.heap[gb230]? = some (.cells #[.int .i64 a0_0, .int .i64 a0_1, .slice A0_2 l0_2.length c0_2] 32 (0, 0))) ∧ (w'.heap[gb231]? = some (.cells #[.int .i64 0, .int .i64 0, .int .i64 0] 27 (0, 0))) ∧ (w'.heap[gb232]? = some (.cells #[.int .i64 0, .int .i64 0, .slice none 0 0] 32 (0, 0))) ∧ (w'.heap[s_]? = some (.cells #[.int .i64 0, .int .i64 0, .int .i64 0] 27 (0, 0))) ∧ (w.heap.size ≤ s_) ∧ (w.heap.size ≤ s_) ∧ (gb230 ≠ s_) ∧ (s_ ≠ gb230) ∧ (gb231 ≠ s_) ∧ (s_ ≠ gb231) ∧ (gb232 ≠ s_) ∧ (s_ ≠ gb232) ∧ (Below w.heap.size w w')) ?_ ?_
          rotate_left
          ·intro hJ9
           refine join_ (σ := Nat) 10 #[true, true, false, true, false, false, false, false, false, false, true, false, false, false] (fun s_ => [(7, .pointer (some ⟨s_, 0, none⟩))]) (fun s_ w' => (w'.cell? ⟨gb230, 0, none⟩ = some (.int .i64 a0_0) ∧ w'.cell? ⟨gb230, 1, none⟩ = some (.int .i64 a0_1) ∧ w'.cell? ⟨gb230, 2, none⟩ = some (.slice A0_2 l0_2.length c0_2)) ∧ (w'.heap[gb230]? = some (.cells #[.int .i64 a0_0, .int .i64 a0_1, .slice A0_2 l0_2.length c0_2] 32 (0, 0))) ∧ (w'.heap[gb231]? = some (.cells #[.int .i64 0, .int .i64 0, .int .i64 0] 27 (0, 0))) ∧ (w'.heap[gb232]? = some (.cells #[.int .i64 0, .int .i64 0, .slice none 0 0] 32 (0, 0))) ∧ (w'.heap[s_]? = some (.cells #[.int .i64 0, .int .i64 0, .slice none 0 0] 32 (0, 0))) ∧ (w.heap.size ≤ s_) ∧ (w.heap.size ≤ s_) ∧ (gb230 ≠ s_) ∧ (s_ ≠ gb230) ∧ (gb231 ≠ s_) ∧ (s_ ≠ gb231) ∧ (gb232 ≠ s_) ∧ (s_ ≠ gb232) ∧ (Below w.heap.size w w')) ?_ ?_
           rotate_left
           ·intro hJ10
            refine three_ (i := 2) (j := 9) (k := 10) (Ni := some 12) (Nj := some 6) (Nk := some 7) #[true, true, true, true, false, false, false, false, false, false, false, false, false, false] #[true, true, false, true, false, false, false, false, false, true, false, false, false, false] #[true, true, false, true, false, false, false, false, false, false, true, false, false, false] rfl rfl rfl rfl rfl rfl (three_of HT_.out (by kernel_rfl)) (by decide) (by decide) (by decide) (fun K hK => ?_) (fun K hK => ?_) (fun K hK => ?_)
            ·skip
             refine goes_ Try.func62 (by kernel_rfl) rfl #[.agg #[.int .i64 a0_0, .int .i64 a0_1, .slice A0_2 l0_2.length c0_2]] (by rfl) rfl rfl (by (try simp only [List.map_toArray, List.map_cons, List.map_nil]); first | done | rfl | (simp only [List.length_drop, List.length_take]; rfl)) ?_
             with_reducible refine (spec_ggGroups.calls k a0_0 a0_1 _ _ l0_2 t233 _ ?side1 ?side2 A3.out).mono ?_
             (case side1 => repeat (first | exact (Kd.C_below HR0_2.out HB.out) | (with_reducible refine Kd.C_alloc ?_ _) | (with_reducible refine Kd.C_drewN ?_ _) | (with_reducible refine Kd.C_drew ?_)))
             (case side2 => exact HC0_2.out)
             rintro e w9 ⟨v234, rfl, ho0, hb⟩
             refine ⟨_, rfl, ?_⟩
             have HO235 := Aside0.mk (Kd.R_lower ho0 (below_size (viaB HB)))
             replace BK230 := kB BK230 hb
             replace BK231 := kB BK231 hb
             replace BK232 := kB BK232 hb
             replace HB := bB HB hb
             (try clear hb); (try clear hb2); (try clear hk); (try clear hi); (try clear ho0)
             refine hK.out _ _ ⟨(blk_cell BK230.out 0).trans rfl, (blk_cell BK230.out 1).trans rfl, (blk_cell BK230.out 2).trans rfl⟩ (fun hHeld => ?_)
             clear hK K
             refine norm_ (a' := ?_) ?_ ?_
             rotate_left
             ·show Act.put _ (some 12) _ = _
              simp only [Act.put, q1, q2, q3, i64_w, i32_w]
              rfl
             exact norm_ (by first | (simp only [putAll, Act.put, q1, q2, q3]; done) | (simp only [putAll, Act.put, q1, q2, q3]; rfl)) (hJ2 (v234) _ ⟨hHeld, (viaR HO235), (viaK BK230), (viaK BK231), (viaK BK232), (viaB HB)⟩)
            ·skip
             refine box_step ?hg (N := 6) ?hd (cs := #[.int .i64 0, .int .i64 0, .int .i64 0]) (t := 27) ?hr ?_; (case hd => rfl); (case hg => rfl); (case hr => first | (go_simp; done) | (go_simp; rfl))
             intro gb247 hg w9 hbox hb
             have BK247 := Aside0.mk (hbox)
             have GW247 := gW (w := w) HB hg
             have GE247 := gW (w := w) HB hg
             have NB230_247 := neL BK230 hg
             have NB247_230 := neG BK230 hg
             have NB231_247 := neL BK231 hg
             have NB247_231 := neG BK231 hg
             have NB232_247 := neL BK232 hg
             have NB247_232 := neG BK232 hg
             replace BK230 := kB BK230 hb
             replace BK231 := kB BK231 hb
             replace BK232 := kB BK232 hb
             replace HB := bB HB hb
             clear hb hbox hg
             refine hK.out _ _ ⟨(blk_cell BK230.out 0).trans rfl, (blk_cell BK230.out 1).trans rfl, (blk_cell BK230.out 2).trans rfl⟩ (fun hHeld => ?_)
             clear hK K
             refine norm_ (a' := ?_) ?_ ?_
             rotate_left
             ·show Act.put _ (some 6) _ = _
              simp only [Act.put, q1, q2, q3, i64_w, i32_w]
              rfl
             exact norm_ (by first | (simp only [putAll, Act.put, q1, q2, q3]; done) | (simp only [putAll, Act.put, q1, q2, q3]; rfl)) (hJ9 (gb247) _ ⟨hHeld, (viaK BK230), (viaK BK231), (viaK BK232), (viaK BK247), GW247.out, GE247.out, NB230_247.out, NB247_230.out, NB231_247.out, NB247_231.out, NB232_247.out, NB247_232.out, (viaB HB)⟩)
            ·skip
             refine box_step ?hg (N := 7) ?hd (cs := #[.int .i64 0, .int .i64 0, .slice none 0 0]) (t := 32) ?hr ?_; (case hd => rfl); (case hg => rfl); (case hr => first | (go_simp; done) | (go_simp; rfl))
             intro gb248 hg w9 hbox hb
             have BK248 := Aside0.mk (hbox)
             have GW248 := gW (w := w) HB hg
             have GE248 := gW (w := w) HB hg
             have NB230_248 := neL BK230 hg
             have NB248_230 := neG BK230 hg
             have NB231_248 := neL BK231 hg
             have NB248_231 := neG BK231 hg
             have NB232_248 := neL BK232 hg
             have NB248_232 := neG BK232 hg
             replace BK230 := kB BK230 hb
             replace BK231 := kB BK231 hb
             replace BK232 := kB BK232 hb
             replace HB := bB HB hb
             clear hb hbox hg
             refine hK.out _ _ ⟨(blk_cell BK230.out 0).trans rfl, (blk_cell BK230.out 1).trans rfl, (blk_cell BK230.out 2).trans rfl⟩ (fun hHeld => ?_)
             clear hK K
             refine norm_ (a' := ?_) ?_ ?_
             rotate_left
             ·show Act.put _ (some 7) _ = _
              simp only [Act.put, q1, q2, q3, i64_w, i32_w]
              rfl
             exact norm_ (by first | (simp only [putAll, Act.put, q1, q2, q3]; done) | (simp only [putAll, Act.put, q1, q2, q3]; rfl)) (hJ10 (gb248) _ ⟨hHeld, (viaK BK230), (viaK BK231), (viaK BK232), (viaK BK248), GW248.out, GE248.out, NB230_248.out, NB248_230.out, NB231_248.out, NB248_231.out, NB232_248.out, NB248_232.out, (viaB HB)⟩)
           ·skip
            rintro gb248 w10 ⟨hS_, h0_, h1_, h2_, h3_, h4_, h5_, h6_, h7_, h8_, h9_, h10_, h11_, h12_⟩
            have BK248 : Aside0 (w10.heap[gb248]? = some (.cells #[.int .i64 0, .int .i64 0, .slice none 0 0] 32 (0, 0))) := ⟨h3_⟩
            have GW248 : Aside0 (w.heap.size ≤ gb248) := ⟨h4_⟩
            have GE248 : Aside0 (w.heap.size ≤ gb248) := ⟨h5_⟩
            have NB230_248 : Aside0 (gb230 ≠ gb248) := ⟨h6_⟩
            have NB248_230 : Aside0 (gb248 ≠ gb230) := ⟨h7_⟩
            have NB231_248 : Aside0 (gb231 ≠ gb248) := ⟨h8_⟩
            have NB248_231 : Aside0 (gb248 ≠ gb231) := ⟨h9_⟩
            have NB232_248 : Aside0 (gb232 ≠ gb248) := ⟨h10_⟩
            have NB248_232 : Aside0 (gb248 ≠ gb232) := ⟨h11_⟩
            replace BK230 : Aside0 (w10.heap[gb230]? = some (.cells #[.int .i64 a0_0, .int .i64 a0_1, .slice A0_2 l0_2.length c0_2] 32 (0, 0))) := ⟨h0_⟩
            replace BK231 : Aside0 (w10.heap[gb231]? = some (.cells #[.int .i64 0, .int .i64 0, .int .i64 0] 27 (0, 0))) := ⟨h1_⟩
            replace BK232 : Aside0 (w10.heap[gb232]? = some (.cells #[.int .i64 0, .int .i64 0, .slice none 0 0] 32 (0, 0))) := ⟨h2_⟩
            replace HB : Aside0 (Below w.heap.size w w10) := ⟨h12_⟩
            clear h0_ h1_ h2_ h3_ h4_ h5_ h6_ h7_ h8_ h9_ h10_ h11_ h12_
            have hHeld : w10.cell? ⟨gb230, 0, none⟩ = some (.int .i64 a0_0) ∧ w10.cell? ⟨gb230, 1, none⟩ = some (.int .i64 a0_1) ∧ w10.cell? ⟨gb230, 2, none⟩ = some (.slice A0_2 l0_2.length c0_2) := hS_
            refine norm_ (a' := ?_) ?_ ?_
            rotate_left
            ·simp only [putAll, Act.put, q1, q2, q3]
             rfl
            refine two_ (i := 2) (j := 9) (Ni := some 12) (Nj := some 6) #[true, true, true, true, false, false, false, false, false, false, true, false, false, false] #[true, true, false, true, false, false, false, false, false, true, true, false, false, false] rfl rfl rfl rfl (two_of HT_.out (by kernel_rfl)) (by decide) (by decide) (fun K hK => ?_) (fun K hK => ?_)
            ·skip
             refine goes_ Try.func62 (by kernel_rfl) rfl #[.agg #[.int .i64 a0_0, .int .i64 a0_1, .slice A0_2 l0_2.length c0_2]] (by rfl) rfl rfl (by (try simp only [List.map_toArray, List.map_cons, List.map_nil]); first | done | rfl | (simp only [List.length_drop, List.length_take]; rfl)) ?_
             with_reducible refine (spec_ggGroups.calls k a0_0 a0_1 _ _ l0_2 t233 _ ?side1 ?side2 A3.out).mono ?_
             (case side1 => repeat (first | exact (Kd.C_below HR0_2.out HB.out) | (with_reducible refine Kd.C_alloc ?_ _) | (with_reducible refine Kd.C_drewN ?_ _) | (with_reducible refine Kd.C_drew ?_)))
             (case side2 => exact HC0_2.out)
             rintro e w11 ⟨v234, rfl, ho0, hb⟩
             refine ⟨_, rfl, ?_⟩
             have HO235 := Aside0.mk (Kd.R_lower ho0 (below_size (viaB HB)))
             replace BK230 := kB BK230 hb
             replace BK231 := kB BK231 hb
             replace BK232 := kB BK232 hb
             replace BK248 := kB BK248 hb
             replace HB := bB HB hb
             (try clear hb); (try clear hb2); (try clear hk); (try clear hi); (try clear ho0)
             refine hK.out _ _ ⟨(blk_cell BK230.out 0).trans rfl, (blk_cell BK230.out 1).trans rfl, (blk_cell BK230.out 2).trans rfl⟩ (fun hHeld => ?_)
             clear hK K
             refine norm_ (a' := ?_) ?_ ?_
             rotate_left
             ·show Act.put _ (some 12) _ = _
              simp only [Act.put, q1, q2, q3, i64_w, i32_w]
              rfl
             exact norm_ (by first | (simp only [putAll, Act.put, q1, q2, q3]; done) | (simp only [putAll, Act.put, q1, q2, q3]; rfl)) (hJ2_10 (v234, gb248) _ ⟨hHeld, (viaR HO235), (viaK BK230), (viaK BK231), (viaK BK232), (viaK BK248), GW248.out, GE248.out, NB230_248.out, NB248_230.out, NB231_248.out, NB248_231.out, NB232_248.out, NB248_232.out, (viaB HB)⟩)
            ·skip
             refine box_step ?hg (N := 6) ?hd (cs := #[.int .i64 0, .int .i64 0, .int .i64 0]) (t := 27) ?hr ?_; (case hd => rfl); (case hg => rfl); (case hr => first | (go_simp; done) | (go_simp; rfl))
             intro gb247 hg w11 hbox hb
             have BK247 := Aside0.mk (hbox)
             have GW247 := gW (w := w) HB hg
             have GE247 := gW (w := w) HB hg
             have NB230_247 := neL BK230 hg
             have NB247_230 := neG BK230 hg
             have NB231_247 := neL BK231 hg
             have NB247_231 := neG BK231 hg
             have NB232_247 := neL BK232 hg
             have NB247_232 := neG BK232 hg
             have NB248_247 := neL BK248 hg
             have NB247_248 := neG BK248 hg
             replace BK230 := kB BK230 hb
             replace BK231 := kB BK231 hb
             replace BK232 := kB BK232 hb
             replace BK248 := kB BK248 hb
             replace HB := bB HB hb
             clear hb hbox hg
             refine hK.out _ _ ⟨(blk_cell BK230.out 0).trans rfl, (blk_cell BK230.out 1).trans rfl, (blk_cell BK230.out 2).trans rfl⟩ (fun hHeld => ?_)
             clear hK K
             refine norm_ (a' := ?_) ?_ ?_
             rotate_left
             ·show Act.put _ (some 6) _ = _
              simp only [Act.put, q1, q2, q3, i64_w, i32_w]
              rfl
             exact norm_ (by first | (simp only [putAll, Act.put, q1, q2, q3]; done) | (simp only [putAll, Act.put, q1, q2, q3]; rfl)) (hJ9_10 (gb247, gb248) _ ⟨hHeld, (viaK BK230), (viaK BK231), (viaK BK232), (viaK BK247), (viaK BK248), GW247.out, GE247.out, NB230_247.out, NB247_230.out, NB231_247.out, NB247_231.out, NB232_247.out, NB247_232.out, NB248_247.out, NB247_248.out, GW248.out, GE248.out, NB230_248.out, NB248_230.out, NB231_248.out, NB248_231.out, NB232_248.out, NB248_232.out, (viaB HB)⟩)
          ·skip
           rintro gb247 w10 ⟨hS_, h0_, h1_, h2_, h3_, h4_, h5_, h6_, h7_, h8_, h9_, h10_, h11_, h12_⟩
           have BK247 : Aside0 (w10.heap[gb247]? = some (.cells #[.int .i64 0, .int .i64 0, .int .i64 0] 27 (0, 0))) := ⟨h3_⟩
           have GW247 : Aside0 (w.heap.size ≤ gb247) := ⟨h4_⟩
           have GE247 : Aside0 (w.heap.size ≤ gb247) := ⟨h5_⟩
           have NB230_247 : Aside0 (gb230 ≠ gb247) := ⟨h6_⟩
           have NB247_230 : Aside0 (gb247 ≠ gb230) := ⟨h7_⟩
           have NB231_247 : Aside0 (gb231 ≠ gb247) := ⟨h8_⟩
           have NB247_231 : Aside0 (gb247 ≠ gb231) := ⟨h9_⟩
           have NB232_247 : Aside0 (gb232 ≠ gb247) := ⟨h10_⟩
           have NB247_232 : Aside0 (gb247 ≠ gb232) := ⟨h11_⟩
           replace BK230 : Aside0 (w10.heap[gb230]? = some (.cells #[.int .i64 a0_0, .int .i64 a0_1, .slice A0_2 l0_2.length c0_2] 32 (0, 0))) := ⟨h0_⟩
           replace BK231 : Aside0 (w10.heap[gb231]? = some (.cells #[.int .i64 0, .int .i64 0, .int .i64 0] 27 (0, 0))) := ⟨h1_⟩
           replace BK232 : Aside0 (w10.heap[gb232]? = some (.cells #[.int .i64 0, .int .i64 0, .slice none 0 0] 32 (0, 0))) := ⟨h2_⟩
           replace HB : Aside0 (Below w.heap.size w w10) := ⟨h12_⟩
           clear h0_ h1_ h2_ h3_ h4_ h5_ h6_ h7_ h8_ h9_ h10_ h11_ h12_
           have hHeld : w10.cell? ⟨gb230, 0, none⟩ = some (.int .i64 a0_0) ∧ w10.cell? ⟨gb230, 1, none⟩ = some (.int .i64 a0_1) ∧ w10.cell? ⟨gb230, 2, none⟩ = some (.slice A0_2 l0_2.length c0_2) := hS_
           refine norm_ (a' := ?_) ?_ ?_
           rotate_left
           ·simp only [putAll, Act.put, q1, q2, q3]
            rfl
           refine two_ (i := 2) (j := 10) (Ni := some 12) (Nj := some 7) #[true, true, true, true, false, false, false, false, false, true, false, false, false, false] #[true, true, false, true, false, false, false, false, false, true, true, false, false, false] rfl rfl rfl rfl (two_of HT_.out (by kernel_rfl)) (by decide) (by decide) (fun K hK => ?_) (fun K hK => ?_)
           ·skip
            refine goes_ Try.func62 (by kernel_rfl) rfl #[.agg #[.int .i64 a0_0, .int .i64 a0_1, .slice A0_2 l0_2.length c0_2]] (by rfl) rfl rfl (by (try simp only [List.map_toArray, List.map_cons, List.map_nil]); first | done | rfl | (simp only [List.length_drop, List.length_take]; rfl)) ?_
            with_reducible refine (spec_ggGroups.calls k a0_0 a0_1 _ _ l0_2 t233 _ ?side1 ?side2 A3.out).mono ?_
            (case side1 => repeat (first | exact (Kd.C_below HR0_2.out HB.out) | (with_reducible refine Kd.C_alloc ?_ _) | (with_reducible refine Kd.C_drewN ?_ _) | (with_reducible refine Kd.C_drew ?_)))
            (case side2 => exact HC0_2.out)
            rintro e w11 ⟨v234, rfl, ho0, hb⟩
            refine ⟨_, rfl, ?_⟩
            have HO235 := Aside0.mk (Kd.R_lower ho0 (below_size (viaB HB)))
            replace BK230 := kB BK230 hb
            replace BK231 := kB BK231 hb
            replace BK232 := kB BK232 hb
            replace BK247 := kB BK247 hb
            replace HB := bB HB hb
            (try clear hb); (try clear hb2); (try clear hk); (try clear hi); (try clear ho0)
            refine hK.out _ _ ⟨(blk_cell BK230.out 0).trans rfl, (blk_cell BK230.out 1).trans rfl, (blk_cell BK230.out 2).trans rfl⟩ (fun hHeld => ?_)
            clear hK K
            refine norm_ (a' := ?_) ?_ ?_
            rotate_left
            ·show Act.put _ (some 12) _ = _
             simp only [Act.put, q1, q2, q3, i64_w, i32_w]
             rfl
            exact norm_ (by first | (simp only [putAll, Act.put, q1, q2, q3]; done) | (simp only [putAll, Act.put, q1, q2, q3]; rfl)) (hJ2_9 (v234, gb247) _ ⟨hHeld, (viaR HO235), (viaK BK230), (viaK BK231), (viaK BK232), (viaK BK247), GW247.out, GE247.out, NB230_247.out, NB247_230.out, NB231_247.out, NB247_231.out, NB232_247.out, NB247_232.out, (viaB HB)⟩)
           ·skip
            refine box_step ?hg (N := 7) ?hd (cs := #[.int .i64 0, .int .i64 0, .slice none 0 0]) (t := 32) ?hr ?_; (case hd => rfl); (case hg => rfl); (case hr => first | (go_simp; done) | (go_simp; rfl))
            intro gb248 hg w11 hbox hb
            have BK248 := Aside0.mk (hbox)
            have GW248 := gW (w := w) HB hg
            have GE248 := gW (w := w) HB hg
            have NB230_248 := neL BK230 hg
            have NB248_230 := neG BK230 hg
            have NB231_248 := neL BK231 hg
            have NB248_231 := neG BK231 hg
            have NB232_248 := neL BK232 hg
            have NB248_232 := neG BK232 hg
            have NB247_248 := neL BK247 hg
            have NB248_247 := neG BK247 hg
            replace BK230 := kB BK230 hb
            replace BK231 := kB BK231 hb
            replace BK232 := kB BK232 hb
            replace BK247 := kB BK247 hb
            replace HB := bB HB hb
            clear hb hbox hg
            refine hK.out _ _ ⟨(blk_cell BK230.out 0).trans rfl, (blk_cell BK230.out 1).trans rfl, (blk_cell BK230.out 2).trans rfl⟩ (fun hHeld => ?_)
            clear hK K
            refine norm_ (a' := ?_) ?_ ?_
            rotate_left
            ·show Act.put _ (some 7) _ = _
             simp only [Act.put, q1, q2, q3, i64_w, i32_w]
             rfl
            exact norm_ (by first | (simp only [putAll, Act.put, q1, q2, q3]; done) | (simp only [putAll, Act.put, q1, q2, q3]; rfl)) (hJ9_10 (gb247, gb248) _ ⟨hHeld, (viaK BK230), (viaK BK231), (viaK BK232), (viaK BK247), (viaK BK248), GW247.out, GE247.out, NB230_247.out, NB247_230.out, NB231_247.out, NB247_231.out, NB232_247.out, NB247_232.out, NB248_247.out, NB247_248.out, GW248.out, GE248.out, NB230_248.out, NB248_230.out, NB231_248.out, NB248_231.out, NB232_248.out, NB248_232.out, (viaB HB)⟩)
         ·skip
          rintro v234 w10 ⟨hS_, h0_, h1_, h2_, h3_, h4_⟩
          have HO235 : Aside0 (Kd.R (Kd.int .i64) 3 w10 w.heap.size (fun _ => True) v234 t233) := ⟨h0_⟩
          replace BK230 : Aside0 (w10.heap[gb230]? = some (.cells #[.int .i64 a0_0, .int .i64 a0_1, .slice A0_2 l0_2.length c0_2] 32 (0, 0))) := ⟨h1_⟩
          replace BK231 : Aside0 (w10.heap[gb231]? = some (.cells #[.int .i64 0, .int .i64 0, .int .i64 0] 27 (0, 0))) := ⟨h2_⟩
          replace BK232 : Aside0 (w10.heap[gb232]? = some (.cells #[.int .i64 0, .int .i64 0, .slice none 0 0] 32 (0, 0))) := ⟨h3_⟩
          replace HB : Aside0 (Below w.heap.size w w10) := ⟨h4_⟩
          clear h0_ h1_ h2_ h3_ h4_
          have hHeld : w10.cell? ⟨gb230, 0, none⟩ = some (.int .i64 a0_0) ∧ w10.cell? ⟨gb230, 1, none⟩ = some (.int .i64 a0_1) ∧ w10.cell? ⟨gb230, 2, none⟩ = some (.slice A0_2 l0_2.length c0_2) := hS_
          obtain ⟨Ao11, co11, eo11⟩ := Kd.R_slice HO235.out
          (first | subst eo11 | (injection eo11 with f1_ f2_ f3_; have f4_ := f1_.symm; have f5_ := f3_.symm; clear f1_ f2_ f3_; subst f4_; subst f5_))
          refine norm_ (a' := ?_) ?_ ?_
          rotate_left
          ·simp only [putAll, Act.put, q1, q2, q3]
           rfl
          refine three_ (i := 4) (j := 9) (k := 10) (Ni := some 14) (Nj := some 6) (Nk := some 7) #[true, true, true, true, true, false, false, false, false, false, false, false, false, false] #[true, true, true, true, false, false, false, false, false, true, false, false, false, false] #[true, true, true, true, false, false, false, false, false, false, true, false, false, false] rfl rfl rfl rfl rfl rfl (three_of HT_.out (by kernel_rfl)) (by decide) (by decide) (by decide) (fun K hK => ?_) (fun K hK => ?_) (fun K hK => ?_)
          ·skip
           refine goes_ Try.func63 (by kernel_rfl) rfl #[.agg #[.int .i64 a0_0, .int .i64 a0_1, .slice A0_2 l0_2.length c0_2], .slice Ao11 t233.length co11, .int .i64 a1] (by rfl) rfl rfl (by (try simp only [List.map_toArray, List.map_cons, List.map_nil]); first | done | rfl | (simp only [List.length_drop, List.length_take]; rfl)) ?_
           with_reducible refine (spec_flGo.calls k a0_0 a0_1 _ _ l0_2 _ _ t233 a1 t236 t237 t238 t239 t240 t241 t244 _ ?side1 ?side2 ?side3 ?side4 A4.out).mono ?_
           (case side1 => repeat (first | exact (Kd.C_below HR0_2.out HB.out) | (with_reducible refine Kd.C_alloc ?_ _) | (with_reducible refine Kd.C_drewN ?_ _) | (with_reducible refine Kd.C_drew ?_)))
           (case side2 => exact HC0_2.out)
           (case side3 => repeat (first | exact (Kd.R_reads' HO235.out).2.2 | (with_reducible refine Kd.C_alloc ?_ _) | (with_reducible refine Kd.C_drewN ?_ _) | (with_reducible refine Kd.C_drew ?_)))
           (case side4 => exact (Kd.R_reads' HO235.out).2.1)
           rintro e w12 ⟨v242, v245, rfl, ho0, ho1, hb⟩
           refine ⟨_, rfl, ?_⟩
           have HO243 := Aside0.mk (Kd.R_lower ho0 (below_size (viaB HB)))
           have HO246 := Aside0.mk (Kd.S_lower (Kd.S_new' ho1 (Kd.R_lt (viaR HO235))) (below_size (viaB HB)))
           replace HO235 := Aside0.mk (Kd.R_below (viaR HO235) hb)
           replace BK230 := kB BK230 hb
           replace BK231 := kB BK231 hb
           replace BK232 := kB BK232 hb
           replace HB := bB HB hb
           (try clear hb); (try clear hb2); (try clear hk); (try clear hi); (try clear ho0); (try clear ho1)
           refine hK.out _ _ ⟨(blk_cell BK230.out 0).trans rfl, (blk_cell BK230.out 1).trans rfl, (blk_cell BK230.out 2).trans rfl⟩ (fun hHeld => ?_)
           clear hK K
           refine norm_ (a' := ?_) ?_ ?_
           rotate_left
           ·show Act.put _ (some 14) _ = _
            simp only [Act.put, q1, q2, q3, i64_w, i32_w]
            rfl
           refine pure_ (i := 5) (N := some 9) (v := ?_) (a' := ?_) #[true, true, true, true, true, true, false, false, false, false, false, false, false, false] rfl rfl (any_of HT_.out (by kernel_rfl)) (fun _ _ _ h => h) (Or.inl ⟨by rfl, ?_⟩) ?_ ?_
           rotate_left
           ·intro w'
            go_simp
            with_reducible rfl
           rotate_left
           ·simp only [Act.put, q1, q2, q3, i64_w, i32_w]
            rfl
           refine pure_ (i := 6) (N := some 15) (v := ?_) (a' := ?_) #[true, true, true, true, true, true, true, false, false, false, false, false, false, false] rfl rfl (any_of HT_.out (by kernel_rfl)) (fun _ _ _ h => h) (Or.inl ⟨by rfl, ?_⟩) ?_ ?_
           rotate_left
           ·intro w'
            go_simp
            with_reducible rfl
           rotate_left
           ·simp only [Act.put, q1, q2, q3, i64_w, i32_w]
            rfl
           refine pure_ (i := 7) (N := some 16) (v := ?_) (a' := ?_) #[true, true, true, true, true, true, true, true, false, false, false, false, false, false] rfl rfl (any_of HT_.out (by kernel_rfl)) (fun _ _ _ h => h) (Or.inl ⟨by rfl, ?_⟩) ?_ ?_
           rotate_left
           ·intro w'
            go_simp
            with_reducible rfl
           rotate_left
           ·simp only [Act.put, q1, q2, q3, i64_w, i32_w]
            rfl
           refine pure_ (i := 8) (N := some 17) (v := ?_) (a' := ?_) #[true, true, true, true, true, true, true, true, true, false, false, false, false, false] rfl rfl (any_of HT_.out (by kernel_rfl)) (fun _ _ _ h => h) (Or.inl ⟨by rfl, ?_⟩) ?_ ?_
           rotate_left
           ·intro w'
            go_simp
            with_reducible rfl
           rotate_left
           ·simp only [Act.put, q1, q2, q3, i64_w, i32_w]
            rfl
           exact norm_ (by first | (simp only [putAll, Act.put, q1, q2, q3]; done) | (simp only [putAll, Act.put, q1, q2, q3]; rfl)) (hJ2_4 (.slice Ao11 t233.length co11, v242, v245) _ ⟨hHeld, (viaR HO235), (viaR HO243), (by (with_reducible repeat (first | apply Kd.S_alloc | apply Kd.S_drewN | apply Kd.S_drew)); exact Kd.S_mono HO246.out (fun _ hk => hk.2)), (viaK BK230), (viaK BK231), (viaK BK232), (viaB HB)⟩)
          ·skip
           refine box_step ?hg (N := 6) ?hd (cs := #[.int .i64 0, .int .i64 0, .int .i64 0]) (t := 27) ?hr ?_; (case hd => rfl); (case hg => rfl); (case hr => first | (go_simp; done) | (go_simp; rfl))
           intro gb247 hg w11 hbox hb
           have BK247 := Aside0.mk (hbox)
           have GW247 := gW (w := w) HB hg
           have GE247 := gW (w := w) HB hg
           have NB230_247 := neL BK230 hg
           have NB247_230 := neG BK230 hg
           have NB231_247 := neL BK231 hg
           have NB247_231 := neG BK231 hg
           have NB232_247 := neL BK232 hg
           have NB247_232 := neG BK232 hg
           replace HO235 := Aside0.mk (Kd.R_below (viaR HO235) hb)
           replace BK230 := kB BK230 hb
           replace BK231 := kB BK231 hb
           replace BK232 := kB BK232 hb
           replace HB := bB HB hb
           clear hb hbox hg
           refine hK.out _ _ ⟨(blk_cell BK230.out 0).trans rfl, (blk_cell BK230.out 1).trans rfl, (blk_cell BK230.out 2).trans rfl⟩ (fun hHeld => ?_)
           clear hK K
           refine norm_ (a' := ?_) ?_ ?_
           rotate_left
           ·show Act.put _ (some 6) _ = _
            simp only [Act.put, q1, q2, q3, i64_w, i32_w]
            rfl
           exact norm_ (by first | (simp only [putAll, Act.put, q1, q2, q3]; done) | (simp only [putAll, Act.put, q1, q2, q3]; rfl)) (hJ2_9 ((.slice Ao11 t233.length co11), gb247) _ ⟨hHeld, (viaR HO235), (viaK BK230), (viaK BK231), (viaK BK232), (viaK BK247), GW247.out, GE247.out, NB230_247.out, NB247_230.out, NB231_247.out, NB247_231.out, NB232_247.out, NB247_232.out, (viaB HB)⟩)
          ·skip
           refine box_step ?hg (N := 7) ?hd (cs := #[.int .i64 0, .int .i64 0, .slice none 0 0]) (t := 32) ?hr ?_; (case hd => rfl); (case hg => rfl); (case hr => first | (go_simp; done) | (go_simp; rfl))
           intro gb248 hg w11 hbox hb
           have BK248 := Aside0.mk (hbox)
           have GW248 := gW (w := w) HB hg
           have GE248 := gW (w := w) HB hg
           have NB230_248 := neL BK230 hg
           have NB248_230 := neG BK230 hg
           have NB231_248 := neL BK231 hg
           have NB248_231 := neG BK231 hg
           have NB232_248 := neL BK232 hg
           have NB248_232 := neG BK232 hg
           replace HO235 := Aside0.mk (Kd.R_below (viaR HO235) hb)
           replace BK230 := kB BK230 hb
           replace BK231 := kB BK231 hb
           replace BK232 := kB BK232 hb
           replace HB := bB HB hb
           clear hb hbox hg
           refine hK.out _ _ ⟨(blk_cell BK230.out 0).trans rfl, (blk_cell BK230.out 1).trans rfl, (blk_cell BK230.out 2).trans rfl⟩ (fun hHeld => ?_)
           clear hK K
           refine norm_ (a' := ?_) ?_ ?_
           rotate_left
           ·show Act.put _ (some 7) _ = _
            simp only [Act.put, q1, q2, q3, i64_w, i32_w]
            rfl
           exact norm_ (by first | (simp only [putAll, Act.put, q1, q2, q3]; done) | (simp only [putAll, Act.put, q1, q2, q3]; rfl)) (hJ2_10 ((.slice Ao11 t233.length co11), gb248) _ ⟨hHeld, (viaR HO235), (viaK BK230), (viaK BK231), (viaK BK232), (viaK BK248), GW248.out, GE248.out, NB230_248.out, NB248_230.out, NB231_248.out, NB248_231.out, NB232_248.out, NB248_232.out, (viaB HB)⟩)
        ·skip
         rintro ⟨gb247, gb248⟩ w11 ⟨hS_, h0_, h1_, h2_, h3_, h4_, h5_, h6_, h7_, h8_, h9_, h10_, h11_, h12_, h13_, h14_, h15_, h16_, h17_, h18_, h19_, h20_, h21_, h22_, h23_⟩
         have BK247 : Aside0 (w11.heap[gb247]? = some (.cells #[.int .i64 0, .int .i64 0, .int .i64 0] 27 (0, 0))) := ⟨h3_⟩
         have BK248 : Aside0 (w11.heap[gb248]? = some (.cells #[.int .i64 0, .int .i64 0, .slice none 0 0] 32 (0, 0))) := ⟨h4_⟩
         have GW247 : Aside0 (w.heap.size ≤ gb247) := ⟨h5_⟩
         have GE247 : Aside0 (w.heap.size ≤ gb247) := ⟨h6_⟩
         have NB230_247 : Aside0 (gb230 ≠ gb247) := ⟨h7_⟩
         have NB247_230 : Aside0 (gb247 ≠ gb230) := ⟨h8_⟩
         have NB231_247 : Aside0 (gb231 ≠ gb247) := ⟨h9_⟩
         have NB247_231 : Aside0 (gb247 ≠ gb231) := ⟨h10_⟩
         have NB232_247 : Aside0 (gb232 ≠ gb247) := ⟨h11_⟩
         have NB247_232 : Aside0 (gb247 ≠ gb232) := ⟨h12_⟩
         have NB248_247 : Aside0 (gb248 ≠ gb247) := ⟨h13_⟩
         have NB247_248 : Aside0 (gb247 ≠ gb248) := ⟨h14_⟩
         have GW248 : Aside0 (w.heap.size ≤ gb248) := ⟨h15_⟩
         have GE248 : Aside0 (w.heap.size ≤ gb248) := ⟨h16_⟩
         have NB230_248 : Aside0 (gb230 ≠ gb248) := ⟨h17_⟩
         have NB248_230 : Aside0 (gb248 ≠ gb230) := ⟨h18_⟩
         have NB231_248 : Aside0 (gb231 ≠ gb248) := ⟨h19_⟩
         have NB248_231 : Aside0 (gb248 ≠ gb231) := ⟨h20_⟩
         have NB232_248 : Aside0 (gb232 ≠ gb248) := ⟨h21_⟩
         have NB248_232 : Aside0 (gb248 ≠ gb232) := ⟨h22_⟩
         replace BK230 : Aside0 (w11.heap[gb230]? = some (.cells #[.int .i64 a0_0, .int .i64 a0_1, .slice A0_2 l0_2.length c0_2] 32 (0, 0))) := ⟨h0_⟩
         replace BK231 : Aside0 (w11.heap[gb231]? = some (.cells #[.int .i64 0, .int .i64 0, .int .i64 0] 27 (0, 0))) := ⟨h1_⟩
         replace BK232 : Aside0 (w11.heap[gb232]? = some (.cells #[.int .i64 0, .int .i64 0, .slice none 0 0] 32 (0, 0))) := ⟨h2_⟩
         replace HB : Aside0 (Below w.heap.size w w11) := ⟨h23_⟩
         clear h0_ h1_ h2_ h3_ h4_ h5_ h6_ h7_ h8_ h9_ h10_ h11_ h12_ h13_ h14_ h15_ h16_ h17_ h18_ h19_ h20_ h21_ h22_ h23_
         have hHeld : w11.cell? ⟨gb230, 0, none⟩ = some (.int .i64 a0_0) ∧ w11.cell? ⟨gb230, 1, none⟩ = some (.int .i64 a0_1) ∧ w11.cell? ⟨gb230, 2, none⟩ = some (.slice A0_2 l0_2.length c0_2) := hS_
         refine norm_ (a' := ?_) ?_ ?_
         rotate_left
         ·simp only [putAll, Act.put, q1, q2, q3]
          rfl
         refine one_ (i := 2) (N := some 12) #[true, true, true, true, false, false, false, false, false, true, true, false, false, false] rfl rfl (one_of HT_.out (by kernel_rfl)) (by decide) (fun K hK => ?_)
         refine goes_ Try.func62 (by kernel_rfl) rfl #[.agg #[.int .i64 a0_0, .int .i64 a0_1, .slice A0_2 l0_2.length c0_2]] (by rfl) rfl rfl (by (try simp only [List.map_toArray, List.map_cons, List.map_nil]); first | done | rfl | (simp only [List.length_drop, List.length_take]; rfl)) ?_
         with_reducible refine (spec_ggGroups.calls k a0_0 a0_1 _ _ l0_2 t233 _ ?side1 ?side2 A3.out).mono ?_
         (case side1 => repeat (first | exact (Kd.C_below HR0_2.out HB.out) | (with_reducible refine Kd.C_alloc ?_ _) | (with_reducible refine Kd.C_drewN ?_ _) | (with_reducible refine Kd.C_drew ?_)))
         (case side2 => exact HC0_2.out)
         rintro e w12 ⟨v234, rfl, ho0, hb⟩
         refine ⟨_, rfl, ?_⟩
         have HO235 := Aside0.mk (Kd.R_lower ho0 (below_size (viaB HB)))
         replace BK230 := kB BK230 hb
         replace BK231 := kB BK231 hb
         replace BK232 := kB BK232 hb
         replace BK247 := kB BK247 hb
         replace BK248 := kB BK248 hb
         replace HB := bB HB hb
         (try clear hb); (try clear hb2); (try clear hk); (try clear hi); (try clear ho0)
         refine hK.out _ _ ⟨(blk_cell BK230.out 0).trans rfl, (blk_cell BK230.out 1).trans rfl, (blk_cell BK230.out 2).trans rfl⟩ (fun hHeld => ?_)
         clear hK K
         refine norm_ (a' := ?_) ?_ ?_
         rotate_left
         ·show Act.put _ (some 12) _ = _
          simp only [Act.put, q1, q2, q3, i64_w, i32_w]
          rfl
         exact norm_ (by first | (simp only [putAll, Act.put, q1, q2, q3]; done) | (simp only [putAll, Act.put, q1, q2, q3]; rfl)) (hJ2_9_10 (v234, gb247, gb248) _ ⟨hHeld, (viaR HO235), (viaK BK230), (viaK BK231), (viaK BK232), (viaK BK247), (viaK BK248), GW247.out, GE247.out, NB230_247.out, NB247_230.out, NB231_247.out, NB247_231.out, NB232_247.out, NB247_232.out, NB248_247.out, NB247_248.out, GW248.out, GE248.out, NB230_248.out, NB248_230.out, NB231_248.out, NB248_231.out, NB232_248.out, NB248_232.out, (viaB HB)⟩)
       ·skip
        rintro ⟨v234, gb248⟩ w11 ⟨hS_, h0_, h1_, h2_, h3_, h4_, h5_, h6_, h7_, h8_, h9_, h10_, h11_, h12_, h13_⟩
        have HO235 : Aside0 (Kd.R (Kd.int .i64) 3 w11 w.heap.size (fun _ => True) v234 t233) := ⟨h0_⟩
        have BK248 : Aside0 (w11.heap[gb248]? = some (.cells #[.int .i64 0, .int .i64 0, .slice none 0 0] 32 (0, 0))) := ⟨h4_⟩
        have GW248 : Aside0 (w.heap.size ≤ gb248) := ⟨h5_⟩
        have GE248 : Aside0 (w.heap.size ≤ gb248) := ⟨h6_⟩
        have NB230_248 : Aside0 (gb230 ≠ gb248) := ⟨h7_⟩
        have NB248_230 : Aside0 (gb248 ≠ gb230) := ⟨h8_⟩
        have NB231_248 : Aside0 (gb231 ≠ gb248) := ⟨h9_⟩
        have NB248_231 : Aside0 (gb248 ≠ gb231) := ⟨h10_⟩
        have NB232_248 : Aside0 (gb232 ≠ gb248) := ⟨h11_⟩
        have NB248_232 : Aside0 (gb248 ≠ gb232) := ⟨h12_⟩
        replace BK230 : Aside0 (w11.heap[gb230]? = some (.cells #[.int .i64 a0_0, .int .i64 a0_1, .slice A0_2 l0_2.length c0_2] 32 (0, 0))) := ⟨h1_⟩
        replace BK231 : Aside0 (w11.heap[gb231]? = some (.cells #[.int .i64 0, .int .i64 0, .int .i64 0] 27 (0, 0))) := ⟨h2_⟩
        replace BK232 : Aside0 (w11.heap[gb232]? = some (.cells #[.int .i64 0, .int .i64 0, .slice none 0 0] 32 (0, 0))) := ⟨h3_⟩
        replace HB : Aside0 (Below w.heap.size w w11) := ⟨h13_⟩
        clear h0_ h1_ h2_ h3_ h4_ h5_ h6_ h7_ h8_ h9_ h10_ h11_ h12_ h13_
        have hHeld : w11.cell? ⟨gb230, 0, none⟩ = some (.int .i64 a0_0) ∧ w11.cell? ⟨gb230, 1, none⟩ = some (.int .i64 a0_1) ∧ w11.cell? ⟨gb230, 2, none⟩ = some (.slice A0_2 l0_2.length c0_2) := hS_
        obtain ⟨Ao12, co12, eo12⟩ := Kd.R_slice HO235.out
        (first | subst eo12 | (injection eo12 with f1_ f2_ f3_; have f4_ := f1_.symm; have f5_ := f3_.symm; clear f1_ f2_ f3_; subst f4_; subst f5_))
        refine norm_ (a' := ?_) ?_ ?_
        rotate_left
        ·simp only [putAll, Act.put, q1, q2, q3]
         rfl
        refine two_ (i := 4) (j := 9) (Ni := some 14) (Nj := some 6) #[true, true, true, true, true, false, false, false, false, false, true, false, false, false] #[true, true, true, true, false, false, false, false, false, true, true, false, false, false] rfl rfl rfl rfl (two_of HT_.out (by kernel_rfl)) (by decide) (by decide) (fun K hK => ?_) (fun K hK => ?_)
        ·skip
         refine goes_ Try.func63 (by kernel_rfl) rfl #[.agg #[.int .i64 a0_0, .int .i64 a0_1, .slice A0_2 l0_2.length c0_2], .slice Ao12 t233.length co12, .int .i64 a1] (by rfl) rfl rfl (by (try simp only [List.map_toArray, List.map_cons, List.map_nil]); first | done | rfl | (simp only [List.length_drop, List.length_take]; rfl)) ?_
         with_reducible refine (spec_flGo.calls k a0_0 a0_1 _ _ l0_2 _ _ t233 a1 t236 t237 t238 t239 t240 t241 t244 _ ?side1 ?side2 ?side3 ?side4 A4.out).mono ?_
         (case side1 => repeat (first | exact (Kd.C_below HR0_2.out HB.out) | (with_reducible refine Kd.C_alloc ?_ _) | (with_reducible refine Kd.C_drewN ?_ _) | (with_reducible refine Kd.C_drew ?_)))
         (case side2 => exact HC0_2.out)
         (case side3 => repeat (first | exact (Kd.R_reads' HO235.out).2.2 | (with_reducible refine Kd.C_alloc ?_ _) | (with_reducible refine Kd.C_drewN ?_ _) | (with_reducible refine Kd.C_drew ?_)))
         (case side4 => exact (Kd.R_reads' HO235.out).2.1)
         rintro e w13 ⟨v242, v245, rfl, ho0, ho1, hb⟩
         refine ⟨_, rfl, ?_⟩
         have HO243 := Aside0.mk (Kd.R_lower ho0 (below_size (viaB HB)))
         have HO246 := Aside0.mk (Kd.S_lower (Kd.S_new' ho1 (Kd.R_lt (viaR HO235))) (below_size (viaB HB)))
         replace HO235 := Aside0.mk (Kd.R_below (viaR HO235) hb)
         replace BK230 := kB BK230 hb
         replace BK231 := kB BK231 hb
         replace BK232 := kB BK232 hb
         replace BK248 := kB BK248 hb
         replace HB := bB HB hb
         (try clear hb); (try clear hb2); (try clear hk); (try clear hi); (try clear ho0); (try clear ho1)
         refine hK.out _ _ ⟨(blk_cell BK230.out 0).trans rfl, (blk_cell BK230.out 1).trans rfl, (blk_cell BK230.out 2).trans rfl⟩ (fun hHeld => ?_)
         clear hK K
         refine norm_ (a' := ?_) ?_ ?_
         rotate_left
         ·show Act.put _ (some 14) _ = _
          simp only [Act.put, q1, q2, q3, i64_w, i32_w]
          rfl
         refine pure_ (i := 5) (N := some 9) (v := ?_) (a' := ?_) #[true, true, true, true, true, true, false, false, false, false, true, false, false, false] rfl rfl (any_of HT_.out (by kernel_rfl)) (fun _ _ _ h => h) (Or.inl ⟨by rfl, ?_⟩) ?_ ?_
         rotate_left
         ·intro w'
          go_simp
          with_reducible rfl
         rotate_left
         ·simp only [Act.put, q1, q2, q3, i64_w, i32_w]
          rfl
         refine pure_ (i := 6) (N := some 15) (v := ?_) (a' := ?_) #[true, true, true, true, true, true, true, false, false, false, true, false, false, false] rfl rfl (any_of HT_.out (by kernel_rfl)) (fun _ _ _ h => h) (Or.inl ⟨by rfl, ?_⟩) ?_ ?_
         rotate_left
         ·intro w'
          go_simp
          with_reducible rfl
         rotate_left
         ·simp only [Act.put, q1, q2, q3, i64_w, i32_w]
          rfl
         refine pure_ (i := 7) (N := some 16) (v := ?_) (a' := ?_) #[true, true, true, true, true, true, true, true, false, false, true, false, false, false] rfl rfl (any_of HT_.out (by kernel_rfl)) (fun _ _ _ h => h) (Or.inl ⟨by rfl, ?_⟩) ?_ ?_
         rotate_left
         ·intro w'
          go_simp
          with_reducible rfl
         rotate_left
         ·simp only [Act.put, q1, q2, q3, i64_w, i32_w]
          rfl
         refine pure_ (i := 8) (N := some 17) (v := ?_) (a' := ?_) #[true, true, true, true, true, true, true, true, true, false, true, false, false, false] rfl rfl (any_of HT_.out (by kernel_rfl)) (fun _ _ _ h => h) (Or.inl ⟨by rfl, ?_⟩) ?_ ?_
         rotate_left
         ·intro w'
          go_simp
          with_reducible rfl
         rotate_left
         ·simp only [Act.put, q1, q2, q3, i64_w, i32_w]
          rfl
         exact norm_ (by first | (simp only [putAll, Act.put, q1, q2, q3]; done) | (simp only [putAll, Act.put, q1, q2, q3]; rfl)) (hJ2_4_10 (.slice Ao12 t233.length co12, v242, v245, gb248) _ ⟨hHeld, (viaR HO235), (viaR HO243), (by (with_reducible repeat (first | apply Kd.S_alloc | apply Kd.S_drewN | apply Kd.S_drew)); exact Kd.S_mono HO246.out (fun _ hk => hk.2)), (viaK BK230), (viaK BK231), (viaK BK232), (viaK BK248), GW248.out, GE248.out, NB230_248.out, NB248_230.out, NB231_248.out, NB248_231.out, NB232_248.out, NB248_232.out, (viaB HB)⟩)
        ·skip
         refine box_step ?hg (N := 6) ?hd (cs := #[.int .i64 0, .int .i64 0, .int .i64 0]) (t := 27) ?hr ?_; (case hd => rfl); (case hg => rfl); (case hr => first | (go_simp; done) | (go_simp; rfl))
         intro gb247 hg w12 hbox hb
         have BK247 := Aside0.mk (hbox)
         have GW247 := gW (w := w) HB hg
         have GE247 := gW (w := w) HB hg
         have NB230_247 := neL BK230 hg
         have NB247_230 := neG BK230 hg
         have NB231_247 := neL BK231 hg
         have NB247_231 := neG BK231 hg
         have NB232_247 := neL BK232 hg
         have NB247_232 := neG BK232 hg
         have NB248_247 := neL BK248 hg
         have NB247_248 := neG BK248 hg
         replace HO235 := Aside0.mk (Kd.R_below (viaR HO235) hb)
         replace BK230 := kB BK230 hb
         replace BK231 := kB BK231 hb
         replace BK232 := kB BK232 hb
         replace BK248 := kB BK248 hb
         replace HB := bB HB hb
         clear hb hbox hg
         refine hK.out _ _ ⟨(blk_cell BK230.out 0).trans rfl, (blk_cell BK230.out 1).trans rfl, (blk_cell BK230.out 2).trans rfl⟩ (fun hHeld => ?_)
         clear hK K
         refine norm_ (a' := ?_) ?_ ?_
         rotate_left
         ·show Act.put _ (some 6) _ = _
          simp only [Act.put, q1, q2, q3, i64_w, i32_w]
          rfl
         exact norm_ (by first | (simp only [putAll, Act.put, q1, q2, q3]; done) | (simp only [putAll, Act.put, q1, q2, q3]; rfl)) (hJ2_9_10 ((.slice Ao12 t233.length co12), gb247, gb248) _ ⟨hHeld, (viaR HO235), (viaK BK230), (viaK BK231), (viaK BK232), (viaK BK247), (viaK BK248), GW247.out, GE247.out, NB230_247.out, NB247_230.out, NB231_247.out, NB247_231.out, NB232_247.out, NB247_232.out, NB248_247.out, NB247_248.out, GW248.out, GE248.out, NB230_248.out, NB248_230.out, NB231_248.out, NB248_231.out, NB232_248.out, NB248_232.out, (viaB HB)⟩)
      ·skip
       rintro ⟨v234, gb247⟩ w11 ⟨hS_, h0_, h1_, h2_, h3_, h4_, h5_, h6_, h7_, h8_, h9_, h10_, h11_, h12_, h13_⟩
       have HO235 : Aside0 (Kd.R (Kd.int .i64) 3 w11 w.heap.size (fun _ => True) v234 t233) := ⟨h0_⟩
       have BK247 : Aside0 (w11.heap[gb247]? = some (.cells #[.int .i64 0, .int .i64 0, .int .i64 0] 27 (0, 0))) := ⟨h4_⟩
       have GW247 : Aside0 (w.heap.size ≤ gb247) := ⟨h5_⟩
       have GE247 : Aside0 (w.heap.size ≤ gb247) := ⟨h6_⟩
       have NB230_247 : Aside0 (gb230 ≠ gb247) := ⟨h7_⟩
       have NB247_230 : Aside0 (gb247 ≠ gb230) := ⟨h8_⟩
       have NB231_247 : Aside0 (gb231 ≠ gb247) := ⟨h9_⟩
       have NB247_231 : Aside0 (gb247 ≠ gb231) := ⟨h10_⟩
       have NB232_247 : Aside0 (gb232 ≠ gb247) := ⟨h11_⟩
       have NB247_232 : Aside0 (gb247 ≠ gb232) := ⟨h12_⟩
       replace BK230 : Aside0 (w11.heap[gb230]? = some (.cells #[.int .i64 a0_0, .int .i64 a0_1, .slice A0_2 l0_2.length c0_2] 32 (0, 0))) := ⟨h1_⟩
       replace BK231 : Aside0 (w11.heap[gb231]? = some (.cells #[.int .i64 0, .int .i64 0, .int .i64 0] 27 (0, 0))) := ⟨h2_⟩
       replace BK232 : Aside0 (w11.heap[gb232]? = some (.cells #[.int .i64 0, .int .i64 0, .slice none 0 0] 32 (0, 0))) := ⟨h3_⟩
       replace HB : Aside0 (Below w.heap.size w w11) := ⟨h13_⟩
       clear h0_ h1_ h2_ h3_ h4_ h5_ h6_ h7_ h8_ h9_ h10_ h11_ h12_ h13_
       have hHeld : w11.cell? ⟨gb230, 0, none⟩ = some (.int .i64 a0_0) ∧ w11.cell? ⟨gb230, 1, none⟩ = some (.int .i64 a0_1) ∧ w11.cell? ⟨gb230, 2, none⟩ = some (.slice A0_2 l0_2.length c0_2) := hS_
       obtain ⟨Ao12, co12, eo12⟩ := Kd.R_slice HO235.out
       (first | subst eo12 | (injection eo12 with f1_ f2_ f3_; have f4_ := f1_.symm; have f5_ := f3_.symm; clear f1_ f2_ f3_; subst f4_; subst f5_))
       refine norm_ (a' := ?_) ?_ ?_
       rotate_left
       ·simp only [putAll, Act.put, q1, q2, q3]
        rfl
       refine two_ (i := 4) (j := 10) (Ni := some 14) (Nj := some 7) #[true, true, true, true, true, false, false, false, false, true, false, false, false, false] #[true, true, true, true, false, false, false, false, false, true, true, false, false, false] rfl rfl rfl rfl (two_of HT_.out (by kernel_rfl)) (by decide) (by decide) (fun K hK => ?_) (fun K hK => ?_)
       ·skip
        refine goes_ Try.func63 (by kernel_rfl) rfl #[.agg #[.int .i64 a0_0, .int .i64 a0_1, .slice A0_2 l0_2.length c0_2], .slice Ao12 t233.length co12, .int .i64 a1] (by rfl) rfl rfl (by (try simp only [List.map_toArray, List.map_cons, List.map_nil]); first | done | rfl | (simp only [List.length_drop, List.length_take]; rfl)) ?_
        with_reducible refine (spec_flGo.calls k a0_0 a0_1 _ _ l0_2 _ _ t233 a1 t236 t237 t238 t239 t240 t241 t244 _ ?side1 ?side2 ?side3 ?side4 A4.out).mono ?_
        (case side1 => repeat (first | exact (Kd.C_below HR0_2.out HB.out) | (with_reducible refine Kd.C_alloc ?_ _) | (with_reducible refine Kd.C_drewN ?_ _) | (with_reducible refine Kd.C_drew ?_)))
        (case side2 => exact HC0_2.out)
        (case side3 => repeat (first | exact (Kd.R_reads' HO235.out).2.2 | (with_reducible refine Kd.C_alloc ?_ _) | (with_reducible refine Kd.C_drewN ?_ _) | (with_reducible refine Kd.C_drew ?_)))
        (case side4 => exact (Kd.R_reads' HO235.out).2.1)
        rintro e w13 ⟨v242, v245, rfl, ho0, ho1, hb⟩
        refine ⟨_, rfl, ?_⟩
        have HO243 := Aside0.mk (Kd.R_lower ho0 (below_size (viaB HB)))
        have HO246 := Aside0.mk (Kd.S_lower (Kd.S_new' ho1 (Kd.R_lt (viaR HO235))) (below_size (viaB HB)))
        replace HO235 := Aside0.mk (Kd.R_below (viaR HO235) hb)
        replace BK230 := kB BK230 hb
        replace BK231 := kB BK231 hb
        replace BK232 := kB BK232 hb
        replace BK247 := kB BK247 hb
        replace HB := bB HB hb
        (try clear hb); (try clear hb2); (try clear hk); (try clear hi); (try clear ho0); (try clear ho1)
        refine hK.out _ _ ⟨(blk_cell BK230.out 0).trans rfl, (blk_cell BK230.out 1).trans rfl, (blk_cell BK230.out 2).trans rfl⟩ (fun hHeld => ?_)
        clear hK K
        refine norm_ (a' := ?_) ?_ ?_
        rotate_left
        ·show Act.put _ (some 14) _ = _
         simp only [Act.put, q1, q2, q3, i64_w, i32_w]
         rfl
        refine pure_ (i := 5) (N := some 9) (v := ?_) (a' := ?_) #[true, true, true, true, true, true, false, false, false, true, false, false, false, false] rfl rfl (any_of HT_.out (by kernel_rfl)) (fun _ _ _ h => h) (Or.inl ⟨by rfl, ?_⟩) ?_ ?_
        rotate_left
        ·intro w'
         go_simp
         with_reducible rfl
        rotate_left
        ·simp only [Act.put, q1, q2, q3, i64_w, i32_w]
         rfl
        refine pure_ (i := 6) (N := some 15) (v := ?_) (a' := ?_) #[true, true, true, true, true, true, true, false, false, true, false, false, false, false] rfl rfl (any_of HT_.out (by kernel_rfl)) (fun _ _ _ h => h) (Or.inl ⟨by rfl, ?_⟩) ?_ ?_
        rotate_left
        ·intro w'
         go_simp
         with_reducible rfl
        rotate_left
        ·simp only [Act.put, q1, q2, q3, i64_w, i32_w]
         rfl
        refine pure_ (i := 7) (N := some 16) (v := ?_) (a' := ?_) #[true, true, true, true, true, true, true, true, false, true, false, false, false, false] rfl rfl (any_of HT_.out (by kernel_rfl)) (fun _ _ _ h => h) (Or.inl ⟨by rfl, ?_⟩) ?_ ?_
        rotate_left
        ·intro w'
         go_simp
         with_reducible rfl
        rotate_left
        ·simp only [Act.put, q1, q2, q3, i64_w, i32_w]
         rfl
        refine pure_ (i := 8) (N := some 17) (v := ?_) (a' := ?_) #[true, true, true, true, true, true, true, true, true, true, false, false, false, false] rfl rfl (any_of HT_.out (by kernel_rfl)) (fun _ _ _ h => h) (Or.inl ⟨by rfl, ?_⟩) ?_ ?_
        rotate_left
        ·intro w'
         go_simp
         with_reducible rfl
        rotate_left
        ·simp only [Act.put, q1, q2, q3, i64_w, i32_w]
         rfl
        exact norm_ (by first | (simp only [putAll, Act.put, q1, q2, q3]; done) | (simp only [putAll, Act.put, q1, q2, q3]; rfl)) (hJ2_4_9 (.slice Ao12 t233.length co12, v242, v245, gb247) _ ⟨hHeld, (viaR HO235), (viaR HO243), (by (with_reducible repeat (first | apply Kd.S_alloc | apply Kd.S_drewN | apply Kd.S_drew)); exact Kd.S_mono HO246.out (fun _ hk => hk.2)), (viaK BK230), (viaK BK231), (viaK BK232), (viaK BK247), GW247.out, GE247.out, NB230_247.out, NB247_230.out, NB231_247.out, NB247_231.out, NB232_247.out, NB247_232.out, (viaB HB)⟩)
       ·skip
        refine box_step ?hg (N := 7) ?hd (cs := #[.int .i64 0, .int .i64 0, .slice none 0 0]) (t := 32) ?hr ?_; (case hd => rfl); (case hg => rfl); (case hr => first | (go_simp; done) | (go_simp; rfl))
        intro gb248 hg w12 hbox hb
        have BK248 := Aside0.mk (hbox)
        have GW248 := gW (w := w) HB hg
        have GE248 := gW (w := w) HB hg
        have NB230_248 := neL BK230 hg
        have NB248_230 := neG BK230 hg
        have NB231_248 := neL BK231 hg
        have NB248_231 := neG BK231 hg
        have NB232_248 := neL BK232 hg
        have NB248_232 := neG BK232 hg
        have NB247_248 := neL BK247 hg
        have NB248_247 := neG BK247 hg
        replace HO235 := Aside0.mk (Kd.R_below (viaR HO235) hb)
        replace BK230 := kB BK230 hb
        replace BK231 := kB BK231 hb
        replace BK232 := kB BK232 hb
        replace BK247 := kB BK247 hb
        replace HB := bB HB hb
        clear hb hbox hg
        refine hK.out _ _ ⟨(blk_cell BK230.out 0).trans rfl, (blk_cell BK230.out 1).trans rfl, (blk_cell BK230.out 2).trans rfl⟩ (fun hHeld => ?_)
        clear hK K
        refine norm_ (a' := ?_) ?_ ?_
        rotate_left
        ·show Act.put _ (some 7) _ = _
         simp only [Act.put, q1, q2, q3, i64_w, i32_w]
         rfl
        exact norm_ (by first | (simp only [putAll, Act.put, q1, q2, q3]; done) | (simp only [putAll, Act.put, q1, q2, q3]; rfl)) (hJ2_9_10 ((.slice Ao12 t233.length co12), gb247, gb248) _ ⟨hHeld, (viaR HO235), (viaK BK230), (viaK BK231), (viaK BK232), (viaK BK247), (viaK BK248), GW247.out, GE247.out, NB230_247.out, NB247_230.out, NB231_247.out, NB247_231.out, NB232_247.out, NB247_232.out, NB248_247.out, NB247_248.out, GW248.out, GE248.out, NB230_248.out, NB248_230.out, NB231_248.out, NB248_231.out, NB232_248.out, NB248_232.out, (viaB HB)⟩)
     ·skip
      rintro ⟨v234, v242, v245⟩ w12 ⟨hS_, h0_, h1_, h2_, h3_, h4_, h5_, h6_⟩
      have HO235 : Aside0 (Kd.R (Kd.int .i64) 3 w12 w.heap.size (fun _ => True) v234 t233) := ⟨h0_⟩
      have HO243 : Aside0 (Kd.R k89 89 w12 w.heap.size (fun _ => True) v242 t241) := ⟨h1_⟩
      have HO246 : Aside0 (Kd.S (Kd.slice 3 (Kd.int .i64)) 43 w12 w.heap.size (fun k_ => some k_ ≠ (v234 : Value).ownBlock) v245 t244) := ⟨h2_⟩
      replace BK230 : Aside0 (w12.heap[gb230]? = some (.cells #[.int .i64 a0_0, .int .i64 a0_1, .slice A0_2 l0_2.length c0_2] 32 (0, 0))) := ⟨h3_⟩
      replace BK231 : Aside0 (w12.heap[gb231]? = some (.cells #[.int .i64 0, .int .i64 0, .int .i64 0] 27 (0, 0))) := ⟨h4_⟩
      replace BK232 : Aside0 (w12.heap[gb232]? = some (.cells #[.int .i64 0, .int .i64 0, .slice none 0 0] 32 (0, 0))) := ⟨h5_⟩
      replace HB : Aside0 (Below w.heap.size w w12) := ⟨h6_⟩
      clear h0_ h1_ h2_ h3_ h4_ h5_ h6_
      have hHeld : w12.cell? ⟨gb230, 0, none⟩ = some (.int .i64 a0_0) ∧ w12.cell? ⟨gb230, 1, none⟩ = some (.int .i64 a0_1) ∧ w12.cell? ⟨gb230, 2, none⟩ = some (.slice A0_2 l0_2.length c0_2) := hS_
      refine norm_ (a' := ?_) ?_ ?_
      rotate_left
      ·simp only [putAll, Act.put, q1, q2, q3]
       rfl
      refine two_ (i := 9) (j := 10) (Ni := some 6) (Nj := some 7) #[true, true, true, true, true, true, true, true, true, true, false, false, false, false] #[true, true, true, true, true, true, true, true, true, false, true, false, false, false] rfl rfl rfl rfl (two_of HT_.out (by kernel_rfl)) (by decide) (by decide) (fun K hK => ?_) (fun K hK => ?_)
      ·skip
       refine box_step ?hg (N := 6) ?hd (cs := #[.int .i64 0, .int .i64 0, .int .i64 0]) (t := 27) ?hr ?_; (case hd => rfl); (case hg => rfl); (case hr => first | (go_simp; done) | (go_simp; rfl))
       intro gb247 hg w13 hbox hb
       have BK247 := Aside0.mk (hbox)
       have GW247 := gW (w := w) HB hg
       have GE247 := gW (w := w) HB hg
       have NB230_247 := neL BK230 hg
       have NB247_230 := neG BK230 hg
       have NB231_247 := neL BK231 hg
       have NB247_231 := neG BK231 hg
       have NB232_247 := neL BK232 hg
       have NB247_232 := neG BK232 hg
       replace HO235 := Aside0.mk (Kd.R_below (viaR HO235) hb)
       replace HO243 := Aside0.mk (Kd.R_below (viaR HO243) hb)
       replace HO246 := Aside0.mk (Kd.S_below (viaS HO246) hb)
       replace BK230 := kB BK230 hb
       replace BK231 := kB BK231 hb
       replace BK232 := kB BK232 hb
       replace HB := bB HB hb
       clear hb hbox hg
       refine hK.out _ _ ⟨(blk_cell BK230.out 0).trans rfl, (blk_cell BK230.out 1).trans rfl, (blk_cell BK230.out 2).trans rfl⟩ (fun hHeld => ?_)
       clear hK K
       refine norm_ (a' := ?_) ?_ ?_
       rotate_left
       ·show Act.put _ (some 6) _ = _
        simp only [Act.put, q1, q2, q3, i64_w, i32_w]
        rfl
       exact norm_ (by first | (simp only [putAll, Act.put, q1, q2, q3]; done) | (simp only [putAll, Act.put, q1, q2, q3]; rfl)) (hJ2_4_9 (v234, v242, v245, gb247) _ ⟨hHeld, (viaR HO235), (viaR HO243), (viaS HO246), (viaK BK230), (viaK BK231), (viaK BK232), (viaK BK247), GW247.out, GE247.out, NB230_247.out, NB247_230.out, NB231_247.out, NB247_231.out, NB232_247.out, NB247_232.out, (viaB HB)⟩)
      ·skip
       refine box_step ?hg (N := 7) ?hd (cs := #[.int .i64 0, .int .i64 0, .slice none 0 0]) (t := 32) ?hr ?_; (case hd => rfl); (case hg => rfl); (case hr => first | (go_simp; done) | (go_simp; rfl))
       intro gb248 hg w13 hbox hb
       have BK248 := Aside0.mk (hbox)
       have GW248 := gW (w := w) HB hg
       have GE248 := gW (w := w) HB hg
       have NB230_248 := neL BK230 hg
       have NB248_230 := neG BK230 hg
       have NB231_248 := neL BK231 hg
       have NB248_231 := neG BK231 hg
       have NB232_248 := neL BK232 hg
       have NB248_232 := neG BK232 hg
       replace HO235 := Aside0.mk (Kd.R_below (viaR HO235) hb)
       replace HO243 := Aside0.mk (Kd.R_below (viaR HO243) hb)
       replace HO246 := Aside0.mk (Kd.S_below (viaS HO246) hb)
       replace BK230 := kB BK230 hb
       replace BK231 := kB BK231 hb
       replace BK232 := kB BK232 hb
       replace HB := bB HB hb
       clear hb hbox hg
       refine hK.out _ _ ⟨(blk_cell BK230.out 0).trans rfl, (blk_cell BK230.out 1).trans rfl, (blk_cell BK230.out 2).trans rfl⟩ (fun hHeld => ?_)
       clear hK K
       refine norm_ (a' := ?_) ?_ ?_
       rotate_left
       ·show Act.put _ (some 7) _ = _
        simp only [Act.put, q1, q2, q3, i64_w, i32_w]
        rfl
       exact norm_ (by first | (simp only [putAll, Act.put, q1, q2, q3]; done) | (simp only [putAll, Act.put, q1, q2, q3]; rfl)) (hJ2_4_10 (v234, v242, v245, gb248) _ ⟨hHeld, (viaR HO235), (viaR HO243), (viaS HO246), (viaK BK230), (viaK BK231), (viaK BK232), (viaK BK248), GW248.out, GE248.out, NB230_248.out, NB248_230.out, NB231_248.out, NB248_231.out, NB232_248.out, NB248_232.out, (viaB HB)⟩)
    ·skip
     rintro ⟨v234, gb247, gb248⟩ w12 ⟨hS_, h0_, h1_, h2_, h3_, h4_, h5_, h6_, h7_, h8_, h9_, h10_, h11_, h12_, h13_, h14_, h15_, h16_, h17_, h18_, h19_, h20_, h21_, h22_, h23_, h24_⟩
     have HO235 : Aside0 (Kd.R (Kd.int .i64) 3 w12 w.heap.size (fun _ => True) v234 t233) := ⟨h0_⟩
     have BK247 : Aside0 (w12.heap[gb247]? = some (.cells #[.int .i64 0, .int .i64 0, .int .i64 0] 27 (0, 0))) := ⟨h4_⟩
     have BK248 : Aside0 (w12.heap[gb248]? = some (.cells #[.int .i64 0, .int .i64 0, .slice none 0 0] 32 (0, 0))) := ⟨h5_⟩
     have GW247 : Aside0 (w.heap.size ≤ gb247) := ⟨h6_⟩
     have GE247 : Aside0 (w.heap.size ≤ gb247) := ⟨h7_⟩
     have NB230_247 : Aside0 (gb230 ≠ gb247) := ⟨h8_⟩
     have NB247_230 : Aside0 (gb247 ≠ gb230) := ⟨h9_⟩
     have NB231_247 : Aside0 (gb231 ≠ gb247) := ⟨h10_⟩
     have NB247_231 : Aside0 (gb247 ≠ gb231) := ⟨h11_⟩
     have NB232_247 : Aside0 (gb232 ≠ gb247) := ⟨h12_⟩
     have NB247_232 : Aside0 (gb247 ≠ gb232) := ⟨h13_⟩
     have NB248_247 : Aside0 (gb248 ≠ gb247) := ⟨h14_⟩
     have NB247_248 : Aside0 (gb247 ≠ gb248) := ⟨h15_⟩
     have GW248 : Aside0 (w.heap.size ≤ gb248) := ⟨h16_⟩
     have GE248 : Aside0 (w.heap.size ≤ gb248) := ⟨h17_⟩
     have NB230_248 : Aside0 (gb230 ≠ gb248) := ⟨h18_⟩
     have NB248_230 : Aside0 (gb248 ≠ gb230) := ⟨h19_⟩
     have NB231_248 : Aside0 (gb231 ≠ gb248) := ⟨h20_⟩
     have NB248_231 : Aside0 (gb248 ≠ gb231) := ⟨h21_⟩
     have NB232_248 : Aside0 (gb232 ≠ gb248) := ⟨h22_⟩
     have NB248_232 : Aside0 (gb248 ≠ gb232) := ⟨h23_⟩
     replace BK230 : Aside0 (w12.heap[gb230]? = some (.cells #[.int .i64 a0_0, .int .i64 a0_1, .slice A0_2 l0_2.length c0_2] 32 (0, 0))) := ⟨h1_⟩
     replace BK231 : Aside0 (w12.heap[gb231]? = some (.cells #[.int .i64 0, .int .i64 0, .int .i64 0] 27 (0, 0))) := ⟨h2_⟩
     replace BK232 : Aside0 (w12.heap[gb232]? = some (.cells #[.int .i64 0, .int .i64 0, .slice none 0 0] 32 (0, 0))) := ⟨h3_⟩
     replace HB : Aside0 (Below w.heap.size w w12) := ⟨h24_⟩
     clear h0_ h1_ h2_ h3_ h4_ h5_ h6_ h7_ h8_ h9_ h10_ h11_ h12_ h13_ h14_ h15_ h16_ h17_ h18_ h19_ h20_ h21_ h22_ h23_ h24_
     have hHeld : w12.cell? ⟨gb230, 0, none⟩ = some (.int .i64 a0_0) ∧ w12.cell? ⟨gb230, 1, none⟩ = some (.int .i64 a0_1) ∧ w12.cell? ⟨gb230, 2, none⟩ = some (.slice A0_2 l0_2.length c0_2) := hS_
     obtain ⟨Ao13, co13, eo13⟩ := Kd.R_slice HO235.out
     (first | subst eo13 | (injection eo13 with f1_ f2_ f3_; have f4_ := f1_.symm; have f5_ := f3_.symm; clear f1_ f2_ f3_; subst f4_; subst f5_))
     refine norm_ (a' := ?_) ?_ ?_
     rotate_left
     ·simp only [putAll, Act.put, q1, q2, q3]
      rfl
     refine one_ (i := 4) (N := some 14) #[true, true, true, true, true, false, false, false, false, true, true, false, false, false] rfl rfl (one_of HT_.out (by kernel_rfl)) (by decide) (fun K hK => ?_)
     refine goes_ Try.func63 (by kernel_rfl) rfl #[.agg #[.int .i64 a0_0, .int .i64 a0_1, .slice A0_2 l0_2.length c0_2], .slice Ao13 t233.length co13, .int .i64 a1] (by rfl) rfl rfl (by (try simp only [List.map_toArray, List.map_cons, List.map_nil]); first | done | rfl | (simp only [List.length_drop, List.length_take]; rfl)) ?_
     with_reducible refine (spec_flGo.calls k a0_0 a0_1 _ _ l0_2 _ _ t233 a1 t236 t237 t238 t239 t240 t241 t244 _ ?side1 ?side2 ?side3 ?side4 A4.out).mono ?_
     (case side1 => repeat (first | exact (Kd.C_below HR0_2.out HB.out) | (with_reducible refine Kd.C_alloc ?_ _) | (with_reducible refine Kd.C_drewN ?_ _) | (with_reducible refine Kd.C_drew ?_)))
     (case side2 => exact HC0_2.out)
     (case side3 => repeat (first | exact (Kd.R_reads' HO235.out).2.2 | (with_reducible refine Kd.C_alloc ?_ _) | (with_reducible refine Kd.C_drewN ?_ _) | (with_reducible refine Kd.C_drew ?_)))
     (case side4 => exact (Kd.R_reads' HO235.out).2.1)
     rintro e w14 ⟨v242, v245, rfl, ho0, ho1, hb⟩
     refine ⟨_, rfl, ?_⟩
     have HO243 := Aside0.mk (Kd.R_lower ho0 (below_size (viaB HB)))
     have HO246 := Aside0.mk (Kd.S_lower (Kd.S_new' ho1 (Kd.R_lt (viaR HO235))) (below_size (viaB HB)))
     replace HO235 := Aside0.mk (Kd.R_below (viaR HO235) hb)
     replace BK230 := kB BK230 hb
     replace BK231 := kB BK231 hb
     replace BK232 := kB BK232 hb
     replace BK247 := kB BK247 hb
     replace BK248 := kB BK248 hb
     replace HB := bB HB hb
     (try clear hb); (try clear hb2); (try clear hk); (try clear hi); (try clear ho0); (try clear ho1)
     refine hK.out _ _ ⟨(blk_cell BK230.out 0).trans rfl, (blk_cell BK230.out 1).trans rfl, (blk_cell BK230.out 2).trans rfl⟩ (fun hHeld => ?_)
     clear hK K
     refine norm_ (a' := ?_) ?_ ?_
     rotate_left
     ·show Act.put _ (some 14) _ = _
      simp only [Act.put, q1, q2, q3, i64_w, i32_w]
      rfl
     refine pure_ (i := 5) (N := some 9) (v := ?_) (a' := ?_) #[true, true, true, true, true, true, false, false, false, true, true, false, false, false] rfl rfl (any_of HT_.out (by kernel_rfl)) (fun _ _ _ h => h) (Or.inl ⟨by rfl, ?_⟩) ?_ ?_
     rotate_left
     ·intro w'
      go_simp
      with_reducible rfl
     rotate_left
     ·simp only [Act.put, q1, q2, q3, i64_w, i32_w]
      rfl
     refine pure_ (i := 6) (N := some 15) (v := ?_) (a' := ?_) #[true, true, true, true, true, true, true, false, false, true, true, false, false, false] rfl rfl (any_of HT_.out (by kernel_rfl)) (fun _ _ _ h => h) (Or.inl ⟨by rfl, ?_⟩) ?_ ?_
     rotate_left
     ·intro w'
      go_simp
      with_reducible rfl
     rotate_left
     ·simp only [Act.put, q1, q2, q3, i64_w, i32_w]
      rfl
     refine pure_ (i := 7) (N := some 16) (v := ?_) (a' := ?_) #[true, true, true, true, true, true, true, true, false, true, true, false, false, false] rfl rfl (any_of HT_.out (by kernel_rfl)) (fun _ _ _ h => h) (Or.inl ⟨by rfl, ?_⟩) ?_ ?_
     rotate_left
     ·intro w'
      go_simp
      with_reducible rfl
     rotate_left
     ·simp only [Act.put, q1, q2, q3, i64_w, i32_w]
      rfl
     refine pure_ (i := 8) (N := some 17) (v := ?_) (a' := ?_) #[true, true, true, true, true, true, true, true, true, true, true, false, false, false] rfl rfl (any_of HT_.out (by kernel_rfl)) (fun _ _ _ h => h) (Or.inl ⟨by rfl, ?_⟩) ?_ ?_
     rotate_left
     ·intro w'
      go_simp
      with_reducible rfl
     rotate_left
     ·simp only [Act.put, q1, q2, q3, i64_w, i32_w]
      rfl
     exact norm_ (by first | (simp only [putAll, Act.put, q1, q2, q3]; done) | (simp only [putAll, Act.put, q1, q2, q3]; rfl)) (hJ2_4_9_10 (.slice Ao13 t233.length co13, v242, v245, gb247, gb248) _ ⟨hHeld, (viaR HO235), (viaR HO243), (by (with_reducible repeat (first | apply Kd.S_alloc | apply Kd.S_drewN | apply Kd.S_drew)); exact Kd.S_mono HO246.out (fun _ hk => hk.2)), (viaK BK230), (viaK BK231), (viaK BK232), (viaK BK247), (viaK BK248), GW247.out, GE247.out, NB230_247.out, NB247_230.out, NB231_247.out, NB247_231.out, NB232_247.out, NB247_232.out, NB248_247.out, NB247_248.out, GW248.out, GE248.out, NB230_248.out, NB248_230.out, NB231_248.out, NB248_231.out, NB232_248.out, NB248_232.out, (viaB HB)⟩)
   ·skip
    rintro ⟨v234, v242, v245, gb248⟩ w13 ⟨hS_, h0_, h1_, h2_, h3_, h4_, h5_, h6_, h7_, h8_, h9_, h10_, h11_, h12_, h13_, h14_, h15_⟩
    have HO235 : Aside0 (Kd.R (Kd.int .i64) 3 w13 w.heap.size (fun _ => True) v234 t233) := ⟨h0_⟩
    have HO243 : Aside0 (Kd.R k89 89 w13 w.heap.size (fun _ => True) v242 t241) := ⟨h1_⟩
    have HO246 : Aside0 (Kd.S (Kd.slice 3 (Kd.int .i64)) 43 w13 w.heap.size (fun k_ => some k_ ≠ (v234 : Value).ownBlock) v245 t244) := ⟨h2_⟩
    have BK248 : Aside0 (w13.heap[gb248]? = some (.cells #[.int .i64 0, .int .i64 0, .slice none 0 0] 32 (0, 0))) := ⟨h6_⟩
    have GW248 : Aside0 (w.heap.size ≤ gb248) := ⟨h7_⟩
    have GE248 : Aside0 (w.heap.size ≤ gb248) := ⟨h8_⟩
    have NB230_248 : Aside0 (gb230 ≠ gb248) := ⟨h9_⟩
    have NB248_230 : Aside0 (gb248 ≠ gb230) := ⟨h10_⟩
    have NB231_248 : Aside0 (gb231 ≠ gb248) := ⟨h11_⟩
    have NB248_231 : Aside0 (gb248 ≠ gb231) := ⟨h12_⟩
    have NB232_248 : Aside0 (gb232 ≠ gb248) := ⟨h13_⟩
    have NB248_232 : Aside0 (gb248 ≠ gb232) := ⟨h14_⟩
    replace BK230 : Aside0 (w13.heap[gb230]? = some (.cells #[.int .i64 a0_0, .int .i64 a0_1, .slice A0_2 l0_2.length c0_2] 32 (0, 0))) := ⟨h3_⟩
    replace BK231 : Aside0 (w13.heap[gb231]? = some (.cells #[.int .i64 0, .int .i64 0, .int .i64 0] 27 (0, 0))) := ⟨h4_⟩
    replace BK232 : Aside0 (w13.heap[gb232]? = some (.cells #[.int .i64 0, .int .i64 0, .slice none 0 0] 32 (0, 0))) := ⟨h5_⟩
    replace HB : Aside0 (Below w.heap.size w w13) := ⟨h15_⟩
    clear h0_ h1_ h2_ h3_ h4_ h5_ h6_ h7_ h8_ h9_ h10_ h11_ h12_ h13_ h14_ h15_
    have hHeld : w13.cell? ⟨gb230, 0, none⟩ = some (.int .i64 a0_0) ∧ w13.cell? ⟨gb230, 1, none⟩ = some (.int .i64 a0_1) ∧ w13.cell? ⟨gb230, 2, none⟩ = some (.slice A0_2 l0_2.length c0_2) := hS_
    refine norm_ (a' := ?_) ?_ ?_
    rotate_left
    ·simp only [putAll, Act.put, q1, q2, q3]
     rfl
    refine one_ (i := 9) (N := some 6) #[true, true, true, true, true, true, true, true, true, true, true, false, false, false] rfl rfl (one_of HT_.out (by kernel_rfl)) (by decide) (fun K hK => ?_)
    refine box_step ?hg (N := 6) ?hd (cs := #[.int .i64 0, .int .i64 0, .int .i64 0]) (t := 27) ?hr ?_; (case hd => rfl); (case hg => rfl); (case hr => first | (go_simp; done) | (go_simp; rfl))
    intro gb247 hg w14 hbox hb
    have BK247 := Aside0.mk (hbox)
    have GW247 := gW (w := w) HB hg
    have GE247 := gW (w := w) HB hg
    have NB230_247 := neL BK230 hg
    have NB247_230 := neG BK230 hg
    have NB231_247 := neL BK231 hg
    have NB247_231 := neG BK231 hg
    have NB232_247 := neL BK232 hg
    have NB247_232 := neG BK232 hg
    have NB248_247 := neL BK248 hg
    have NB247_248 := neG BK248 hg
    replace HO235 := Aside0.mk (Kd.R_below (viaR HO235) hb)
    replace HO243 := Aside0.mk (Kd.R_below (viaR HO243) hb)
    replace HO246 := Aside0.mk (Kd.S_below (viaS HO246) hb)
    replace BK230 := kB BK230 hb
    replace BK231 := kB BK231 hb
    replace BK232 := kB BK232 hb
    replace BK248 := kB BK248 hb
    replace HB := bB HB hb
    clear hb hbox hg
    refine hK.out _ _ ⟨(blk_cell BK230.out 0).trans rfl, (blk_cell BK230.out 1).trans rfl, (blk_cell BK230.out 2).trans rfl⟩ (fun hHeld => ?_)
    clear hK K
    refine norm_ (a' := ?_) ?_ ?_
    rotate_left
    ·show Act.put _ (some 6) _ = _
     simp only [Act.put, q1, q2, q3, i64_w, i32_w]
     rfl
    exact norm_ (by first | (simp only [putAll, Act.put, q1, q2, q3]; done) | (simp only [putAll, Act.put, q1, q2, q3]; rfl)) (hJ2_4_9_10 (v234, v242, v245, gb247, gb248) _ ⟨hHeld, (viaR HO235), (viaR HO243), (viaS HO246), (viaK BK230), (viaK BK231), (viaK BK232), (viaK BK247), (viaK BK248), GW247.out, GE247.out, NB230_247.out, NB247_230.out, NB231_247.out, NB247_231.out, NB232_247.out, NB247_232.out, NB248_247.out, NB247_248.out, GW248.out, GE248.out, NB230_248.out, NB248_230.out, NB231_248.out, NB248_231.out, NB232_248.out, NB248_232.out, (viaB HB)⟩)
  ·skip
   rintro ⟨v234, v242, v245, gb247⟩ w13 ⟨hS_, h0_, h1_, h2_, h3_, h4_, h5_, h6_, h7_, h8_, h9_, h10_, h11_, h12_, h13_, h14_, h15_⟩
   have HO235 : Aside0 (Kd.R (Kd.int .i64) 3 w13 w.heap.size (fun _ => True) v234 t233) := ⟨h0_⟩
   have HO243 : Aside0 (Kd.R k89 89 w13 w.heap.size (fun _ => True) v242 t241) := ⟨h1_⟩
   have HO246 : Aside0 (Kd.S (Kd.slice 3 (Kd.int .i64)) 43 w13 w.heap.size (fun k_ => some k_ ≠ (v234 : Value).ownBlock) v245 t244) := ⟨h2_⟩
   have BK247 : Aside0 (w13.heap[gb247]? = some (.cells #[.int .i64 0, .int .i64 0, .int .i64 0] 27 (0, 0))) := ⟨h6_⟩
   have GW247 : Aside0 (w.heap.size ≤ gb247) := ⟨h7_⟩
   have GE247 : Aside0 (w.heap.size ≤ gb247) := ⟨h8_⟩
   have NB230_247 : Aside0 (gb230 ≠ gb247) := ⟨h9_⟩
   have NB247_230 : Aside0 (gb247 ≠ gb230) := ⟨h10_⟩
   have NB231_247 : Aside0 (gb231 ≠ gb247) := ⟨h11_⟩
   have NB247_231 : Aside0 (gb247 ≠ gb231) := ⟨h12_⟩
   have NB232_247 : Aside0 (gb232 ≠ gb247) := ⟨h13_⟩
   have NB247_232 : Aside0 (gb247 ≠ gb232) := ⟨h14_⟩
   replace BK230 : Aside0 (w13.heap[gb230]? = some (.cells #[.int .i64 a0_0, .int .i64 a0_1, .slice A0_2 l0_2.length c0_2] 32 (0, 0))) := ⟨h3_⟩
   replace BK231 : Aside0 (w13.heap[gb231]? = some (.cells #[.int .i64 0, .int .i64 0, .int .i64 0] 27 (0, 0))) := ⟨h4_⟩
   replace BK232 : Aside0 (w13.heap[gb232]? = some (.cells #[.int .i64 0, .int .i64 0, .slice none 0 0] 32 (0, 0))) := ⟨h5_⟩
   replace HB : Aside0 (Below w.heap.size w w13) := ⟨h15_⟩
   clear h0_ h1_ h2_ h3_ h4_ h5_ h6_ h7_ h8_ h9_ h10_ h11_ h12_ h13_ h14_ h15_
   have hHeld : w13.cell? ⟨gb230, 0, none⟩ = some (.int .i64 a0_0) ∧ w13.cell? ⟨gb230, 1, none⟩ = some (.int .i64 a0_1) ∧ w13.cell? ⟨gb230, 2, none⟩ = some (.slice A0_2 l0_2.length c0_2) := hS_
   refine norm_ (a' := ?_) ?_ ?_
   rotate_left
   ·simp only [putAll, Act.put, q1, q2, q3]
    rfl
   refine one_ (i := 10) (N := some 7) #[true, true, true, true, true, true, true, true, true, true, true, false, false, false] rfl rfl (one_of HT_.out (by kernel_rfl)) (by decide) (fun K hK => ?_)
   refine box_step ?hg (N := 7) ?hd (cs := #[.int .i64 0, .int .i64 0, .slice none 0 0]) (t := 32) ?hr ?_; (case hd => rfl); (case hg => rfl); (case hr => first | (go_simp; done) | (go_simp; rfl))
   intro gb248 hg w14 hbox hb
   have BK248 := Aside0.mk (hbox)
   have GW248 := gW (w := w) HB hg
   have GE248 := gW (w := w) HB hg
   have NB230_248 := neL BK230 hg
   have NB248_230 := neG BK230 hg
   have NB231_248 := neL BK231 hg
   have NB248_231 := neG BK231 hg
   have NB232_248 := neL BK232 hg
   have NB248_232 := neG BK232 hg
   have NB247_248 := neL BK247 hg
   have NB248_247 := neG BK247 hg
   replace HO235 := Aside0.mk (Kd.R_below (viaR HO235) hb)
   replace HO243 := Aside0.mk (Kd.R_below (viaR HO243) hb)
   replace HO246 := Aside0.mk (Kd.S_below (viaS HO246) hb)
   replace BK230 := kB BK230 hb
   replace BK231 := kB BK231 hb
   replace BK232 := kB BK232 hb
   replace BK247 := kB BK247 hb
   replace HB := bB HB hb
   clear hb hbox hg
   refine hK.out _ _ ⟨(blk_cell BK230.out 0).trans rfl, (blk_cell BK230.out 1).trans rfl, (blk_cell BK230.out 2).trans rfl⟩ (fun hHeld => ?_)
   clear hK K
   refine norm_ (a' := ?_) ?_ ?_
   rotate_left
   ·show Act.put _ (some 7) _ = _
    simp only [Act.put, q1, q2, q3, i64_w, i32_w]
    rfl
   exact norm_ (by first | (simp only [putAll, Act.put, q1, q2, q3]; done) | (simp only [putAll, Act.put, q1, q2, q3]; rfl)) (hJ2_4_9_10 (v234, v242, v245, gb247, gb248) _ ⟨hHeld, (viaR HO235), (viaR HO243), (viaS HO246), (viaK BK230), (viaK BK231), (viaK BK232), (viaK BK247), (viaK BK248), GW247.out, GE247.out, NB230_247.out, NB247_230.out, NB231_247.out, NB247_231.out, NB232_247.out, NB247_232.out, NB248_247.out, NB247_248.out, GW248.out, GE248.out, NB230_248.out, NB248_230.out, NB231_248.out, NB248_231.out, NB232_248.out, NB248_232.out, (viaB HB)⟩)
 rintro ⟨v234, v242, v245, gb247, gb248⟩ w14 ⟨hS_, h0_, h1_, h2_, h3_, h4_, h5_, h6_, h7_, h8_, h9_, h10_, h11_, h12_, h13_, h14_, h15_, h16_, h17_, h18_, h19_, h20_, h21_, h22_, h23_, h24_, h25_, h26_⟩
 have HO235 : Aside0 (Kd.R (Kd.int .i64) 3 w14 w.heap.size (fun _ => True) v234 t233) := ⟨h0_⟩
 have HO243 : Aside0 (Kd.R k89 89 w14 w.heap.size (fun _ => True) v242 t241) := ⟨h1_⟩
 have HO246 : Aside0 (Kd.S (Kd.slice 3 (Kd.int .i64)) 43 w14 w.heap.size (fun k_ => some k_ ≠ (v234 : Value).ownBlock) v245 t244) := ⟨h2_⟩
 have BK247 : Aside0 (w14.heap[gb247]? = some (.cells #[.int .i64 0, .int .i64 0, .int .i64 0] 27 (0, 0))) := ⟨h6_⟩
 have BK248 : Aside0 (w14.heap[gb248]? = some (.cells #[.int .i64 0, .int .i64 0, .slice none 0 0] 32 (0, 0))) := ⟨h7_⟩
 have GW247 : Aside0 (w.heap.size ≤ gb247) := ⟨h8_⟩
 have GE247 : Aside0 (w.heap.size ≤ gb247) := ⟨h9_⟩
 have NB230_247 : Aside0 (gb230 ≠ gb247) := ⟨h10_⟩
 have NB247_230 : Aside0 (gb247 ≠ gb230) := ⟨h11_⟩
 have NB231_247 : Aside0 (gb231 ≠ gb247) := ⟨h12_⟩
 have NB247_231 : Aside0 (gb247 ≠ gb231) := ⟨h13_⟩
 have NB232_247 : Aside0 (gb232 ≠ gb247) := ⟨h14_⟩
 have NB247_232 : Aside0 (gb247 ≠ gb232) := ⟨h15_⟩
 have NB248_247 : Aside0 (gb248 ≠ gb247) := ⟨h16_⟩
 have NB247_248 : Aside0 (gb247 ≠ gb248) := ⟨h17_⟩
 have GW248 : Aside0 (w.heap.size ≤ gb248) := ⟨h18_⟩
 have GE248 : Aside0 (w.heap.size ≤ gb248) := ⟨h19_⟩
 have NB230_248 : Aside0 (gb230 ≠ gb248) := ⟨h20_⟩
 have NB248_230 : Aside0 (gb248 ≠ gb230) := ⟨h21_⟩
 have NB231_248 : Aside0 (gb231 ≠ gb248) := ⟨h22_⟩
 have NB248_231 : Aside0 (gb248 ≠ gb231) := ⟨h23_⟩
 have NB232_248 : Aside0 (gb232 ≠ gb248) := ⟨h24_⟩
 have NB248_232 : Aside0 (gb248 ≠ gb232) := ⟨h25_⟩
 replace BK230 : Aside0 (w14.heap[gb230]? = some (.cells #[.int .i64 a0_0, .int .i64 a0_1, .slice A0_2 l0_2.length c0_2] 32 (0, 0))) := ⟨h3_⟩
 replace BK231 : Aside0 (w14.heap[gb231]? = some (.cells #[.int .i64 0, .int .i64 0, .int .i64 0] 27 (0, 0))) := ⟨h4_⟩
 replace BK232 : Aside0 (w14.heap[gb232]? = some (.cells #[.int .i64 0, .int .i64 0, .slice none 0 0] 32 (0, 0))) := ⟨h5_⟩
 replace HB : Aside0 (Below w.heap.size w w14) := ⟨h26_⟩
 clear h0_ h1_ h2_ h3_ h4_ h5_ h6_ h7_ h8_ h9_ h10_ h11_ h12_ h13_ h14_ h15_ h16_ h17_ h18_ h19_ h20_ h21_ h22_ h23_ h24_ h25_ h26_
 have hHeld : w14.cell? ⟨gb230, 0, none⟩ = some (.int .i64 a0_0) ∧ w14.cell? ⟨gb230, 1, none⟩ = some (.int .i64 a0_1) ∧ w14.cell? ⟨gb230, 2, none⟩ = some (.slice A0_2 l0_2.length c0_2) := hS_
 obtain ⟨Ao20, co20, eo20⟩ := Kd.R_slice HO243.out
 (first | subst eo20 | (injection eo20 with f1_ f2_ f3_; have f4_ := f1_.symm; have f5_ := f3_.symm; clear f1_ f2_ f3_; subst f4_; subst f5_))
 refine norm_ (a' := ?_) ?_ ?_
 rotate_left
 ·simp only [putAll, Act.put, q1, q2, q3]
  rfl
 refine one_ (i := 11) (N := none) #[true, true, true, true, true, true, true, true, true, true, true, true, false, false] rfl rfl (one_of HT_.out (by kernel_rfl)) (by decide) (fun K hK => ?_)
 have hs15 : w14.cell? ⟨gb247, 0, none⟩ = some (.int .i64 0) := (blk_cell BK247.out 0).trans rfl
 have hfs15 := blk_frozen BK247.out 0
 have hns15_0 := NB230_247.out
 have hns15_1 := NB231_247.out
 have hns15_2 := NB232_247.out
 have hns15_4 := NB248_247.out
 have hms15_0 := NB247_230.out
 have hms15_1 := NB247_231.out
 have hms15_2 := NB247_232.out
 have hms15_4 := NB247_248.out
 have hs16 : w14.cell? ⟨gb247, 1, none⟩ = some (.int .i64 0) := (blk_cell BK247.out 1).trans rfl
 have hfs16 := blk_frozen BK247.out 1
 have hns16_0 := NB230_247.out
 have hns16_1 := NB231_247.out
 have hns16_2 := NB232_247.out
 have hns16_4 := NB248_247.out
 have hms16_0 := NB247_230.out
 have hms16_1 := NB247_231.out
 have hms16_2 := NB247_232.out
 have hms16_4 := NB247_248.out
 have hs17 : w14.cell? ⟨gb247, 2, none⟩ = some (.int .i64 0) := (blk_cell BK247.out 2).trans rfl
 have hfs17 := blk_frozen BK247.out 2
 have hns17_0 := NB230_247.out
 have hns17_1 := NB231_247.out
 have hns17_2 := NB232_247.out
 have hns17_4 := NB248_247.out
 have hms17_0 := NB247_230.out
 have hms17_1 := NB247_231.out
 have hms17_2 := NB247_232.out
 have hms17_4 := NB247_248.out
 refine skip_ (w1 := ?_) (by rfl) rfl ?_ ?_
 rotate_left
 ·go_simp
  rfl
 refine hK.out _ _ ⟨((cell_far (p := ⟨gb247, _, none⟩) NB230_247.out _).trans (((cell_far (p := ⟨gb247, _, none⟩) NB230_247.out _).trans (((cell_far (p := ⟨gb247, _, none⟩) NB230_247.out _).trans (hHeld.1)))))), ((cell_far (p := ⟨gb247, _, none⟩) NB230_247.out _).trans (((cell_far (p := ⟨gb247, _, none⟩) NB230_247.out _).trans (((cell_far (p := ⟨gb247, _, none⟩) NB230_247.out _).trans (hHeld.2.1)))))), ((cell_far (p := ⟨gb247, _, none⟩) NB230_247.out _).trans (((cell_far (p := ⟨gb247, _, none⟩) NB230_247.out _).trans (((cell_far (p := ⟨gb247, _, none⟩) NB230_247.out _).trans (hHeld.2.2))))))⟩ (fun hHeld => ?_)
 clear hK K
 refine one_ (i := 12) (N := none) #[true, true, true, true, true, true, true, true, true, true, true, true, true, false] rfl rfl (one_of HT_.out (by kernel_rfl)) (by decide) (fun K hK => ?_)
 have hs18 : w14.cell? ⟨gb248, 0, none⟩ = some (.int .i64 0) := (blk_cell BK248.out 0).trans rfl
 have hfs18 := blk_frozen BK248.out 0
 have hns18_0 := NB230_248.out
 have hns18_1 := NB231_248.out
 have hns18_2 := NB232_248.out
 have hns18_3 := NB247_248.out
 have hms18_0 := NB248_230.out
 have hms18_1 := NB248_231.out
 have hms18_2 := NB248_232.out
 have hms18_3 := NB248_247.out
 have hs19 : w14.cell? ⟨gb248, 1, none⟩ = some (.int .i64 0) := (blk_cell BK248.out 1).trans rfl
 have hfs19 := blk_frozen BK248.out 1
 have hns19_0 := NB230_248.out
 have hns19_1 := NB231_248.out
 have hns19_2 := NB232_248.out
 have hns19_3 := NB247_248.out
 have hms19_0 := NB248_230.out
 have hms19_1 := NB248_231.out
 have hms19_2 := NB248_232.out
 have hms19_3 := NB248_247.out
 have hs21 : w14.cell? ⟨gb248, 2, none⟩ = some (.slice none 0 0) := (blk_cell BK248.out 2).trans rfl
 have hfs21 := blk_frozen BK248.out 2
 have hns21_0 := NB230_248.out
 have hns21_1 := NB231_248.out
 have hns21_2 := NB232_248.out
 have hns21_3 := NB247_248.out
 have hms21_0 := NB248_230.out
 have hms21_1 := NB248_231.out
 have hms21_2 := NB248_232.out
 have hms21_3 := NB248_247.out
 refine skip_ (w1 := ?_) (by rfl) rfl ?_ ?_
 rotate_left
 ·go_simp
  rfl
 refine hK.out _ _ ⟨((cell_far (p := ⟨gb248, _, none⟩) NB230_248.out _).trans (((cell_far (p := ⟨gb248, _, none⟩) NB230_248.out _).trans (((cell_far (p := ⟨gb248, _, none⟩) NB230_248.out _).trans (hHeld.1)))))), ((cell_far (p := ⟨gb248, _, none⟩) NB230_248.out _).trans (((cell_far (p := ⟨gb248, _, none⟩) NB230_248.out _).trans (((cell_far (p := ⟨gb248, _, none⟩) NB230_248.out _).trans (hHeld.2.1)))))), ((cell_far (p := ⟨gb248, _, none⟩) NB230_248.out _).trans (((cell_far (p := ⟨gb248, _, none⟩) NB230_248.out _).trans (((cell_far (p := ⟨gb248, _, none⟩) NB230_248.out _).trans (hHeld.2.2))))))⟩ (fun hHeld => ?_)
 clear hK K
 refine pure_ (i := 13) (N := some 8) (v := ?_) (a' := ?_) #[true, true, true, true, true, true, true, true, true, true, true, true, true, true] rfl rfl (any_of HT_.out (by kernel_rfl)) (fun _ _ _ h => h) (Or.inl ⟨by rfl, ?_⟩) ?_ ?_
 rotate_left
 ·intro w'
  go_simp
  with_reducible rfl
 rotate_left
 ·simp only [Act.put, q1, q2, q3, i64_w, i32_w]
  rfl
 refine done_ (done_of HT_.out (by kernel_rfl)) ?_
 try go_wp2
 have n0_ : Aside0 (Kd.R (Kd.int .i64) 3 ((((((w14.setCell ⟨gb247, 0, none⟩ (.int .i64 t236)).setCell ⟨gb247, 1, none⟩ (.int .i64 t237)).setCell ⟨gb247, 2, none⟩ (.int .i64 t238)).setCell ⟨gb248, 0, none⟩ (.int .i64 t239)).setCell ⟨gb248, 1, none⟩ (.int .i64 t240)).setCell ⟨gb248, 2, none⟩ (.slice Ao20 t241.length co20)) w.heap.size (fun _ => True) v234 t233) := ⟨by (with_reducible repeat (first | apply Kd.R_alloc | apply Kd.R_drewN | apply Kd.R_drew)); exact Kd.R_mono (Kd.R_far (p := ⟨gb248, 2, none⟩) (Kd.R_far (p := ⟨gb248, 1, none⟩) (Kd.R_far (p := ⟨gb248, 0, none⟩) (Kd.R_far (p := ⟨gb247, 2, none⟩) (Kd.R_far (p := ⟨gb247, 1, none⟩) (Kd.R_far (p := ⟨gb247, 0, none⟩) (Kd.R_types (Kd.R_types HO235.out BK247.out (by decide)) BK248.out (by decide)) (fun _ hk => hk.1.2) (.int .i64 t236)) (fun _ hk => hk.1.2) (.int .i64 t237)) (fun _ hk => hk.1.2) (.int .i64 t238)) (fun _ hk => hk.2) (.int .i64 t239)) (fun _ hk => hk.2) (.int .i64 t240)) (fun _ hk => hk.2) (.slice Ao20 t241.length co20)) (fun _ hk => trivial)⟩
 have n1_ : Aside0 (Kd.R k89 89 ((((((w14.setCell ⟨gb247, 0, none⟩ (.int .i64 t236)).setCell ⟨gb247, 1, none⟩ (.int .i64 t237)).setCell ⟨gb247, 2, none⟩ (.int .i64 t238)).setCell ⟨gb248, 0, none⟩ (.int .i64 t239)).setCell ⟨gb248, 1, none⟩ (.int .i64 t240)).setCell ⟨gb248, 2, none⟩ (.slice Ao20 t241.length co20)) w.heap.size (fun _ => True) (.slice Ao20 t241.length co20) t241) := ⟨by (with_reducible repeat (first | apply Kd.R_alloc | apply Kd.R_drewN | apply Kd.R_drew)); exact Kd.R_mono (Kd.R_far (p := ⟨gb248, 2, none⟩) (Kd.R_far (p := ⟨gb248, 1, none⟩) (Kd.R_far (p := ⟨gb248, 0, none⟩) (Kd.R_far (p := ⟨gb247, 2, none⟩) (Kd.R_far (p := ⟨gb247, 1, none⟩) (Kd.R_far (p := ⟨gb247, 0, none⟩) (Kd.R_types (Kd.R_types HO243.out BK247.out (by decide)) BK248.out (by decide)) (fun _ hk => hk.1.2) (.int .i64 t236)) (fun _ hk => hk.1.2) (.int .i64 t237)) (fun _ hk => hk.1.2) (.int .i64 t238)) (fun _ hk => hk.2) (.int .i64 t239)) (fun _ hk => hk.2) (.int .i64 t240)) (fun _ hk => hk.2) (.slice Ao20 t241.length co20)) (fun _ hk => trivial)⟩
 have n2_ : Aside0 (Kd.S (Kd.slice 3 (Kd.int .i64)) 43 ((((((w14.setCell ⟨gb247, 0, none⟩ (.int .i64 t236)).setCell ⟨gb247, 1, none⟩ (.int .i64 t237)).setCell ⟨gb247, 2, none⟩ (.int .i64 t238)).setCell ⟨gb248, 0, none⟩ (.int .i64 t239)).setCell ⟨gb248, 1, none⟩ (.int .i64 t240)).setCell ⟨gb248, 2, none⟩ (.slice Ao20 t241.length co20)) w.heap.size (fun k_ => some k_ ≠ (v234 : Value).ownBlock) v245 t244) := ⟨by (with_reducible repeat (first | apply Kd.S_alloc | apply Kd.S_drewN | apply Kd.S_drew)); exact Kd.S_mono (Kd.S_far (p := ⟨gb248, 2, none⟩) (Kd.S_far (p := ⟨gb248, 1, none⟩) (Kd.S_far (p := ⟨gb248, 0, none⟩) (Kd.S_far (p := ⟨gb247, 2, none⟩) (Kd.S_far (p := ⟨gb247, 1, none⟩) (Kd.S_far (p := ⟨gb247, 0, none⟩) (Kd.S_types (Kd.S_types HO246.out BK247.out (by decide)) BK248.out (by decide)) (fun _ hk => hk.1.2) (.int .i64 t236)) (fun _ hk => hk.1.2) (.int .i64 t237)) (fun _ hk => hk.1.2) (.int .i64 t238)) (fun _ hk => hk.2) (.int .i64 t239)) (fun _ hk => hk.2) (.int .i64 t240)) (fun _ hk => hk.2) (.slice Ao20 t241.length co20)) (fun _ hk => hk.1.1)⟩
 have n3_ : Aside0 (((((((w14.setCell ⟨gb247, 0, none⟩ (.int .i64 t236)).setCell ⟨gb247, 1, none⟩ (.int .i64 t237)).setCell ⟨gb247, 2, none⟩ (.int .i64 t238)).setCell ⟨gb248, 0, none⟩ (.int .i64 t239)).setCell ⟨gb248, 1, none⟩ (.int .i64 t240)).setCell ⟨gb248, 2, none⟩ (.slice Ao20 t241.length co20)).heap[gb230]? = some (.cells #[.int .i64 a0_0, .int .i64 a0_1, .slice A0_2 l0_2.length c0_2] 32 (0, 0))) := ⟨by (with_reducible repeat (first | refine blk_drewN ?_ _ | refine blk_drew ?_ | refine blk_alloc ?_ _)); refine blk_far ?_ NB230_248.out _; (with_reducible repeat (first | refine blk_drewN ?_ _ | refine blk_drew ?_ | refine blk_alloc ?_ _)); refine blk_far ?_ NB230_248.out _; (with_reducible repeat (first | refine blk_drewN ?_ _ | refine blk_drew ?_ | refine blk_alloc ?_ _)); refine blk_far ?_ NB230_248.out _; (with_reducible repeat (first | refine blk_drewN ?_ _ | refine blk_drew ?_ | refine blk_alloc ?_ _)); refine blk_far ?_ NB230_247.out _; (with_reducible repeat (first | refine blk_drewN ?_ _ | refine blk_drew ?_ | refine blk_alloc ?_ _)); refine blk_far ?_ NB230_247.out _; (with_reducible repeat (first | refine blk_drewN ?_ _ | refine blk_drew ?_ | refine blk_alloc ?_ _)); refine blk_far ?_ NB230_247.out _; (with_reducible repeat (first | refine blk_drewN ?_ _ | refine blk_drew ?_ | refine blk_alloc ?_ _)); exact BK230.out⟩
 have n4_ : Aside0 (((((((w14.setCell ⟨gb247, 0, none⟩ (.int .i64 t236)).setCell ⟨gb247, 1, none⟩ (.int .i64 t237)).setCell ⟨gb247, 2, none⟩ (.int .i64 t238)).setCell ⟨gb248, 0, none⟩ (.int .i64 t239)).setCell ⟨gb248, 1, none⟩ (.int .i64 t240)).setCell ⟨gb248, 2, none⟩ (.slice Ao20 t241.length co20)).heap[gb231]? = some (.cells #[.int .i64 0, .int .i64 0, .int .i64 0] 27 (0, 0))) := ⟨by (with_reducible repeat (first | refine blk_drewN ?_ _ | refine blk_drew ?_ | refine blk_alloc ?_ _)); refine blk_far ?_ NB231_248.out _; (with_reducible repeat (first | refine blk_drewN ?_ _ | refine blk_drew ?_ | refine blk_alloc ?_ _)); refine blk_far ?_ NB231_248.out _; (with_reducible repeat (first | refine blk_drewN ?_ _ | refine blk_drew ?_ | refine blk_alloc ?_ _)); refine blk_far ?_ NB231_248.out _; (with_reducible repeat (first | refine blk_drewN ?_ _ | refine blk_drew ?_ | refine blk_alloc ?_ _)); refine blk_far ?_ NB231_247.out _; (with_reducible repeat (first | refine blk_drewN ?_ _ | refine blk_drew ?_ | refine blk_alloc ?_ _)); refine blk_far ?_ NB231_247.out _; (with_reducible repeat (first | refine blk_drewN ?_ _ | refine blk_drew ?_ | refine blk_alloc ?_ _)); refine blk_far ?_ NB231_247.out _; (with_reducible repeat (first | refine blk_drewN ?_ _ | refine blk_drew ?_ | refine blk_alloc ?_ _)); exact BK231.out⟩
 have n5_ : Aside0 (((((((w14.setCell ⟨gb247, 0, none⟩ (.int .i64 t236)).setCell ⟨gb247, 1, none⟩ (.int .i64 t237)).setCell ⟨gb247, 2, none⟩ (.int .i64 t238)).setCell ⟨gb248, 0, none⟩ (.int .i64 t239)).setCell ⟨gb248, 1, none⟩ (.int .i64 t240)).setCell ⟨gb248, 2, none⟩ (.slice Ao20 t241.length co20)).heap[gb232]? = some (.cells #[.int .i64 0, .int .i64 0, .slice none 0 0] 32 (0, 0))) := ⟨by (with_reducible repeat (first | refine blk_drewN ?_ _ | refine blk_drew ?_ | refine blk_alloc ?_ _)); refine blk_far ?_ NB232_248.out _; (with_reducible repeat (first | refine blk_drewN ?_ _ | refine blk_drew ?_ | refine blk_alloc ?_ _)); refine blk_far ?_ NB232_248.out _; (with_reducible repeat (first | refine blk_drewN ?_ _ | refine blk_drew ?_ | refine blk_alloc ?_ _)); refine blk_far ?_ NB232_248.out _; (with_reducible repeat (first | refine blk_drewN ?_ _ | refine blk_drew ?_ | refine blk_alloc ?_ _)); refine blk_far ?_ NB232_247.out _; (with_reducible repeat (first | refine blk_drewN ?_ _ | refine blk_drew ?_ | refine blk_alloc ?_ _)); refine blk_far ?_ NB232_247.out _; (with_reducible repeat (first | refine blk_drewN ?_ _ | refine blk_drew ?_ | refine blk_alloc ?_ _)); refine blk_far ?_ NB232_247.out _; (with_reducible repeat (first | refine blk_drewN ?_ _ | refine blk_drew ?_ | refine blk_alloc ?_ _)); exact BK232.out⟩
 have n6_ : Aside0 (((((((w14.setCell ⟨gb247, 0, none⟩ (.int .i64 t236)).setCell ⟨gb247, 1, none⟩ (.int .i64 t237)).setCell ⟨gb247, 2, none⟩ (.int .i64 t238)).setCell ⟨gb248, 0, none⟩ (.int .i64 t239)).setCell ⟨gb248, 1, none⟩ (.int .i64 t240)).setCell ⟨gb248, 2, none⟩ (.slice Ao20 t241.length co20)).heap[gb247]? = some (.cells #[.int .i64 t236, .int .i64 t237, .int .i64 t238] 27 (0, 0))) := ⟨by (with_reducible repeat (first | refine blk_drewN ?_ _ | refine blk_drew ?_ | refine blk_alloc ?_ _)); refine blk_far ?_ NB247_248.out _; (with_reducible repeat (first | refine blk_drewN ?_ _ | refine blk_drew ?_ | refine blk_alloc ?_ _)); refine blk_far ?_ NB247_248.out _; (with_reducible repeat (first | refine blk_drewN ?_ _ | refine blk_drew ?_ | refine blk_alloc ?_ _)); refine blk_far ?_ NB247_248.out _; (with_reducible repeat (first | refine blk_drewN ?_ _ | refine blk_drew ?_ | refine blk_alloc ?_ _)); refine blk_put (cs := #[.int .i64 t236, .int .i64 t237, .int .i64 0]) ?_ 2 _ rfl; (with_reducible repeat (first | refine blk_drewN ?_ _ | refine blk_drew ?_ | refine blk_alloc ?_ _)); refine blk_put (cs := #[.int .i64 t236, .int .i64 0, .int .i64 0]) ?_ 1 _ rfl; (with_reducible repeat (first | refine blk_drewN ?_ _ | refine blk_drew ?_ | refine blk_alloc ?_ _)); refine blk_put (cs := #[.int .i64 0, .int .i64 0, .int .i64 0]) ?_ 0 _ rfl; (with_reducible repeat (first | refine blk_drewN ?_ _ | refine blk_drew ?_ | refine blk_alloc ?_ _)); exact BK247.out⟩
 have n7_ : Aside0 (((((((w14.setCell ⟨gb247, 0, none⟩ (.int .i64 t236)).setCell ⟨gb247, 1, none⟩ (.int .i64 t237)).setCell ⟨gb247, 2, none⟩ (.int .i64 t238)).setCell ⟨gb248, 0, none⟩ (.int .i64 t239)).setCell ⟨gb248, 1, none⟩ (.int .i64 t240)).setCell ⟨gb248, 2, none⟩ (.slice Ao20 t241.length co20)).heap[gb248]? = some (.cells #[.int .i64 t239, .int .i64 t240, .slice Ao20 t241.length co20] 32 (0, 0))) := ⟨by (with_reducible repeat (first | refine blk_drewN ?_ _ | refine blk_drew ?_ | refine blk_alloc ?_ _)); refine blk_put (cs := #[.int .i64 t239, .int .i64 t240, .slice none 0 0]) ?_ 2 _ rfl; (with_reducible repeat (first | refine blk_drewN ?_ _ | refine blk_drew ?_ | refine blk_alloc ?_ _)); refine blk_put (cs := #[.int .i64 t239, .int .i64 0, .slice none 0 0]) ?_ 1 _ rfl; (with_reducible repeat (first | refine blk_drewN ?_ _ | refine blk_drew ?_ | refine blk_alloc ?_ _)); refine blk_put (cs := #[.int .i64 0, .int .i64 0, .slice none 0 0]) ?_ 0 _ rfl; (with_reducible repeat (first | refine blk_drewN ?_ _ | refine blk_drew ?_ | refine blk_alloc ?_ _)); refine blk_far ?_ NB248_247.out _; (with_reducible repeat (first | refine blk_drewN ?_ _ | refine blk_drew ?_ | refine blk_alloc ?_ _)); refine blk_far ?_ NB248_247.out _; (with_reducible repeat (first | refine blk_drewN ?_ _ | refine blk_drew ?_ | refine blk_alloc ?_ _)); refine blk_far ?_ NB248_247.out _; (with_reducible repeat (first | refine blk_drewN ?_ _ | refine blk_drew ?_ | refine blk_alloc ?_ _)); exact BK248.out⟩
 have n8_ : Aside0 (Below w.heap.size w ((((((w14.setCell ⟨gb247, 0, none⟩ (.int .i64 t236)).setCell ⟨gb247, 1, none⟩ (.int .i64 t237)).setCell ⟨gb247, 2, none⟩ (.int .i64 t238)).setCell ⟨gb248, 0, none⟩ (.int .i64 t239)).setCell ⟨gb248, 1, none⟩ (.int .i64 t240)).setCell ⟨gb248, 2, none⟩ (.slice Ao20 t241.length co20))) := ⟨viaB HB⟩
 (try clear HO235); (try clear HO243); (try clear HO246); (try clear BK230); (try clear BK231); (try clear BK232); (try clear BK247); (try clear BK248); (try clear HB)
 generalize ((((((w14.setCell ⟨gb247, 0, none⟩ (.int .i64 t236)).setCell ⟨gb247, 1, none⟩ (.int .i64 t237)).setCell ⟨gb247, 2, none⟩ (.int .i64 t238)).setCell ⟨gb248, 0, none⟩ (.int .i64 t239)).setCell ⟨gb248, 1, none⟩ (.int .i64 t240)).setCell ⟨gb248, 2, none⟩ (.slice Ao20 t241.length co20)) = w22 at n0_ n1_ n2_ n3_ n4_ n5_ n6_ n7_ n8_ ⊢
 have HO235 := n0_
 have HO243 := n1_
 have HO246 := n2_
 have BK230 := n3_
 have BK231 := n4_
 have BK232 := n5_
 have BK247 := n6_
 have BK248 := n7_
 have HB := n8_
 clear n0_ n1_ n2_ n3_ n4_ n5_ n6_ n7_ n8_
 replace HO235 := Aside0.mk (Kd.R_drew HO235.out)
 replace HO243 := Aside0.mk (Kd.R_drew HO243.out)
 replace HO246 := Aside0.mk (Kd.S_drew HO246.out)
 replace BK230 := Aside0.mk (blk_drew BK230.out)
 replace BK231 := Aside0.mk (blk_drew BK231.out)
 replace BK232 := Aside0.mk (blk_drew BK232.out)
 replace BK247 := Aside0.mk (blk_drew BK247.out)
 replace BK248 := Aside0.mk (blk_drew BK248.out)
 replace HB := Aside0.mk (below_drew1 HB.out)
 refine start_ (n := 4) (S := fun w' => w'.cell? ⟨gb247, 0, none⟩ = some (.int .i64 t236) ∧ w'.cell? ⟨gb247, 1, none⟩ = some (.int .i64 t237) ∧ w'.cell? ⟨gb247, 2, none⟩ = some (.int .i64 t238) ∧ w'.cell? ⟨gb248, 0, none⟩ = some (.int .i64 t239) ∧ w'.cell? ⟨gb248, 1, none⟩ = some (.int .i64 t240) ∧ w'.cell? ⟨gb248, 2, none⟩ = some (.slice Ao20 t241.length co20)) (ds := []) #[false, false, false, false] (by kernel_rfl) rfl rfl ⟨(blk_cell BK247.out 0).trans rfl, (blk_cell BK247.out 1).trans rfl, (blk_cell BK247.out 2).trans rfl, (blk_cell BK248.out 0).trans rfl, (blk_cell BK248.out 1).trans rfl, (blk_cell BK248.out 2).trans rfl⟩ (fun hHeld => ?_)
 generalize w22.drew = w23 at HO235 HO243 HO246 BK230 BK231 BK232 BK247 BK248 HB hHeld ⊢
 refine take_ (i := 0) (N := some 18) (v := ?_) (a' := ?_) #[true, false, false, false] rfl rfl (by kernel_rfl) (fun _ _ _ h => h) (Or.inl ⟨by rfl, ?_⟩) hHeld ?_ ?_
 rotate_left
 ·rintro w' ⟨s0, s1, s2, s3, s4, s5⟩
  go_simp
  with_reducible rfl
 rotate_left
 ·simp only [Act.put, q1, q2, q3, i64_w, i32_w]
  rfl
 refine take_ (i := 1) (N := some 19) (v := ?_) (a' := ?_) #[true, true, false, false] rfl rfl (by kernel_rfl) (fun _ _ _ h => h) (Or.inl ⟨by rfl, ?_⟩) hHeld ?_ ?_
 rotate_left
 ·rintro w' ⟨s0, s1, s2, s3, s4, s5⟩
  go_simp
  with_reducible rfl
 rotate_left
 ·simp only [Act.put, q1, q2, q3, i64_w, i32_w]
  rfl
 refine one_ (i := 2) (N := none) #[true, true, true, false] rfl rfl (by kernel_rfl) (by decide) (fun K hK => ?_)
 have hs24 : w23.cell? ⟨gb231, 0, none⟩ = some (.int .i64 0) := (blk_cell BK231.out 0).trans rfl
 have hfs24 := blk_frozen BK231.out 0
 have hns24_0 := NB230_231.out
 have hns24_2 := NB232_231.out
 have hns24_3 := NB247_231.out
 have hns24_4 := NB248_231.out
 have hms24_0 := NB231_230.out
 have hms24_2 := NB231_232.out
 have hms24_3 := NB231_247.out
 have hms24_4 := NB231_248.out
 have hs25 : w23.cell? ⟨gb231, 1, none⟩ = some (.int .i64 0) := (blk_cell BK231.out 1).trans rfl
 have hfs25 := blk_frozen BK231.out 1
 have hns25_0 := NB230_231.out
 have hns25_2 := NB232_231.out
 have hns25_3 := NB247_231.out
 have hns25_4 := NB248_231.out
 have hms25_0 := NB231_230.out
 have hms25_2 := NB231_232.out
 have hms25_3 := NB231_247.out
 have hms25_4 := NB231_248.out
 have hs26 : w23.cell? ⟨gb231, 2, none⟩ = some (.int .i64 0) := (blk_cell BK231.out 2).trans rfl
 have hfs26 := blk_frozen BK231.out 2
 have hns26_0 := NB230_231.out
 have hns26_2 := NB232_231.out
 have hns26_3 := NB247_231.out
 have hns26_4 := NB248_231.out
 have hms26_0 := NB231_230.out
 have hms26_2 := NB231_232.out
 have hms26_3 := NB231_247.out
 have hms26_4 := NB231_248.out
 refine skip_ (w1 := ?_) (by rfl) rfl ?_ ?_
 rotate_left
 ·go_simp
  rfl
 refine hK.out _ _ ⟨((cell_far (p := ⟨gb231, _, none⟩) NB247_231.out _).trans (((cell_far (p := ⟨gb231, _, none⟩) NB247_231.out _).trans (((cell_far (p := ⟨gb231, _, none⟩) NB247_231.out _).trans (hHeld.1)))))), ((cell_far (p := ⟨gb231, _, none⟩) NB247_231.out _).trans (((cell_far (p := ⟨gb231, _, none⟩) NB247_231.out _).trans (((cell_far (p := ⟨gb231, _, none⟩) NB247_231.out _).trans (hHeld.2.1)))))), ((cell_far (p := ⟨gb231, _, none⟩) NB247_231.out _).trans (((cell_far (p := ⟨gb231, _, none⟩) NB247_231.out _).trans (((cell_far (p := ⟨gb231, _, none⟩) NB247_231.out _).trans (hHeld.2.2.1)))))), ((cell_far (p := ⟨gb231, _, none⟩) NB248_231.out _).trans (((cell_far (p := ⟨gb231, _, none⟩) NB248_231.out _).trans (((cell_far (p := ⟨gb231, _, none⟩) NB248_231.out _).trans (hHeld.2.2.2.1)))))), ((cell_far (p := ⟨gb231, _, none⟩) NB248_231.out _).trans (((cell_far (p := ⟨gb231, _, none⟩) NB248_231.out _).trans (((cell_far (p := ⟨gb231, _, none⟩) NB248_231.out _).trans (hHeld.2.2.2.2.1)))))), ((cell_far (p := ⟨gb231, _, none⟩) NB248_231.out _).trans (((cell_far (p := ⟨gb231, _, none⟩) NB248_231.out _).trans (((cell_far (p := ⟨gb231, _, none⟩) NB248_231.out _).trans (hHeld.2.2.2.2.2))))))⟩ (fun hHeld => ?_)
 clear hK K
 refine one_ (i := 3) (N := none) #[true, true, true, true] rfl rfl (by kernel_rfl) (by decide) (fun K hK => ?_)
 have hs27 : w23.cell? ⟨gb232, 0, none⟩ = some (.int .i64 0) := (blk_cell BK232.out 0).trans rfl
 have hfs27 := blk_frozen BK232.out 0
 have hns27_0 := NB230_232.out
 have hns27_1 := NB231_232.out
 have hns27_3 := NB247_232.out
 have hns27_4 := NB248_232.out
 have hms27_0 := NB232_230.out
 have hms27_1 := NB232_231.out
 have hms27_3 := NB232_247.out
 have hms27_4 := NB232_248.out
 have hs28 : w23.cell? ⟨gb232, 1, none⟩ = some (.int .i64 0) := (blk_cell BK232.out 1).trans rfl
 have hfs28 := blk_frozen BK232.out 1
 have hns28_0 := NB230_232.out
 have hns28_1 := NB231_232.out
 have hns28_3 := NB247_232.out
 have hns28_4 := NB248_232.out
 have hms28_0 := NB232_230.out
 have hms28_1 := NB232_231.out
 have hms28_3 := NB232_247.out
 have hms28_4 := NB232_248.out
 have hs29 : w23.cell? ⟨gb232, 2, none⟩ = some (.slice none 0 0) := (blk_cell BK232.out 2).trans rfl
 have hfs29 := blk_frozen BK232.out 2
 have hns29_0 := NB230_232.out
 have hns29_1 := NB231_232.out
 have hns29_3 := NB247_232.out
 have hns29_4 := NB248_232.out
 have hms29_0 := NB232_230.out
 have hms29_1 := NB232_231.out
 have hms29_3 := NB232_247.out
 have hms29_4 := NB232_248.out
 refine skip_ (w1 := ?_) (by rfl) rfl ?_ ?_
 rotate_left
 ·go_simp
  rfl
 refine hK.out _ _ ⟨((cell_far (p := ⟨gb232, _, none⟩) NB247_232.out _).trans (((cell_far (p := ⟨gb232, _, none⟩) NB247_232.out _).trans (((cell_far (p := ⟨gb232, _, none⟩) NB247_232.out _).trans (hHeld.1)))))), ((cell_far (p := ⟨gb232, _, none⟩) NB247_232.out _).trans (((cell_far (p := ⟨gb232, _, none⟩) NB247_232.out _).trans (((cell_far (p := ⟨gb232, _, none⟩) NB247_232.out _).trans (hHeld.2.1)))))), ((cell_far (p := ⟨gb232, _, none⟩) NB247_232.out _).trans (((cell_far (p := ⟨gb232, _, none⟩) NB247_232.out _).trans (((cell_far (p := ⟨gb232, _, none⟩) NB247_232.out _).trans (hHeld.2.2.1)))))), ((cell_far (p := ⟨gb232, _, none⟩) NB248_232.out _).trans (((cell_far (p := ⟨gb232, _, none⟩) NB248_232.out _).trans (((cell_far (p := ⟨gb232, _, none⟩) NB248_232.out _).trans (hHeld.2.2.2.1)))))), ((cell_far (p := ⟨gb232, _, none⟩) NB248_232.out _).trans (((cell_far (p := ⟨gb232, _, none⟩) NB248_232.out _).trans (((cell_far (p := ⟨gb232, _, none⟩) NB248_232.out _).trans (hHeld.2.2.2.2.1)))))), ((cell_far (p := ⟨gb232, _, none⟩) NB248_232.out _).trans (((cell_far (p := ⟨gb232, _, none⟩) NB248_232.out _).trans (((cell_far (p := ⟨gb232, _, none⟩) NB248_232.out _).trans (hHeld.2.2.2.2.2))))))⟩ (fun hHeld => ?_)
 clear hK K
 refine done_ (by kernel_rfl) ?_
 try go_wp2
 refine bodyPost_ret (results_cc rfl _ _ gb231 gb232 27 32 #[.int .i64 t236, .int .i64 t237, .int .i64 t238] #[.int .i64 t239, .int .i64 t240, .slice Ao20 t241.length co20] (0, 0) (0, 0) _ _ rfl (by (with_reducible repeat (first | refine blk_drewN ?_ _ | refine blk_drew ?_ | refine blk_alloc ?_ _)); refine blk_far ?_ NB231_232.out _; (with_reducible repeat (first | refine blk_drewN ?_ _ | refine blk_drew ?_ | refine blk_alloc ?_ _)); refine blk_far ?_ NB231_232.out _; (with_reducible repeat (first | refine blk_drewN ?_ _ | refine blk_drew ?_ | refine blk_alloc ?_ _)); refine blk_far ?_ NB231_232.out _; (with_reducible repeat (first | refine blk_drewN ?_ _ | refine blk_drew ?_ | refine blk_alloc ?_ _)); refine blk_put (cs := #[.int .i64 t236, .int .i64 t237, .int .i64 0]) ?_ 2 _ rfl; (with_reducible repeat (first | refine blk_drewN ?_ _ | refine blk_drew ?_ | refine blk_alloc ?_ _)); refine blk_put (cs := #[.int .i64 t236, .int .i64 0, .int .i64 0]) ?_ 1 _ rfl; (with_reducible repeat (first | refine blk_drewN ?_ _ | refine blk_drew ?_ | refine blk_alloc ?_ _)); refine blk_put (cs := #[.int .i64 0, .int .i64 0, .int .i64 0]) ?_ 0 _ rfl; (with_reducible repeat (first | refine blk_drewN ?_ _ | refine blk_drew ?_ | refine blk_alloc ?_ _)); exact BK231.out) Try.underlying27 rfl (by kernel_rfl) rfl (by (with_reducible repeat (first | refine blk_drewN ?_ _ | refine blk_drew ?_ | refine blk_alloc ?_ _)); refine blk_put (cs := #[.int .i64 t239, .int .i64 t240, .slice none 0 0]) ?_ 2 _ rfl; (with_reducible repeat (first | refine blk_drewN ?_ _ | refine blk_drew ?_ | refine blk_alloc ?_ _)); refine blk_put (cs := #[.int .i64 t239, .int .i64 0, .slice none 0 0]) ?_ 1 _ rfl; (with_reducible repeat (first | refine blk_drewN ?_ _ | refine blk_drew ?_ | refine blk_alloc ?_ _)); refine blk_put (cs := #[.int .i64 0, .int .i64 0, .slice none 0 0]) ?_ 0 _ rfl; (with_reducible repeat (first | refine blk_drewN ?_ _ | refine blk_drew ?_ | refine blk_alloc ?_ _)); refine blk_far ?_ NB232_231.out _; (with_reducible repeat (first | refine blk_drewN ?_ _ | refine blk_drew ?_ | refine blk_alloc ?_ _)); refine blk_far ?_ NB232_231.out _; (with_reducible repeat (first | refine blk_drewN ?_ _ | refine blk_drew ?_ | refine blk_alloc ?_ _)); refine blk_far ?_ NB232_231.out _; (with_reducible repeat (first | refine blk_drewN ?_ _ | refine blk_drew ?_ | refine blk_alloc ?_ _)); exact BK232.out) Try.underlying32 rfl (by kernel_rfl)) rfl ?_
 exact ⟨_, by first | rfl | (simp [errW_none, errW_some] <;> rfl) | (simp [*, errW_none, errW_some] <;> rfl), by (with_reducible repeat (first | apply Kd.R_alloc | apply Kd.R_drewN | apply Kd.R_drew)); exact Kd.R_mono (Kd.R_far (p := ⟨gb232, 2, none⟩) (Kd.R_far (p := ⟨gb232, 1, none⟩) (Kd.R_far (p := ⟨gb232, 0, none⟩) (Kd.R_far (p := ⟨gb231, 2, none⟩) (Kd.R_far (p := ⟨gb231, 1, none⟩) (Kd.R_far (p := ⟨gb231, 0, none⟩) (Kd.R_types (Kd.R_types HO243.out BK231.out (by decide)) BK232.out (by decide)) (fun _ hk => hk.1.2) (.int .i64 t236)) (fun _ hk => hk.1.2) (.int .i64 t237)) (fun _ hk => hk.1.2) (.int .i64 t238)) (fun _ hk => hk.2) (.int .i64 t239)) (fun _ hk => hk.2) (.int .i64 t240)) (fun _ hk => hk.2) (.slice Ao20 t241.length co20)) (fun _ hk => trivial), viaB HB⟩

end Go.Proofs.Ytoklfgjemfojgaa.PFnExactBoardAfter
