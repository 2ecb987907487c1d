/- Began as a text that print.sh wrote (of the functions named below); turned and shortened by this session. -/
import Derived.Test.YtjkiolpepchpdaaG0
import Derived.Test.YtjkiolpepchpdaaG4
import Derived.Test.YtjkiolpepchpdaaG6
namespace Go.Proofs.Ytjkiolpepchpdaa.PAll
open Go.RowKit Go.Proofs.YtjkiolpepchpdaaW.PrintWords Go.Proofs.YtjkiolpepchpdaaW.PrintLast Go.Proofs.YtjkiolpepchpdaaW.PrintMore
attribute [local go_sem] max2_int min2_int max_two min_two max_three min_three max_four min_four   -- for this text's walks alone
set_option linter.unusedVariables false
set_option linter.unusedSimpArgs false

/-! ### spec_flRun: function 57 -/
def spec_flRun.f (k : Nat) (a0_0 : Int) (a0_1 : Int) (l0_2 : List (S88)) (a1 : Int) : Option (Int × Int × Int × Int × Int × (List (S88))) := (spec_ggGroups.f k a0_0 a0_1 l0_2).bind fun t218 => ((spec_flGo.f k a0_0 a0_1 l0_2 t218 a1).bind fun bt221 => (some (bt221.1, bt221.2.1, bt221.2.2.1, bt221.2.2.2.1, bt221.2.2.2.2.1, bt221.2.2.2.2.2.1)))
def spec_flRun.T1 : Bool × List (List Nat × List Nat) := (true, [([], []), ([], []), ([1], [1]), ([], []), ([0, 2, 3, 2], [0, 2, 3]), ([4], [4]), ([5], [5]), ([5], [5]), ([5], [5]), ([], []), ([], []), ([9, 6, 4, 0, 1, 2, 3, 4, 5, 6, 9, 10], [6, 9]), ([10, 7, 11, 0, 1, 2, 3, 4, 5, 6, 7, 9, 10, 11], [7, 10]), ([8, 12, 0, 1, 2, 3, 4, 5, 6, 7, 8, 9, 10, 11, 12], [8])])
def spec_flRun.B1 : List Nat := [0, 0, 2, 0, 15, 31, 63, 63, 63, 0, 0, 1663, 3839, 8191]
theorem spec_flRun.tab1 : rtab .any (opsOf Try.f57 1) = spec_flRun.T1 := by kernel_rfl
theorem spec_flRun.bits1 : waitsOk spec_flRun.T1.2 spec_flRun.B1 = true := by kernel_rfl
set_option maxHeartbeats 8000000 in
set_option maxRecDepth 100000 in
theorem spec_flRun.calls (k : Nat) (a0_0 : Int) (a0_1 : Int) (A0_2 : Option Addr) (c0_2 : Nat) (l0_2 : List (S88)) (a1 : Int) (r1 : Int) (r2 : Int) (r3 : Int) (r4 : Int) (r5 : Int) (r6 : List (S88)) (w : World) (hr0_2 : Kd.C k88 w A0_2 l0_2.length l0_2) (hc0_2 : l0_2.length ≤ c0_2) (h : spec_flRun.f k a0_0 a0_1 l0_2 a1 = some (r1, r2, r3, r4, r5, r6)) :
 Calls Try.prog 57 #[.agg #[.int .i64 a0_0, .int .i64 a0_1, .slice A0_2 l0_2.length c0_2], .int .i64 a1] w fun e w' => ∃ v5_ : Value, e = .returned (.tuple #[.agg #[.int .i64 r1, .int .i64 r2, .int .i64 r3], .agg #[.int .i64 r4, .int .i64 r5, v5_]]) ∧ Kd.R k88 88 w' w.heap.size (fun _ => True) v5_ r6 ∧ Below w.heap.size w w' := by
 have D9 := Try.underlying30
 have Da := Try.underlying52
 have AU := Z.m hr0_2
 have AT := Z.m hc0_2
 clear hr0_2 hc0_2
 have HB := Z.m (Below.refl w.heap.size w)
 have H : ((spec_ggGroups.f k a0_0 a0_1 l0_2).bind fun At => ((spec_flGo.f k a0_0 a0_1 l0_2 At a1).bind fun bt221 => (some (bt221.1, bt221.2.1, bt221.2.2.1, bt221.2.2.2.1, bt221.2.2.2.2.1, bt221.2.2.2.2.2.1)))) = some (r1, r2, r3, r4, r5, r6) := h
 clear h
 replace H := Option.bind_eq_some_iff.mp H
 obtain ⟨At, CS, H⟩ := H
 replace H : ((spec_flGo.f k a0_0 a0_1 l0_2 At a1).bind fun bt221 => (some (bt221.1, bt221.2.1, bt221.2.2.1, bt221.2.2.2.1, bt221.2.2.2.2.1, bt221.2.2.2.2.2.1))) = some (r1, r2, r3, r4, r5, r6) := H
 have A3 := Z.m CS
 clear CS
 replace H := Option.bind_eq_some_iff.mp H
 obtain ⟨⟨Az, AA, AB, AC, AD, AE, AR⟩, CT, H⟩ := H
 replace H : (some (Az, AA, AB, AC, AD, AE)) = some (r1, r2, r3, r4, r5, r6) := H
 have A4 := Z.m CT
 clear CT
 simp only [Option.some.injEq, Prod.mk.injEq] at H
 obtain ⟨rfl, rfl, rfl, rfl, rfl, rfl⟩ := H
 go_enter Try.func57, Try.ntmps57
 try go_wp2_with (first | ((with_reducible refine gq (N := 2) rfl ?_); refine be (N := 2) (cs := #[.int .i64 a0_0, .int .i64 a0_1, .slice A0_2 l0_2.length c0_2]) (t := 30) ?_; intro A1 hg w5 hbox hb; have A0 := Z.m (hbox); have Bb := gW (w := w) HB hg; have CU := Bb; replace HB := bB HB hb; clear hb hbox hg) | ((with_reducible refine gq (N := 4) rfl ?_); refine be (N := 4) (cs := #[.int .i64 0, .int .i64 0, .int .i64 0]) (t := 52) ?_; intro Ae hg w6 hbox hb; have A6 := Z.m (hbox); have Bc := gW (w := w) HB hg; have CV := Bc; have AN := neL A0 hg; have AP := neG A0 hg; replace A0 := kB A0 hb; replace HB := bB HB hb; clear hb hbox hg) | ((with_reducible refine gq (N := 5) rfl ?_); refine be (N := 5) (cs := #[.int .i64 0, .int .i64 0, .slice none 0 0]) (t := 30) ?_; intro Af hg w7 hbox hb; have A7 := Z.m (hbox); have Bd := gW (w := w) HB hg; have CW := Bd; have AO := neL A0 hg; have AQ := neG A0 hg; have AF := neL A6 hg; have AG := neG A6 hg; replace A0 := kB A0 hb; replace A6 := kB A6 hb; replace HB := bB HB hb; clear hb hbox hg))
 replace A0 := Z.m (blk_drew A0.o)
 replace A6 := Z.m (blk_drew A6.o)
 replace A7 := Z.m (blk_drew A7.o)
 replace HB := Z.m (qd HB.o)
 refine start_ (n := 14) (S := fun w' => w'.cell? ⟨A1, 0, none⟩ = some (.int .i64 a0_0) ∧ w'.cell? ⟨A1, 1, none⟩ = some (.int .i64 a0_1) ∧ w'.cell? ⟨A1, 2, none⟩ = some (.slice A0_2 l0_2.length c0_2)) (ds := []) #[false, false, false, false, false, false, false, false, false, false, false, false, false, false] (by kernel_rfl) rfl rfl ⟨(ql A0.o 0).trans rfl, (ql A0.o 1).trans rfl, (ql A0.o 2).trans rfl⟩ (fun hHeld => ?_); refine with_tabW spec_flRun.tab1 spec_flRun.bits1 (fun HT_ HW_ => ?_)
 generalize w7.drew = w8 at A0 A6 A7 HB hHeld ⊢
 refine pure_ (i := 3) (N := some 13) (v := ?_) (a' := ?_) #[false, false, false, true, false, false, false, false, false, false, false, false, false, false] rfl rfl (any_of HT_.o (by kernel_rfl)) (fun _ _ _ h => h) (Or.inl ⟨by rfl, ?_⟩) ?_ ?_
 rotate_left
 ·intro w'
  go_simp
  with_reducible rfl
 rotate_left
 ·simp only [Act.put, q1, q2, q3, i64_w, i32_w]
  rfl
 refine take_ (i := 0) (N := some 10) (v := ?_) (a' := ?_) #[true, false, false, true, false, false, false, false, false, false, false, false, false, false] rfl rfl (take_ofW HT_.o HW_.o (by kernel_rfl)) (fun _ _ _ h => h) (Or.inl ⟨by rfl, ?_⟩) hHeld ?_ ?_
 rotate_left
 ·rintro w' ⟨s0, s1, s2⟩
  go_simp
  with_reducible rfl
 rotate_left
 ·simp only [Act.put, q1, q2, q3, i64_w, i32_w]
  rfl
 refine take_ (i := 1) (N := some 11) (v := ?_) (a' := ?_) #[true, true, false, true, false, false, false, false, false, false, false, false, false, false] rfl rfl (take_ofW HT_.o HW_.o (by kernel_rfl)) (fun _ _ _ h => h) (Or.inl ⟨by rfl, ?_⟩) hHeld ?_ ?_
 rotate_left
 ·rintro w' ⟨s0, s1, s2⟩
  go_simp
  with_reducible rfl
 rotate_left
 ·simp only [Act.put, q1, q2, q3, i64_w, i32_w]
  rfl
 refine join_ (σ := Value × Value × Value × Nat × Nat) 3 #[true, true, true, true, true, true, true, true, true, true, true, false, false, false] (fun s_ => [(12, s_.1), (14, .tuple #[.agg #[.int .i64 Az, .int .i64 AA, .int .i64 AB], .agg #[.int .i64 AC, .int .i64 AD, s_.2.1], s_.2.2.1]), (6, .pointer (some ⟨s_.2.2.2.1, 0, none⟩)), (7, .pointer (some ⟨s_.2.2.2.2, 0, none⟩)), (9, .tuple #[.agg #[.int .i64 Az, .int .i64 AA, .int .i64 AB], .agg #[.int .i64 AC, .int .i64 AD, s_.2.1], s_.2.2.1]), (15, .agg #[.int .i64 Az, .int .i64 AA, .int .i64 AB]), (16, .agg #[.int .i64 AC, .int .i64 AD, s_.2.1]), (17, s_.2.2.1)]) (fun s_ w' => (w'.cell? ⟨A1, 0, none⟩ = some (.int .i64 a0_0) ∧ w'.cell? ⟨A1, 1, none⟩ = some (.int .i64 a0_1) ∧ w'.cell? ⟨A1, 2, none⟩ = some (.slice A0_2 l0_2.length c0_2)) ∧ (Kd.R (Kd.int .i64) 3 w' w.heap.size (fun _ => True) s_.1 At) ∧ (Kd.R k88 88 w' w.heap.size (fun _ => True) s_.2.1 AE) ∧ (Kd.S (Kd.slice 3 (Kd.int .i64)) 41 w' w.heap.size (fun k_ => some k_ ≠ (s_.1 : Value).ownBlock) s_.2.2.1 AR) ∧ (w'.heap[A1]? = some (.cells #[.int .i64 a0_0, .int .i64 a0_1, .slice A0_2 l0_2.length c0_2] 30 (0, 0))) ∧ (w'.heap[Ae]? = some (.cells #[.int .i64 0, .int .i64 0, .int .i64 0] 52 (0, 0))) ∧ (w'.heap[Af]? = some (.cells #[.int .i64 0, .int .i64 0, .slice none 0 0] 30 (0, 0))) ∧ (w'.heap[s_.2.2.2.1]? = some (.cells #[.int .i64 0, .int .i64 0, .int .i64 0] 52 (0, 0))) ∧ (w'.heap[s_.2.2.2.2]? = some (.cells #[.int .i64 0, .int .i64 0, .slice none 0 0] 30 (0, 0))) ∧ (w.heap.size ≤ s_.2.2.2.1) ∧ (w.heap.size ≤ s_.2.2.2.1) ∧ (A1 ≠ s_.2.2.2.1) ∧ (s_.2.2.2.1 ≠ A1) ∧ (Ae ≠ s_.2.2.2.1) ∧ (s_.2.2.2.1 ≠ Ae) ∧ (Af ≠ s_.2.2.2.1) ∧ (s_.2.2.2.1 ≠ Af) ∧ (s_.2.2.2.2 ≠ s_.2.2.2.1) ∧ (s_.2.2.2.1 ≠ s_.2.2.2.2) ∧ (w.heap.size ≤ s_.2.2.2.2) ∧ (w.heap.size ≤ s_.2.2.2.2) ∧ (A1 ≠ s_.2.2.2.2) ∧ (s_.2.2.2.2 ≠ A1) ∧ (Ae ≠ s_.2.2.2.2) ∧ (s_.2.2.2.2 ≠ Ae) ∧ (Af ≠ s_.2.2.2.2) ∧ (s_.2.2.2.2 ≠ Af) ∧ (Below w.heap.size w w')) ?_ ?_
 rotate_left
 ·intro hJ2_4_9_10
  refine join_ (σ := Value × Value × Value × Nat) 4 #[true, true, true, true, true, true, true, true, true, true, false, false, false, false] (fun s_ => [(12, s_.1), (14, .tuple #[.agg #[.int .i64 Az, .int .i64 AA, .int .i64 AB], .agg #[.int .i64 AC, .int .i64 AD, s_.2.1], s_.2.2.1]), (6, .pointer (some ⟨s_.2.2.2, 0, none⟩)), (9, .tuple #[.agg #[.int .i64 Az, .int .i64 AA, .int .i64 AB], .agg #[.int .i64 AC, .int .i64 AD, s_.2.1], s_.2.2.1]), (15, .agg #[.int .i64 Az, .int .i64 AA, .int .i64 AB]), (16, .agg #[.int .i64 AC, .int .i64 AD, s_.2.1]), (17, s_.2.2.1)]) (fun s_ w' => (w'.cell? ⟨A1, 0, none⟩ = some (.int .i64 a0_0) ∧ w'.cell? ⟨A1, 1, none⟩ = some (.int .i64 a0_1) ∧ w'.cell? ⟨A1, 2, none⟩ = some (.slice A0_2 l0_2.length c0_2)) ∧ (Kd.R (Kd.int .i64) 3 w' w.heap.size (fun _ => True) s_.1 At) ∧ (Kd.R k88 88 w' w.heap.size (fun _ => True) s_.2.1 AE) ∧ (Kd.S (Kd.slice 3 (Kd.int .i64)) 41 w' w.heap.size (fun k_ => some k_ ≠ (s_.1 : Value).ownBlock) s_.2.2.1 AR) ∧ (w'.heap[A1]? = some (.cells #[.int .i64 a0_0, .int .i64 a0_1, .slice A0_2 l0_2.length c0_2] 30 (0, 0))) ∧ (w'.heap[Ae]? = some (.cells #[.int .i64 0, .int .i64 0, .int .i64 0] 52 (0, 0))) ∧ (w'.heap[Af]? = some (.cells #[.int .i64 0, .int .i64 0, .slice none 0 0] 30 (0, 0))) ∧ (w'.heap[s_.2.2.2]? = some (.cells #[.int .i64 0, .int .i64 0, .int .i64 0] 52 (0, 0))) ∧ (w.heap.size ≤ s_.2.2.2) ∧ (w.heap.size ≤ s_.2.2.2) ∧ (A1 ≠ s_.2.2.2) ∧ (s_.2.2.2 ≠ A1) ∧ (Ae ≠ s_.2.2.2) ∧ (s_.2.2.2 ≠ Ae) ∧ (Af ≠ s_.2.2.2) ∧ (s_.2.2.2 ≠ Af) ∧ (Below w.heap.size w w')) ?_ ?_
  rotate_left
  ·intro hJ2_4_9
   refine join_ (σ := Value × Value × Value × Nat) 4 #[true, true, true, true, true, true, true, true, true, false, true, false, false, false] (fun s_ => [(12, s_.1), (14, .tuple #[.agg #[.int .i64 Az, .int .i64 AA, .int .i64 AB], .agg #[.int .i64 AC, .int .i64 AD, s_.2.1], s_.2.2.1]), (7, .pointer (some ⟨s_.2.2.2, 0, none⟩)), (9, .tuple #[.agg #[.int .i64 Az, .int .i64 AA, .int .i64 AB], .agg #[.int .i64 AC, .int .i64 AD, s_.2.1], s_.2.2.1]), (15, .agg #[.int .i64 Az, .int .i64 AA, .int .i64 AB]), (16, .agg #[.int .i64 AC, .int .i64 AD, s_.2.1]), (17, s_.2.2.1)]) (fun s_ w' => (w'.cell? ⟨A1, 0, none⟩ = some (.int .i64 a0_0) ∧ w'.cell? ⟨A1, 1, none⟩ = some (.int .i64 a0_1) ∧ w'.cell? ⟨A1, 2, none⟩ = some (.slice A0_2 l0_2.length c0_2)) ∧ (Kd.R (Kd.int .i64) 3 w' w.heap.size (fun _ => True) s_.1 At) ∧ (Kd.R k88 88 w' w.heap.size (fun _ => True) s_.2.1 AE) ∧ (Kd.S (Kd.slice 3 (Kd.int .i64)) 41 w' w.heap.size (fun k_ => some k_ ≠ (s_.1 : Value).ownBlock) s_.2.2.1 AR) ∧ (w'.heap[A1]? = some (.cells #[.int .i64 a0_0, .int .i64 a0_1, .slice A0_2 l0_2.length c0_2] 30 (0, 0))) ∧ (w'.heap[Ae]? = some (.cells #[.int .i64 0, .int .i64 0, .int .i64 0] 52 (0, 0))) ∧ (w'.heap[Af]? = some (.cells #[.int .i64 0, .int .i64 0, .slice none 0 0] 30 (0, 0))) ∧ (w'.heap[s_.2.2.2]? = some (.cells #[.int .i64 0, .int .i64 0, .slice none 0 0] 30 (0, 0))) ∧ (w.heap.size ≤ s_.2.2.2) ∧ (w.heap.size ≤ s_.2.2.2) ∧ (A1 ≠ s_.2.2.2) ∧ (s_.2.2.2 ≠ A1) ∧ (Ae ≠ s_.2.2.2) ∧ (s_.2.2.2 ≠ Ae) ∧ (Af ≠ s_.2.2.2) ∧ (s_.2.2.2 ≠ Af) ∧ (Below w.heap.size w w')) ?_ ?_
   rotate_left
   ·intro hJ2_4_10
    refine join_ (σ := Value × Nat × Nat) 8 #[true, true, true, true, false, false, false, false, false, true, true, false, false, false] (fun s_ => [(12, s_.1), (6, .pointer (some ⟨s_.2.1, 0, none⟩)), (7, .pointer (some ⟨s_.2.2, 0, none⟩))]) (fun s_ w' => (w'.cell? ⟨A1, 0, none⟩ = some (.int .i64 a0_0) ∧ w'.cell? ⟨A1, 1, none⟩ = some (.int .i64 a0_1) ∧ w'.cell? ⟨A1, 2, none⟩ = some (.slice A0_2 l0_2.length c0_2)) ∧ (Kd.R (Kd.int .i64) 3 w' w.heap.size (fun _ => True) s_.1 At) ∧ (w'.heap[A1]? = some (.cells #[.int .i64 a0_0, .int .i64 a0_1, .slice A0_2 l0_2.length c0_2] 30 (0, 0))) ∧ (w'.heap[Ae]? = some (.cells #[.int .i64 0, .int .i64 0, .int .i64 0] 52 (0, 0))) ∧ (w'.heap[Af]? = some (.cells #[.int .i64 0, .int .i64 0, .slice none 0 0] 30 (0, 0))) ∧ (w'.heap[s_.2.1]? = some (.cells #[.int .i64 0, .int .i64 0, .int .i64 0] 52 (0, 0))) ∧ (w'.heap[s_.2.2]? = some (.cells #[.int .i64 0, .int .i64 0, .slice none 0 0] 30 (0, 0))) ∧ (w.heap.size ≤ s_.2.1) ∧ (w.heap.size ≤ s_.2.1) ∧ (A1 ≠ s_.2.1) ∧ (s_.2.1 ≠ A1) ∧ (Ae ≠ s_.2.1) ∧ (s_.2.1 ≠ Ae) ∧ (Af ≠ s_.2.1) ∧ (s_.2.1 ≠ Af) ∧ (s_.2.2 ≠ s_.2.1) ∧ (s_.2.1 ≠ s_.2.2) ∧ (w.heap.size ≤ s_.2.2) ∧ (w.heap.size ≤ s_.2.2) ∧ (A1 ≠ s_.2.2) ∧ (s_.2.2 ≠ A1) ∧ (Ae ≠ s_.2.2) ∧ (s_.2.2 ≠ Ae) ∧ (Af ≠ s_.2.2) ∧ (s_.2.2 ≠ Af) ∧ (Below w.heap.size w w')) ?_ ?_
    rotate_left
    ·intro hJ2_9_10
     refine join_ (σ := Value × Value × Value) 5 #[true, true, true, true, true, true, true, true, true, false, false, false, false, false] (fun s_ => [(12, s_.1), (14, .tuple #[.agg #[.int .i64 Az, .int .i64 AA, .int .i64 AB], .agg #[.int .i64 AC, .int .i64 AD, s_.2.1], s_.2.2]), (9, .tuple #[.agg #[.int .i64 Az, .int .i64 AA, .int .i64 AB], .agg #[.int .i64 AC, .int .i64 AD, s_.2.1], s_.2.2]), (15, .agg #[.int .i64 Az, .int .i64 AA, .int .i64 AB]), (16, .agg #[.int .i64 AC, .int .i64 AD, s_.2.1]), (17, s_.2.2)]) (fun s_ w' => (w'.cell? ⟨A1, 0, none⟩ = some (.int .i64 a0_0) ∧ w'.cell? ⟨A1, 1, none⟩ = some (.int .i64 a0_1) ∧ w'.cell? ⟨A1, 2, none⟩ = some (.slice A0_2 l0_2.length c0_2)) ∧ (Kd.R (Kd.int .i64) 3 w' w.heap.size (fun _ => True) s_.1 At) ∧ (Kd.R k88 88 w' w.heap.size (fun _ => True) s_.2.1 AE) ∧ (Kd.S (Kd.slice 3 (Kd.int .i64)) 41 w' w.heap.size (fun k_ => some k_ ≠ (s_.1 : Value).ownBlock) s_.2.2 AR) ∧ (w'.heap[A1]? = some (.cells #[.int .i64 a0_0, .int .i64 a0_1, .slice A0_2 l0_2.length c0_2] 30 (0, 0))) ∧ (w'.heap[Ae]? = some (.cells #[.int .i64 0, .int .i64 0, .int .i64 0] 52 (0, 0))) ∧ (w'.heap[Af]? = some (.cells #[.int .i64 0, .int .i64 0, .slice none 0 0] 30 (0, 0))) ∧ (Below w.heap.size w w')) ?_ ?_
     rotate_left
     ·intro hJ2_4
      refine join_ (σ := Value × Nat) 9 #[true, true, true, true, false, false, false, false, false, true, false, false, false, false] (fun s_ => [(12, s_.1), (6, .pointer (some ⟨s_.2, 0, none⟩))]) (fun s_ w' => (w'.cell? ⟨A1, 0, none⟩ = some (.int .i64 a0_0) ∧ w'.cell? ⟨A1, 1, none⟩ = some (.int .i64 a0_1) ∧ w'.cell? ⟨A1, 2, none⟩ = some (.slice A0_2 l0_2.length c0_2)) ∧ (Kd.R (Kd.int .i64) 3 w' w.heap.size (fun _ => True) s_.1 At) ∧ (w'.heap[A1]? = some (.cells #[.int .i64 a0_0, .int .i64 a0_1, .slice A0_2 l0_2.length c0_2] 30 (0, 0))) ∧ (w'.heap[Ae]? = some (.cells #[.int .i64 0, .int .i64 0, .int .i64 0] 52 (0, 0))) ∧ (w'.heap[Af]? = some (.cells #[.int .i64 0, .int .i64 0, .slice none 0 0] 30 (0, 0))) ∧ (w'.heap[s_.2]? = some (.cells #[.int .i64 0, .int .i64 0, .int .i64 0] 52 (0, 0))) ∧ (w.heap.size ≤ s_.2) ∧ (w.heap.size ≤ s_.2) ∧ (A1 ≠ s_.2) ∧ (s_.2 ≠ A1) ∧ (Ae ≠ s_.2) ∧ (s_.2 ≠ Ae) ∧ (Af ≠ s_.2) ∧ (s_.2 ≠ Af) ∧ (Below w.heap.size w w')) ?_ ?_
      rotate_left
      ·intro hJ2_9
       refine join_ (σ := Value × Nat) 9 #[true, true, true, true, false, false, false, false, false, false, true, false, false, false] (fun s_ => [(12, s_.1), (7, .pointer (some ⟨s_.2, 0, none⟩))]) (fun s_ w' => (w'.cell? ⟨A1, 0, none⟩ = some (.int .i64 a0_0) ∧ w'.cell? ⟨A1, 1, none⟩ = some (.int .i64 a0_1) ∧ w'.cell? ⟨A1, 2, none⟩ = some (.slice A0_2 l0_2.length c0_2)) ∧ (Kd.R (Kd.int .i64) 3 w' w.heap.size (fun _ => True) s_.1 At) ∧ (w'.heap[A1]? = some (.cells #[.int .i64 a0_0, .int .i64 a0_1, .slice A0_2 l0_2.length c0_2] 30 (0, 0))) ∧ (w'.heap[Ae]? = some (.cells #[.int .i64 0, .int .i64 0, .int .i64 0] 52 (0, 0))) ∧ (w'.heap[Af]? = some (.cells #[.int .i64 0, .int .i64 0, .slice none 0 0] 30 (0, 0))) ∧ (w'.heap[s_.2]? = some (.cells #[.int .i64 0, .int .i64 0, .slice none 0 0] 30 (0, 0))) ∧ (w.heap.size ≤ s_.2) ∧ (w.heap.size ≤ s_.2) ∧ (A1 ≠ s_.2) ∧ (s_.2 ≠ A1) ∧ (Ae ≠ s_.2) ∧ (s_.2 ≠ Ae) ∧ (Af ≠ s_.2) ∧ (s_.2 ≠ Af) ∧ (Below w.heap.size w w')) ?_ ?_
       rotate_left
       ·intro hJ2_10
        refine join_ (σ := Nat × Nat) 9 #[true, true, false, true, false, false, false, false, false, true, true, false, false, false] (fun s_ => [(6, .pointer (some ⟨s_.1, 0, none⟩)), (7, .pointer (some ⟨s_.2, 0, none⟩))]) (fun s_ w' => (w'.cell? ⟨A1, 0, none⟩ = some (.int .i64 a0_0) ∧ w'.cell? ⟨A1, 1, none⟩ = some (.int .i64 a0_1) ∧ w'.cell? ⟨A1, 2, none⟩ = some (.slice A0_2 l0_2.length c0_2)) ∧ (w'.heap[A1]? = some (.cells #[.int .i64 a0_0, .int .i64 a0_1, .slice A0_2 l0_2.length c0_2] 30 (0, 0))) ∧ (w'.heap[Ae]? = some (.cells #[.int .i64 0, .int .i64 0, .int .i64 0] 52 (0, 0))) ∧ (w'.heap[Af]? = some (.cells #[.int .i64 0, .int .i64 0, .slice none 0 0] 30 (0, 0))) ∧ (w'.heap[s_.1]? = some (.cells #[.int .i64 0, .int .i64 0, .int .i64 0] 52 (0, 0))) ∧ (w'.heap[s_.2]? = some (.cells #[.int .i64 0, .int .i64 0, .slice none 0 0] 30 (0, 0))) ∧ (w.heap.size ≤ s_.1) ∧ (w.heap.size ≤ s_.1) ∧ (A1 ≠ s_.1) ∧ (s_.1 ≠ A1) ∧ (Ae ≠ s_.1) ∧ (s_.1 ≠ Ae) ∧ (Af ≠ s_.1) ∧ (s_.1 ≠ Af) ∧ (s_.2 ≠ s_.1) ∧ (s_.1 ≠ s_.2) ∧ (w.heap.size ≤ s_.2) ∧ (w.heap.size ≤ s_.2) ∧ (A1 ≠ s_.2) ∧ (s_.2 ≠ A1) ∧ (Ae ≠ s_.2) ∧ (s_.2 ≠ Ae) ∧ (Af ≠ s_.2) ∧ (s_.2 ≠ Af) ∧ (Below w.heap.size w w')) ?_ ?_
        rotate_left
        ·intro hJ9_10
         refine join_ (σ := Value) 10 #[true, true, true, true, false, false, false, false, false, false, false, false, false, false] (fun s_ => [(12, s_)]) (fun s_ w' => (w'.cell? ⟨A1, 0, none⟩ = some (.int .i64 a0_0) ∧ w'.cell? ⟨A1, 1, none⟩ = some (.int .i64 a0_1) ∧ w'.cell? ⟨A1, 2, none⟩ = some (.slice A0_2 l0_2.length c0_2)) ∧ (Kd.R (Kd.int .i64) 3 w' w.heap.size (fun _ => True) s_ At) ∧ (w'.heap[A1]? = some (.cells #[.int .i64 a0_0, .int .i64 a0_1, .slice A0_2 l0_2.length c0_2] 30 (0, 0))) ∧ (w'.heap[Ae]? = some (.cells #[.int .i64 0, .int .i64 0, .int .i64 0] 52 (0, 0))) ∧ (w'.heap[Af]? = some (.cells #[.int .i64 0, .int .i64 0, .slice none 0 0] 30 (0, 0))) ∧ (Below w.heap.size w w')) ?_ ?_
         rotate_left
         ·intro hJ2
          refine join_ (σ := Nat) 10 #[true, true, false, true, false, false, false, false, false, true, false, false, false, false] (fun s_ => [(6, .pointer (some ⟨s_, 0, none⟩))]) (fun s_ w' => (w'.cell? ⟨A1, 0, none⟩ = some (.int .i64 a0_0) ∧ w'.cell? ⟨A1, 1, none⟩ = some (.int .i64 a0_1) ∧ w'.cell? ⟨A1, 2, none⟩ = some (.slice A0_2 l0_2.length c0_2)) ∧ (w'.heap[A1]? = some (.cells #[.int .i64 a0_0, .int .i64 a0_1, .slice A0_2 l0_2.length c0_2] 30 (0, 0))) ∧ (w'.heap[Ae]? = some (.cells #[.int .i64 0, .int .i64 0, .int .i64 0] 52 (0, 0))) ∧ (w'.heap[Af]? = some (.cells #[.int .i64 0, .int .i64 0, .slice none 0 0] 30 (0, 0))) ∧ (w'.heap[s_]? = some (.cells #[.int .i64 0, .int .i64 0, .int .i64 0] 52 (0, 0))) ∧ (w.heap.size ≤ s_) ∧ (w.heap.size ≤ s_) ∧ (A1 ≠ s_) ∧ (s_ ≠ A1) ∧ (Ae ≠ s_) ∧ (s_ ≠ Ae) ∧ (Af ≠ s_) ∧ (s_ ≠ Af) ∧ (Below w.heap.size w w')) ?_ ?_
          rotate_left
          ·intro hJ9
           refine join_ (σ := Nat) 10 #[true, true, false, true, false, false, false, false, false, false, true, false, false, false] (fun s_ => [(7, .pointer (some ⟨s_, 0, none⟩))]) (fun s_ w' => (w'.cell? ⟨A1, 0, none⟩ = some (.int .i64 a0_0) ∧ w'.cell? ⟨A1, 1, none⟩ = some (.int .i64 a0_1) ∧ w'.cell? ⟨A1, 2, none⟩ = some (.slice A0_2 l0_2.length c0_2)) ∧ (w'.heap[A1]? = some (.cells #[.int .i64 a0_0, .int .i64 a0_1, .slice A0_2 l0_2.length c0_2] 30 (0, 0))) ∧ (w'.heap[Ae]? = some (.cells #[.int .i64 0, .int .i64 0, .int .i64 0] 52 (0, 0))) ∧ (w'.heap[Af]? = some (.cells #[.int .i64 0, .int .i64 0, .slice none 0 0] 30 (0, 0))) ∧ (w'.heap[s_]? = some (.cells #[.int .i64 0, .int .i64 0, .slice none 0 0] 30 (0, 0))) ∧ (w.heap.size ≤ s_) ∧ (w.heap.size ≤ s_) ∧ (A1 ≠ s_) ∧ (s_ ≠ A1) ∧ (Ae ≠ s_) ∧ (s_ ≠ Ae) ∧ (Af ≠ s_) ∧ (s_ ≠ Af) ∧ (Below w.heap.size w w')) ?_ ?_
           rotate_left
           ·intro hJ10
            refine three_ (i := 2) (j := 9) (k := 10) (Ni := some 12) (Nj := some 6) (Nk := some 7) #[true, true, true, true, false, false, false, false, false, false, false, false, false, false] #[true, true, false, true, false, false, false, false, false, true, false, false, false, false] #[true, true, false, true, false, false, false, false, false, false, true, false, false, false] rfl rfl rfl rfl rfl rfl (three_of HT_.o (by kernel_rfl)) (by decide) (by decide) (by decide) (fun K hK => ?_) (fun K hK => ?_) (fun K hK => ?_)
            ·skip
             refine goes_ Try.func67 (by kernel_rfl) rfl #[.agg #[.int .i64 a0_0, .int .i64 a0_1, .slice A0_2 l0_2.length c0_2]] (by rfl) rfl rfl (by (try simp only [List.map_toArray, List.map_cons, List.map_nil]); first | done | rfl | (simp only [List.length_drop, List.length_take]; rfl)) ?_
             with_reducible refine (spec_ggGroups.calls k a0_0 a0_1 _ _ l0_2 At _ ?side1 ?side2 A3.o).mono ?_
             (case side1 => repeat (first | exact (Kd.C_below AU.o HB.o) | (with_reducible refine Kd.C_alloc ?_ _) | (with_reducible refine Kd.C_drewN ?_ _) | (with_reducible refine Kd.C_drew ?_)))
             (case side2 => exact AT.o)
             rintro e w9 ⟨Ay, rfl, AX, hb⟩
             refine ⟨_, rfl, ?_⟩
             have Ak := Z.m (Kd.R_lower AX (below_size (vB HB)))
             replace A0 := kB A0 hb
             replace A6 := kB A6 hb
             replace A7 := kB A7 hb
             replace HB := bB HB hb
             (try clear hb); (try clear AX)
             refine hK.out _ _ ⟨(ql A0.o 0).trans rfl, (ql A0.o 1).trans rfl, (ql A0.o 2).trans rfl⟩ (fun hHeld => ?_)
             clear hK K
             refine norm_ (a' := ?_) ?_ ?_
             rotate_left
             ·show Act.put _ (some 12) _ = _
              simp only [Act.put, q1, q2, q3, i64_w, i32_w]
              rfl
             exact norm_ (by first | (simp only [putAll, Act.put, q1, q2, q3]; done) | (simp only [putAll, Act.put, q1, q2, q3]; rfl)) (hJ2 (Ay) _ ⟨hHeld, (vR Ak), (vK A0), (vK A6), (vK A7), (vB HB)⟩)
            ·skip
             refine box_step ?hg (N := 6) ?hd (cs := #[.int .i64 0, .int .i64 0, .int .i64 0]) (t := 52) ?hr ?_; (case hd => rfl); (case hg => rfl); (case hr => first | (go_simp; done) | (go_simp; rfl))
             intro A2 hg w9 hbox hb
             have An := Z.m (hbox)
             have Aw := gW (w := w) HB hg
             have Au := gW (w := w) HB hg
             have Ac := neL A0 hg
             have Al := neG A0 hg
             have Ag := neL A6 hg
             have A8 := neG A6 hg
             have Ai := neL A7 hg
             have A9 := neG A7 hg
             replace A0 := kB A0 hb
             replace A6 := kB A6 hb
             replace A7 := kB A7 hb
             replace HB := bB HB hb
             clear hb hbox hg
             refine hK.out _ _ ⟨(ql A0.o 0).trans rfl, (ql A0.o 1).trans rfl, (ql A0.o 2).trans rfl⟩ (fun hHeld => ?_)
             clear hK K
             refine norm_ (a' := ?_) ?_ ?_
             rotate_left
             ·show Act.put _ (some 6) _ = _
              simp only [Act.put, q1, q2, q3, i64_w, i32_w]
              rfl
             exact norm_ (by first | (simp only [putAll, Act.put, q1, q2, q3]; done) | (simp only [putAll, Act.put, q1, q2, q3]; rfl)) (hJ9 (A2) _ ⟨hHeld, (vK A0), (vK A6), (vK A7), (vK An), Aw.o, Au.o, Ac.o, Al.o, Ag.o, A8.o, Ai.o, A9.o, (vB HB)⟩)
            ·skip
             refine box_step ?hg (N := 7) ?hd (cs := #[.int .i64 0, .int .i64 0, .slice none 0 0]) (t := 30) ?hr ?_; (case hd => rfl); (case hg => rfl); (case hr => first | (go_simp; done) | (go_simp; rfl))
             intro A5 hg w9 hbox hb
             have Ao := Z.m (hbox)
             have Ax := gW (w := w) HB hg
             have Av := gW (w := w) HB hg
             have Ad := neL A0 hg
             have Am := neG A0 hg
             have Ah := neL A6 hg
             have Aa := neG A6 hg
             have Aj := neL A7 hg
             have Ab := neG A7 hg
             replace A0 := kB A0 hb
             replace A6 := kB A6 hb
             replace A7 := kB A7 hb
             replace HB := bB HB hb
             clear hb hbox hg
             refine hK.out _ _ ⟨(ql A0.o 0).trans rfl, (ql A0.o 1).trans rfl, (ql A0.o 2).trans rfl⟩ (fun hHeld => ?_)
             clear hK K
             refine norm_ (a' := ?_) ?_ ?_
             rotate_left
             ·show Act.put _ (some 7) _ = _
              simp only [Act.put, q1, q2, q3, i64_w, i32_w]
              rfl
             exact norm_ (by first | (simp only [putAll, Act.put, q1, q2, q3]; done) | (simp only [putAll, Act.put, q1, q2, q3]; rfl)) (hJ10 (A5) _ ⟨hHeld, (vK A0), (vK A6), (vK A7), (vK Ao), Ax.o, Av.o, Ad.o, Am.o, Ah.o, Aa.o, Aj.o, Ab.o, (vB HB)⟩)
           ·skip
            rintro A5 AV ⟨hS_, h0_, h1_, h2_, h3_, h4_, h5_, h6_, h7_, h8_, h9_, h10_, h11_, h12_⟩
            have Ao : Z (AV.heap[A5]? = some (.cells #[.int .i64 0, .int .i64 0, .slice none 0 0] 30 (0, 0))) := ⟨h3_⟩
            have Ax : Z (w.heap.size ≤ A5) := ⟨h4_⟩
            have Av : Z (w.heap.size ≤ A5) := ⟨h5_⟩
            have Ad : Z (A1 ≠ A5) := ⟨h6_⟩
            have Am : Z (A5 ≠ A1) := ⟨h7_⟩
            have Ah : Z (Ae ≠ A5) := ⟨h8_⟩
            have Aa : Z (A5 ≠ Ae) := ⟨h9_⟩
            have Aj : Z (Af ≠ A5) := ⟨h10_⟩
            have Ab : Z (A5 ≠ Af) := ⟨h11_⟩
            replace A0 : Z (AV.heap[A1]? = some (.cells #[.int .i64 a0_0, .int .i64 a0_1, .slice A0_2 l0_2.length c0_2] 30 (0, 0))) := ⟨h0_⟩
            replace A6 : Z (AV.heap[Ae]? = some (.cells #[.int .i64 0, .int .i64 0, .int .i64 0] 52 (0, 0))) := ⟨h1_⟩
            replace A7 : Z (AV.heap[Af]? = some (.cells #[.int .i64 0, .int .i64 0, .slice none 0 0] 30 (0, 0))) := ⟨h2_⟩
            replace HB : Z (Below w.heap.size w AV) := ⟨h12_⟩
            clear h0_ h1_ h2_ h3_ h4_ h5_ h6_ h7_ h8_ h9_ h10_ h11_ h12_
            have hHeld : AV.cell? ⟨A1, 0, none⟩ = some (.int .i64 a0_0) ∧ AV.cell? ⟨A1, 1, none⟩ = some (.int .i64 a0_1) ∧ AV.cell? ⟨A1, 2, none⟩ = some (.slice A0_2 l0_2.length c0_2) := hS_
            refine norm_ (a' := ?_) ?_ ?_
            rotate_left
            ·simp only [putAll, Act.put, q1, q2, q3]
             rfl
            refine two_ (i := 2) (j := 9) (Ni := some 12) (Nj := some 6) #[true, true, true, true, false, false, false, false, false, false, true, false, false, false] #[true, true, false, true, false, false, false, false, false, true, true, false, false, false] rfl rfl rfl rfl (two_of HT_.o (by kernel_rfl)) (by decide) (by decide) (fun K hK => ?_) (fun K hK => ?_)
            ·skip
             refine goes_ Try.func67 (by kernel_rfl) rfl #[.agg #[.int .i64 a0_0, .int .i64 a0_1, .slice A0_2 l0_2.length c0_2]] (by rfl) rfl rfl (by (try simp only [List.map_toArray, List.map_cons, List.map_nil]); first | done | rfl | (simp only [List.length_drop, List.length_take]; rfl)) ?_
             with_reducible refine (spec_ggGroups.calls k a0_0 a0_1 _ _ l0_2 At _ ?side1 ?side2 A3.o).mono ?_
             (case side1 => repeat (first | exact (Kd.C_below AU.o HB.o) | (with_reducible refine Kd.C_alloc ?_ _) | (with_reducible refine Kd.C_drewN ?_ _) | (with_reducible refine Kd.C_drew ?_)))
             (case side2 => exact AT.o)
             rintro e AJ ⟨Ay, rfl, AX, hb⟩
             refine ⟨_, rfl, ?_⟩
             have Ak := Z.m (Kd.R_lower AX (below_size (vB HB)))
             replace A0 := kB A0 hb
             replace A6 := kB A6 hb
             replace A7 := kB A7 hb
             replace Ao := kB Ao hb
             replace HB := bB HB hb
             (try clear hb); (try clear AX)
             refine hK.out _ _ ⟨(ql A0.o 0).trans rfl, (ql A0.o 1).trans rfl, (ql A0.o 2).trans rfl⟩ (fun hHeld => ?_)
             clear hK K
             refine norm_ (a' := ?_) ?_ ?_
             rotate_left
             ·show Act.put _ (some 12) _ = _
              simp only [Act.put, q1, q2, q3, i64_w, i32_w]
              rfl
             exact norm_ (by first | (simp only [putAll, Act.put, q1, q2, q3]; done) | (simp only [putAll, Act.put, q1, q2, q3]; rfl)) (hJ2_10 (Ay, A5) _ ⟨hHeld, (vR Ak), (vK A0), (vK A6), (vK A7), (vK Ao), Ax.o, Av.o, Ad.o, Am.o, Ah.o, Aa.o, Aj.o, Ab.o, (vB HB)⟩)
            ·skip
             refine box_step ?hg (N := 6) ?hd (cs := #[.int .i64 0, .int .i64 0, .int .i64 0]) (t := 52) ?hr ?_; (case hd => rfl); (case hg => rfl); (case hr => first | (go_simp; done) | (go_simp; rfl))
             intro A2 hg AJ hbox hb
             have An := Z.m (hbox)
             have Aw := gW (w := w) HB hg
             have Au := gW (w := w) HB hg
             have Ac := neL A0 hg
             have Al := neG A0 hg
             have Ag := neL A6 hg
             have A8 := neG A6 hg
             have Ai := neL A7 hg
             have A9 := neG A7 hg
             have Aq := neL Ao hg
             have Ap := neG Ao hg
             replace A0 := kB A0 hb
             replace A6 := kB A6 hb
             replace A7 := kB A7 hb
             replace Ao := kB Ao hb
             replace HB := bB HB hb
             clear hb hbox hg
             refine hK.out _ _ ⟨(ql A0.o 0).trans rfl, (ql A0.o 1).trans rfl, (ql A0.o 2).trans rfl⟩ (fun hHeld => ?_)
             clear hK K
             refine norm_ (a' := ?_) ?_ ?_
             rotate_left
             ·show Act.put _ (some 6) _ = _
              simp only [Act.put, q1, q2, q3, i64_w, i32_w]
              rfl
             exact norm_ (by first | (simp only [putAll, Act.put, q1, q2, q3]; done) | (simp only [putAll, Act.put, q1, q2, q3]; rfl)) (hJ9_10 (A2, A5) _ ⟨hHeld, (vK A0), (vK A6), (vK A7), (vK An), (vK Ao), Aw.o, Au.o, Ac.o, Al.o, Ag.o, A8.o, Ai.o, A9.o, Aq.o, Ap.o, Ax.o, Av.o, Ad.o, Am.o, Ah.o, Aa.o, Aj.o, Ab.o, (vB HB)⟩)
          ·skip
           rintro A2 AV ⟨hS_, h0_, h1_, h2_, h3_, h4_, h5_, h6_, h7_, h8_, h9_, h10_, h11_, h12_⟩
           have An : Z (AV.heap[A2]? = some (.cells #[.int .i64 0, .int .i64 0, .int .i64 0] 52 (0, 0))) := ⟨h3_⟩
           have Aw : Z (w.heap.size ≤ A2) := ⟨h4_⟩
           have Au : Z (w.heap.size ≤ A2) := ⟨h5_⟩
           have Ac : Z (A1 ≠ A2) := ⟨h6_⟩
           have Al : Z (A2 ≠ A1) := ⟨h7_⟩
           have Ag : Z (Ae ≠ A2) := ⟨h8_⟩
           have A8 : Z (A2 ≠ Ae) := ⟨h9_⟩
           have Ai : Z (Af ≠ A2) := ⟨h10_⟩
           have A9 : Z (A2 ≠ Af) := ⟨h11_⟩
           replace A0 : Z (AV.heap[A1]? = some (.cells #[.int .i64 a0_0, .int .i64 a0_1, .slice A0_2 l0_2.length c0_2] 30 (0, 0))) := ⟨h0_⟩
           replace A6 : Z (AV.heap[Ae]? = some (.cells #[.int .i64 0, .int .i64 0, .int .i64 0] 52 (0, 0))) := ⟨h1_⟩
           replace A7 : Z (AV.heap[Af]? = some (.cells #[.int .i64 0, .int .i64 0, .slice none 0 0] 30 (0, 0))) := ⟨h2_⟩
           replace HB : Z (Below w.heap.size w AV) := ⟨h12_⟩
           clear h0_ h1_ h2_ h3_ h4_ h5_ h6_ h7_ h8_ h9_ h10_ h11_ h12_
           have hHeld : AV.cell? ⟨A1, 0, none⟩ = some (.int .i64 a0_0) ∧ AV.cell? ⟨A1, 1, none⟩ = some (.int .i64 a0_1) ∧ AV.cell? ⟨A1, 2, none⟩ = some (.slice A0_2 l0_2.length c0_2) := hS_
           refine norm_ (a' := ?_) ?_ ?_
           rotate_left
           ·simp only [putAll, Act.put, q1, q2, q3]
            rfl
           refine two_ (i := 2) (j := 10) (Ni := some 12) (Nj := some 7) #[true, true, true, true, false, false, false, false, false, true, false, false, false, false] #[true, true, false, true, false, false, false, false, false, true, true, false, false, false] rfl rfl rfl rfl (two_of HT_.o (by kernel_rfl)) (by decide) (by decide) (fun K hK => ?_) (fun K hK => ?_)
           ·skip
            refine goes_ Try.func67 (by kernel_rfl) rfl #[.agg #[.int .i64 a0_0, .int .i64 a0_1, .slice A0_2 l0_2.length c0_2]] (by rfl) rfl rfl (by (try simp only [List.map_toArray, List.map_cons, List.map_nil]); first | done | rfl | (simp only [List.length_drop, List.length_take]; rfl)) ?_
            with_reducible refine (spec_ggGroups.calls k a0_0 a0_1 _ _ l0_2 At _ ?side1 ?side2 A3.o).mono ?_
            (case side1 => repeat (first | exact (Kd.C_below AU.o HB.o) | (with_reducible refine Kd.C_alloc ?_ _) | (with_reducible refine Kd.C_drewN ?_ _) | (with_reducible refine Kd.C_drew ?_)))
            (case side2 => exact AT.o)
            rintro e AJ ⟨Ay, rfl, AX, hb⟩
            refine ⟨_, rfl, ?_⟩
            have Ak := Z.m (Kd.R_lower AX (below_size (vB HB)))
            replace A0 := kB A0 hb
            replace A6 := kB A6 hb
            replace A7 := kB A7 hb
            replace An := kB An hb
            replace HB := bB HB hb
            (try clear hb); (try clear AX)
            refine hK.out _ _ ⟨(ql A0.o 0).trans rfl, (ql A0.o 1).trans rfl, (ql A0.o 2).trans rfl⟩ (fun hHeld => ?_)
            clear hK K
            refine norm_ (a' := ?_) ?_ ?_
            rotate_left
            ·show Act.put _ (some 12) _ = _
             simp only [Act.put, q1, q2, q3, i64_w, i32_w]
             rfl
            exact norm_ (by first | (simp only [putAll, Act.put, q1, q2, q3]; done) | (simp only [putAll, Act.put, q1, q2, q3]; rfl)) (hJ2_9 (Ay, A2) _ ⟨hHeld, (vR Ak), (vK A0), (vK A6), (vK A7), (vK An), Aw.o, Au.o, Ac.o, Al.o, Ag.o, A8.o, Ai.o, A9.o, (vB HB)⟩)
           ·skip
            refine box_step ?hg (N := 7) ?hd (cs := #[.int .i64 0, .int .i64 0, .slice none 0 0]) (t := 30) ?hr ?_; (case hd => rfl); (case hg => rfl); (case hr => first | (go_simp; done) | (go_simp; rfl))
            intro A5 hg AJ hbox hb
            have Ao := Z.m (hbox)
            have Ax := gW (w := w) HB hg
            have Av := gW (w := w) HB hg
            have Ad := neL A0 hg
            have Am := neG A0 hg
            have Ah := neL A6 hg
            have Aa := neG A6 hg
            have Aj := neL A7 hg
            have Ab := neG A7 hg
            have Ap := neL An hg
            have Aq := neG An hg
            replace A0 := kB A0 hb
            replace A6 := kB A6 hb
            replace A7 := kB A7 hb
            replace An := kB An hb
            replace HB := bB HB hb
            clear hb hbox hg
            refine hK.out _ _ ⟨(ql A0.o 0).trans rfl, (ql A0.o 1).trans rfl, (ql A0.o 2).trans rfl⟩ (fun hHeld => ?_)
            clear hK K
            refine norm_ (a' := ?_) ?_ ?_
            rotate_left
            ·show Act.put _ (some 7) _ = _
             simp only [Act.put, q1, q2, q3, i64_w, i32_w]
             rfl
            exact norm_ (by first | (simp only [putAll, Act.put, q1, q2, q3]; done) | (simp only [putAll, Act.put, q1, q2, q3]; rfl)) (hJ9_10 (A2, A5) _ ⟨hHeld, (vK A0), (vK A6), (vK A7), (vK An), (vK Ao), Aw.o, Au.o, Ac.o, Al.o, Ag.o, A8.o, Ai.o, A9.o, Aq.o, Ap.o, Ax.o, Av.o, Ad.o, Am.o, Ah.o, Aa.o, Aj.o, Ab.o, (vB HB)⟩)
         ·skip
          rintro Ay AV ⟨hS_, h0_, h1_, h2_, h3_, h4_⟩
          have Ak : Z (Kd.R (Kd.int .i64) 3 AV w.heap.size (fun _ => True) Ay At) := ⟨h0_⟩
          replace A0 : Z (AV.heap[A1]? = some (.cells #[.int .i64 a0_0, .int .i64 a0_1, .slice A0_2 l0_2.length c0_2] 30 (0, 0))) := ⟨h1_⟩
          replace A6 : Z (AV.heap[Ae]? = some (.cells #[.int .i64 0, .int .i64 0, .int .i64 0] 52 (0, 0))) := ⟨h2_⟩
          replace A7 : Z (AV.heap[Af]? = some (.cells #[.int .i64 0, .int .i64 0, .slice none 0 0] 30 (0, 0))) := ⟨h3_⟩
          replace HB : Z (Below w.heap.size w AV) := ⟨h4_⟩
          clear h0_ h1_ h2_ h3_ h4_
          have hHeld : AV.cell? ⟨A1, 0, none⟩ = some (.int .i64 a0_0) ∧ AV.cell? ⟨A1, 1, none⟩ = some (.int .i64 a0_1) ∧ AV.cell? ⟨A1, 2, none⟩ = some (.slice A0_2 l0_2.length c0_2) := hS_
          obtain ⟨B3, B7, Bf⟩ := Kd.R_slice Ak.o
          (first | subst Bf | (injection Bf with f1_ f2_ f3_; have f4_ := f1_.symm; have f5_ := f3_.symm; clear f1_ f2_ f3_; subst f4_; subst f5_))
          refine norm_ (a' := ?_) ?_ ?_
          rotate_left
          ·simp only [putAll, Act.put, q1, q2, q3]
           rfl
          refine three_ (i := 4) (j := 9) (k := 10) (Ni := some 14) (Nj := some 6) (Nk := some 7) #[true, true, true, true, true, false, false, false, false, false, false, false, false, false] #[true, true, true, true, false, false, false, false, false, true, false, false, false, false] #[true, true, true, true, false, false, false, false, false, false, true, false, false, false] rfl rfl rfl rfl rfl rfl (three_of HT_.o (by kernel_rfl)) (by decide) (by decide) (by decide) (fun K hK => ?_) (fun K hK => ?_) (fun K hK => ?_)
          ·skip
           refine goes_ Try.func66 (by kernel_rfl) rfl #[.agg #[.int .i64 a0_0, .int .i64 a0_1, .slice A0_2 l0_2.length c0_2], .slice B3 At.length B7, .int .i64 a1] (by rfl) rfl rfl (by (try simp only [List.map_toArray, List.map_cons, List.map_nil]); first | done | rfl | (simp only [List.length_drop, List.length_take]; rfl)) ?_
           with_reducible refine (spec_flGo.calls k a0_0 a0_1 _ _ l0_2 _ _ At a1 Az AA AB AC AD AE AR _ ?side1 ?side2 ?side3 ?side4 A4.o).mono ?_
           (case side1 => repeat (first | exact (Kd.C_below AU.o HB.o) | (with_reducible refine Kd.C_alloc ?_ _) | (with_reducible refine Kd.C_drewN ?_ _) | (with_reducible refine Kd.C_drew ?_)))
           (case side2 => exact AT.o)
           (case side3 => repeat (first | exact (Kd.RrZ Ak.o).2.2 | (with_reducible refine Kd.C_alloc ?_ _) | (with_reducible refine Kd.C_drewN ?_ _) | (with_reducible refine Kd.C_drew ?_)))
           (case side4 => exact (Kd.RrZ Ak.o).2.1)
           rintro e AW ⟨AI, AH, rfl, AX, B2, hb⟩
           refine ⟨_, rfl, ?_⟩
           have Ar := Z.m (Kd.R_lower AX (below_size (vB HB)))
           have As := Z.m (Kd.S_lower (Kd.S_new' B2 (Kd.R_lt (vR Ak))) (below_size (vB HB)))
           replace Ak := Z.m (Kd.Rb (vR Ak) hb)
           replace A0 := kB A0 hb
           replace A6 := kB A6 hb
           replace A7 := kB A7 hb
           replace HB := bB HB hb
           (try clear hb); (try clear AX); (try clear B2)
           refine hK.out _ _ ⟨(ql A0.o 0).trans rfl, (ql A0.o 1).trans rfl, (ql A0.o 2).trans rfl⟩ (fun hHeld => ?_)
           clear hK K
           refine norm_ (a' := ?_) ?_ ?_
           rotate_left
           ·show Act.put _ (some 14) _ = _
            simp only [Act.put, q1, q2, q3, i64_w, i32_w]
            rfl
           refine pure_ (i := 5) (N := some 9) (v := ?_) (a' := ?_) #[true, true, true, true, true, true, false, false, false, false, false, false, false, false] rfl rfl (any_of HT_.o (by kernel_rfl)) (fun _ _ _ h => h) (Or.inl ⟨by rfl, ?_⟩) ?_ ?_
           rotate_left
           ·intro w'
            go_simp
            with_reducible rfl
           rotate_left
           ·simp only [Act.put, q1, q2, q3, i64_w, i32_w]
            rfl
           refine pure_ (i := 6) (N := some 15) (v := ?_) (a' := ?_) #[true, true, true, true, true, true, true, false, false, false, false, false, false, false] rfl rfl (any_of HT_.o (by kernel_rfl)) (fun _ _ _ h => h) (Or.inl ⟨by rfl, ?_⟩) ?_ ?_
           rotate_left
           ·intro w'
            go_simp
            with_reducible rfl
           rotate_left
           ·simp only [Act.put, q1, q2, q3, i64_w, i32_w]
            rfl
           refine pure_ (i := 7) (N := some 16) (v := ?_) (a' := ?_) #[true, true, true, true, true, true, true, true, false, false, false, false, false, false] rfl rfl (any_of HT_.o (by kernel_rfl)) (fun _ _ _ h => h) (Or.inl ⟨by rfl, ?_⟩) ?_ ?_
           rotate_left
           ·intro w'
            go_simp
            with_reducible rfl
           rotate_left
           ·simp only [Act.put, q1, q2, q3, i64_w, i32_w]
            rfl
           refine pure_ (i := 8) (N := some 17) (v := ?_) (a' := ?_) #[true, true, true, true, true, true, true, true, true, false, false, false, false, false] rfl rfl (any_of HT_.o (by kernel_rfl)) (fun _ _ _ h => h) (Or.inl ⟨by rfl, ?_⟩) ?_ ?_
           rotate_left
           ·intro w'
            go_simp
            with_reducible rfl
           rotate_left
           ·simp only [Act.put, q1, q2, q3, i64_w, i32_w]
            rfl
           exact norm_ (by first | (simp only [putAll, Act.put, q1, q2, q3]; done) | (simp only [putAll, Act.put, q1, q2, q3]; rfl)) (hJ2_4 (.slice B3 At.length B7, AI, AH) _ ⟨hHeld, (vR Ak), (vR Ar), (by (with_reducible repeat (first | apply Kd.S_alloc | apply Kd.S_drewN | apply Kd.S_drew)); exact Kd.S_mono As.o (fun _ hk => hk.2)), (vK A0), (vK A6), (vK A7), (vB HB)⟩)
          ·skip
           refine box_step ?hg (N := 6) ?hd (cs := #[.int .i64 0, .int .i64 0, .int .i64 0]) (t := 52) ?hr ?_; (case hd => rfl); (case hg => rfl); (case hr => first | (go_simp; done) | (go_simp; rfl))
           intro A2 hg AJ hbox hb
           have An := Z.m (hbox)
           have Aw := gW (w := w) HB hg
           have Au := gW (w := w) HB hg
           have Ac := neL A0 hg
           have Al := neG A0 hg
           have Ag := neL A6 hg
           have A8 := neG A6 hg
           have Ai := neL A7 hg
           have A9 := neG A7 hg
           replace Ak := Z.m (Kd.Rb (vR Ak) hb)
           replace A0 := kB A0 hb
           replace A6 := kB A6 hb
           replace A7 := kB A7 hb
           replace HB := bB HB hb
           clear hb hbox hg
           refine hK.out _ _ ⟨(ql A0.o 0).trans rfl, (ql A0.o 1).trans rfl, (ql A0.o 2).trans rfl⟩ (fun hHeld => ?_)
           clear hK K
           refine norm_ (a' := ?_) ?_ ?_
           rotate_left
           ·show Act.put _ (some 6) _ = _
            simp only [Act.put, q1, q2, q3, i64_w, i32_w]
            rfl
           exact norm_ (by first | (simp only [putAll, Act.put, q1, q2, q3]; done) | (simp only [putAll, Act.put, q1, q2, q3]; rfl)) (hJ2_9 ((.slice B3 At.length B7), A2) _ ⟨hHeld, (vR Ak), (vK A0), (vK A6), (vK A7), (vK An), Aw.o, Au.o, Ac.o, Al.o, Ag.o, A8.o, Ai.o, A9.o, (vB HB)⟩)
          ·skip
           refine box_step ?hg (N := 7) ?hd (cs := #[.int .i64 0, .int .i64 0, .slice none 0 0]) (t := 30) ?hr ?_; (case hd => rfl); (case hg => rfl); (case hr => first | (go_simp; done) | (go_simp; rfl))
           intro A5 hg AJ hbox hb
           have Ao := Z.m (hbox)
           have Ax := gW (w := w) HB hg
           have Av := gW (w := w) HB hg
           have Ad := neL A0 hg
           have Am := neG A0 hg
           have Ah := neL A6 hg
           have Aa := neG A6 hg
           have Aj := neL A7 hg
           have Ab := neG A7 hg
           replace Ak := Z.m (Kd.Rb (vR Ak) hb)
           replace A0 := kB A0 hb
           replace A6 := kB A6 hb
           replace A7 := kB A7 hb
           replace HB := bB HB hb
           clear hb hbox hg
           refine hK.out _ _ ⟨(ql A0.o 0).trans rfl, (ql A0.o 1).trans rfl, (ql A0.o 2).trans rfl⟩ (fun hHeld => ?_)
           clear hK K
           refine norm_ (a' := ?_) ?_ ?_
           rotate_left
           ·show Act.put _ (some 7) _ = _
            simp only [Act.put, q1, q2, q3, i64_w, i32_w]
            rfl
           exact norm_ (by first | (simp only [putAll, Act.put, q1, q2, q3]; done) | (simp only [putAll, Act.put, q1, q2, q3]; rfl)) (hJ2_10 ((.slice B3 At.length B7), A5) _ ⟨hHeld, (vR Ak), (vK A0), (vK A6), (vK A7), (vK Ao), Ax.o, Av.o, Ad.o, Am.o, Ah.o, Aa.o, Aj.o, Ab.o, (vB HB)⟩)
        ·skip
         rintro ⟨A2, A5⟩ AJ ⟨hS_, h0_, h1_, h2_, h3_, h4_, h5_, h6_, h7_, h8_, h9_, h10_, h11_, h12_, h13_, h14_, h15_, h16_, h17_, h18_, h19_, h20_, h21_, h22_, h23_⟩
         have An : Z (AJ.heap[A2]? = some (.cells #[.int .i64 0, .int .i64 0, .int .i64 0] 52 (0, 0))) := ⟨h3_⟩
         have Ao : Z (AJ.heap[A5]? = some (.cells #[.int .i64 0, .int .i64 0, .slice none 0 0] 30 (0, 0))) := ⟨h4_⟩
         have Aw : Z (w.heap.size ≤ A2) := ⟨h5_⟩
         have Au : Z (w.heap.size ≤ A2) := ⟨h6_⟩
         have Ac : Z (A1 ≠ A2) := ⟨h7_⟩
         have Al : Z (A2 ≠ A1) := ⟨h8_⟩
         have Ag : Z (Ae ≠ A2) := ⟨h9_⟩
         have A8 : Z (A2 ≠ Ae) := ⟨h10_⟩
         have Ai : Z (Af ≠ A2) := ⟨h11_⟩
         have A9 : Z (A2 ≠ Af) := ⟨h12_⟩
         have Aq : Z (A5 ≠ A2) := ⟨h13_⟩
         have Ap : Z (A2 ≠ A5) := ⟨h14_⟩
         have Ax : Z (w.heap.size ≤ A5) := ⟨h15_⟩
         have Av : Z (w.heap.size ≤ A5) := ⟨h16_⟩
         have Ad : Z (A1 ≠ A5) := ⟨h17_⟩
         have Am : Z (A5 ≠ A1) := ⟨h18_⟩
         have Ah : Z (Ae ≠ A5) := ⟨h19_⟩
         have Aa : Z (A5 ≠ Ae) := ⟨h20_⟩
         have Aj : Z (Af ≠ A5) := ⟨h21_⟩
         have Ab : Z (A5 ≠ Af) := ⟨h22_⟩
         replace A0 : Z (AJ.heap[A1]? = some (.cells #[.int .i64 a0_0, .int .i64 a0_1, .slice A0_2 l0_2.length c0_2] 30 (0, 0))) := ⟨h0_⟩
         replace A6 : Z (AJ.heap[Ae]? = some (.cells #[.int .i64 0, .int .i64 0, .int .i64 0] 52 (0, 0))) := ⟨h1_⟩
         replace A7 : Z (AJ.heap[Af]? = some (.cells #[.int .i64 0, .int .i64 0, .slice none 0 0] 30 (0, 0))) := ⟨h2_⟩
         replace HB : Z (Below w.heap.size w AJ) := ⟨h23_⟩
         clear h0_ h1_ h2_ h3_ h4_ h5_ h6_ h7_ h8_ h9_ h10_ h11_ h12_ h13_ h14_ h15_ h16_ h17_ h18_ h19_ h20_ h21_ h22_ h23_
         have hHeld : AJ.cell? ⟨A1, 0, none⟩ = some (.int .i64 a0_0) ∧ AJ.cell? ⟨A1, 1, none⟩ = some (.int .i64 a0_1) ∧ AJ.cell? ⟨A1, 2, none⟩ = some (.slice A0_2 l0_2.length c0_2) := hS_
         refine norm_ (a' := ?_) ?_ ?_
         rotate_left
         ·simp only [putAll, Act.put, q1, q2, q3]
          rfl
         refine one_ (i := 2) (N := some 12) #[true, true, true, true, false, false, false, false, false, true, true, false, false, false] rfl rfl (one_of HT_.o (by kernel_rfl)) (by decide) (fun K hK => ?_)
         refine goes_ Try.func67 (by kernel_rfl) rfl #[.agg #[.int .i64 a0_0, .int .i64 a0_1, .slice A0_2 l0_2.length c0_2]] (by rfl) rfl rfl (by (try simp only [List.map_toArray, List.map_cons, List.map_nil]); first | done | rfl | (simp only [List.length_drop, List.length_take]; rfl)) ?_
         with_reducible refine (spec_ggGroups.calls k a0_0 a0_1 _ _ l0_2 At _ ?side1 ?side2 A3.o).mono ?_
         (case side1 => repeat (first | exact (Kd.C_below AU.o HB.o) | (with_reducible refine Kd.C_alloc ?_ _) | (with_reducible refine Kd.C_drewN ?_ _) | (with_reducible refine Kd.C_drew ?_)))
         (case side2 => exact AT.o)
         rintro e AW ⟨Ay, rfl, AX, hb⟩
         refine ⟨_, rfl, ?_⟩
         have Ak := Z.m (Kd.R_lower AX (below_size (vB HB)))
         replace A0 := kB A0 hb
         replace A6 := kB A6 hb
         replace A7 := kB A7 hb
         replace An := kB An hb
         replace Ao := kB Ao hb
         replace HB := bB HB hb
         (try clear hb); (try clear AX)
         refine hK.out _ _ ⟨(ql A0.o 0).trans rfl, (ql A0.o 1).trans rfl, (ql A0.o 2).trans rfl⟩ (fun hHeld => ?_)
         clear hK K
         refine norm_ (a' := ?_) ?_ ?_
         rotate_left
         ·show Act.put _ (some 12) _ = _
          simp only [Act.put, q1, q2, q3, i64_w, i32_w]
          rfl
         exact norm_ (by first | (simp only [putAll, Act.put, q1, q2, q3]; done) | (simp only [putAll, Act.put, q1, q2, q3]; rfl)) (hJ2_9_10 (Ay, A2, A5) _ ⟨hHeld, (vR Ak), (vK A0), (vK A6), (vK A7), (vK An), (vK Ao), Aw.o, Au.o, Ac.o, Al.o, Ag.o, A8.o, Ai.o, A9.o, Aq.o, Ap.o, Ax.o, Av.o, Ad.o, Am.o, Ah.o, Aa.o, Aj.o, Ab.o, (vB HB)⟩)
       ·skip
        rintro ⟨Ay, A5⟩ AJ ⟨hS_, h0_, h1_, h2_, h3_, h4_, h5_, h6_, h7_, h8_, h9_, h10_, h11_, h12_, h13_⟩
        have Ak : Z (Kd.R (Kd.int .i64) 3 AJ w.heap.size (fun _ => True) Ay At) := ⟨h0_⟩
        have Ao : Z (AJ.heap[A5]? = some (.cells #[.int .i64 0, .int .i64 0, .slice none 0 0] 30 (0, 0))) := ⟨h4_⟩
        have Ax : Z (w.heap.size ≤ A5) := ⟨h5_⟩
        have Av : Z (w.heap.size ≤ A5) := ⟨h6_⟩
        have Ad : Z (A1 ≠ A5) := ⟨h7_⟩
        have Am : Z (A5 ≠ A1) := ⟨h8_⟩
        have Ah : Z (Ae ≠ A5) := ⟨h9_⟩
        have Aa : Z (A5 ≠ Ae) := ⟨h10_⟩
        have Aj : Z (Af ≠ A5) := ⟨h11_⟩
        have Ab : Z (A5 ≠ Af) := ⟨h12_⟩
        replace A0 : Z (AJ.heap[A1]? = some (.cells #[.int .i64 a0_0, .int .i64 a0_1, .slice A0_2 l0_2.length c0_2] 30 (0, 0))) := ⟨h1_⟩
        replace A6 : Z (AJ.heap[Ae]? = some (.cells #[.int .i64 0, .int .i64 0, .int .i64 0] 52 (0, 0))) := ⟨h2_⟩
        replace A7 : Z (AJ.heap[Af]? = some (.cells #[.int .i64 0, .int .i64 0, .slice none 0 0] 30 (0, 0))) := ⟨h3_⟩
        replace HB : Z (Below w.heap.size w AJ) := ⟨h13_⟩
        clear h0_ h1_ h2_ h3_ h4_ h5_ h6_ h7_ h8_ h9_ h10_ h11_ h12_ h13_
        have hHeld : AJ.cell? ⟨A1, 0, none⟩ = some (.int .i64 a0_0) ∧ AJ.cell? ⟨A1, 1, none⟩ = some (.int .i64 a0_1) ∧ AJ.cell? ⟨A1, 2, none⟩ = some (.slice A0_2 l0_2.length c0_2) := hS_
        obtain ⟨AY, AZ, B0⟩ := Kd.R_slice Ak.o
        (first | subst B0 | (injection B0 with f1_ f2_ f3_; have f4_ := f1_.symm; have f5_ := f3_.symm; clear f1_ f2_ f3_; subst f4_; subst f5_))
        refine norm_ (a' := ?_) ?_ ?_
        rotate_left
        ·simp only [putAll, Act.put, q1, q2, q3]
         rfl
        refine two_ (i := 4) (j := 9) (Ni := some 14) (Nj := some 6) #[true, true, true, true, true, false, false, false, false, false, true, false, false, false] #[true, true, true, true, false, false, false, false, false, true, true, false, false, false] rfl rfl rfl rfl (two_of HT_.o (by kernel_rfl)) (by decide) (by decide) (fun K hK => ?_) (fun K hK => ?_)
        ·skip
         refine goes_ Try.func66 (by kernel_rfl) rfl #[.agg #[.int .i64 a0_0, .int .i64 a0_1, .slice A0_2 l0_2.length c0_2], .slice AY At.length AZ, .int .i64 a1] (by rfl) rfl rfl (by (try simp only [List.map_toArray, List.map_cons, List.map_nil]); first | done | rfl | (simp only [List.length_drop, List.length_take]; rfl)) ?_
         with_reducible refine (spec_flGo.calls k a0_0 a0_1 _ _ l0_2 _ _ At a1 Az AA AB AC AD AE AR _ ?side1 ?side2 ?side3 ?side4 A4.o).mono ?_
         (case side1 => repeat (first | exact (Kd.C_below AU.o HB.o) | (with_reducible refine Kd.C_alloc ?_ _) | (with_reducible refine Kd.C_drewN ?_ _) | (with_reducible refine Kd.C_drew ?_)))
         (case side2 => exact AT.o)
         (case side3 => repeat (first | exact (Kd.RrZ Ak.o).2.2 | (with_reducible refine Kd.C_alloc ?_ _) | (with_reducible refine Kd.C_drewN ?_ _) | (with_reducible refine Kd.C_drew ?_)))
         (case side4 => exact (Kd.RrZ Ak.o).2.1)
         rintro e AS ⟨AI, AH, rfl, AX, B2, hb⟩
         refine ⟨_, rfl, ?_⟩
         have Ar := Z.m (Kd.R_lower AX (below_size (vB HB)))
         have As := Z.m (Kd.S_lower (Kd.S_new' B2 (Kd.R_lt (vR Ak))) (below_size (vB HB)))
         replace Ak := Z.m (Kd.Rb (vR Ak) hb)
         replace A0 := kB A0 hb
         replace A6 := kB A6 hb
         replace A7 := kB A7 hb
         replace Ao := kB Ao hb
         replace HB := bB HB hb
         (try clear hb); (try clear AX); (try clear B2)
         refine hK.out _ _ ⟨(ql A0.o 0).trans rfl, (ql A0.o 1).trans rfl, (ql A0.o 2).trans rfl⟩ (fun hHeld => ?_)
         clear hK K
         refine norm_ (a' := ?_) ?_ ?_
         rotate_left
         ·show Act.put _ (some 14) _ = _
          simp only [Act.put, q1, q2, q3, i64_w, i32_w]
          rfl
         refine pure_ (i := 5) (N := some 9) (v := ?_) (a' := ?_) #[true, true, true, true, true, true, false, false, false, false, true, false, false, false] rfl rfl (any_of HT_.o (by kernel_rfl)) (fun _ _ _ h => h) (Or.inl ⟨by rfl, ?_⟩) ?_ ?_
         rotate_left
         ·intro w'
          go_simp
          with_reducible rfl
         rotate_left
         ·simp only [Act.put, q1, q2, q3, i64_w, i32_w]
          rfl
         refine pure_ (i := 6) (N := some 15) (v := ?_) (a' := ?_) #[true, true, true, true, true, true, true, false, false, false, true, false, false, false] rfl rfl (any_of HT_.o (by kernel_rfl)) (fun _ _ _ h => h) (Or.inl ⟨by rfl, ?_⟩) ?_ ?_
         rotate_left
         ·intro w'
          go_simp
          with_reducible rfl
         rotate_left
         ·simp only [Act.put, q1, q2, q3, i64_w, i32_w]
          rfl
         refine pure_ (i := 7) (N := some 16) (v := ?_) (a' := ?_) #[true, true, true, true, true, true, true, true, false, false, true, false, false, false] rfl rfl (any_of HT_.o (by kernel_rfl)) (fun _ _ _ h => h) (Or.inl ⟨by rfl, ?_⟩) ?_ ?_
         rotate_left
         ·intro w'
          go_simp
          with_reducible rfl
         rotate_left
         ·simp only [Act.put, q1, q2, q3, i64_w, i32_w]
          rfl
         refine pure_ (i := 8) (N := some 17) (v := ?_) (a' := ?_) #[true, true, true, true, true, true, true, true, true, false, true, false, false, false] rfl rfl (any_of HT_.o (by kernel_rfl)) (fun _ _ _ h => h) (Or.inl ⟨by rfl, ?_⟩) ?_ ?_
         rotate_left
         ·intro w'
          go_simp
          with_reducible rfl
         rotate_left
         ·simp only [Act.put, q1, q2, q3, i64_w, i32_w]
          rfl
         exact norm_ (by first | (simp only [putAll, Act.put, q1, q2, q3]; done) | (simp only [putAll, Act.put, q1, q2, q3]; rfl)) (hJ2_4_10 (.slice AY At.length AZ, AI, AH, A5) _ ⟨hHeld, (vR Ak), (vR Ar), (by (with_reducible repeat (first | apply Kd.S_alloc | apply Kd.S_drewN | apply Kd.S_drew)); exact Kd.S_mono As.o (fun _ hk => hk.2)), (vK A0), (vK A6), (vK A7), (vK Ao), Ax.o, Av.o, Ad.o, Am.o, Ah.o, Aa.o, Aj.o, Ab.o, (vB HB)⟩)
        ·skip
         refine box_step ?hg (N := 6) ?hd (cs := #[.int .i64 0, .int .i64 0, .int .i64 0]) (t := 52) ?hr ?_; (case hd => rfl); (case hg => rfl); (case hr => first | (go_simp; done) | (go_simp; rfl))
         intro A2 hg AW hbox hb
         have An := Z.m (hbox)
         have Aw := gW (w := w) HB hg
         have Au := gW (w := w) HB hg
         have Ac := neL A0 hg
         have Al := neG A0 hg
         have Ag := neL A6 hg
         have A8 := neG A6 hg
         have Ai := neL A7 hg
         have A9 := neG A7 hg
         have Aq := neL Ao hg
         have Ap := neG Ao hg
         replace Ak := Z.m (Kd.Rb (vR Ak) hb)
         replace A0 := kB A0 hb
         replace A6 := kB A6 hb
         replace A7 := kB A7 hb
         replace Ao := kB Ao hb
         replace HB := bB HB hb
         clear hb hbox hg
         refine hK.out _ _ ⟨(ql A0.o 0).trans rfl, (ql A0.o 1).trans rfl, (ql A0.o 2).trans rfl⟩ (fun hHeld => ?_)
         clear hK K
         refine norm_ (a' := ?_) ?_ ?_
         rotate_left
         ·show Act.put _ (some 6) _ = _
          simp only [Act.put, q1, q2, q3, i64_w, i32_w]
          rfl
         exact norm_ (by first | (simp only [putAll, Act.put, q1, q2, q3]; done) | (simp only [putAll, Act.put, q1, q2, q3]; rfl)) (hJ2_9_10 ((.slice AY At.length AZ), A2, A5) _ ⟨hHeld, (vR Ak), (vK A0), (vK A6), (vK A7), (vK An), (vK Ao), Aw.o, Au.o, Ac.o, Al.o, Ag.o, A8.o, Ai.o, A9.o, Aq.o, Ap.o, Ax.o, Av.o, Ad.o, Am.o, Ah.o, Aa.o, Aj.o, Ab.o, (vB HB)⟩)
      ·skip
       rintro ⟨Ay, A2⟩ AJ ⟨hS_, h0_, h1_, h2_, h3_, h4_, h5_, h6_, h7_, h8_, h9_, h10_, h11_, h12_, h13_⟩
       have Ak : Z (Kd.R (Kd.int .i64) 3 AJ w.heap.size (fun _ => True) Ay At) := ⟨h0_⟩
       have An : Z (AJ.heap[A2]? = some (.cells #[.int .i64 0, .int .i64 0, .int .i64 0] 52 (0, 0))) := ⟨h4_⟩
       have Aw : Z (w.heap.size ≤ A2) := ⟨h5_⟩
       have Au : Z (w.heap.size ≤ A2) := ⟨h6_⟩
       have Ac : Z (A1 ≠ A2) := ⟨h7_⟩
       have Al : Z (A2 ≠ A1) := ⟨h8_⟩
       have Ag : Z (Ae ≠ A2) := ⟨h9_⟩
       have A8 : Z (A2 ≠ Ae) := ⟨h10_⟩
       have Ai : Z (Af ≠ A2) := ⟨h11_⟩
       have A9 : Z (A2 ≠ Af) := ⟨h12_⟩
       replace A0 : Z (AJ.heap[A1]? = some (.cells #[.int .i64 a0_0, .int .i64 a0_1, .slice A0_2 l0_2.length c0_2] 30 (0, 0))) := ⟨h1_⟩
       replace A6 : Z (AJ.heap[Ae]? = some (.cells #[.int .i64 0, .int .i64 0, .int .i64 0] 52 (0, 0))) := ⟨h2_⟩
       replace A7 : Z (AJ.heap[Af]? = some (.cells #[.int .i64 0, .int .i64 0, .slice none 0 0] 30 (0, 0))) := ⟨h3_⟩
       replace HB : Z (Below w.heap.size w AJ) := ⟨h13_⟩
       clear h0_ h1_ h2_ h3_ h4_ h5_ h6_ h7_ h8_ h9_ h10_ h11_ h12_ h13_
       have hHeld : AJ.cell? ⟨A1, 0, none⟩ = some (.int .i64 a0_0) ∧ AJ.cell? ⟨A1, 1, none⟩ = some (.int .i64 a0_1) ∧ AJ.cell? ⟨A1, 2, none⟩ = some (.slice A0_2 l0_2.length c0_2) := hS_
       obtain ⟨AY, AZ, B0⟩ := Kd.R_slice Ak.o
       (first | subst B0 | (injection B0 with f1_ f2_ f3_; have f4_ := f1_.symm; have f5_ := f3_.symm; clear f1_ f2_ f3_; subst f4_; subst f5_))
       refine norm_ (a' := ?_) ?_ ?_
       rotate_left
       ·simp only [putAll, Act.put, q1, q2, q3]
        rfl
       refine two_ (i := 4) (j := 10) (Ni := some 14) (Nj := some 7) #[true, true, true, true, true, false, false, false, false, true, false, false, false, false] #[true, true, true, true, false, false, false, false, false, true, true, false, false, false] rfl rfl rfl rfl (two_of HT_.o (by kernel_rfl)) (by decide) (by decide) (fun K hK => ?_) (fun K hK => ?_)
       ·skip
        refine goes_ Try.func66 (by kernel_rfl) rfl #[.agg #[.int .i64 a0_0, .int .i64 a0_1, .slice A0_2 l0_2.length c0_2], .slice AY At.length AZ, .int .i64 a1] (by rfl) rfl rfl (by (try simp only [List.map_toArray, List.map_cons, List.map_nil]); first | done | rfl | (simp only [List.length_drop, List.length_take]; rfl)) ?_
        with_reducible refine (spec_flGo.calls k a0_0 a0_1 _ _ l0_2 _ _ At a1 Az AA AB AC AD AE AR _ ?side1 ?side2 ?side3 ?side4 A4.o).mono ?_
        (case side1 => repeat (first | exact (Kd.C_below AU.o HB.o) | (with_reducible refine Kd.C_alloc ?_ _) | (with_reducible refine Kd.C_drewN ?_ _) | (with_reducible refine Kd.C_drew ?_)))
        (case side2 => exact AT.o)
        (case side3 => repeat (first | exact (Kd.RrZ Ak.o).2.2 | (with_reducible refine Kd.C_alloc ?_ _) | (with_reducible refine Kd.C_drewN ?_ _) | (with_reducible refine Kd.C_drew ?_)))
        (case side4 => exact (Kd.RrZ Ak.o).2.1)
        rintro e AS ⟨AI, AH, rfl, AX, B2, hb⟩
        refine ⟨_, rfl, ?_⟩
        have Ar := Z.m (Kd.R_lower AX (below_size (vB HB)))
        have As := Z.m (Kd.S_lower (Kd.S_new' B2 (Kd.R_lt (vR Ak))) (below_size (vB HB)))
        replace Ak := Z.m (Kd.Rb (vR Ak) hb)
        replace A0 := kB A0 hb
        replace A6 := kB A6 hb
        replace A7 := kB A7 hb
        replace An := kB An hb
        replace HB := bB HB hb
        (try clear hb); (try clear AX); (try clear B2)
        refine hK.out _ _ ⟨(ql A0.o 0).trans rfl, (ql A0.o 1).trans rfl, (ql A0.o 2).trans rfl⟩ (fun hHeld => ?_)
        clear hK K
        refine norm_ (a' := ?_) ?_ ?_
        rotate_left
        ·show Act.put _ (some 14) _ = _
         simp only [Act.put, q1, q2, q3, i64_w, i32_w]
         rfl
        refine pure_ (i := 5) (N := some 9) (v := ?_) (a' := ?_) #[true, true, true, true, true, true, false, false, false, true, false, false, false, false] rfl rfl (any_of HT_.o (by kernel_rfl)) (fun _ _ _ h => h) (Or.inl ⟨by rfl, ?_⟩) ?_ ?_
        rotate_left
        ·intro w'
         go_simp
         with_reducible rfl
        rotate_left
        ·simp only [Act.put, q1, q2, q3, i64_w, i32_w]
         rfl
        refine pure_ (i := 6) (N := some 15) (v := ?_) (a' := ?_) #[true, true, true, true, true, true, true, false, false, true, false, false, false, false] rfl rfl (any_of HT_.o (by kernel_rfl)) (fun _ _ _ h => h) (Or.inl ⟨by rfl, ?_⟩) ?_ ?_
        rotate_left
        ·intro w'
         go_simp
         with_reducible rfl
        rotate_left
        ·simp only [Act.put, q1, q2, q3, i64_w, i32_w]
         rfl
        refine pure_ (i := 7) (N := some 16) (v := ?_) (a' := ?_) #[true, true, true, true, true, true, true, true, false, true, false, false, false, false] rfl rfl (any_of HT_.o (by kernel_rfl)) (fun _ _ _ h => h) (Or.inl ⟨by rfl, ?_⟩) ?_ ?_
        rotate_left
        ·intro w'
         go_simp
         with_reducible rfl
        rotate_left
        ·simp only [Act.put, q1, q2, q3, i64_w, i32_w]
         rfl
        refine pure_ (i := 8) (N := some 17) (v := ?_) (a' := ?_) #[true, true, true, true, true, true, true, true, true, true, false, false, false, false] rfl rfl (any_of HT_.o (by kernel_rfl)) (fun _ _ _ h => h) (Or.inl ⟨by rfl, ?_⟩) ?_ ?_
        rotate_left
        ·intro w'
         go_simp
         with_reducible rfl
        rotate_left
        ·simp only [Act.put, q1, q2, q3, i64_w, i32_w]
         rfl
        exact norm_ (by first | (simp only [putAll, Act.put, q1, q2, q3]; done) | (simp only [putAll, Act.put, q1, q2, q3]; rfl)) (hJ2_4_9 (.slice AY At.length AZ, AI, AH, A2) _ ⟨hHeld, (vR Ak), (vR Ar), (by (with_reducible repeat (first | apply Kd.S_alloc | apply Kd.S_drewN | apply Kd.S_drew)); exact Kd.S_mono As.o (fun _ hk => hk.2)), (vK A0), (vK A6), (vK A7), (vK An), Aw.o, Au.o, Ac.o, Al.o, Ag.o, A8.o, Ai.o, A9.o, (vB HB)⟩)
       ·skip
        refine box_step ?hg (N := 7) ?hd (cs := #[.int .i64 0, .int .i64 0, .slice none 0 0]) (t := 30) ?hr ?_; (case hd => rfl); (case hg => rfl); (case hr => first | (go_simp; done) | (go_simp; rfl))
        intro A5 hg AW hbox hb
        have Ao := Z.m (hbox)
        have Ax := gW (w := w) HB hg
        have Av := gW (w := w) HB hg
        have Ad := neL A0 hg
        have Am := neG A0 hg
        have Ah := neL A6 hg
        have Aa := neG A6 hg
        have Aj := neL A7 hg
        have Ab := neG A7 hg
        have Ap := neL An hg
        have Aq := neG An hg
        replace Ak := Z.m (Kd.Rb (vR Ak) hb)
        replace A0 := kB A0 hb
        replace A6 := kB A6 hb
        replace A7 := kB A7 hb
        replace An := kB An hb
        replace HB := bB HB hb
        clear hb hbox hg
        refine hK.out _ _ ⟨(ql A0.o 0).trans rfl, (ql A0.o 1).trans rfl, (ql A0.o 2).trans rfl⟩ (fun hHeld => ?_)
        clear hK K
        refine norm_ (a' := ?_) ?_ ?_
        rotate_left
        ·show Act.put _ (some 7) _ = _
         simp only [Act.put, q1, q2, q3, i64_w, i32_w]
         rfl
        exact norm_ (by first | (simp only [putAll, Act.put, q1, q2, q3]; done) | (simp only [putAll, Act.put, q1, q2, q3]; rfl)) (hJ2_9_10 ((.slice AY At.length AZ), A2, A5) _ ⟨hHeld, (vR Ak), (vK A0), (vK A6), (vK A7), (vK An), (vK Ao), Aw.o, Au.o, Ac.o, Al.o, Ag.o, A8.o, Ai.o, A9.o, Aq.o, Ap.o, Ax.o, Av.o, Ad.o, Am.o, Ah.o, Aa.o, Aj.o, Ab.o, (vB HB)⟩)
     ·skip
      rintro ⟨Ay, AI, AH⟩ AW ⟨hS_, h0_, h1_, h2_, h3_, h4_, h5_, h6_⟩
      have Ak : Z (Kd.R (Kd.int .i64) 3 AW w.heap.size (fun _ => True) Ay At) := ⟨h0_⟩
      have Ar : Z (Kd.R k88 88 AW w.heap.size (fun _ => True) AI AE) := ⟨h1_⟩
      have As : Z (Kd.S (Kd.slice 3 (Kd.int .i64)) 41 AW w.heap.size (fun k_ => some k_ ≠ (Ay : Value).ownBlock) AH AR) := ⟨h2_⟩
      replace A0 : Z (AW.heap[A1]? = some (.cells #[.int .i64 a0_0, .int .i64 a0_1, .slice A0_2 l0_2.length c0_2] 30 (0, 0))) := ⟨h3_⟩
      replace A6 : Z (AW.heap[Ae]? = some (.cells #[.int .i64 0, .int .i64 0, .int .i64 0] 52 (0, 0))) := ⟨h4_⟩
      replace A7 : Z (AW.heap[Af]? = some (.cells #[.int .i64 0, .int .i64 0, .slice none 0 0] 30 (0, 0))) := ⟨h5_⟩
      replace HB : Z (Below w.heap.size w AW) := ⟨h6_⟩
      clear h0_ h1_ h2_ h3_ h4_ h5_ h6_
      have hHeld : AW.cell? ⟨A1, 0, none⟩ = some (.int .i64 a0_0) ∧ AW.cell? ⟨A1, 1, none⟩ = some (.int .i64 a0_1) ∧ AW.cell? ⟨A1, 2, none⟩ = some (.slice A0_2 l0_2.length c0_2) := hS_
      refine norm_ (a' := ?_) ?_ ?_
      rotate_left
      ·simp only [putAll, Act.put, q1, q2, q3]
       rfl
      refine two_ (i := 9) (j := 10) (Ni := some 6) (Nj := some 7) #[true, true, true, true, true, true, true, true, true, true, false, false, false, false] #[true, true, true, true, true, true, true, true, true, false, true, false, false, false] rfl rfl rfl rfl (two_of HT_.o (by kernel_rfl)) (by decide) (by decide) (fun K hK => ?_) (fun K hK => ?_)
      ·skip
       refine box_step ?hg (N := 6) ?hd (cs := #[.int .i64 0, .int .i64 0, .int .i64 0]) (t := 52) ?hr ?_; (case hd => rfl); (case hg => rfl); (case hr => first | (go_simp; done) | (go_simp; rfl))
       intro A2 hg AS hbox hb
       have An := Z.m (hbox)
       have Aw := gW (w := w) HB hg
       have Au := gW (w := w) HB hg
       have Ac := neL A0 hg
       have Al := neG A0 hg
       have Ag := neL A6 hg
       have A8 := neG A6 hg
       have Ai := neL A7 hg
       have A9 := neG A7 hg
       replace Ak := Z.m (Kd.Rb (vR Ak) hb)
       replace Ar := Z.m (Kd.Rb (vR Ar) hb)
       replace As := Z.m (Kd.S_below (vS As) hb)
       replace A0 := kB A0 hb
       replace A6 := kB A6 hb
       replace A7 := kB A7 hb
       replace HB := bB HB hb
       clear hb hbox hg
       refine hK.out _ _ ⟨(ql A0.o 0).trans rfl, (ql A0.o 1).trans rfl, (ql A0.o 2).trans rfl⟩ (fun hHeld => ?_)
       clear hK K
       refine norm_ (a' := ?_) ?_ ?_
       rotate_left
       ·show Act.put _ (some 6) _ = _
        simp only [Act.put, q1, q2, q3, i64_w, i32_w]
        rfl
       exact norm_ (by first | (simp only [putAll, Act.put, q1, q2, q3]; done) | (simp only [putAll, Act.put, q1, q2, q3]; rfl)) (hJ2_4_9 (Ay, AI, AH, A2) _ ⟨hHeld, (vR Ak), (vR Ar), (vS As), (vK A0), (vK A6), (vK A7), (vK An), Aw.o, Au.o, Ac.o, Al.o, Ag.o, A8.o, Ai.o, A9.o, (vB HB)⟩)
      ·skip
       refine box_step ?hg (N := 7) ?hd (cs := #[.int .i64 0, .int .i64 0, .slice none 0 0]) (t := 30) ?hr ?_; (case hd => rfl); (case hg => rfl); (case hr => first | (go_simp; done) | (go_simp; rfl))
       intro A5 hg AS hbox hb
       have Ao := Z.m (hbox)
       have Ax := gW (w := w) HB hg
       have Av := gW (w := w) HB hg
       have Ad := neL A0 hg
       have Am := neG A0 hg
       have Ah := neL A6 hg
       have Aa := neG A6 hg
       have Aj := neL A7 hg
       have Ab := neG A7 hg
       replace Ak := Z.m (Kd.Rb (vR Ak) hb)
       replace Ar := Z.m (Kd.Rb (vR Ar) hb)
       replace As := Z.m (Kd.S_below (vS As) hb)
       replace A0 := kB A0 hb
       replace A6 := kB A6 hb
       replace A7 := kB A7 hb
       replace HB := bB HB hb
       clear hb hbox hg
       refine hK.out _ _ ⟨(ql A0.o 0).trans rfl, (ql A0.o 1).trans rfl, (ql A0.o 2).trans rfl⟩ (fun hHeld => ?_)
       clear hK K
       refine norm_ (a' := ?_) ?_ ?_
       rotate_left
       ·show Act.put _ (some 7) _ = _
        simp only [Act.put, q1, q2, q3, i64_w, i32_w]
        rfl
       exact norm_ (by first | (simp only [putAll, Act.put, q1, q2, q3]; done) | (simp only [putAll, Act.put, q1, q2, q3]; rfl)) (hJ2_4_10 (Ay, AI, AH, A5) _ ⟨hHeld, (vR Ak), (vR Ar), (vS As), (vK A0), (vK A6), (vK A7), (vK Ao), Ax.o, Av.o, Ad.o, Am.o, Ah.o, Aa.o, Aj.o, Ab.o, (vB HB)⟩)
    ·skip
     rintro ⟨Ay, A2, A5⟩ AW ⟨hS_, h0_, h1_, h2_, h3_, h4_, h5_, h6_, h7_, h8_, h9_, h10_, h11_, h12_, h13_, h14_, h15_, h16_, h17_, h18_, h19_, h20_, h21_, h22_, h23_, h24_⟩
     have Ak : Z (Kd.R (Kd.int .i64) 3 AW w.heap.size (fun _ => True) Ay At) := ⟨h0_⟩
     have An : Z (AW.heap[A2]? = some (.cells #[.int .i64 0, .int .i64 0, .int .i64 0] 52 (0, 0))) := ⟨h4_⟩
     have Ao : Z (AW.heap[A5]? = some (.cells #[.int .i64 0, .int .i64 0, .slice none 0 0] 30 (0, 0))) := ⟨h5_⟩
     have Aw : Z (w.heap.size ≤ A2) := ⟨h6_⟩
     have Au : Z (w.heap.size ≤ A2) := ⟨h7_⟩
     have Ac : Z (A1 ≠ A2) := ⟨h8_⟩
     have Al : Z (A2 ≠ A1) := ⟨h9_⟩
     have Ag : Z (Ae ≠ A2) := ⟨h10_⟩
     have A8 : Z (A2 ≠ Ae) := ⟨h11_⟩
     have Ai : Z (Af ≠ A2) := ⟨h12_⟩
     have A9 : Z (A2 ≠ Af) := ⟨h13_⟩
     have Aq : Z (A5 ≠ A2) := ⟨h14_⟩
     have Ap : Z (A2 ≠ A5) := ⟨h15_⟩
     have Ax : Z (w.heap.size ≤ A5) := ⟨h16_⟩
     have Av : Z (w.heap.size ≤ A5) := ⟨h17_⟩
     have Ad : Z (A1 ≠ A5) := ⟨h18_⟩
     have Am : Z (A5 ≠ A1) := ⟨h19_⟩
     have Ah : Z (Ae ≠ A5) := ⟨h20_⟩
     have Aa : Z (A5 ≠ Ae) := ⟨h21_⟩
     have Aj : Z (Af ≠ A5) := ⟨h22_⟩
     have Ab : Z (A5 ≠ Af) := ⟨h23_⟩
     replace A0 : Z (AW.heap[A1]? = some (.cells #[.int .i64 a0_0, .int .i64 a0_1, .slice A0_2 l0_2.length c0_2] 30 (0, 0))) := ⟨h1_⟩
     replace A6 : Z (AW.heap[Ae]? = some (.cells #[.int .i64 0, .int .i64 0, .int .i64 0] 52 (0, 0))) := ⟨h2_⟩
     replace A7 : Z (AW.heap[Af]? = some (.cells #[.int .i64 0, .int .i64 0, .slice none 0 0] 30 (0, 0))) := ⟨h3_⟩
     replace HB : Z (Below w.heap.size w AW) := ⟨h24_⟩
     clear h0_ h1_ h2_ h3_ h4_ h5_ h6_ h7_ h8_ h9_ h10_ h11_ h12_ h13_ h14_ h15_ h16_ h17_ h18_ h19_ h20_ h21_ h22_ h23_ h24_
     have hHeld : AW.cell? ⟨A1, 0, none⟩ = some (.int .i64 a0_0) ∧ AW.cell? ⟨A1, 1, none⟩ = some (.int .i64 a0_1) ∧ AW.cell? ⟨A1, 2, none⟩ = some (.slice A0_2 l0_2.length c0_2) := hS_
     obtain ⟨Ba, Be, Bg⟩ := Kd.R_slice Ak.o
     (first | subst Bg | (injection Bg with f1_ f2_ f3_; have f4_ := f1_.symm; have f5_ := f3_.symm; clear f1_ f2_ f3_; subst f4_; subst f5_))
     refine norm_ (a' := ?_) ?_ ?_
     rotate_left
     ·simp only [putAll, Act.put, q1, q2, q3]
      rfl
     refine one_ (i := 4) (N := some 14) #[true, true, true, true, true, false, false, false, false, true, true, false, false, false] rfl rfl (one_of HT_.o (by kernel_rfl)) (by decide) (fun K hK => ?_)
     refine goes_ Try.func66 (by kernel_rfl) rfl #[.agg #[.int .i64 a0_0, .int .i64 a0_1, .slice A0_2 l0_2.length c0_2], .slice Ba At.length Be, .int .i64 a1] (by rfl) rfl rfl (by (try simp only [List.map_toArray, List.map_cons, List.map_nil]); first | done | rfl | (simp only [List.length_drop, List.length_take]; rfl)) ?_
     with_reducible refine (spec_flGo.calls k a0_0 a0_1 _ _ l0_2 _ _ At a1 Az AA AB AC AD AE AR _ ?side1 ?side2 ?side3 ?side4 A4.o).mono ?_
     (case side1 => repeat (first | exact (Kd.C_below AU.o HB.o) | (with_reducible refine Kd.C_alloc ?_ _) | (with_reducible refine Kd.C_drewN ?_ _) | (with_reducible refine Kd.C_drew ?_)))
     (case side2 => exact AT.o)
     (case side3 => repeat (first | exact (Kd.RrZ Ak.o).2.2 | (with_reducible refine Kd.C_alloc ?_ _) | (with_reducible refine Kd.C_drewN ?_ _) | (with_reducible refine Kd.C_drew ?_)))
     (case side4 => exact (Kd.RrZ Ak.o).2.1)
     rintro e AM ⟨AI, AH, rfl, AX, B2, hb⟩
     refine ⟨_, rfl, ?_⟩
     have Ar := Z.m (Kd.R_lower AX (below_size (vB HB)))
     have As := Z.m (Kd.S_lower (Kd.S_new' B2 (Kd.R_lt (vR Ak))) (below_size (vB HB)))
     replace Ak := Z.m (Kd.Rb (vR Ak) hb)
     replace A0 := kB A0 hb
     replace A6 := kB A6 hb
     replace A7 := kB A7 hb
     replace An := kB An hb
     replace Ao := kB Ao hb
     replace HB := bB HB hb
     (try clear hb); (try clear AX); (try clear B2)
     refine hK.out _ _ ⟨(ql A0.o 0).trans rfl, (ql A0.o 1).trans rfl, (ql A0.o 2).trans rfl⟩ (fun hHeld => ?_)
     clear hK K
     refine norm_ (a' := ?_) ?_ ?_
     rotate_left
     ·show Act.put _ (some 14) _ = _
      simp only [Act.put, q1, q2, q3, i64_w, i32_w]
      rfl
     refine pure_ (i := 5) (N := some 9) (v := ?_) (a' := ?_) #[true, true, true, true, true, true, false, false, false, true, true, false, false, false] rfl rfl (any_of HT_.o (by kernel_rfl)) (fun _ _ _ h => h) (Or.inl ⟨by rfl, ?_⟩) ?_ ?_
     rotate_left
     ·intro w'
      go_simp
      with_reducible rfl
     rotate_left
     ·simp only [Act.put, q1, q2, q3, i64_w, i32_w]
      rfl
     refine pure_ (i := 6) (N := some 15) (v := ?_) (a' := ?_) #[true, true, true, true, true, true, true, false, false, true, true, false, false, false] rfl rfl (any_of HT_.o (by kernel_rfl)) (fun _ _ _ h => h) (Or.inl ⟨by rfl, ?_⟩) ?_ ?_
     rotate_left
     ·intro w'
      go_simp
      with_reducible rfl
     rotate_left
     ·simp only [Act.put, q1, q2, q3, i64_w, i32_w]
      rfl
     refine pure_ (i := 7) (N := some 16) (v := ?_) (a' := ?_) #[true, true, true, true, true, true, true, true, false, true, true, false, false, false] rfl rfl (any_of HT_.o (by kernel_rfl)) (fun _ _ _ h => h) (Or.inl ⟨by rfl, ?_⟩) ?_ ?_
     rotate_left
     ·intro w'
      go_simp
      with_reducible rfl
     rotate_left
     ·simp only [Act.put, q1, q2, q3, i64_w, i32_w]
      rfl
     refine pure_ (i := 8) (N := some 17) (v := ?_) (a' := ?_) #[true, true, true, true, true, true, true, true, true, true, true, false, false, false] rfl rfl (any_of HT_.o (by kernel_rfl)) (fun _ _ _ h => h) (Or.inl ⟨by rfl, ?_⟩) ?_ ?_
     rotate_left
     ·intro w'
      go_simp
      with_reducible rfl
     rotate_left
     ·simp only [Act.put, q1, q2, q3, i64_w, i32_w]
      rfl
     exact norm_ (by first | (simp only [putAll, Act.put, q1, q2, q3]; done) | (simp only [putAll, Act.put, q1, q2, q3]; rfl)) (hJ2_4_9_10 (.slice Ba At.length Be, AI, AH, A2, A5) _ ⟨hHeld, (vR Ak), (vR Ar), (by (with_reducible repeat (first | apply Kd.S_alloc | apply Kd.S_drewN | apply Kd.S_drew)); exact Kd.S_mono As.o (fun _ hk => hk.2)), (vK A0), (vK A6), (vK A7), (vK An), (vK Ao), Aw.o, Au.o, Ac.o, Al.o, Ag.o, A8.o, Ai.o, A9.o, Aq.o, Ap.o, Ax.o, Av.o, Ad.o, Am.o, Ah.o, Aa.o, Aj.o, Ab.o, (vB HB)⟩)
   ·skip
    rintro ⟨Ay, AI, AH, A5⟩ AS ⟨hS_, h0_, h1_, h2_, h3_, h4_, h5_, h6_, h7_, h8_, h9_, h10_, h11_, h12_, h13_, h14_, h15_⟩
    have Ak : Z (Kd.R (Kd.int .i64) 3 AS w.heap.size (fun _ => True) Ay At) := ⟨h0_⟩
    have Ar : Z (Kd.R k88 88 AS w.heap.size (fun _ => True) AI AE) := ⟨h1_⟩
    have As : Z (Kd.S (Kd.slice 3 (Kd.int .i64)) 41 AS w.heap.size (fun k_ => some k_ ≠ (Ay : Value).ownBlock) AH AR) := ⟨h2_⟩
    have Ao : Z (AS.heap[A5]? = some (.cells #[.int .i64 0, .int .i64 0, .slice none 0 0] 30 (0, 0))) := ⟨h6_⟩
    have Ax : Z (w.heap.size ≤ A5) := ⟨h7_⟩
    have Av : Z (w.heap.size ≤ A5) := ⟨h8_⟩
    have Ad : Z (A1 ≠ A5) := ⟨h9_⟩
    have Am : Z (A5 ≠ A1) := ⟨h10_⟩
    have Ah : Z (Ae ≠ A5) := ⟨h11_⟩
    have Aa : Z (A5 ≠ Ae) := ⟨h12_⟩
    have Aj : Z (Af ≠ A5) := ⟨h13_⟩
    have Ab : Z (A5 ≠ Af) := ⟨h14_⟩
    replace A0 : Z (AS.heap[A1]? = some (.cells #[.int .i64 a0_0, .int .i64 a0_1, .slice A0_2 l0_2.length c0_2] 30 (0, 0))) := ⟨h3_⟩
    replace A6 : Z (AS.heap[Ae]? = some (.cells #[.int .i64 0, .int .i64 0, .int .i64 0] 52 (0, 0))) := ⟨h4_⟩
    replace A7 : Z (AS.heap[Af]? = some (.cells #[.int .i64 0, .int .i64 0, .slice none 0 0] 30 (0, 0))) := ⟨h5_⟩
    replace HB : Z (Below w.heap.size w AS) := ⟨h15_⟩
    clear h0_ h1_ h2_ h3_ h4_ h5_ h6_ h7_ h8_ h9_ h10_ h11_ h12_ h13_ h14_ h15_
    have hHeld : AS.cell? ⟨A1, 0, none⟩ = some (.int .i64 a0_0) ∧ AS.cell? ⟨A1, 1, none⟩ = some (.int .i64 a0_1) ∧ AS.cell? ⟨A1, 2, none⟩ = some (.slice A0_2 l0_2.length c0_2) := hS_
    refine norm_ (a' := ?_) ?_ ?_
    rotate_left
    ·simp only [putAll, Act.put, q1, q2, q3]
     rfl
    refine one_ (i := 9) (N := some 6) #[true, true, true, true, true, true, true, true, true, true, true, false, false, false] rfl rfl (one_of HT_.o (by kernel_rfl)) (by decide) (fun K hK => ?_)
    refine box_step ?hg (N := 6) ?hd (cs := #[.int .i64 0, .int .i64 0, .int .i64 0]) (t := 52) ?hr ?_; (case hd => rfl); (case hg => rfl); (case hr => first | (go_simp; done) | (go_simp; rfl))
    intro A2 hg AM hbox hb
    have An := Z.m (hbox)
    have Aw := gW (w := w) HB hg
    have Au := gW (w := w) HB hg
    have Ac := neL A0 hg
    have Al := neG A0 hg
    have Ag := neL A6 hg
    have A8 := neG A6 hg
    have Ai := neL A7 hg
    have A9 := neG A7 hg
    have Aq := neL Ao hg
    have Ap := neG Ao hg
    replace Ak := Z.m (Kd.Rb (vR Ak) hb)
    replace Ar := Z.m (Kd.Rb (vR Ar) hb)
    replace As := Z.m (Kd.S_below (vS As) hb)
    replace A0 := kB A0 hb
    replace A6 := kB A6 hb
    replace A7 := kB A7 hb
    replace Ao := kB Ao hb
    replace HB := bB HB hb
    clear hb hbox hg
    refine hK.out _ _ ⟨(ql A0.o 0).trans rfl, (ql A0.o 1).trans rfl, (ql A0.o 2).trans rfl⟩ (fun hHeld => ?_)
    clear hK K
    refine norm_ (a' := ?_) ?_ ?_
    rotate_left
    ·show Act.put _ (some 6) _ = _
     simp only [Act.put, q1, q2, q3, i64_w, i32_w]
     rfl
    exact norm_ (by first | (simp only [putAll, Act.put, q1, q2, q3]; done) | (simp only [putAll, Act.put, q1, q2, q3]; rfl)) (hJ2_4_9_10 (Ay, AI, AH, A2, A5) _ ⟨hHeld, (vR Ak), (vR Ar), (vS As), (vK A0), (vK A6), (vK A7), (vK An), (vK Ao), Aw.o, Au.o, Ac.o, Al.o, Ag.o, A8.o, Ai.o, A9.o, Aq.o, Ap.o, Ax.o, Av.o, Ad.o, Am.o, Ah.o, Aa.o, Aj.o, Ab.o, (vB HB)⟩)
  ·skip
   rintro ⟨Ay, AI, AH, A2⟩ AS ⟨hS_, h0_, h1_, h2_, h3_, h4_, h5_, h6_, h7_, h8_, h9_, h10_, h11_, h12_, h13_, h14_, h15_⟩
   have Ak : Z (Kd.R (Kd.int .i64) 3 AS w.heap.size (fun _ => True) Ay At) := ⟨h0_⟩
   have Ar : Z (Kd.R k88 88 AS w.heap.size (fun _ => True) AI AE) := ⟨h1_⟩
   have As : Z (Kd.S (Kd.slice 3 (Kd.int .i64)) 41 AS w.heap.size (fun k_ => some k_ ≠ (Ay : Value).ownBlock) AH AR) := ⟨h2_⟩
   have An : Z (AS.heap[A2]? = some (.cells #[.int .i64 0, .int .i64 0, .int .i64 0] 52 (0, 0))) := ⟨h6_⟩
   have Aw : Z (w.heap.size ≤ A2) := ⟨h7_⟩
   have Au : Z (w.heap.size ≤ A2) := ⟨h8_⟩
   have Ac : Z (A1 ≠ A2) := ⟨h9_⟩
   have Al : Z (A2 ≠ A1) := ⟨h10_⟩
   have Ag : Z (Ae ≠ A2) := ⟨h11_⟩
   have A8 : Z (A2 ≠ Ae) := ⟨h12_⟩
   have Ai : Z (Af ≠ A2) := ⟨h13_⟩
   have A9 : Z (A2 ≠ Af) := ⟨h14_⟩
   replace A0 : Z (AS.heap[A1]? = some (.cells #[.int .i64 a0_0, .int .i64 a0_1, .slice A0_2 l0_2.length c0_2] 30 (0, 0))) := ⟨h3_⟩
   replace A6 : Z (AS.heap[Ae]? = some (.cells #[.int .i64 0, .int .i64 0, .int .i64 0] 52 (0, 0))) := ⟨h4_⟩
   replace A7 : Z (AS.heap[Af]? = some (.cells #[.int .i64 0, .int .i64 0, .slice none 0 0] 30 (0, 0))) := ⟨h5_⟩
   replace HB : Z (Below w.heap.size w AS) := ⟨h15_⟩
   clear h0_ h1_ h2_ h3_ h4_ h5_ h6_ h7_ h8_ h9_ h10_ h11_ h12_ h13_ h14_ h15_
   have hHeld : AS.cell? ⟨A1, 0, none⟩ = some (.int .i64 a0_0) ∧ AS.cell? ⟨A1, 1, none⟩ = some (.int .i64 a0_1) ∧ AS.cell? ⟨A1, 2, none⟩ = some (.slice A0_2 l0_2.length c0_2) := hS_
   refine norm_ (a' := ?_) ?_ ?_
   rotate_left
   ·simp only [putAll, Act.put, q1, q2, q3]
    rfl
   refine one_ (i := 10) (N := some 7) #[true, true, true, true, true, true, true, true, true, true, true, false, false, false] rfl rfl (one_of HT_.o (by kernel_rfl)) (by decide) (fun K hK => ?_)
   refine box_step ?hg (N := 7) ?hd (cs := #[.int .i64 0, .int .i64 0, .slice none 0 0]) (t := 30) ?hr ?_; (case hd => rfl); (case hg => rfl); (case hr => first | (go_simp; done) | (go_simp; rfl))
   intro A5 hg AM hbox hb
   have Ao := Z.m (hbox)
   have Ax := gW (w := w) HB hg
   have Av := gW (w := w) HB hg
   have Ad := neL A0 hg
   have Am := neG A0 hg
   have Ah := neL A6 hg
   have Aa := neG A6 hg
   have Aj := neL A7 hg
   have Ab := neG A7 hg
   have Ap := neL An hg
   have Aq := neG An hg
   replace Ak := Z.m (Kd.Rb (vR Ak) hb)
   replace Ar := Z.m (Kd.Rb (vR Ar) hb)
   replace As := Z.m (Kd.S_below (vS As) hb)
   replace A0 := kB A0 hb
   replace A6 := kB A6 hb
   replace A7 := kB A7 hb
   replace An := kB An hb
   replace HB := bB HB hb
   clear hb hbox hg
   refine hK.out _ _ ⟨(ql A0.o 0).trans rfl, (ql A0.o 1).trans rfl, (ql A0.o 2).trans rfl⟩ (fun hHeld => ?_)
   clear hK K
   refine norm_ (a' := ?_) ?_ ?_
   rotate_left
   ·show Act.put _ (some 7) _ = _
    simp only [Act.put, q1, q2, q3, i64_w, i32_w]
    rfl
   exact norm_ (by first | (simp only [putAll, Act.put, q1, q2, q3]; done) | (simp only [putAll, Act.put, q1, q2, q3]; rfl)) (hJ2_4_9_10 (Ay, AI, AH, A2, A5) _ ⟨hHeld, (vR Ak), (vR Ar), (vS As), (vK A0), (vK A6), (vK A7), (vK An), (vK Ao), Aw.o, Au.o, Ac.o, Al.o, Ag.o, A8.o, Ai.o, A9.o, Aq.o, Ap.o, Ax.o, Av.o, Ad.o, Am.o, Ah.o, Aa.o, Aj.o, Ab.o, (vB HB)⟩)
 rintro ⟨Ay, AI, AH, A2, A5⟩ AM ⟨hS_, h0_, h1_, h2_, h3_, h4_, h5_, h6_, h7_, h8_, h9_, h10_, h11_, h12_, h13_, h14_, h15_, h16_, h17_, h18_, h19_, h20_, h21_, h22_, h23_, h24_, h25_, h26_⟩
 have Ak : Z (Kd.R (Kd.int .i64) 3 AM w.heap.size (fun _ => True) Ay At) := ⟨h0_⟩
 have Ar : Z (Kd.R k88 88 AM w.heap.size (fun _ => True) AI AE) := ⟨h1_⟩
 have As : Z (Kd.S (Kd.slice 3 (Kd.int .i64)) 41 AM w.heap.size (fun k_ => some k_ ≠ (Ay : Value).ownBlock) AH AR) := ⟨h2_⟩
 have An : Z (AM.heap[A2]? = some (.cells #[.int .i64 0, .int .i64 0, .int .i64 0] 52 (0, 0))) := ⟨h6_⟩
 have Ao : Z (AM.heap[A5]? = some (.cells #[.int .i64 0, .int .i64 0, .slice none 0 0] 30 (0, 0))) := ⟨h7_⟩
 have Aw : Z (w.heap.size ≤ A2) := ⟨h8_⟩
 have Au : Z (w.heap.size ≤ A2) := ⟨h9_⟩
 have Ac : Z (A1 ≠ A2) := ⟨h10_⟩
 have Al : Z (A2 ≠ A1) := ⟨h11_⟩
 have Ag : Z (Ae ≠ A2) := ⟨h12_⟩
 have A8 : Z (A2 ≠ Ae) := ⟨h13_⟩
 have Ai : Z (Af ≠ A2) := ⟨h14_⟩
 have A9 : Z (A2 ≠ Af) := ⟨h15_⟩
 have Aq : Z (A5 ≠ A2) := ⟨h16_⟩
 have Ap : Z (A2 ≠ A5) := ⟨h17_⟩
 have Ax : Z (w.heap.size ≤ A5) := ⟨h18_⟩
 have Av : Z (w.heap.size ≤ A5) := ⟨h19_⟩
 have Ad : Z (A1 ≠ A5) := ⟨h20_⟩
 have Am : Z (A5 ≠ A1) := ⟨h21_⟩
 have Ah : Z (Ae ≠ A5) := ⟨h22_⟩
 have Aa : Z (A5 ≠ Ae) := ⟨h23_⟩
 have Aj : Z (Af ≠ A5) := ⟨h24_⟩
 have Ab : Z (A5 ≠ Af) := ⟨h25_⟩
 replace A0 : Z (AM.heap[A1]? = some (.cells #[.int .i64 a0_0, .int .i64 a0_1, .slice A0_2 l0_2.length c0_2] 30 (0, 0))) := ⟨h3_⟩
 replace A6 : Z (AM.heap[Ae]? = some (.cells #[.int .i64 0, .int .i64 0, .int .i64 0] 52 (0, 0))) := ⟨h4_⟩
 replace A7 : Z (AM.heap[Af]? = some (.cells #[.int .i64 0, .int .i64 0, .slice none 0 0] 30 (0, 0))) := ⟨h5_⟩
 replace HB : Z (Below w.heap.size w AM) := ⟨h26_⟩
 clear h0_ h1_ h2_ h3_ h4_ h5_ h6_ h7_ h8_ h9_ h10_ h11_ h12_ h13_ h14_ h15_ h16_ h17_ h18_ h19_ h20_ h21_ h22_ h23_ h24_ h25_ h26_
 have hHeld : AM.cell? ⟨A1, 0, none⟩ = some (.int .i64 a0_0) ∧ AM.cell? ⟨A1, 1, none⟩ = some (.int .i64 a0_1) ∧ AM.cell? ⟨A1, 2, none⟩ = some (.slice A0_2 l0_2.length c0_2) := hS_
 obtain ⟨AK, AL, Bh⟩ := Kd.R_slice Ar.o
 (first | subst Bh | (injection Bh with f1_ f2_ f3_; have f4_ := f1_.symm; have f5_ := f3_.symm; clear f1_ f2_ f3_; subst f4_; subst f5_))
 refine norm_ (a' := ?_) ?_ ?_
 rotate_left
 ·simp only [putAll, Act.put, q1, q2, q3]
  rfl
 refine one_ (i := 11) (N := none) #[true, true, true, true, true, true, true, true, true, true, true, true, false, false] rfl rfl (one_of HT_.o (by kernel_rfl)) (by decide) (fun K hK => ?_)
 have CX : AM.cell? ⟨A2, 0, none⟩ = some (.int .i64 0) := (ql An.o 0).trans rfl
 have hfs15 := qz An.o 0
 have C4 := Ac.o
 have C5 := Ag.o
 have C6 := Ai.o
 have C7 := Aq.o
 have Bi := Al.o
 have Bj := A8.o
 have Bk := A9.o
 have Bl := Ap.o
 have CY : AM.cell? ⟨A2, 1, none⟩ = some (.int .i64 0) := (ql An.o 1).trans rfl
 have hfs16 := qz An.o 1
 have C8 := Ac.o
 have C9 := Ag.o
 have Ca := Ai.o
 have Cb := Aq.o
 have Bm := Al.o
 have Bn := A8.o
 have Bo := A9.o
 have Bp := Ap.o
 have CZ : AM.cell? ⟨A2, 2, none⟩ = some (.int .i64 0) := (ql An.o 2).trans rfl
 have hfs17 := qz An.o 2
 have Cd := Ac.o
 have Ce := Ag.o
 have Cf := Ai.o
 have Cg := Aq.o
 have Bq := Al.o
 have Br := A8.o
 have Bs := A9.o
 have Bt := Ap.o
 refine skip_ (w1 := ?_) ?hwx ?hnx ?_ ?_; (case hwx => rfl); (case hnx => rfl)
 rotate_left
 ·go_simp
  rfl
 refine hK.out _ _ ⟨(cx Ac.o ((cx Ac.o ((cx Ac.o (hHeld.1)))))), (cx Ac.o ((cx Ac.o ((cx Ac.o (hHeld.2.1)))))), (cx Ac.o ((cx Ac.o ((cx Ac.o (hHeld.2.2))))))⟩ (fun hHeld => ?_)
 clear hK K
 refine one_ (i := 12) (N := none) #[true, true, true, true, true, true, true, true, true, true, true, true, true, false] rfl rfl (one_of HT_.o (by kernel_rfl)) (by decide) (fun K hK => ?_)
 have D0 : AM.cell? ⟨A5, 0, none⟩ = some (.int .i64 0) := (ql Ao.o 0).trans rfl
 have hfs18 := qz Ao.o 0
 have Ch := Ad.o
 have Ci := Ah.o
 have Cj := Aj.o
 have Cl := Ap.o
 have Bu := Am.o
 have Bv := Aa.o
 have Bw := Ab.o
 have Bx := Aq.o
 have D1 : AM.cell? ⟨A5, 1, none⟩ = some (.int .i64 0) := (ql Ao.o 1).trans rfl
 have hfs19 := qz Ao.o 1
 have Cm := Ad.o
 have Cn := Ah.o
 have Co := Aj.o
 have Cp := Ap.o
 have By := Am.o
 have Bz := Aa.o
 have BA := Ab.o
 have BB := Aq.o
 have D2 : AM.cell? ⟨A5, 2, none⟩ = some (.slice none 0 0) := (ql Ao.o 2).trans rfl
 have hfs21 := qz Ao.o 2
 have Cq := Ad.o
 have Cr := Ah.o
 have Cs := Aj.o
 have Ct := Ap.o
 have BC := Am.o
 have BD := Aa.o
 have BE := Ab.o
 have BF := Aq.o
 refine skip_ (w1 := ?_) ?hwx ?hnx ?_ ?_; (case hwx => rfl); (case hnx => rfl)
 rotate_left
 ·go_simp
  rfl
 refine hK.out _ _ ⟨(cx Ad.o ((cx Ad.o ((cx Ad.o (hHeld.1)))))), (cx Ad.o ((cx Ad.o ((cx Ad.o (hHeld.2.1)))))), (cx Ad.o ((cx Ad.o ((cx Ad.o (hHeld.2.2))))))⟩ (fun hHeld => ?_)
 clear hK K
 refine pure_ (i := 13) (N := some 8) (v := ?_) (a' := ?_) #[true, true, true, true, true, true, true, true, true, true, true, true, true, true] rfl rfl (any_of HT_.o (by kernel_rfl)) (fun _ _ _ h => h) (Or.inl ⟨by rfl, ?_⟩) ?_ ?_
 rotate_left
 ·intro w'
  go_simp
  with_reducible rfl
 rotate_left
 ·simp only [Act.put, q1, q2, q3, i64_w, i32_w]
  rfl
 refine done_ (done_of HT_.o (by kernel_rfl)) ?_
 try go_wp2
 have n0_ : Z (Kd.R (Kd.int .i64) 3 ((((((AM.setCell ⟨A2, 0, none⟩ (.int .i64 Az)).setCell ⟨A2, 1, none⟩ (.int .i64 AA)).setCell ⟨A2, 2, none⟩ (.int .i64 AB)).setCell ⟨A5, 0, none⟩ (.int .i64 AC)).setCell ⟨A5, 1, none⟩ (.int .i64 AD)).setCell ⟨A5, 2, none⟩ (.slice AK AE.length AL)) w.heap.size (fun _ => True) Ay At) := ⟨by refine rK ?_; exact Kd.Rm (rf (rf (rf (rf1 (rf1 (rf1 (Kd.Ry (Kd.Ry Ak.o An.o (by decide)) Ao.o (by decide)))))))) (fun _ hk => trivial)⟩
 have n1_ : Z (Kd.R k88 88 ((((((AM.setCell ⟨A2, 0, none⟩ (.int .i64 Az)).setCell ⟨A2, 1, none⟩ (.int .i64 AA)).setCell ⟨A2, 2, none⟩ (.int .i64 AB)).setCell ⟨A5, 0, none⟩ (.int .i64 AC)).setCell ⟨A5, 1, none⟩ (.int .i64 AD)).setCell ⟨A5, 2, none⟩ (.slice AK AE.length AL)) w.heap.size (fun _ => True) (.slice AK AE.length AL) AE) := ⟨by refine rK ?_; exact Kd.Rm (rf (rf (rf (rf1 (rf1 (rf1 (Kd.Ry (Kd.Ry Ar.o An.o (by decide)) Ao.o (by decide)))))))) (fun _ hk => trivial)⟩
 have n2_ : Z (Kd.S (Kd.slice 3 (Kd.int .i64)) 41 ((((((AM.setCell ⟨A2, 0, none⟩ (.int .i64 Az)).setCell ⟨A2, 1, none⟩ (.int .i64 AA)).setCell ⟨A2, 2, none⟩ (.int .i64 AB)).setCell ⟨A5, 0, none⟩ (.int .i64 AC)).setCell ⟨A5, 1, none⟩ (.int .i64 AD)).setCell ⟨A5, 2, none⟩ (.slice AK AE.length AL)) w.heap.size (fun k_ => some k_ ≠ (Ay : Value).ownBlock) AH AR) := ⟨by (with_reducible repeat (first | apply Kd.S_alloc | apply Kd.S_drewN | apply Kd.S_drew)); exact Kd.S_mono (Kd.S_far (p := ⟨A5, 2, none⟩) (Kd.S_far (p := ⟨A5, 1, none⟩) (Kd.S_far (p := ⟨A5, 0, none⟩) (Kd.S_far (p := ⟨A2, 2, none⟩) (Kd.S_far (p := ⟨A2, 1, none⟩) (Kd.S_far (p := ⟨A2, 0, none⟩) (Kd.S_types (Kd.S_types As.o An.o (by decide)) Ao.o (by decide)) (fun _ hk => hk.1.2) (.int .i64 Az)) (fun _ hk => hk.1.2) (.int .i64 AA)) (fun _ hk => hk.1.2) (.int .i64 AB)) (fun _ hk => hk.2) (.int .i64 AC)) (fun _ hk => hk.2) (.int .i64 AD)) (fun _ hk => hk.2) (.slice AK AE.length AL)) (fun _ hk => hk.1.1)⟩
 have n3_ : Z (((((((AM.setCell ⟨A2, 0, none⟩ (.int .i64 Az)).setCell ⟨A2, 1, none⟩ (.int .i64 AA)).setCell ⟨A2, 2, none⟩ (.int .i64 AB)).setCell ⟨A5, 0, none⟩ (.int .i64 AC)).setCell ⟨A5, 1, none⟩ (.int .i64 AD)).setCell ⟨A5, 2, none⟩ (.slice AK AE.length AL)).heap[A1]? = some (.cells #[.int .i64 a0_0, .int .i64 a0_1, .slice A0_2 l0_2.length c0_2] 30 (0, 0))) := ⟨by refine bK ?_; (iterate 3 refine qF ?_ Ad); (iterate 3 refine qF ?_ Ac); exact A0.o⟩
 have n4_ : Z (((((((AM.setCell ⟨A2, 0, none⟩ (.int .i64 Az)).setCell ⟨A2, 1, none⟩ (.int .i64 AA)).setCell ⟨A2, 2, none⟩ (.int .i64 AB)).setCell ⟨A5, 0, none⟩ (.int .i64 AC)).setCell ⟨A5, 1, none⟩ (.int .i64 AD)).setCell ⟨A5, 2, none⟩ (.slice AK AE.length AL)).heap[Ae]? = some (.cells #[.int .i64 0, .int .i64 0, .int .i64 0] 52 (0, 0))) := ⟨by refine bK ?_; (iterate 3 refine qF ?_ Ah); (iterate 3 refine qF ?_ Ag); exact A6.o⟩
 have n5_ : Z (((((((AM.setCell ⟨A2, 0, none⟩ (.int .i64 Az)).setCell ⟨A2, 1, none⟩ (.int .i64 AA)).setCell ⟨A2, 2, none⟩ (.int .i64 AB)).setCell ⟨A5, 0, none⟩ (.int .i64 AC)).setCell ⟨A5, 1, none⟩ (.int .i64 AD)).setCell ⟨A5, 2, none⟩ (.slice AK AE.length AL)).heap[Af]? = some (.cells #[.int .i64 0, .int .i64 0, .slice none 0 0] 30 (0, 0))) := ⟨by refine bK ?_; (iterate 3 refine qF ?_ Aj); (iterate 3 refine qF ?_ Ai); exact A7.o⟩
 have n6_ : Z (((((((AM.setCell ⟨A2, 0, none⟩ (.int .i64 Az)).setCell ⟨A2, 1, none⟩ (.int .i64 AA)).setCell ⟨A2, 2, none⟩ (.int .i64 AB)).setCell ⟨A5, 0, none⟩ (.int .i64 AC)).setCell ⟨A5, 1, none⟩ (.int .i64 AD)).setCell ⟨A5, 2, none⟩ (.slice AK AE.length AL)).heap[A2]? = some (.cells #[.int .i64 Az, .int .i64 AA, .int .i64 AB] 52 (0, 0))) := ⟨by refine bK ?_; (iterate 3 refine qF ?_ Ap); apply st3; refine bK ?_; exact An.o⟩
 have n7_ : Z (((((((AM.setCell ⟨A2, 0, none⟩ (.int .i64 Az)).setCell ⟨A2, 1, none⟩ (.int .i64 AA)).setCell ⟨A2, 2, none⟩ (.int .i64 AB)).setCell ⟨A5, 0, none⟩ (.int .i64 AC)).setCell ⟨A5, 1, none⟩ (.int .i64 AD)).setCell ⟨A5, 2, none⟩ (.slice AK AE.length AL)).heap[A5]? = some (.cells #[.int .i64 AC, .int .i64 AD, .slice AK AE.length AL] 30 (0, 0))) := ⟨by refine bK ?_; apply st3; refine bK ?_; (iterate 3 refine qF ?_ Aq); exact Ao.o⟩
 have n8_ : Z (Below w.heap.size w ((((((AM.setCell ⟨A2, 0, none⟩ (.int .i64 Az)).setCell ⟨A2, 1, none⟩ (.int .i64 AA)).setCell ⟨A2, 2, none⟩ (.int .i64 AB)).setCell ⟨A5, 0, none⟩ (.int .i64 AC)).setCell ⟨A5, 1, none⟩ (.int .i64 AD)).setCell ⟨A5, 2, none⟩ (.slice AK AE.length AL))) := ⟨vB HB⟩
 (try clear Ak); (try clear Ar); (try clear As); (try clear A0); (try clear A6); (try clear A7); (try clear An); (try clear Ao); (try clear HB)
 generalize ((((((AM.setCell ⟨A2, 0, none⟩ (.int .i64 Az)).setCell ⟨A2, 1, none⟩ (.int .i64 AA)).setCell ⟨A2, 2, none⟩ (.int .i64 AB)).setCell ⟨A5, 0, none⟩ (.int .i64 AC)).setCell ⟨A5, 1, none⟩ (.int .i64 AD)).setCell ⟨A5, 2, none⟩ (.slice AK AE.length AL)) = Db at n0_ n1_ n2_ n3_ n4_ n5_ n6_ n7_ n8_ ⊢
 have Ak := n0_
 have Ar := n1_
 have As := n2_
 have A0 := n3_
 have A6 := n4_
 have A7 := n5_
 have An := n6_
 have Ao := n7_
 have HB := n8_
 clear n0_ n1_ n2_ n3_ n4_ n5_ n6_ n7_ n8_
 replace Ak := Z.m (Kd.R_drew Ak.o)
 replace Ar := Z.m (Kd.R_drew Ar.o)
 replace As := Z.m (Kd.S_drew As.o)
 replace A0 := Z.m (blk_drew A0.o)
 replace A6 := Z.m (blk_drew A6.o)
 replace A7 := Z.m (blk_drew A7.o)
 replace An := Z.m (blk_drew An.o)
 replace Ao := Z.m (blk_drew Ao.o)
 replace HB := Z.m (qd HB.o)
 refine start_ (n := 4) (S := fun w' => w'.cell? ⟨A2, 0, none⟩ = some (.int .i64 Az) ∧ w'.cell? ⟨A2, 1, none⟩ = some (.int .i64 AA) ∧ w'.cell? ⟨A2, 2, none⟩ = some (.int .i64 AB) ∧ w'.cell? ⟨A5, 0, none⟩ = some (.int .i64 AC) ∧ w'.cell? ⟨A5, 1, none⟩ = some (.int .i64 AD) ∧ w'.cell? ⟨A5, 2, none⟩ = some (.slice AK AE.length AL)) (ds := []) #[false, false, false, false] (by kernel_rfl) rfl rfl ⟨(ql An.o 0).trans rfl, (ql An.o 1).trans rfl, (ql An.o 2).trans rfl, (ql Ao.o 0).trans rfl, (ql Ao.o 1).trans rfl, (ql Ao.o 2).trans rfl⟩ (fun hHeld => ?_)
 generalize Db.drew = B8 at Ak Ar As A0 A6 A7 An Ao HB hHeld ⊢
 refine take_ (i := 0) (N := some 18) (v := ?_) (a' := ?_) #[true, false, false, false] rfl rfl (by kernel_rfl) (fun _ _ _ h => h) (Or.inl ⟨by rfl, ?_⟩) hHeld ?_ ?_
 rotate_left
 ·rintro w' ⟨s0, s1, s2, s3, s4, s5⟩
  go_simp
  with_reducible rfl
 rotate_left
 ·simp only [Act.put, q1, q2, q3, i64_w, i32_w]
  rfl
 refine take_ (i := 1) (N := some 19) (v := ?_) (a' := ?_) #[true, true, false, false] rfl rfl (by kernel_rfl) (fun _ _ _ h => h) (Or.inl ⟨by rfl, ?_⟩) hHeld ?_ ?_
 rotate_left
 ·rintro w' ⟨s0, s1, s2, s3, s4, s5⟩
  go_simp
  with_reducible rfl
 rotate_left
 ·simp only [Act.put, q1, q2, q3, i64_w, i32_w]
  rfl
 refine one_ (i := 2) (N := none) #[true, true, true, false] rfl rfl (by kernel_rfl) (by decide) (fun K hK => ?_)
 have D3 : B8.cell? ⟨Ae, 0, none⟩ = some (.int .i64 0) := (ql A6.o 0).trans rfl
 have hfs24 := qz A6.o 0
 have Cu := AN.o
 have Cv := AG.o
 have Cw := A8.o
 have Cx := Aa.o
 have BG := AP.o
 have BH := AF.o
 have BI := Ag.o
 have BJ := Ah.o
 have D4 : B8.cell? ⟨Ae, 1, none⟩ = some (.int .i64 0) := (ql A6.o 1).trans rfl
 have hfs25 := qz A6.o 1
 have Cy := AN.o
 have Cz := AG.o
 have CA := A8.o
 have CB := Aa.o
 have BK := AP.o
 have BL := AF.o
 have BM := Ag.o
 have BN := Ah.o
 have D5 : B8.cell? ⟨Ae, 2, none⟩ = some (.int .i64 0) := (ql A6.o 2).trans rfl
 have hfs26 := qz A6.o 2
 have CC := AN.o
 have CD := AG.o
 have CE := A8.o
 have CF := Aa.o
 have BO := AP.o
 have BP := AF.o
 have BQ := Ag.o
 have BR := Ah.o
 refine skip_ (w1 := ?_) ?hwx ?hnx ?_ ?_; (case hwx => rfl); (case hnx => rfl)
 rotate_left
 ·go_simp
  rfl
 refine hK.out _ _ ⟨(cx A8.o ((cx A8.o ((cx A8.o (hHeld.1)))))), (cx A8.o ((cx A8.o ((cx A8.o (hHeld.2.1)))))), (cx A8.o ((cx A8.o ((cx A8.o (hHeld.2.2.1)))))), (cx Aa.o ((cx Aa.o ((cx Aa.o (hHeld.2.2.2.1)))))), (cx Aa.o ((cx Aa.o ((cx Aa.o (hHeld.2.2.2.2.1)))))), (cx Aa.o ((cx Aa.o ((cx Aa.o (hHeld.2.2.2.2.2))))))⟩ (fun hHeld => ?_)
 clear hK K
 refine one_ (i := 3) (N := none) #[true, true, true, true] rfl rfl (by kernel_rfl) (by decide) (fun K hK => ?_)
 have D6 : B8.cell? ⟨Af, 0, none⟩ = some (.int .i64 0) := (ql A7.o 0).trans rfl
 have hfs27 := qz A7.o 0
 have CG := AO.o
 have CH := AF.o
 have CI := A9.o
 have CJ := Ab.o
 have BS := AQ.o
 have BT := AG.o
 have BU := Ai.o
 have BV := Aj.o
 have D7 : B8.cell? ⟨Af, 1, none⟩ = some (.int .i64 0) := (ql A7.o 1).trans rfl
 have hfs28 := qz A7.o 1
 have CK := AO.o
 have CL := AF.o
 have CM := A9.o
 have CN := Ab.o
 have BW := AQ.o
 have BX := AG.o
 have BY := Ai.o
 have BZ := Aj.o
 have D8 : B8.cell? ⟨Af, 2, none⟩ = some (.slice none 0 0) := (ql A7.o 2).trans rfl
 have hfs29 := qz A7.o 2
 have CO := AO.o
 have CP := AF.o
 have CQ := A9.o
 have CR := Ab.o
 have C0 := AQ.o
 have C1 := AG.o
 have C2 := Ai.o
 have C3 := Aj.o
 refine skip_ (w1 := ?_) ?hwx ?hnx ?_ ?_; (case hwx => rfl); (case hnx => rfl)
 rotate_left
 ·go_simp
  rfl
 refine hK.out _ _ ⟨(cx A9.o ((cx A9.o ((cx A9.o (hHeld.1)))))), (cx A9.o ((cx A9.o ((cx A9.o (hHeld.2.1)))))), (cx A9.o ((cx A9.o ((cx A9.o (hHeld.2.2.1)))))), (cx Ab.o ((cx Ab.o ((cx Ab.o (hHeld.2.2.2.1)))))), (cx Ab.o ((cx Ab.o ((cx Ab.o (hHeld.2.2.2.2.1)))))), (cx Ab.o ((cx Ab.o ((cx Ab.o (hHeld.2.2.2.2.2))))))⟩ (fun hHeld => ?_)
 clear hK K
 refine done_ (by kernel_rfl) ?_
 try go_wp2
 refine bodyPost_ret (results_cc rfl _ _ Ae Af 52 30 #[.int .i64 Az, .int .i64 AA, .int .i64 AB] #[.int .i64 AC, .int .i64 AD, .slice AK AE.length AL] (0, 0) (0, 0) _ _ rfl (by refine bK ?_; (iterate 3 refine qF ?_ AF); apply st3; refine bK ?_; exact A6.o) Try.underlying52 rfl (by kernel_rfl) rfl (by refine bK ?_; apply st3; refine bK ?_; (iterate 3 refine qF ?_ AG); exact A7.o) Try.underlying30 rfl (by kernel_rfl)) rfl ?_
 exact ⟨_, by first | rfl | (simp [eN, eS] <;> rfl) | (simp [*, eN, eS] <;> rfl), by refine rK ?_; exact Kd.Rm (rf (rf (rf (rf1 (rf1 (rf1 (Kd.Ry (Kd.Ry Ar.o A6.o (by decide)) A7.o (by decide)))))))) (fun _ hk => trivial), vB HB⟩

end Go.Proofs.Ytjkiolpepchpdaa.PAll
