/- Began as a text that print.sh wrote (of the functions named below); turned and shortened by this session. -/
import Derived.Test.YtoklfgjemfojgaaG0
import Derived.Test.YtoklfgjemfojgaaG2
import Derived.Test.YtoklfgjemfojgaaG4
import Derived.Test.YtoklfgjemfojgaaG7
namespace Go.Proofs.Ytoklfgjemfojgaa.PAll
open Go.RowKit Go.Proofs.YtoklfgjemfojgaaW.PrintWords Go.Proofs.YtoklfgjemfojgaaW.PrintLast Go.Proofs.YtoklfgjemfojgaaW.PrintMore
attribute [local go_sem] max2_int min2_int max_two min_two max_three min_three max_four min_four   -- for this text's walks alone
set_option linter.unusedVariables false
set_option linter.unusedSimpArgs false

/-! ### spec_WayOf: function 35 -/
def spec_WayOf.f (k : Nat) (a0_0 : Int) (a0_1 : Int) (l0_2 : List (S89)) (a1 : Int) : Option ((List (List Int)) × Bool) := (spec_flHas.f k a0_0 a0_1 l0_2 a1).bind fun t236 => (if t236 = true then ((spec_ggGroups.f k a0_0 a0_1 l0_2).bind fun t237 => ((spec_flGo.f k a0_0 a0_1 l0_2 t237 a1).bind fun bt240 => (some (bt240.2.2.2.2.2.2, true)))) else (some (([] : List (List Int)), false)))
def spec_WayOf.T3 : Bool × List (List Nat × List Nat) := (true, [([], []), ([], []), ([1], [1]), ([], []), ([0, 2, 3, 2], [0, 2, 3]), ([4], [4]), ([5], [5]), ([5], [5]), ([5], [5]), ([], []), ([], []), ([9, 6, 4, 0, 1, 2, 3, 4, 5, 6, 9, 10], [6, 9]), ([10, 7, 11, 0, 1, 2, 3, 4, 5, 6, 7, 9, 10, 11], [7, 10]), ([8, 12, 0, 1, 2, 3, 4, 5, 6, 7, 8, 9, 10, 11, 12], [8])])
def spec_WayOf.B3 : List Nat := [0, 0, 2, 0, 15, 31, 63, 63, 63, 0, 0, 1663, 3839, 8191]
theorem spec_WayOf.tab3 : rtab .any (opsOf Try.f35 3) = spec_WayOf.T3 := by kernel_rfl
theorem spec_WayOf.bits3 : waitsOk spec_WayOf.T3.2 spec_WayOf.B3 = true := by kernel_rfl
set_option maxHeartbeats 8000000 in
set_option maxRecDepth 100000 in
theorem spec_WayOf.calls (k : Nat) (a0_0 : Int) (a0_1 : Int) (A0_2 : Option Addr) (c0_2 : Nat) (l0_2 : List (S89)) (a1 : Int) (r1 : List (List Int)) (r2 : Bool) (w : World) (hr0_2 : Kd.C k89 w A0_2 l0_2.length l0_2) (hc0_2 : l0_2.length ≤ c0_2) (h : spec_WayOf.f k a0_0 a0_1 l0_2 a1 = some (r1, r2)) :
 Calls Try.prog 35 #[.agg #[.int .i64 a0_0, .int .i64 a0_1, .slice A0_2 l0_2.length c0_2], .int .i64 a1] w fun e w' => ∃ v0_ : Value, e = .returned (.tuple #[v0_, .bool r2]) ∧ Kd.S (Kd.slice 3 (Kd.int .i64)) 43 w' w.heap.size (fun _ => True) v0_ r1 ∧ Below w.heap.size w w' := by
 have BO := Try.underlying32
 have BN := Try.underlying27
 have Aw := Z.m hr0_2
 have Av := Z.m hc0_2
 clear hr0_2 hc0_2
 have HB := Z.m (Below.refl w.heap.size w)
 have H : ((spec_flHas.f k a0_0 a0_1 l0_2 a1).bind fun AM => (if AM = true then ((spec_ggGroups.f k a0_0 a0_1 l0_2).bind fun Ag => ((spec_flGo.f k a0_0 a0_1 l0_2 Ag a1).bind fun bt240 => (some (bt240.2.2.2.2.2.2, true)))) else (some (([] : List (List Int)), false)))) = some (r1, r2) := h
 clear h
 replace H := Option.bind_eq_some_iff.mp H
 obtain ⟨AM, BC, H⟩ := H
 replace H : (if AM = true then ((spec_ggGroups.f k a0_0 a0_1 l0_2).bind fun Ag => ((spec_flGo.f k a0_0 a0_1 l0_2 Ag a1).bind fun bt240 => (some (bt240.2.2.2.2.2.2, true)))) else (some (([] : List (List Int)), false))) = some (r1, r2) := H
 have A3 := Z.m BC
 clear BC
 by_cases c4 : AM = true
 ·subst c4
  have H1 : ((spec_ggGroups.f k a0_0 a0_1 l0_2).bind fun Ag => ((spec_flGo.f k a0_0 a0_1 l0_2 Ag a1).bind fun bt240 => (some (bt240.2.2.2.2.2.2, true)))) = some (r1, r2) := by rw [if_pos rfl] at H; exact H
  clear H
  have H := H1
  clear H1
  replace H := Option.bind_eq_some_iff.mp H
  obtain ⟨Ag, BD, H⟩ := H
  replace H : ((spec_flGo.f k a0_0 a0_1 l0_2 Ag a1).bind fun bt240 => (some (bt240.2.2.2.2.2.2, true))) = some (r1, r2) := H
  have A5 := Z.m BD
  clear BD
  replace H := Option.bind_eq_some_iff.mp H
  obtain ⟨⟨Aq, Ar, As, At, Au, Ay, Az⟩, BE, H⟩ := H
  replace H : (some (Az, true)) = some (r1, r2) := H
  have A6 := Z.m BE
  clear BE
  simp only [Option.some.injEq, Prod.mk.injEq] at H
  obtain ⟨rfl, rfl⟩ := H
  go_enter Try.func35, Try.ntmps35
  try go_wp2_with (first | ((with_reducible refine gq (N := 2) rfl ?_); refine be (N := 2) (cs := #[.int .i64 a0_0, .int .i64 a0_1, .slice A0_2 l0_2.length c0_2]) (t := 32) ?_; intro A1 hg w7 hbox hb; have A0 := Z.m (hbox); have AH := gW (w := w) HB hg; have AO := AH; replace HB := bB HB hb; clear hb hbox hg; have Bw := bc0 A0; have Bx := bc1 A0; have By := bc2 A0; have Bz := qz A0.o 0; have BA := qz A0.o 1; have BB := qz A0.o 2) | ((with_reducible refine gc (f := 50) rfl ?_); refine gA (some 11) _ #[.agg #[.int .i64 a0_0, .int .i64 a0_1, .slice A0_2 l0_2.length c0_2], .int .i64 a1] ?_ Try.func50; (with_reducible refine (spec_flHas.calls k a0_0 a0_1 _ _ l0_2 a1 true _ ?side1 ?side2 A3.o).mono ?_); (case side1 => repeat (first | exact (Kd.C_below Aw.o HB.o) | (with_reducible refine Kd.C_alloc ?_ _) | (with_reducible refine Kd.C_drewN ?_ _) | (with_reducible refine Kd.C_drew ?_))); (case side2 => exact Av.o); rintro e w9 ⟨rfl, hb⟩; refine ⟨_, rfl, ?_⟩; replace A0 := kB A0 hb; replace HB := bB HB hb; (try clear hb); (try clear BG); (try clear hk); (try clear hi)))
  replace A0 := Z.m (blk_drew A0.o)
  replace HB := Z.m (qd HB.o)
  refine start_ (n := 14) (S := fun w' => w'.cell? ⟨A1, 0, none⟩ = some (.int .i64 a0_0) ∧ w'.cell? ⟨A1, 1, none⟩ = some (.int .i64 a0_1) ∧ w'.cell? ⟨A1, 2, none⟩ = some (.slice A0_2 l0_2.length c0_2)) (ds := []) #[false, false, false, false, false, false, false, false, false, false, false, false, false, false] (by kernel_rfl) rfl rfl ⟨(ql A0.o 0).trans rfl, (ql A0.o 1).trans rfl, (ql A0.o 2).trans rfl⟩ (fun hHeld => ?_); refine with_tabW spec_WayOf.tab3 spec_WayOf.bits3 (fun HT_ HW_ => ?_)
  generalize w9.drew = BP at A0 HB hHeld ⊢
  refine pure_ (i := 3) (N := some 17) (v := ?_) (a' := ?_) #[false, false, false, true, false, false, false, false, false, false, false, false, false, false] rfl rfl (any_of HT_.o (by kernel_rfl)) (fun _ _ _ h => h) (Or.inl ⟨by rfl, ?_⟩) ?_ ?_
  rotate_left
  ·intro w'
   go_simp
   with_reducible rfl
  rotate_left
  ·simp only [Act.put, q1, q2, q3, i64_w, i32_w]
   rfl
  refine take_ (i := 0) (N := some 14) (v := ?_) (a' := ?_) #[true, false, false, true, false, false, false, false, false, false, false, false, false, false] rfl rfl (take_ofW HT_.o HW_.o (by kernel_rfl)) (fun _ _ _ h => h) (Or.inl ⟨by rfl, ?_⟩) hHeld ?_ ?_
  rotate_left
  ·rintro w' ⟨s0, s1, s2⟩
   go_simp
   with_reducible rfl
  rotate_left
  ·simp only [Act.put, q1, q2, q3, i64_w, i32_w]
   rfl
  refine take_ (i := 1) (N := some 15) (v := ?_) (a' := ?_) #[true, true, false, true, false, false, false, false, false, false, false, false, false, false] rfl rfl (take_ofW HT_.o HW_.o (by kernel_rfl)) (fun _ _ _ h => h) (Or.inl ⟨by rfl, ?_⟩) hHeld ?_ ?_
  rotate_left
  ·rintro w' ⟨s0, s1, s2⟩
   go_simp
   with_reducible rfl
  rotate_left
  ·simp only [Act.put, q1, q2, q3, i64_w, i32_w]
   rfl
  refine join_ (σ := Value × Value × Value × Nat × Nat) 3 #[true, true, true, true, true, true, true, true, true, true, true, false, false, false] (fun s_ => [(16, s_.1), (18, .tuple #[.agg #[.int .i64 Aq, .int .i64 Ar, .int .i64 As], .agg #[.int .i64 At, .int .i64 Au, s_.2.1], s_.2.2.1]), (6, .pointer (some ⟨s_.2.2.2.1, 0, none⟩)), (7, .pointer (some ⟨s_.2.2.2.2, 0, none⟩)), (13, .tuple #[.agg #[.int .i64 Aq, .int .i64 Ar, .int .i64 As], .agg #[.int .i64 At, .int .i64 Au, s_.2.1], s_.2.2.1]), (19, .agg #[.int .i64 Aq, .int .i64 Ar, .int .i64 As]), (20, .agg #[.int .i64 At, .int .i64 Au, s_.2.1]), (21, s_.2.2.1)]) (fun s_ w' => (w'.cell? ⟨A1, 0, none⟩ = some (.int .i64 a0_0) ∧ w'.cell? ⟨A1, 1, none⟩ = some (.int .i64 a0_1) ∧ w'.cell? ⟨A1, 2, none⟩ = some (.slice A0_2 l0_2.length c0_2)) ∧ (Kd.R (Kd.int .i64) 3 w' w.heap.size (fun _ => True) s_.1 Ag) ∧ (Kd.R k89 89 w' w.heap.size (fun _ => True) s_.2.1 Ay) ∧ (Kd.S (Kd.slice 3 (Kd.int .i64)) 43 w' w.heap.size (fun k_ => some k_ ≠ (s_.1 : Value).ownBlock) s_.2.2.1 Az) ∧ (w'.heap[A1]? = some (.cells #[.int .i64 a0_0, .int .i64 a0_1, .slice A0_2 l0_2.length c0_2] 32 (0, 0))) ∧ (w'.heap[s_.2.2.2.1]? = some (.cells #[.int .i64 0, .int .i64 0, .int .i64 0] 27 (0, 0))) ∧ (w'.heap[s_.2.2.2.2]? = some (.cells #[.int .i64 0, .int .i64 0, .slice none 0 0] 32 (0, 0))) ∧ (w.heap.size ≤ s_.2.2.2.1) ∧ (w.heap.size ≤ s_.2.2.2.1) ∧ (A1 ≠ s_.2.2.2.1) ∧ (s_.2.2.2.1 ≠ A1) ∧ (s_.2.2.2.2 ≠ s_.2.2.2.1) ∧ (s_.2.2.2.1 ≠ s_.2.2.2.2) ∧ (w.heap.size ≤ s_.2.2.2.2) ∧ (w.heap.size ≤ s_.2.2.2.2) ∧ (A1 ≠ s_.2.2.2.2) ∧ (s_.2.2.2.2 ≠ A1) ∧ (Below w.heap.size w w')) ?_ ?_
  rotate_left
  ·intro hJ2_4_9_10
   refine join_ (σ := Value × Value × Value × Nat) 4 #[true, true, true, true, true, true, true, true, true, true, false, false, false, false] (fun s_ => [(16, s_.1), (18, .tuple #[.agg #[.int .i64 Aq, .int .i64 Ar, .int .i64 As], .agg #[.int .i64 At, .int .i64 Au, s_.2.1], s_.2.2.1]), (6, .pointer (some ⟨s_.2.2.2, 0, none⟩)), (13, .tuple #[.agg #[.int .i64 Aq, .int .i64 Ar, .int .i64 As], .agg #[.int .i64 At, .int .i64 Au, s_.2.1], s_.2.2.1]), (19, .agg #[.int .i64 Aq, .int .i64 Ar, .int .i64 As]), (20, .agg #[.int .i64 At, .int .i64 Au, s_.2.1]), (21, s_.2.2.1)]) (fun s_ w' => (w'.cell? ⟨A1, 0, none⟩ = some (.int .i64 a0_0) ∧ w'.cell? ⟨A1, 1, none⟩ = some (.int .i64 a0_1) ∧ w'.cell? ⟨A1, 2, none⟩ = some (.slice A0_2 l0_2.length c0_2)) ∧ (Kd.R (Kd.int .i64) 3 w' w.heap.size (fun _ => True) s_.1 Ag) ∧ (Kd.R k89 89 w' w.heap.size (fun _ => True) s_.2.1 Ay) ∧ (Kd.S (Kd.slice 3 (Kd.int .i64)) 43 w' w.heap.size (fun k_ => some k_ ≠ (s_.1 : Value).ownBlock) s_.2.2.1 Az) ∧ (w'.heap[A1]? = some (.cells #[.int .i64 a0_0, .int .i64 a0_1, .slice A0_2 l0_2.length c0_2] 32 (0, 0))) ∧ (w'.heap[s_.2.2.2]? = some (.cells #[.int .i64 0, .int .i64 0, .int .i64 0] 27 (0, 0))) ∧ (w.heap.size ≤ s_.2.2.2) ∧ (w.heap.size ≤ s_.2.2.2) ∧ (A1 ≠ s_.2.2.2) ∧ (s_.2.2.2 ≠ A1) ∧ (Below w.heap.size w w')) ?_ ?_
   rotate_left
   ·intro hJ2_4_9
    refine join_ (σ := Value × Value × Value × Nat) 4 #[true, true, true, true, true, true, true, true, true, false, true, false, false, false] (fun s_ => [(16, s_.1), (18, .tuple #[.agg #[.int .i64 Aq, .int .i64 Ar, .int .i64 As], .agg #[.int .i64 At, .int .i64 Au, s_.2.1], s_.2.2.1]), (7, .pointer (some ⟨s_.2.2.2, 0, none⟩)), (13, .tuple #[.agg #[.int .i64 Aq, .int .i64 Ar, .int .i64 As], .agg #[.int .i64 At, .int .i64 Au, s_.2.1], s_.2.2.1]), (19, .agg #[.int .i64 Aq, .int .i64 Ar, .int .i64 As]), (20, .agg #[.int .i64 At, .int .i64 Au, s_.2.1]), (21, s_.2.2.1)]) (fun s_ w' => (w'.cell? ⟨A1, 0, none⟩ = some (.int .i64 a0_0) ∧ w'.cell? ⟨A1, 1, none⟩ = some (.int .i64 a0_1) ∧ w'.cell? ⟨A1, 2, none⟩ = some (.slice A0_2 l0_2.length c0_2)) ∧ (Kd.R (Kd.int .i64) 3 w' w.heap.size (fun _ => True) s_.1 Ag) ∧ (Kd.R k89 89 w' w.heap.size (fun _ => True) s_.2.1 Ay) ∧ (Kd.S (Kd.slice 3 (Kd.int .i64)) 43 w' w.heap.size (fun k_ => some k_ ≠ (s_.1 : Value).ownBlock) s_.2.2.1 Az) ∧ (w'.heap[A1]? = some (.cells #[.int .i64 a0_0, .int .i64 a0_1, .slice A0_2 l0_2.length c0_2] 32 (0, 0))) ∧ (w'.heap[s_.2.2.2]? = some (.cells #[.int .i64 0, .int .i64 0, .slice none 0 0] 32 (0, 0))) ∧ (w.heap.size ≤ s_.2.2.2) ∧ (w.heap.size ≤ s_.2.2.2) ∧ (A1 ≠ s_.2.2.2) ∧ (s_.2.2.2 ≠ A1) ∧ (Below w.heap.size w w')) ?_ ?_
    rotate_left
    ·intro hJ2_4_10
     refine join_ (σ := Value × Nat × Nat) 8 #[true, true, true, true, false, false, false, false, false, true, true, false, false, false] (fun s_ => [(16, s_.1), (6, .pointer (some ⟨s_.2.1, 0, none⟩)), (7, .pointer (some ⟨s_.2.2, 0, none⟩))]) (fun s_ w' => (w'.cell? ⟨A1, 0, none⟩ = some (.int .i64 a0_0) ∧ w'.cell? ⟨A1, 1, none⟩ = some (.int .i64 a0_1) ∧ w'.cell? ⟨A1, 2, none⟩ = some (.slice A0_2 l0_2.length c0_2)) ∧ (Kd.R (Kd.int .i64) 3 w' w.heap.size (fun _ => True) s_.1 Ag) ∧ (w'.heap[A1]? = some (.cells #[.int .i64 a0_0, .int .i64 a0_1, .slice A0_2 l0_2.length c0_2] 32 (0, 0))) ∧ (w'.heap[s_.2.1]? = some (.cells #[.int .i64 0, .int .i64 0, .int .i64 0] 27 (0, 0))) ∧ (w'.heap[s_.2.2]? = some (.cells #[.int .i64 0, .int .i64 0, .slice none 0 0] 32 (0, 0))) ∧ (w.heap.size ≤ s_.2.1) ∧ (w.heap.size ≤ s_.2.1) ∧ (A1 ≠ s_.2.1) ∧ (s_.2.1 ≠ A1) ∧ (s_.2.2 ≠ s_.2.1) ∧ (s_.2.1 ≠ s_.2.2) ∧ (w.heap.size ≤ s_.2.2) ∧ (w.heap.size ≤ s_.2.2) ∧ (A1 ≠ s_.2.2) ∧ (s_.2.2 ≠ A1) ∧ (Below w.heap.size w w')) ?_ ?_
     rotate_left
     ·intro hJ2_9_10
      refine join_ (σ := Value × Value × Value) 5 #[true, true, true, true, true, true, true, true, true, false, false, false, false, false] (fun s_ => [(16, s_.1), (18, .tuple #[.agg #[.int .i64 Aq, .int .i64 Ar, .int .i64 As], .agg #[.int .i64 At, .int .i64 Au, s_.2.1], s_.2.2]), (13, .tuple #[.agg #[.int .i64 Aq, .int .i64 Ar, .int .i64 As], .agg #[.int .i64 At, .int .i64 Au, s_.2.1], s_.2.2]), (19, .agg #[.int .i64 Aq, .int .i64 Ar, .int .i64 As]), (20, .agg #[.int .i64 At, .int .i64 Au, s_.2.1]), (21, s_.2.2)]) (fun s_ w' => (w'.cell? ⟨A1, 0, none⟩ = some (.int .i64 a0_0) ∧ w'.cell? ⟨A1, 1, none⟩ = some (.int .i64 a0_1) ∧ w'.cell? ⟨A1, 2, none⟩ = some (.slice A0_2 l0_2.length c0_2)) ∧ (Kd.R (Kd.int .i64) 3 w' w.heap.size (fun _ => True) s_.1 Ag) ∧ (Kd.R k89 89 w' w.heap.size (fun _ => True) s_.2.1 Ay) ∧ (Kd.S (Kd.slice 3 (Kd.int .i64)) 43 w' w.heap.size (fun k_ => some k_ ≠ (s_.1 : Value).ownBlock) s_.2.2 Az) ∧ (w'.heap[A1]? = some (.cells #[.int .i64 a0_0, .int .i64 a0_1, .slice A0_2 l0_2.length c0_2] 32 (0, 0))) ∧ (Below w.heap.size w w')) ?_ ?_
      rotate_left
      ·intro hJ2_4
       refine join_ (σ := Value × Nat) 9 #[true, true, true, true, false, false, false, false, false, true, false, false, false, false] (fun s_ => [(16, s_.1), (6, .pointer (some ⟨s_.2, 0, none⟩))]) (fun s_ w' => (w'.cell? ⟨A1, 0, none⟩ = some (.int .i64 a0_0) ∧ w'.cell? ⟨A1, 1, none⟩ = some (.int .i64 a0_1) ∧ w'.cell? ⟨A1, 2, none⟩ = some (.slice A0_2 l0_2.length c0_2)) ∧ (Kd.R (Kd.int .i64) 3 w' w.heap.size (fun _ => True) s_.1 Ag) ∧ (w'.heap[A1]? = some (.cells #[.int .i64 a0_0, .int .i64 a0_1, .slice A0_2 l0_2.length c0_2] 32 (0, 0))) ∧ (w'.heap[s_.2]? = some (.cells #[.int .i64 0, .int .i64 0, .int .i64 0] 27 (0, 0))) ∧ (w.heap.size ≤ s_.2) ∧ (w.heap.size ≤ s_.2) ∧ (A1 ≠ s_.2) ∧ (s_.2 ≠ A1) ∧ (Below w.heap.size w w')) ?_ ?_
       rotate_left
       ·intro hJ2_9
        refine join_ (σ := Value × Nat) 9 #[true, true, true, true, false, false, false, false, false, false, true, false, false, false] (fun s_ => [(16, s_.1), (7, .pointer (some ⟨s_.2, 0, none⟩))]) (fun s_ w' => (w'.cell? ⟨A1, 0, none⟩ = some (.int .i64 a0_0) ∧ w'.cell? ⟨A1, 1, none⟩ = some (.int .i64 a0_1) ∧ w'.cell? ⟨A1, 2, none⟩ = some (.slice A0_2 l0_2.length c0_2)) ∧ (Kd.R (Kd.int .i64) 3 w' w.heap.size (fun _ => True) s_.1 Ag) ∧ (w'.heap[A1]? = some (.cells #[.int .i64 a0_0, .int .i64 a0_1, .slice A0_2 l0_2.length c0_2] 32 (0, 0))) ∧ (w'.heap[s_.2]? = some (.cells #[.int .i64 0, .int .i64 0, .slice none 0 0] 32 (0, 0))) ∧ (w.heap.size ≤ s_.2) ∧ (w.heap.size ≤ s_.2) ∧ (A1 ≠ s_.2) ∧ (s_.2 ≠ A1) ∧ (Below w.heap.size w w')) ?_ ?_
        rotate_left
        ·intro hJ2_10
         refine join_ (σ := Nat × Nat) 9 #[true, true, false, true, false, false, false, false, false, true, true, false, false, false] (fun s_ => [(6, .pointer (some ⟨s_.1, 0, none⟩)), (7, .pointer (some ⟨s_.2, 0, none⟩))]) (fun s_ w' => (w'.cell? ⟨A1, 0, none⟩ = some (.int .i64 a0_0) ∧ w'.cell? ⟨A1, 1, none⟩ = some (.int .i64 a0_1) ∧ w'.cell? ⟨A1, 2, none⟩ = some (.slice A0_2 l0_2.length c0_2)) ∧ (w'.heap[A1]? = some (.cells #[.int .i64 a0_0, .int .i64 a0_1, .slice A0_2 l0_2.length c0_2] 32 (0, 0))) ∧ (w'.heap[s_.1]? = some (.cells #[.int .i64 0, .int .i64 0, .int .i64 0] 27 (0, 0))) ∧ (w'.heap[s_.2]? = some (.cells #[.int .i64 0, .int .i64 0, .slice none 0 0] 32 (0, 0))) ∧ (w.heap.size ≤ s_.1) ∧ (w.heap.size ≤ s_.1) ∧ (A1 ≠ s_.1) ∧ (s_.1 ≠ A1) ∧ (s_.2 ≠ s_.1) ∧ (s_.1 ≠ s_.2) ∧ (w.heap.size ≤ s_.2) ∧ (w.heap.size ≤ s_.2) ∧ (A1 ≠ s_.2) ∧ (s_.2 ≠ A1) ∧ (Below w.heap.size w w')) ?_ ?_
         rotate_left
         ·intro hJ9_10
          refine join_ (σ := Value) 10 #[true, true, true, true, false, false, false, false, false, false, false, false, false, false] (fun s_ => [(16, s_)]) (fun s_ w' => (w'.cell? ⟨A1, 0, none⟩ = some (.int .i64 a0_0) ∧ w'.cell? ⟨A1, 1, none⟩ = some (.int .i64 a0_1) ∧ w'.cell? ⟨A1, 2, none⟩ = some (.slice A0_2 l0_2.length c0_2)) ∧ (Kd.R (Kd.int .i64) 3 w' w.heap.size (fun _ => True) s_ Ag) ∧ (w'.heap[A1]? = some (.cells #[.int .i64 a0_0, .int .i64 a0_1, .slice A0_2 l0_2.length c0_2] 32 (0, 0))) ∧ (Below w.heap.size w w')) ?_ ?_
          rotate_left
          ·intro hJ2
           refine join_ (σ := Nat) 10 #[true, true, false, true, false, false, false, false, false, true, false, false, false, false] (fun s_ => [(6, .pointer (some ⟨s_, 0, none⟩))]) (fun s_ w' => (w'.cell? ⟨A1, 0, none⟩ = some (.int .i64 a0_0) ∧ w'.cell? ⟨A1, 1, none⟩ = some (.int .i64 a0_1) ∧ w'.cell? ⟨A1, 2, none⟩ = some (.slice A0_2 l0_2.length c0_2)) ∧ (w'.heap[A1]? = some (.cells #[.int .i64 a0_0, .int .i64 a0_1, .slice A0_2 l0_2.length c0_2] 32 (0, 0))) ∧ (w'.heap[s_]? = some (.cells #[.int .i64 0, .int .i64 0, .int .i64 0] 27 (0, 0))) ∧ (w.heap.size ≤ s_) ∧ (w.heap.size ≤ s_) ∧ (A1 ≠ s_) ∧ (s_ ≠ A1) ∧ (Below w.heap.size w w')) ?_ ?_
           rotate_left
           ·intro hJ9
            refine join_ (σ := Nat) 10 #[true, true, false, true, false, false, false, false, false, false, true, false, false, false] (fun s_ => [(7, .pointer (some ⟨s_, 0, none⟩))]) (fun s_ w' => (w'.cell? ⟨A1, 0, none⟩ = some (.int .i64 a0_0) ∧ w'.cell? ⟨A1, 1, none⟩ = some (.int .i64 a0_1) ∧ w'.cell? ⟨A1, 2, none⟩ = some (.slice A0_2 l0_2.length c0_2)) ∧ (w'.heap[A1]? = some (.cells #[.int .i64 a0_0, .int .i64 a0_1, .slice A0_2 l0_2.length c0_2] 32 (0, 0))) ∧ (w'.heap[s_]? = some (.cells #[.int .i64 0, .int .i64 0, .slice none 0 0] 32 (0, 0))) ∧ (w.heap.size ≤ s_) ∧ (w.heap.size ≤ s_) ∧ (A1 ≠ s_) ∧ (s_ ≠ A1) ∧ (Below w.heap.size w w')) ?_ ?_
            rotate_left
            ·intro hJ10
             refine three_ (i := 2) (j := 9) (k := 10) (Ni := some 16) (Nj := some 6) (Nk := some 7) #[true, true, true, true, false, false, false, false, false, false, false, false, false, false] #[true, true, false, true, false, false, false, false, false, true, false, false, false, false] #[true, true, false, true, false, false, false, false, false, false, true, false, false, false] rfl rfl rfl rfl rfl rfl (three_of HT_.o (by kernel_rfl)) (by decide) (by decide) (by decide) (fun K hK => ?_) (fun K hK => ?_) (fun K hK => ?_)
             ·skip
              refine goes_ Try.func62 (by kernel_rfl) rfl #[.agg #[.int .i64 a0_0, .int .i64 a0_1, .slice A0_2 l0_2.length c0_2]] (by rfl) rfl rfl (by (try simp only [List.map_toArray, List.map_cons, List.map_nil]); first | done | rfl | (simp only [List.length_drop, List.length_take]; rfl)) ?_
              with_reducible refine (spec_ggGroups.calls k a0_0 a0_1 _ _ l0_2 Ag _ ?side1 ?side2 A5.o).mono ?_
              (case side1 => repeat (first | exact (Kd.C_below Aw.o HB.o) | (with_reducible refine Kd.C_alloc ?_ _) | (with_reducible refine Kd.C_drewN ?_ _) | (with_reducible refine Kd.C_drew ?_)))
              (case side2 => exact Av.o)
              rintro e BF ⟨An, rfl, AA, hb⟩
              refine ⟨_, rfl, ?_⟩
              have A7 := Z.m (Kd.R_lower AA (below_size (vB HB)))
              replace A0 := kB A0 hb
              replace HB := bB HB hb
              (try clear hb); (try clear AA)
              refine hK.out _ _ ⟨(ql A0.o 0).trans rfl, (ql A0.o 1).trans rfl, (ql A0.o 2).trans rfl⟩ (fun hHeld => ?_)
              clear hK K
              refine norm_ (a' := ?_) ?_ ?_
              rotate_left
              ·show Act.put _ (some 16) _ = _
               simp only [Act.put, q1, q2, q3, i64_w, i32_w]
               rfl
              exact norm_ (by first | (simp only [putAll, Act.put, q1, q2, q3]; done) | (simp only [putAll, Act.put, q1, q2, q3]; rfl)) (hJ2 (An) _ ⟨hHeld, (vR A7), (vK A0), (vB HB)⟩)
             ·skip
              refine box_step ?hg (N := 6) ?hd (cs := #[.int .i64 0, .int .i64 0, .int .i64 0]) (t := 27) ?hr ?_; (case hd => rfl); (case hg => rfl); (case hr => first | (go_simp; done) | (go_simp; rfl))
              intro A8 hg BF hbox hb
              have Ae := Z.m (hbox)
              have Aj := gW (w := w) HB hg
              have Ah := gW (w := w) HB hg
              have A2 := neL A0 hg
              have Aa := neG A0 hg
              replace A0 := kB A0 hb
              replace HB := bB HB hb
              clear hb hbox hg
              refine hK.out _ _ ⟨(ql A0.o 0).trans rfl, (ql A0.o 1).trans rfl, (ql A0.o 2).trans rfl⟩ (fun hHeld => ?_)
              clear hK K
              refine norm_ (a' := ?_) ?_ ?_
              rotate_left
              ·show Act.put _ (some 6) _ = _
               simp only [Act.put, q1, q2, q3, i64_w, i32_w]
               rfl
              exact norm_ (by first | (simp only [putAll, Act.put, q1, q2, q3]; done) | (simp only [putAll, Act.put, q1, q2, q3]; rfl)) (hJ9 (A8) _ ⟨hHeld, (vK A0), (vK Ae), Aj.o, Ah.o, A2.o, Aa.o, (vB HB)⟩)
             ·skip
              refine box_step ?hg (N := 7) ?hd (cs := #[.int .i64 0, .int .i64 0, .slice none 0 0]) (t := 32) ?hr ?_; (case hd => rfl); (case hg => rfl); (case hr => first | (go_simp; done) | (go_simp; rfl))
              intro A9 hg BF hbox hb
              have Af := Z.m (hbox)
              have Ak := gW (w := w) HB hg
              have Ai := gW (w := w) HB hg
              have A4 := neL A0 hg
              have Ab := neG A0 hg
              replace A0 := kB A0 hb
              replace HB := bB HB hb
              clear hb hbox hg
              refine hK.out _ _ ⟨(ql A0.o 0).trans rfl, (ql A0.o 1).trans rfl, (ql A0.o 2).trans rfl⟩ (fun hHeld => ?_)
              clear hK K
              refine norm_ (a' := ?_) ?_ ?_
              rotate_left
              ·show Act.put _ (some 7) _ = _
               simp only [Act.put, q1, q2, q3, i64_w, i32_w]
               rfl
              exact norm_ (by first | (simp only [putAll, Act.put, q1, q2, q3]; done) | (simp only [putAll, Act.put, q1, q2, q3]; rfl)) (hJ10 (A9) _ ⟨hHeld, (vK A0), (vK Af), Ak.o, Ai.o, A4.o, Ab.o, (vB HB)⟩)
            ·skip
             rintro A9 AD ⟨hS_, h0_, h1_, h2_, h3_, h4_, h5_, h6_⟩
             have Af : Z (AD.heap[A9]? = some (.cells #[.int .i64 0, .int .i64 0, .slice none 0 0] 32 (0, 0))) := ⟨h1_⟩
             have Ak : Z (w.heap.size ≤ A9) := ⟨h2_⟩
             have Ai : Z (w.heap.size ≤ A9) := ⟨h3_⟩
             have A4 : Z (A1 ≠ A9) := ⟨h4_⟩
             have Ab : Z (A9 ≠ A1) := ⟨h5_⟩
             replace A0 : Z (AD.heap[A1]? = some (.cells #[.int .i64 a0_0, .int .i64 a0_1, .slice A0_2 l0_2.length c0_2] 32 (0, 0))) := ⟨h0_⟩
             replace HB : Z (Below w.heap.size w AD) := ⟨h6_⟩
             clear h0_ h1_ h2_ h3_ h4_ h5_ h6_
             have hHeld : AD.cell? ⟨A1, 0, none⟩ = some (.int .i64 a0_0) ∧ AD.cell? ⟨A1, 1, none⟩ = some (.int .i64 a0_1) ∧ AD.cell? ⟨A1, 2, none⟩ = some (.slice A0_2 l0_2.length c0_2) := hS_
             refine norm_ (a' := ?_) ?_ ?_
             rotate_left
             ·simp only [putAll, Act.put, q1, q2, q3]
              rfl
             refine two_ (i := 2) (j := 9) (Ni := some 16) (Nj := some 6) #[true, true, true, true, false, false, false, false, false, false, true, false, false, false] #[true, true, false, true, false, false, false, false, false, true, true, false, false, false] rfl rfl rfl rfl (two_of HT_.o (by kernel_rfl)) (by decide) (by decide) (fun K hK => ?_) (fun K hK => ?_)
             ·skip
              refine goes_ Try.func62 (by kernel_rfl) rfl #[.agg #[.int .i64 a0_0, .int .i64 a0_1, .slice A0_2 l0_2.length c0_2]] (by rfl) rfl rfl (by (try simp only [List.map_toArray, List.map_cons, List.map_nil]); first | done | rfl | (simp only [List.length_drop, List.length_take]; rfl)) ?_
              with_reducible refine (spec_ggGroups.calls k a0_0 a0_1 _ _ l0_2 Ag _ ?side1 ?side2 A5.o).mono ?_
              (case side1 => repeat (first | exact (Kd.C_below Aw.o HB.o) | (with_reducible refine Kd.C_alloc ?_ _) | (with_reducible refine Kd.C_drewN ?_ _) | (with_reducible refine Kd.C_drew ?_)))
              (case side2 => exact Av.o)
              rintro e Ax ⟨An, rfl, AA, hb⟩
              refine ⟨_, rfl, ?_⟩
              have A7 := Z.m (Kd.R_lower AA (below_size (vB HB)))
              replace A0 := kB A0 hb
              replace Af := kB Af hb
              replace HB := bB HB hb
              (try clear hb); (try clear AA)
              refine hK.out _ _ ⟨(ql A0.o 0).trans rfl, (ql A0.o 1).trans rfl, (ql A0.o 2).trans rfl⟩ (fun hHeld => ?_)
              clear hK K
              refine norm_ (a' := ?_) ?_ ?_
              rotate_left
              ·show Act.put _ (some 16) _ = _
               simp only [Act.put, q1, q2, q3, i64_w, i32_w]
               rfl
              exact norm_ (by first | (simp only [putAll, Act.put, q1, q2, q3]; done) | (simp only [putAll, Act.put, q1, q2, q3]; rfl)) (hJ2_10 (An, A9) _ ⟨hHeld, (vR A7), (vK A0), (vK Af), Ak.o, Ai.o, A4.o, Ab.o, (vB HB)⟩)
             ·skip
              refine box_step ?hg (N := 6) ?hd (cs := #[.int .i64 0, .int .i64 0, .int .i64 0]) (t := 27) ?hr ?_; (case hd => rfl); (case hg => rfl); (case hr => first | (go_simp; done) | (go_simp; rfl))
              intro A8 hg Ax hbox hb
              have Ae := Z.m (hbox)
              have Aj := gW (w := w) HB hg
              have Ah := gW (w := w) HB hg
              have A2 := neL A0 hg
              have Aa := neG A0 hg
              have Ad := neL Af hg
              have Ac := neG Af hg
              replace A0 := kB A0 hb
              replace Af := kB Af hb
              replace HB := bB HB hb
              clear hb hbox hg
              refine hK.out _ _ ⟨(ql A0.o 0).trans rfl, (ql A0.o 1).trans rfl, (ql A0.o 2).trans rfl⟩ (fun hHeld => ?_)
              clear hK K
              refine norm_ (a' := ?_) ?_ ?_
              rotate_left
              ·show Act.put _ (some 6) _ = _
               simp only [Act.put, q1, q2, q3, i64_w, i32_w]
               rfl
              exact norm_ (by first | (simp only [putAll, Act.put, q1, q2, q3]; done) | (simp only [putAll, Act.put, q1, q2, q3]; rfl)) (hJ9_10 (A8, A9) _ ⟨hHeld, (vK A0), (vK Ae), (vK Af), Aj.o, Ah.o, A2.o, Aa.o, Ad.o, Ac.o, Ak.o, Ai.o, A4.o, Ab.o, (vB HB)⟩)
           ·skip
            rintro A8 AD ⟨hS_, h0_, h1_, h2_, h3_, h4_, h5_, h6_⟩
            have Ae : Z (AD.heap[A8]? = some (.cells #[.int .i64 0, .int .i64 0, .int .i64 0] 27 (0, 0))) := ⟨h1_⟩
            have Aj : Z (w.heap.size ≤ A8) := ⟨h2_⟩
            have Ah : Z (w.heap.size ≤ A8) := ⟨h3_⟩
            have A2 : Z (A1 ≠ A8) := ⟨h4_⟩
            have Aa : Z (A8 ≠ A1) := ⟨h5_⟩
            replace A0 : Z (AD.heap[A1]? = some (.cells #[.int .i64 a0_0, .int .i64 a0_1, .slice A0_2 l0_2.length c0_2] 32 (0, 0))) := ⟨h0_⟩
            replace HB : Z (Below w.heap.size w AD) := ⟨h6_⟩
            clear h0_ h1_ h2_ h3_ h4_ h5_ h6_
            have hHeld : AD.cell? ⟨A1, 0, none⟩ = some (.int .i64 a0_0) ∧ AD.cell? ⟨A1, 1, none⟩ = some (.int .i64 a0_1) ∧ AD.cell? ⟨A1, 2, none⟩ = some (.slice A0_2 l0_2.length c0_2) := hS_
            refine norm_ (a' := ?_) ?_ ?_
            rotate_left
            ·simp only [putAll, Act.put, q1, q2, q3]
             rfl
            refine two_ (i := 2) (j := 10) (Ni := some 16) (Nj := some 7) #[true, true, true, true, false, false, false, false, false, true, false, false, false, false] #[true, true, false, true, false, false, false, false, false, true, true, false, false, false] rfl rfl rfl rfl (two_of HT_.o (by kernel_rfl)) (by decide) (by decide) (fun K hK => ?_) (fun K hK => ?_)
            ·skip
             refine goes_ Try.func62 (by kernel_rfl) rfl #[.agg #[.int .i64 a0_0, .int .i64 a0_1, .slice A0_2 l0_2.length c0_2]] (by rfl) rfl rfl (by (try simp only [List.map_toArray, List.map_cons, List.map_nil]); first | done | rfl | (simp only [List.length_drop, List.length_take]; rfl)) ?_
             with_reducible refine (spec_ggGroups.calls k a0_0 a0_1 _ _ l0_2 Ag _ ?side1 ?side2 A5.o).mono ?_
             (case side1 => repeat (first | exact (Kd.C_below Aw.o HB.o) | (with_reducible refine Kd.C_alloc ?_ _) | (with_reducible refine Kd.C_drewN ?_ _) | (with_reducible refine Kd.C_drew ?_)))
             (case side2 => exact Av.o)
             rintro e Ax ⟨An, rfl, AA, hb⟩
             refine ⟨_, rfl, ?_⟩
             have A7 := Z.m (Kd.R_lower AA (below_size (vB HB)))
             replace A0 := kB A0 hb
             replace Ae := kB Ae hb
             replace HB := bB HB hb
             (try clear hb); (try clear AA)
             refine hK.out _ _ ⟨(ql A0.o 0).trans rfl, (ql A0.o 1).trans rfl, (ql A0.o 2).trans rfl⟩ (fun hHeld => ?_)
             clear hK K
             refine norm_ (a' := ?_) ?_ ?_
             rotate_left
             ·show Act.put _ (some 16) _ = _
              simp only [Act.put, q1, q2, q3, i64_w, i32_w]
              rfl
             exact norm_ (by first | (simp only [putAll, Act.put, q1, q2, q3]; done) | (simp only [putAll, Act.put, q1, q2, q3]; rfl)) (hJ2_9 (An, A8) _ ⟨hHeld, (vR A7), (vK A0), (vK Ae), Aj.o, Ah.o, A2.o, Aa.o, (vB HB)⟩)
            ·skip
             refine box_step ?hg (N := 7) ?hd (cs := #[.int .i64 0, .int .i64 0, .slice none 0 0]) (t := 32) ?hr ?_; (case hd => rfl); (case hg => rfl); (case hr => first | (go_simp; done) | (go_simp; rfl))
             intro A9 hg Ax hbox hb
             have Af := Z.m (hbox)
             have Ak := gW (w := w) HB hg
             have Ai := gW (w := w) HB hg
             have A4 := neL A0 hg
             have Ab := neG A0 hg
             have Ac := neL Ae hg
             have Ad := neG Ae hg
             replace A0 := kB A0 hb
             replace Ae := kB Ae hb
             replace HB := bB HB hb
             clear hb hbox hg
             refine hK.out _ _ ⟨(ql A0.o 0).trans rfl, (ql A0.o 1).trans rfl, (ql A0.o 2).trans rfl⟩ (fun hHeld => ?_)
             clear hK K
             refine norm_ (a' := ?_) ?_ ?_
             rotate_left
             ·show Act.put _ (some 7) _ = _
              simp only [Act.put, q1, q2, q3, i64_w, i32_w]
              rfl
             exact norm_ (by first | (simp only [putAll, Act.put, q1, q2, q3]; done) | (simp only [putAll, Act.put, q1, q2, q3]; rfl)) (hJ9_10 (A8, A9) _ ⟨hHeld, (vK A0), (vK Ae), (vK Af), Aj.o, Ah.o, A2.o, Aa.o, Ad.o, Ac.o, Ak.o, Ai.o, A4.o, Ab.o, (vB HB)⟩)
          ·skip
           rintro An AD ⟨hS_, h0_, h1_, h2_⟩
           have A7 : Z (Kd.R (Kd.int .i64) 3 AD w.heap.size (fun _ => True) An Ag) := ⟨h0_⟩
           replace A0 : Z (AD.heap[A1]? = some (.cells #[.int .i64 a0_0, .int .i64 a0_1, .slice A0_2 l0_2.length c0_2] 32 (0, 0))) := ⟨h1_⟩
           replace HB : Z (Below w.heap.size w AD) := ⟨h2_⟩
           clear h0_ h1_ h2_
           have hHeld : AD.cell? ⟨A1, 0, none⟩ = some (.int .i64 a0_0) ∧ AD.cell? ⟨A1, 1, none⟩ = some (.int .i64 a0_1) ∧ AD.cell? ⟨A1, 2, none⟩ = some (.slice A0_2 l0_2.length c0_2) := hS_
           obtain ⟨AK, AL, AQ⟩ := Kd.R_slice A7.o
           (first | subst AQ | (injection AQ with f1_ f2_ f3_; have f4_ := f1_.symm; have f5_ := f3_.symm; clear f1_ f2_ f3_; subst f4_; subst f5_))
           refine norm_ (a' := ?_) ?_ ?_
           rotate_left
           ·simp only [putAll, Act.put, q1, q2, q3]
            rfl
           refine three_ (i := 4) (j := 9) (k := 10) (Ni := some 18) (Nj := some 6) (Nk := some 7) #[true, true, true, true, true, false, false, false, false, false, false, false, false, false] #[true, true, true, true, false, false, false, false, false, true, false, false, false, false] #[true, true, true, true, false, false, false, false, false, false, true, false, false, false] rfl rfl rfl rfl rfl rfl (three_of HT_.o (by kernel_rfl)) (by decide) (by decide) (by decide) (fun K hK => ?_) (fun K hK => ?_) (fun K hK => ?_)
           ·skip
            refine goes_ Try.func63 (by kernel_rfl) rfl #[.agg #[.int .i64 a0_0, .int .i64 a0_1, .slice A0_2 l0_2.length c0_2], .slice AK Ag.length AL, .int .i64 a1] (by rfl) rfl rfl (by (try simp only [List.map_toArray, List.map_cons, List.map_nil]); first | done | rfl | (simp only [List.length_drop, List.length_take]; rfl)) ?_
            with_reducible refine (spec_flGo.calls k a0_0 a0_1 _ _ l0_2 _ _ Ag a1 Aq Ar As At Au Ay Az _ ?side1 ?side2 ?side3 ?side4 A6.o).mono ?_
            (case side1 => repeat (first | exact (Kd.C_below Aw.o HB.o) | (with_reducible refine Kd.C_alloc ?_ _) | (with_reducible refine Kd.C_drewN ?_ _) | (with_reducible refine Kd.C_drew ?_)))
            (case side2 => exact Av.o)
            (case side3 => repeat (first | exact (Kd.RrZ A7.o).2.2 | (with_reducible refine Kd.C_alloc ?_ _) | (with_reducible refine Kd.C_drewN ?_ _) | (with_reducible refine Kd.C_drew ?_)))
            (case side4 => exact (Kd.RrZ A7.o).2.1)
            rintro e AC ⟨Ao, Ap, rfl, AA, AJ, hb⟩
            refine ⟨_, rfl, ?_⟩
            have Al := Z.m (Kd.R_lower AA (below_size (vB HB)))
            have Am := Z.m (Kd.S_lower (Kd.S_new' AJ (Kd.R_lt (vR A7))) (below_size (vB HB)))
            replace A7 := Z.m (Kd.Rb (vR A7) hb)
            replace A0 := kB A0 hb
            replace HB := bB HB hb
            (try clear hb); (try clear AA); (try clear AJ)
            refine hK.out _ _ ⟨(ql A0.o 0).trans rfl, (ql A0.o 1).trans rfl, (ql A0.o 2).trans rfl⟩ (fun hHeld => ?_)
            clear hK K
            refine norm_ (a' := ?_) ?_ ?_
            rotate_left
            ·show Act.put _ (some 18) _ = _
             simp only [Act.put, q1, q2, q3, i64_w, i32_w]
             rfl
            refine pure_ (i := 5) (N := some 13) (v := ?_) (a' := ?_) #[true, true, true, true, true, true, false, false, false, false, false, false, false, false] rfl rfl (any_of HT_.o (by kernel_rfl)) (fun _ _ _ h => h) (Or.inl ⟨by rfl, ?_⟩) ?_ ?_
            rotate_left
            ·intro w'
             go_simp
             with_reducible rfl
            rotate_left
            ·simp only [Act.put, q1, q2, q3, i64_w, i32_w]
             rfl
            refine pure_ (i := 6) (N := some 19) (v := ?_) (a' := ?_) #[true, true, true, true, true, true, true, false, false, false, false, false, false, false] rfl rfl (any_of HT_.o (by kernel_rfl)) (fun _ _ _ h => h) (Or.inl ⟨by rfl, ?_⟩) ?_ ?_
            rotate_left
            ·intro w'
             go_simp
             with_reducible rfl
            rotate_left
            ·simp only [Act.put, q1, q2, q3, i64_w, i32_w]
             rfl
            refine pure_ (i := 7) (N := some 20) (v := ?_) (a' := ?_) #[true, true, true, true, true, true, true, true, false, false, false, false, false, false] rfl rfl (any_of HT_.o (by kernel_rfl)) (fun _ _ _ h => h) (Or.inl ⟨by rfl, ?_⟩) ?_ ?_
            rotate_left
            ·intro w'
             go_simp
             with_reducible rfl
            rotate_left
            ·simp only [Act.put, q1, q2, q3, i64_w, i32_w]
             rfl
            refine pure_ (i := 8) (N := some 21) (v := ?_) (a' := ?_) #[true, true, true, true, true, true, true, true, true, false, false, false, false, false] rfl rfl (any_of HT_.o (by kernel_rfl)) (fun _ _ _ h => h) (Or.inl ⟨by rfl, ?_⟩) ?_ ?_
            rotate_left
            ·intro w'
             go_simp
             with_reducible rfl
            rotate_left
            ·simp only [Act.put, q1, q2, q3, i64_w, i32_w]
             rfl
            exact norm_ (by first | (simp only [putAll, Act.put, q1, q2, q3]; done) | (simp only [putAll, Act.put, q1, q2, q3]; rfl)) (hJ2_4 (.slice AK Ag.length AL, Ao, Ap) _ ⟨hHeld, (vR A7), (vR Al), (by (with_reducible repeat (first | apply Kd.S_alloc | apply Kd.S_drewN | apply Kd.S_drew)); exact Kd.S_mono Am.o (fun _ hk => hk.2)), (vK A0), (vB HB)⟩)
           ·skip
            refine box_step ?hg (N := 6) ?hd (cs := #[.int .i64 0, .int .i64 0, .int .i64 0]) (t := 27) ?hr ?_; (case hd => rfl); (case hg => rfl); (case hr => first | (go_simp; done) | (go_simp; rfl))
            intro A8 hg Ax hbox hb
            have Ae := Z.m (hbox)
            have Aj := gW (w := w) HB hg
            have Ah := gW (w := w) HB hg
            have A2 := neL A0 hg
            have Aa := neG A0 hg
            replace A7 := Z.m (Kd.Rb (vR A7) hb)
            replace A0 := kB A0 hb
            replace HB := bB HB hb
            clear hb hbox hg
            refine hK.out _ _ ⟨(ql A0.o 0).trans rfl, (ql A0.o 1).trans rfl, (ql A0.o 2).trans rfl⟩ (fun hHeld => ?_)
            clear hK K
            refine norm_ (a' := ?_) ?_ ?_
            rotate_left
            ·show Act.put _ (some 6) _ = _
             simp only [Act.put, q1, q2, q3, i64_w, i32_w]
             rfl
            exact norm_ (by first | (simp only [putAll, Act.put, q1, q2, q3]; done) | (simp only [putAll, Act.put, q1, q2, q3]; rfl)) (hJ2_9 ((.slice AK Ag.length AL), A8) _ ⟨hHeld, (vR A7), (vK A0), (vK Ae), Aj.o, Ah.o, A2.o, Aa.o, (vB HB)⟩)
           ·skip
            refine box_step ?hg (N := 7) ?hd (cs := #[.int .i64 0, .int .i64 0, .slice none 0 0]) (t := 32) ?hr ?_; (case hd => rfl); (case hg => rfl); (case hr => first | (go_simp; done) | (go_simp; rfl))
            intro A9 hg Ax hbox hb
            have Af := Z.m (hbox)
            have Ak := gW (w := w) HB hg
            have Ai := gW (w := w) HB hg
            have A4 := neL A0 hg
            have Ab := neG A0 hg
            replace A7 := Z.m (Kd.Rb (vR A7) hb)
            replace A0 := kB A0 hb
            replace HB := bB HB hb
            clear hb hbox hg
            refine hK.out _ _ ⟨(ql A0.o 0).trans rfl, (ql A0.o 1).trans rfl, (ql A0.o 2).trans rfl⟩ (fun hHeld => ?_)
            clear hK K
            refine norm_ (a' := ?_) ?_ ?_
            rotate_left
            ·show Act.put _ (some 7) _ = _
             simp only [Act.put, q1, q2, q3, i64_w, i32_w]
             rfl
            exact norm_ (by first | (simp only [putAll, Act.put, q1, q2, q3]; done) | (simp only [putAll, Act.put, q1, q2, q3]; rfl)) (hJ2_10 ((.slice AK Ag.length AL), A9) _ ⟨hHeld, (vR A7), (vK A0), (vK Af), Ak.o, Ai.o, A4.o, Ab.o, (vB HB)⟩)
         ·skip
          rintro ⟨A8, A9⟩ Ax ⟨hS_, h0_, h1_, h2_, h3_, h4_, h5_, h6_, h7_, h8_, h9_, h10_, h11_, h12_, h13_⟩
          have Ae : Z (Ax.heap[A8]? = some (.cells #[.int .i64 0, .int .i64 0, .int .i64 0] 27 (0, 0))) := ⟨h1_⟩
          have Af : Z (Ax.heap[A9]? = some (.cells #[.int .i64 0, .int .i64 0, .slice none 0 0] 32 (0, 0))) := ⟨h2_⟩
          have Aj : Z (w.heap.size ≤ A8) := ⟨h3_⟩
          have Ah : Z (w.heap.size ≤ A8) := ⟨h4_⟩
          have A2 : Z (A1 ≠ A8) := ⟨h5_⟩
          have Aa : Z (A8 ≠ A1) := ⟨h6_⟩
          have Ad : Z (A9 ≠ A8) := ⟨h7_⟩
          have Ac : Z (A8 ≠ A9) := ⟨h8_⟩
          have Ak : Z (w.heap.size ≤ A9) := ⟨h9_⟩
          have Ai : Z (w.heap.size ≤ A9) := ⟨h10_⟩
          have A4 : Z (A1 ≠ A9) := ⟨h11_⟩
          have Ab : Z (A9 ≠ A1) := ⟨h12_⟩
          replace A0 : Z (Ax.heap[A1]? = some (.cells #[.int .i64 a0_0, .int .i64 a0_1, .slice A0_2 l0_2.length c0_2] 32 (0, 0))) := ⟨h0_⟩
          replace HB : Z (Below w.heap.size w Ax) := ⟨h13_⟩
          clear h0_ h1_ h2_ h3_ h4_ h5_ h6_ h7_ h8_ h9_ h10_ h11_ h12_ h13_
          have hHeld : Ax.cell? ⟨A1, 0, none⟩ = some (.int .i64 a0_0) ∧ Ax.cell? ⟨A1, 1, none⟩ = some (.int .i64 a0_1) ∧ Ax.cell? ⟨A1, 2, none⟩ = some (.slice A0_2 l0_2.length c0_2) := hS_
          refine norm_ (a' := ?_) ?_ ?_
          rotate_left
          ·simp only [putAll, Act.put, q1, q2, q3]
           rfl
          refine one_ (i := 2) (N := some 16) #[true, true, true, true, false, false, false, false, false, true, true, false, false, false] rfl rfl (one_of HT_.o (by kernel_rfl)) (by decide) (fun K hK => ?_)
          refine goes_ Try.func62 (by kernel_rfl) rfl #[.agg #[.int .i64 a0_0, .int .i64 a0_1, .slice A0_2 l0_2.length c0_2]] (by rfl) rfl rfl (by (try simp only [List.map_toArray, List.map_cons, List.map_nil]); first | done | rfl | (simp only [List.length_drop, List.length_take]; rfl)) ?_
          with_reducible refine (spec_ggGroups.calls k a0_0 a0_1 _ _ l0_2 Ag _ ?side1 ?side2 A5.o).mono ?_
          (case side1 => repeat (first | exact (Kd.C_below Aw.o HB.o) | (with_reducible refine Kd.C_alloc ?_ _) | (with_reducible refine Kd.C_drewN ?_ _) | (with_reducible refine Kd.C_drew ?_)))
          (case side2 => exact Av.o)
          rintro e AC ⟨An, rfl, AA, hb⟩
          refine ⟨_, rfl, ?_⟩
          have A7 := Z.m (Kd.R_lower AA (below_size (vB HB)))
          replace A0 := kB A0 hb
          replace Ae := kB Ae hb
          replace Af := kB Af hb
          replace HB := bB HB hb
          (try clear hb); (try clear AA)
          refine hK.out _ _ ⟨(ql A0.o 0).trans rfl, (ql A0.o 1).trans rfl, (ql A0.o 2).trans rfl⟩ (fun hHeld => ?_)
          clear hK K
          refine norm_ (a' := ?_) ?_ ?_
          rotate_left
          ·show Act.put _ (some 16) _ = _
           simp only [Act.put, q1, q2, q3, i64_w, i32_w]
           rfl
          exact norm_ (by first | (simp only [putAll, Act.put, q1, q2, q3]; done) | (simp only [putAll, Act.put, q1, q2, q3]; rfl)) (hJ2_9_10 (An, A8, A9) _ ⟨hHeld, (vR A7), (vK A0), (vK Ae), (vK Af), Aj.o, Ah.o, A2.o, Aa.o, Ad.o, Ac.o, Ak.o, Ai.o, A4.o, Ab.o, (vB HB)⟩)
        ·skip
         rintro ⟨An, A9⟩ Ax ⟨hS_, h0_, h1_, h2_, h3_, h4_, h5_, h6_, h7_⟩
         have A7 : Z (Kd.R (Kd.int .i64) 3 Ax w.heap.size (fun _ => True) An Ag) := ⟨h0_⟩
         have Af : Z (Ax.heap[A9]? = some (.cells #[.int .i64 0, .int .i64 0, .slice none 0 0] 32 (0, 0))) := ⟨h2_⟩
         have Ak : Z (w.heap.size ≤ A9) := ⟨h3_⟩
         have Ai : Z (w.heap.size ≤ A9) := ⟨h4_⟩
         have A4 : Z (A1 ≠ A9) := ⟨h5_⟩
         have Ab : Z (A9 ≠ A1) := ⟨h6_⟩
         replace A0 : Z (Ax.heap[A1]? = some (.cells #[.int .i64 a0_0, .int .i64 a0_1, .slice A0_2 l0_2.length c0_2] 32 (0, 0))) := ⟨h1_⟩
         replace HB : Z (Below w.heap.size w Ax) := ⟨h7_⟩
         clear h0_ h1_ h2_ h3_ h4_ h5_ h6_ h7_
         have hHeld : Ax.cell? ⟨A1, 0, none⟩ = some (.int .i64 a0_0) ∧ Ax.cell? ⟨A1, 1, none⟩ = some (.int .i64 a0_1) ∧ Ax.cell? ⟨A1, 2, none⟩ = some (.slice A0_2 l0_2.length c0_2) := hS_
         obtain ⟨AF, AG, AI⟩ := Kd.R_slice A7.o
         (first | subst AI | (injection AI with f1_ f2_ f3_; have f4_ := f1_.symm; have f5_ := f3_.symm; clear f1_ f2_ f3_; subst f4_; subst f5_))
         refine norm_ (a' := ?_) ?_ ?_
         rotate_left
         ·simp only [putAll, Act.put, q1, q2, q3]
          rfl
         refine two_ (i := 4) (j := 9) (Ni := some 18) (Nj := some 6) #[true, true, true, true, true, false, false, false, false, false, true, false, false, false] #[true, true, true, true, false, false, false, false, false, true, true, false, false, false] rfl rfl rfl rfl (two_of HT_.o (by kernel_rfl)) (by decide) (by decide) (fun K hK => ?_) (fun K hK => ?_)
         ·skip
          refine goes_ Try.func63 (by kernel_rfl) rfl #[.agg #[.int .i64 a0_0, .int .i64 a0_1, .slice A0_2 l0_2.length c0_2], .slice AF Ag.length AG, .int .i64 a1] (by rfl) rfl rfl (by (try simp only [List.map_toArray, List.map_cons, List.map_nil]); first | done | rfl | (simp only [List.length_drop, List.length_take]; rfl)) ?_
          with_reducible refine (spec_flGo.calls k a0_0 a0_1 _ _ l0_2 _ _ Ag a1 Aq Ar As At Au Ay Az _ ?side1 ?side2 ?side3 ?side4 A6.o).mono ?_
          (case side1 => repeat (first | exact (Kd.C_below Aw.o HB.o) | (with_reducible refine Kd.C_alloc ?_ _) | (with_reducible refine Kd.C_drewN ?_ _) | (with_reducible refine Kd.C_drew ?_)))
          (case side2 => exact Av.o)
          (case side3 => repeat (first | exact (Kd.RrZ A7.o).2.2 | (with_reducible refine Kd.C_alloc ?_ _) | (with_reducible refine Kd.C_drewN ?_ _) | (with_reducible refine Kd.C_drew ?_)))
          (case side4 => exact (Kd.RrZ A7.o).2.1)
          rintro e AB ⟨Ao, Ap, rfl, AA, AJ, hb⟩
          refine ⟨_, rfl, ?_⟩
          have Al := Z.m (Kd.R_lower AA (below_size (vB HB)))
          have Am := Z.m (Kd.S_lower (Kd.S_new' AJ (Kd.R_lt (vR A7))) (below_size (vB HB)))
          replace A7 := Z.m (Kd.Rb (vR A7) hb)
          replace A0 := kB A0 hb
          replace Af := kB Af hb
          replace HB := bB HB hb
          (try clear hb); (try clear AA); (try clear AJ)
          refine hK.out _ _ ⟨(ql A0.o 0).trans rfl, (ql A0.o 1).trans rfl, (ql A0.o 2).trans rfl⟩ (fun hHeld => ?_)
          clear hK K
          refine norm_ (a' := ?_) ?_ ?_
          rotate_left
          ·show Act.put _ (some 18) _ = _
           simp only [Act.put, q1, q2, q3, i64_w, i32_w]
           rfl
          refine pure_ (i := 5) (N := some 13) (v := ?_) (a' := ?_) #[true, true, true, true, true, true, false, false, false, false, true, false, false, false] rfl rfl (any_of HT_.o (by kernel_rfl)) (fun _ _ _ h => h) (Or.inl ⟨by rfl, ?_⟩) ?_ ?_
          rotate_left
          ·intro w'
           go_simp
           with_reducible rfl
          rotate_left
          ·simp only [Act.put, q1, q2, q3, i64_w, i32_w]
           rfl
          refine pure_ (i := 6) (N := some 19) (v := ?_) (a' := ?_) #[true, true, true, true, true, true, true, false, false, false, true, false, false, false] rfl rfl (any_of HT_.o (by kernel_rfl)) (fun _ _ _ h => h) (Or.inl ⟨by rfl, ?_⟩) ?_ ?_
          rotate_left
          ·intro w'
           go_simp
           with_reducible rfl
          rotate_left
          ·simp only [Act.put, q1, q2, q3, i64_w, i32_w]
           rfl
          refine pure_ (i := 7) (N := some 20) (v := ?_) (a' := ?_) #[true, true, true, true, true, true, true, true, false, false, true, false, false, false] rfl rfl (any_of HT_.o (by kernel_rfl)) (fun _ _ _ h => h) (Or.inl ⟨by rfl, ?_⟩) ?_ ?_
          rotate_left
          ·intro w'
           go_simp
           with_reducible rfl
          rotate_left
          ·simp only [Act.put, q1, q2, q3, i64_w, i32_w]
           rfl
          refine pure_ (i := 8) (N := some 21) (v := ?_) (a' := ?_) #[true, true, true, true, true, true, true, true, true, false, true, false, false, false] rfl rfl (any_of HT_.o (by kernel_rfl)) (fun _ _ _ h => h) (Or.inl ⟨by rfl, ?_⟩) ?_ ?_
          rotate_left
          ·intro w'
           go_simp
           with_reducible rfl
          rotate_left
          ·simp only [Act.put, q1, q2, q3, i64_w, i32_w]
           rfl
          exact norm_ (by first | (simp only [putAll, Act.put, q1, q2, q3]; done) | (simp only [putAll, Act.put, q1, q2, q3]; rfl)) (hJ2_4_10 (.slice AF Ag.length AG, Ao, Ap, A9) _ ⟨hHeld, (vR A7), (vR Al), (by (with_reducible repeat (first | apply Kd.S_alloc | apply Kd.S_drewN | apply Kd.S_drew)); exact Kd.S_mono Am.o (fun _ hk => hk.2)), (vK A0), (vK Af), Ak.o, Ai.o, A4.o, Ab.o, (vB HB)⟩)
         ·skip
          refine box_step ?hg (N := 6) ?hd (cs := #[.int .i64 0, .int .i64 0, .int .i64 0]) (t := 27) ?hr ?_; (case hd => rfl); (case hg => rfl); (case hr => first | (go_simp; done) | (go_simp; rfl))
          intro A8 hg AC hbox hb
          have Ae := Z.m (hbox)
          have Aj := gW (w := w) HB hg
          have Ah := gW (w := w) HB hg
          have A2 := neL A0 hg
          have Aa := neG A0 hg
          have Ad := neL Af hg
          have Ac := neG Af hg
          replace A7 := Z.m (Kd.Rb (vR A7) hb)
          replace A0 := kB A0 hb
          replace Af := kB Af hb
          replace HB := bB HB hb
          clear hb hbox hg
          refine hK.out _ _ ⟨(ql A0.o 0).trans rfl, (ql A0.o 1).trans rfl, (ql A0.o 2).trans rfl⟩ (fun hHeld => ?_)
          clear hK K
          refine norm_ (a' := ?_) ?_ ?_
          rotate_left
          ·show Act.put _ (some 6) _ = _
           simp only [Act.put, q1, q2, q3, i64_w, i32_w]
           rfl
          exact norm_ (by first | (simp only [putAll, Act.put, q1, q2, q3]; done) | (simp only [putAll, Act.put, q1, q2, q3]; rfl)) (hJ2_9_10 ((.slice AF Ag.length AG), A8, A9) _ ⟨hHeld, (vR A7), (vK A0), (vK Ae), (vK Af), Aj.o, Ah.o, A2.o, Aa.o, Ad.o, Ac.o, Ak.o, Ai.o, A4.o, Ab.o, (vB HB)⟩)
       ·skip
        rintro ⟨An, A8⟩ Ax ⟨hS_, h0_, h1_, h2_, h3_, h4_, h5_, h6_, h7_⟩
        have A7 : Z (Kd.R (Kd.int .i64) 3 Ax w.heap.size (fun _ => True) An Ag) := ⟨h0_⟩
        have Ae : Z (Ax.heap[A8]? = some (.cells #[.int .i64 0, .int .i64 0, .int .i64 0] 27 (0, 0))) := ⟨h2_⟩
        have Aj : Z (w.heap.size ≤ A8) := ⟨h3_⟩
        have Ah : Z (w.heap.size ≤ A8) := ⟨h4_⟩
        have A2 : Z (A1 ≠ A8) := ⟨h5_⟩
        have Aa : Z (A8 ≠ A1) := ⟨h6_⟩
        replace A0 : Z (Ax.heap[A1]? = some (.cells #[.int .i64 a0_0, .int .i64 a0_1, .slice A0_2 l0_2.length c0_2] 32 (0, 0))) := ⟨h1_⟩
        replace HB : Z (Below w.heap.size w Ax) := ⟨h7_⟩
        clear h0_ h1_ h2_ h3_ h4_ h5_ h6_ h7_
        have hHeld : Ax.cell? ⟨A1, 0, none⟩ = some (.int .i64 a0_0) ∧ Ax.cell? ⟨A1, 1, none⟩ = some (.int .i64 a0_1) ∧ Ax.cell? ⟨A1, 2, none⟩ = some (.slice A0_2 l0_2.length c0_2) := hS_
        obtain ⟨AF, AG, AI⟩ := Kd.R_slice A7.o
        (first | subst AI | (injection AI with f1_ f2_ f3_; have f4_ := f1_.symm; have f5_ := f3_.symm; clear f1_ f2_ f3_; subst f4_; subst f5_))
        refine norm_ (a' := ?_) ?_ ?_
        rotate_left
        ·simp only [putAll, Act.put, q1, q2, q3]
         rfl
        refine two_ (i := 4) (j := 10) (Ni := some 18) (Nj := some 7) #[true, true, true, true, true, false, false, false, false, true, false, false, false, false] #[true, true, true, true, false, false, false, false, false, true, true, false, false, false] rfl rfl rfl rfl (two_of HT_.o (by kernel_rfl)) (by decide) (by decide) (fun K hK => ?_) (fun K hK => ?_)
        ·skip
         refine goes_ Try.func63 (by kernel_rfl) rfl #[.agg #[.int .i64 a0_0, .int .i64 a0_1, .slice A0_2 l0_2.length c0_2], .slice AF Ag.length AG, .int .i64 a1] (by rfl) rfl rfl (by (try simp only [List.map_toArray, List.map_cons, List.map_nil]); first | done | rfl | (simp only [List.length_drop, List.length_take]; rfl)) ?_
         with_reducible refine (spec_flGo.calls k a0_0 a0_1 _ _ l0_2 _ _ Ag a1 Aq Ar As At Au Ay Az _ ?side1 ?side2 ?side3 ?side4 A6.o).mono ?_
         (case side1 => repeat (first | exact (Kd.C_below Aw.o HB.o) | (with_reducible refine Kd.C_alloc ?_ _) | (with_reducible refine Kd.C_drewN ?_ _) | (with_reducible refine Kd.C_drew ?_)))
         (case side2 => exact Av.o)
         (case side3 => repeat (first | exact (Kd.RrZ A7.o).2.2 | (with_reducible refine Kd.C_alloc ?_ _) | (with_reducible refine Kd.C_drewN ?_ _) | (with_reducible refine Kd.C_drew ?_)))
         (case side4 => exact (Kd.RrZ A7.o).2.1)
         rintro e AB ⟨Ao, Ap, rfl, AA, AJ, hb⟩
         refine ⟨_, rfl, ?_⟩
         have Al := Z.m (Kd.R_lower AA (below_size (vB HB)))
         have Am := Z.m (Kd.S_lower (Kd.S_new' AJ (Kd.R_lt (vR A7))) (below_size (vB HB)))
         replace A7 := Z.m (Kd.Rb (vR A7) hb)
         replace A0 := kB A0 hb
         replace Ae := kB Ae hb
         replace HB := bB HB hb
         (try clear hb); (try clear AA); (try clear AJ)
         refine hK.out _ _ ⟨(ql A0.o 0).trans rfl, (ql A0.o 1).trans rfl, (ql A0.o 2).trans rfl⟩ (fun hHeld => ?_)
         clear hK K
         refine norm_ (a' := ?_) ?_ ?_
         rotate_left
         ·show Act.put _ (some 18) _ = _
          simp only [Act.put, q1, q2, q3, i64_w, i32_w]
          rfl
         refine pure_ (i := 5) (N := some 13) (v := ?_) (a' := ?_) #[true, true, true, true, true, true, false, false, false, true, false, false, false, false] rfl rfl (any_of HT_.o (by kernel_rfl)) (fun _ _ _ h => h) (Or.inl ⟨by rfl, ?_⟩) ?_ ?_
         rotate_left
         ·intro w'
          go_simp
          with_reducible rfl
         rotate_left
         ·simp only [Act.put, q1, q2, q3, i64_w, i32_w]
          rfl
         refine pure_ (i := 6) (N := some 19) (v := ?_) (a' := ?_) #[true, true, true, true, true, true, true, false, false, true, false, false, false, false] rfl rfl (any_of HT_.o (by kernel_rfl)) (fun _ _ _ h => h) (Or.inl ⟨by rfl, ?_⟩) ?_ ?_
         rotate_left
         ·intro w'
          go_simp
          with_reducible rfl
         rotate_left
         ·simp only [Act.put, q1, q2, q3, i64_w, i32_w]
          rfl
         refine pure_ (i := 7) (N := some 20) (v := ?_) (a' := ?_) #[true, true, true, true, true, true, true, true, false, true, false, false, false, false] rfl rfl (any_of HT_.o (by kernel_rfl)) (fun _ _ _ h => h) (Or.inl ⟨by rfl, ?_⟩) ?_ ?_
         rotate_left
         ·intro w'
          go_simp
          with_reducible rfl
         rotate_left
         ·simp only [Act.put, q1, q2, q3, i64_w, i32_w]
          rfl
         refine pure_ (i := 8) (N := some 21) (v := ?_) (a' := ?_) #[true, true, true, true, true, true, true, true, true, true, false, false, false, false] rfl rfl (any_of HT_.o (by kernel_rfl)) (fun _ _ _ h => h) (Or.inl ⟨by rfl, ?_⟩) ?_ ?_
         rotate_left
         ·intro w'
          go_simp
          with_reducible rfl
         rotate_left
         ·simp only [Act.put, q1, q2, q3, i64_w, i32_w]
          rfl
         exact norm_ (by first | (simp only [putAll, Act.put, q1, q2, q3]; done) | (simp only [putAll, Act.put, q1, q2, q3]; rfl)) (hJ2_4_9 (.slice AF Ag.length AG, Ao, Ap, A8) _ ⟨hHeld, (vR A7), (vR Al), (by (with_reducible repeat (first | apply Kd.S_alloc | apply Kd.S_drewN | apply Kd.S_drew)); exact Kd.S_mono Am.o (fun _ hk => hk.2)), (vK A0), (vK Ae), Aj.o, Ah.o, A2.o, Aa.o, (vB HB)⟩)
        ·skip
         refine box_step ?hg (N := 7) ?hd (cs := #[.int .i64 0, .int .i64 0, .slice none 0 0]) (t := 32) ?hr ?_; (case hd => rfl); (case hg => rfl); (case hr => first | (go_simp; done) | (go_simp; rfl))
         intro A9 hg AC hbox hb
         have Af := Z.m (hbox)
         have Ak := gW (w := w) HB hg
         have Ai := gW (w := w) HB hg
         have A4 := neL A0 hg
         have Ab := neG A0 hg
         have Ac := neL Ae hg
         have Ad := neG Ae hg
         replace A7 := Z.m (Kd.Rb (vR A7) hb)
         replace A0 := kB A0 hb
         replace Ae := kB Ae hb
         replace HB := bB HB hb
         clear hb hbox hg
         refine hK.out _ _ ⟨(ql A0.o 0).trans rfl, (ql A0.o 1).trans rfl, (ql A0.o 2).trans rfl⟩ (fun hHeld => ?_)
         clear hK K
         refine norm_ (a' := ?_) ?_ ?_
         rotate_left
         ·show Act.put _ (some 7) _ = _
          simp only [Act.put, q1, q2, q3, i64_w, i32_w]
          rfl
         exact norm_ (by first | (simp only [putAll, Act.put, q1, q2, q3]; done) | (simp only [putAll, Act.put, q1, q2, q3]; rfl)) (hJ2_9_10 ((.slice AF Ag.length AG), A8, A9) _ ⟨hHeld, (vR A7), (vK A0), (vK Ae), (vK Af), Aj.o, Ah.o, A2.o, Aa.o, Ad.o, Ac.o, Ak.o, Ai.o, A4.o, Ab.o, (vB HB)⟩)
      ·skip
       rintro ⟨An, Ao, Ap⟩ AC ⟨hS_, h0_, h1_, h2_, h3_, h4_⟩
       have A7 : Z (Kd.R (Kd.int .i64) 3 AC w.heap.size (fun _ => True) An Ag) := ⟨h0_⟩
       have Al : Z (Kd.R k89 89 AC w.heap.size (fun _ => True) Ao Ay) := ⟨h1_⟩
       have Am : Z (Kd.S (Kd.slice 3 (Kd.int .i64)) 43 AC w.heap.size (fun k_ => some k_ ≠ (An : Value).ownBlock) Ap Az) := ⟨h2_⟩
       replace A0 : Z (AC.heap[A1]? = some (.cells #[.int .i64 a0_0, .int .i64 a0_1, .slice A0_2 l0_2.length c0_2] 32 (0, 0))) := ⟨h3_⟩
       replace HB : Z (Below w.heap.size w AC) := ⟨h4_⟩
       clear h0_ h1_ h2_ h3_ h4_
       have hHeld : AC.cell? ⟨A1, 0, none⟩ = some (.int .i64 a0_0) ∧ AC.cell? ⟨A1, 1, none⟩ = some (.int .i64 a0_1) ∧ AC.cell? ⟨A1, 2, none⟩ = some (.slice A0_2 l0_2.length c0_2) := hS_
       refine norm_ (a' := ?_) ?_ ?_
       rotate_left
       ·simp only [putAll, Act.put, q1, q2, q3]
        rfl
       refine two_ (i := 9) (j := 10) (Ni := some 6) (Nj := some 7) #[true, true, true, true, true, true, true, true, true, true, false, false, false, false] #[true, true, true, true, true, true, true, true, true, false, true, false, false, false] rfl rfl rfl rfl (two_of HT_.o (by kernel_rfl)) (by decide) (by decide) (fun K hK => ?_) (fun K hK => ?_)
       ·skip
        refine box_step ?hg (N := 6) ?hd (cs := #[.int .i64 0, .int .i64 0, .int .i64 0]) (t := 27) ?hr ?_; (case hd => rfl); (case hg => rfl); (case hr => first | (go_simp; done) | (go_simp; rfl))
        intro A8 hg AB hbox hb
        have Ae := Z.m (hbox)
        have Aj := gW (w := w) HB hg
        have Ah := gW (w := w) HB hg
        have A2 := neL A0 hg
        have Aa := neG A0 hg
        replace A7 := Z.m (Kd.Rb (vR A7) hb)
        replace Al := Z.m (Kd.Rb (vR Al) hb)
        replace Am := Z.m (Kd.S_below (vS Am) hb)
        replace A0 := kB A0 hb
        replace HB := bB HB hb
        clear hb hbox hg
        refine hK.out _ _ ⟨(ql A0.o 0).trans rfl, (ql A0.o 1).trans rfl, (ql A0.o 2).trans rfl⟩ (fun hHeld => ?_)
        clear hK K
        refine norm_ (a' := ?_) ?_ ?_
        rotate_left
        ·show Act.put _ (some 6) _ = _
         simp only [Act.put, q1, q2, q3, i64_w, i32_w]
         rfl
        exact norm_ (by first | (simp only [putAll, Act.put, q1, q2, q3]; done) | (simp only [putAll, Act.put, q1, q2, q3]; rfl)) (hJ2_4_9 (An, Ao, Ap, A8) _ ⟨hHeld, (vR A7), (vR Al), (vS Am), (vK A0), (vK Ae), Aj.o, Ah.o, A2.o, Aa.o, (vB HB)⟩)
       ·skip
        refine box_step ?hg (N := 7) ?hd (cs := #[.int .i64 0, .int .i64 0, .slice none 0 0]) (t := 32) ?hr ?_; (case hd => rfl); (case hg => rfl); (case hr => first | (go_simp; done) | (go_simp; rfl))
        intro A9 hg AB hbox hb
        have Af := Z.m (hbox)
        have Ak := gW (w := w) HB hg
        have Ai := gW (w := w) HB hg
        have A4 := neL A0 hg
        have Ab := neG A0 hg
        replace A7 := Z.m (Kd.Rb (vR A7) hb)
        replace Al := Z.m (Kd.Rb (vR Al) hb)
        replace Am := Z.m (Kd.S_below (vS Am) hb)
        replace A0 := kB A0 hb
        replace HB := bB HB hb
        clear hb hbox hg
        refine hK.out _ _ ⟨(ql A0.o 0).trans rfl, (ql A0.o 1).trans rfl, (ql A0.o 2).trans rfl⟩ (fun hHeld => ?_)
        clear hK K
        refine norm_ (a' := ?_) ?_ ?_
        rotate_left
        ·show Act.put _ (some 7) _ = _
         simp only [Act.put, q1, q2, q3, i64_w, i32_w]
         rfl
        exact norm_ (by first | (simp only [putAll, Act.put, q1, q2, q3]; done) | (simp only [putAll, Act.put, q1, q2, q3]; rfl)) (hJ2_4_10 (An, Ao, Ap, A9) _ ⟨hHeld, (vR A7), (vR Al), (vS Am), (vK A0), (vK Af), Ak.o, Ai.o, A4.o, Ab.o, (vB HB)⟩)
     ·skip
      rintro ⟨An, A8, A9⟩ AC ⟨hS_, h0_, h1_, h2_, h3_, h4_, h5_, h6_, h7_, h8_, h9_, h10_, h11_, h12_, h13_, h14_⟩
      have A7 : Z (Kd.R (Kd.int .i64) 3 AC w.heap.size (fun _ => True) An Ag) := ⟨h0_⟩
      have Ae : Z (AC.heap[A8]? = some (.cells #[.int .i64 0, .int .i64 0, .int .i64 0] 27 (0, 0))) := ⟨h2_⟩
      have Af : Z (AC.heap[A9]? = some (.cells #[.int .i64 0, .int .i64 0, .slice none 0 0] 32 (0, 0))) := ⟨h3_⟩
      have Aj : Z (w.heap.size ≤ A8) := ⟨h4_⟩
      have Ah : Z (w.heap.size ≤ A8) := ⟨h5_⟩
      have A2 : Z (A1 ≠ A8) := ⟨h6_⟩
      have Aa : Z (A8 ≠ A1) := ⟨h7_⟩
      have Ad : Z (A9 ≠ A8) := ⟨h8_⟩
      have Ac : Z (A8 ≠ A9) := ⟨h9_⟩
      have Ak : Z (w.heap.size ≤ A9) := ⟨h10_⟩
      have Ai : Z (w.heap.size ≤ A9) := ⟨h11_⟩
      have A4 : Z (A1 ≠ A9) := ⟨h12_⟩
      have Ab : Z (A9 ≠ A1) := ⟨h13_⟩
      replace A0 : Z (AC.heap[A1]? = some (.cells #[.int .i64 a0_0, .int .i64 a0_1, .slice A0_2 l0_2.length c0_2] 32 (0, 0))) := ⟨h1_⟩
      replace HB : Z (Below w.heap.size w AC) := ⟨h14_⟩
      clear h0_ h1_ h2_ h3_ h4_ h5_ h6_ h7_ h8_ h9_ h10_ h11_ h12_ h13_ h14_
      have hHeld : AC.cell? ⟨A1, 0, none⟩ = some (.int .i64 a0_0) ∧ AC.cell? ⟨A1, 1, none⟩ = some (.int .i64 a0_1) ∧ AC.cell? ⟨A1, 2, none⟩ = some (.slice A0_2 l0_2.length c0_2) := hS_
      obtain ⟨AN, AP, AR⟩ := Kd.R_slice A7.o
      (first | subst AR | (injection AR with f1_ f2_ f3_; have f4_ := f1_.symm; have f5_ := f3_.symm; clear f1_ f2_ f3_; subst f4_; subst f5_))
      refine norm_ (a' := ?_) ?_ ?_
      rotate_left
      ·simp only [putAll, Act.put, q1, q2, q3]
       rfl
      refine one_ (i := 4) (N := some 18) #[true, true, true, true, true, false, false, false, false, true, true, false, false, false] rfl rfl (one_of HT_.o (by kernel_rfl)) (by decide) (fun K hK => ?_)
      refine goes_ Try.func63 (by kernel_rfl) rfl #[.agg #[.int .i64 a0_0, .int .i64 a0_1, .slice A0_2 l0_2.length c0_2], .slice AN Ag.length AP, .int .i64 a1] (by rfl) rfl rfl (by (try simp only [List.map_toArray, List.map_cons, List.map_nil]); first | done | rfl | (simp only [List.length_drop, List.length_take]; rfl)) ?_
      with_reducible refine (spec_flGo.calls k a0_0 a0_1 _ _ l0_2 _ _ Ag a1 Aq Ar As At Au Ay Az _ ?side1 ?side2 ?side3 ?side4 A6.o).mono ?_
      (case side1 => repeat (first | exact (Kd.C_below Aw.o HB.o) | (with_reducible refine Kd.C_alloc ?_ _) | (with_reducible refine Kd.C_drewN ?_ _) | (with_reducible refine Kd.C_drew ?_)))
      (case side2 => exact Av.o)
      (case side3 => repeat (first | exact (Kd.RrZ A7.o).2.2 | (with_reducible refine Kd.C_alloc ?_ _) | (with_reducible refine Kd.C_drewN ?_ _) | (with_reducible refine Kd.C_drew ?_)))
      (case side4 => exact (Kd.RrZ A7.o).2.1)
      rintro e AE ⟨Ao, Ap, rfl, AA, AJ, hb⟩
      refine ⟨_, rfl, ?_⟩
      have Al := Z.m (Kd.R_lower AA (below_size (vB HB)))
      have Am := Z.m (Kd.S_lower (Kd.S_new' AJ (Kd.R_lt (vR A7))) (below_size (vB HB)))
      replace A7 := Z.m (Kd.Rb (vR A7) hb)
      replace A0 := kB A0 hb
      replace Ae := kB Ae hb
      replace Af := kB Af hb
      replace HB := bB HB hb
      (try clear hb); (try clear AA); (try clear AJ)
      refine hK.out _ _ ⟨(ql A0.o 0).trans rfl, (ql A0.o 1).trans rfl, (ql A0.o 2).trans rfl⟩ (fun hHeld => ?_)
      clear hK K
      refine norm_ (a' := ?_) ?_ ?_
      rotate_left
      ·show Act.put _ (some 18) _ = _
       simp only [Act.put, q1, q2, q3, i64_w, i32_w]
       rfl
      refine pure_ (i := 5) (N := some 13) (v := ?_) (a' := ?_) #[true, true, true, true, true, true, false, false, false, true, true, false, false, false] rfl rfl (any_of HT_.o (by kernel_rfl)) (fun _ _ _ h => h) (Or.inl ⟨by rfl, ?_⟩) ?_ ?_
      rotate_left
      ·intro w'
       go_simp
       with_reducible rfl
      rotate_left
      ·simp only [Act.put, q1, q2, q3, i64_w, i32_w]
       rfl
      refine pure_ (i := 6) (N := some 19) (v := ?_) (a' := ?_) #[true, true, true, true, true, true, true, false, false, true, true, false, false, false] rfl rfl (any_of HT_.o (by kernel_rfl)) (fun _ _ _ h => h) (Or.inl ⟨by rfl, ?_⟩) ?_ ?_
      rotate_left
      ·intro w'
       go_simp
       with_reducible rfl
      rotate_left
      ·simp only [Act.put, q1, q2, q3, i64_w, i32_w]
       rfl
      refine pure_ (i := 7) (N := some 20) (v := ?_) (a' := ?_) #[true, true, true, true, true, true, true, true, false, true, true, false, false, false] rfl rfl (any_of HT_.o (by kernel_rfl)) (fun _ _ _ h => h) (Or.inl ⟨by rfl, ?_⟩) ?_ ?_
      rotate_left
      ·intro w'
       go_simp
       with_reducible rfl
      rotate_left
      ·simp only [Act.put, q1, q2, q3, i64_w, i32_w]
       rfl
      refine pure_ (i := 8) (N := some 21) (v := ?_) (a' := ?_) #[true, true, true, true, true, true, true, true, true, true, true, false, false, false] rfl rfl (any_of HT_.o (by kernel_rfl)) (fun _ _ _ h => h) (Or.inl ⟨by rfl, ?_⟩) ?_ ?_
      rotate_left
      ·intro w'
       go_simp
       with_reducible rfl
      rotate_left
      ·simp only [Act.put, q1, q2, q3, i64_w, i32_w]
       rfl
      exact norm_ (by first | (simp only [putAll, Act.put, q1, q2, q3]; done) | (simp only [putAll, Act.put, q1, q2, q3]; rfl)) (hJ2_4_9_10 (.slice AN Ag.length AP, Ao, Ap, A8, A9) _ ⟨hHeld, (vR A7), (vR Al), (by (with_reducible repeat (first | apply Kd.S_alloc | apply Kd.S_drewN | apply Kd.S_drew)); exact Kd.S_mono Am.o (fun _ hk => hk.2)), (vK A0), (vK Ae), (vK Af), Aj.o, Ah.o, A2.o, Aa.o, Ad.o, Ac.o, Ak.o, Ai.o, A4.o, Ab.o, (vB HB)⟩)
    ·skip
     rintro ⟨An, Ao, Ap, A9⟩ AB ⟨hS_, h0_, h1_, h2_, h3_, h4_, h5_, h6_, h7_, h8_, h9_⟩
     have A7 : Z (Kd.R (Kd.int .i64) 3 AB w.heap.size (fun _ => True) An Ag) := ⟨h0_⟩
     have Al : Z (Kd.R k89 89 AB w.heap.size (fun _ => True) Ao Ay) := ⟨h1_⟩
     have Am : Z (Kd.S (Kd.slice 3 (Kd.int .i64)) 43 AB w.heap.size (fun k_ => some k_ ≠ (An : Value).ownBlock) Ap Az) := ⟨h2_⟩
     have Af : Z (AB.heap[A9]? = some (.cells #[.int .i64 0, .int .i64 0, .slice none 0 0] 32 (0, 0))) := ⟨h4_⟩
     have Ak : Z (w.heap.size ≤ A9) := ⟨h5_⟩
     have Ai : Z (w.heap.size ≤ A9) := ⟨h6_⟩
     have A4 : Z (A1 ≠ A9) := ⟨h7_⟩
     have Ab : Z (A9 ≠ A1) := ⟨h8_⟩
     replace A0 : Z (AB.heap[A1]? = some (.cells #[.int .i64 a0_0, .int .i64 a0_1, .slice A0_2 l0_2.length c0_2] 32 (0, 0))) := ⟨h3_⟩
     replace HB : Z (Below w.heap.size w AB) := ⟨h9_⟩
     clear h0_ h1_ h2_ h3_ h4_ h5_ h6_ h7_ h8_ h9_
     have hHeld : AB.cell? ⟨A1, 0, none⟩ = some (.int .i64 a0_0) ∧ AB.cell? ⟨A1, 1, none⟩ = some (.int .i64 a0_1) ∧ AB.cell? ⟨A1, 2, none⟩ = some (.slice A0_2 l0_2.length c0_2) := hS_
     refine norm_ (a' := ?_) ?_ ?_
     rotate_left
     ·simp only [putAll, Act.put, q1, q2, q3]
      rfl
     refine one_ (i := 9) (N := some 6) #[true, true, true, true, true, true, true, true, true, true, true, false, false, false] rfl rfl (one_of HT_.o (by kernel_rfl)) (by decide) (fun K hK => ?_)
     refine box_step ?hg (N := 6) ?hd (cs := #[.int .i64 0, .int .i64 0, .int .i64 0]) (t := 27) ?hr ?_; (case hd => rfl); (case hg => rfl); (case hr => first | (go_simp; done) | (go_simp; rfl))
     intro A8 hg AE hbox hb
     have Ae := Z.m (hbox)
     have Aj := gW (w := w) HB hg
     have Ah := gW (w := w) HB hg
     have A2 := neL A0 hg
     have Aa := neG A0 hg
     have Ad := neL Af hg
     have Ac := neG Af hg
     replace A7 := Z.m (Kd.Rb (vR A7) hb)
     replace Al := Z.m (Kd.Rb (vR Al) hb)
     replace Am := Z.m (Kd.S_below (vS Am) hb)
     replace A0 := kB A0 hb
     replace Af := kB Af hb
     replace HB := bB HB hb
     clear hb hbox hg
     refine hK.out _ _ ⟨(ql A0.o 0).trans rfl, (ql A0.o 1).trans rfl, (ql A0.o 2).trans rfl⟩ (fun hHeld => ?_)
     clear hK K
     refine norm_ (a' := ?_) ?_ ?_
     rotate_left
     ·show Act.put _ (some 6) _ = _
      simp only [Act.put, q1, q2, q3, i64_w, i32_w]
      rfl
     exact norm_ (by first | (simp only [putAll, Act.put, q1, q2, q3]; done) | (simp only [putAll, Act.put, q1, q2, q3]; rfl)) (hJ2_4_9_10 (An, Ao, Ap, A8, A9) _ ⟨hHeld, (vR A7), (vR Al), (vS Am), (vK A0), (vK Ae), (vK Af), Aj.o, Ah.o, A2.o, Aa.o, Ad.o, Ac.o, Ak.o, Ai.o, A4.o, Ab.o, (vB HB)⟩)
   ·skip
    rintro ⟨An, Ao, Ap, A8⟩ AB ⟨hS_, h0_, h1_, h2_, h3_, h4_, h5_, h6_, h7_, h8_, h9_⟩
    have A7 : Z (Kd.R (Kd.int .i64) 3 AB w.heap.size (fun _ => True) An Ag) := ⟨h0_⟩
    have Al : Z (Kd.R k89 89 AB w.heap.size (fun _ => True) Ao Ay) := ⟨h1_⟩
    have Am : Z (Kd.S (Kd.slice 3 (Kd.int .i64)) 43 AB w.heap.size (fun k_ => some k_ ≠ (An : Value).ownBlock) Ap Az) := ⟨h2_⟩
    have Ae : Z (AB.heap[A8]? = some (.cells #[.int .i64 0, .int .i64 0, .int .i64 0] 27 (0, 0))) := ⟨h4_⟩
    have Aj : Z (w.heap.size ≤ A8) := ⟨h5_⟩
    have Ah : Z (w.heap.size ≤ A8) := ⟨h6_⟩
    have A2 : Z (A1 ≠ A8) := ⟨h7_⟩
    have Aa : Z (A8 ≠ A1) := ⟨h8_⟩
    replace A0 : Z (AB.heap[A1]? = some (.cells #[.int .i64 a0_0, .int .i64 a0_1, .slice A0_2 l0_2.length c0_2] 32 (0, 0))) := ⟨h3_⟩
    replace HB : Z (Below w.heap.size w AB) := ⟨h9_⟩
    clear h0_ h1_ h2_ h3_ h4_ h5_ h6_ h7_ h8_ h9_
    have hHeld : AB.cell? ⟨A1, 0, none⟩ = some (.int .i64 a0_0) ∧ AB.cell? ⟨A1, 1, none⟩ = some (.int .i64 a0_1) ∧ AB.cell? ⟨A1, 2, none⟩ = some (.slice A0_2 l0_2.length c0_2) := hS_
    refine norm_ (a' := ?_) ?_ ?_
    rotate_left
    ·simp only [putAll, Act.put, q1, q2, q3]
     rfl
    refine one_ (i := 10) (N := some 7) #[true, true, true, true, true, true, true, true, true, true, true, false, false, false] rfl rfl (one_of HT_.o (by kernel_rfl)) (by decide) (fun K hK => ?_)
    refine box_step ?hg (N := 7) ?hd (cs := #[.int .i64 0, .int .i64 0, .slice none 0 0]) (t := 32) ?hr ?_; (case hd => rfl); (case hg => rfl); (case hr => first | (go_simp; done) | (go_simp; rfl))
    intro A9 hg AE hbox hb
    have Af := Z.m (hbox)
    have Ak := gW (w := w) HB hg
    have Ai := gW (w := w) HB hg
    have A4 := neL A0 hg
    have Ab := neG A0 hg
    have Ac := neL Ae hg
    have Ad := neG Ae hg
    replace A7 := Z.m (Kd.Rb (vR A7) hb)
    replace Al := Z.m (Kd.Rb (vR Al) hb)
    replace Am := Z.m (Kd.S_below (vS Am) hb)
    replace A0 := kB A0 hb
    replace Ae := kB Ae hb
    replace HB := bB HB hb
    clear hb hbox hg
    refine hK.out _ _ ⟨(ql A0.o 0).trans rfl, (ql A0.o 1).trans rfl, (ql A0.o 2).trans rfl⟩ (fun hHeld => ?_)
    clear hK K
    refine norm_ (a' := ?_) ?_ ?_
    rotate_left
    ·show Act.put _ (some 7) _ = _
     simp only [Act.put, q1, q2, q3, i64_w, i32_w]
     rfl
    exact norm_ (by first | (simp only [putAll, Act.put, q1, q2, q3]; done) | (simp only [putAll, Act.put, q1, q2, q3]; rfl)) (hJ2_4_9_10 (An, Ao, Ap, A8, A9) _ ⟨hHeld, (vR A7), (vR Al), (vS Am), (vK A0), (vK Ae), (vK Af), Aj.o, Ah.o, A2.o, Aa.o, Ad.o, Ac.o, Ak.o, Ai.o, A4.o, Ab.o, (vB HB)⟩)
  rintro ⟨An, Ao, Ap, A8, A9⟩ AE ⟨hS_, h0_, h1_, h2_, h3_, h4_, h5_, h6_, h7_, h8_, h9_, h10_, h11_, h12_, h13_, h14_, h15_, h16_⟩
  have A7 : Z (Kd.R (Kd.int .i64) 3 AE w.heap.size (fun _ => True) An Ag) := ⟨h0_⟩
  have Al : Z (Kd.R k89 89 AE w.heap.size (fun _ => True) Ao Ay) := ⟨h1_⟩
  have Am : Z (Kd.S (Kd.slice 3 (Kd.int .i64)) 43 AE w.heap.size (fun k_ => some k_ ≠ (An : Value).ownBlock) Ap Az) := ⟨h2_⟩
  have Ae : Z (AE.heap[A8]? = some (.cells #[.int .i64 0, .int .i64 0, .int .i64 0] 27 (0, 0))) := ⟨h4_⟩
  have Af : Z (AE.heap[A9]? = some (.cells #[.int .i64 0, .int .i64 0, .slice none 0 0] 32 (0, 0))) := ⟨h5_⟩
  have Aj : Z (w.heap.size ≤ A8) := ⟨h6_⟩
  have Ah : Z (w.heap.size ≤ A8) := ⟨h7_⟩
  have A2 : Z (A1 ≠ A8) := ⟨h8_⟩
  have Aa : Z (A8 ≠ A1) := ⟨h9_⟩
  have Ad : Z (A9 ≠ A8) := ⟨h10_⟩
  have Ac : Z (A8 ≠ A9) := ⟨h11_⟩
  have Ak : Z (w.heap.size ≤ A9) := ⟨h12_⟩
  have Ai : Z (w.heap.size ≤ A9) := ⟨h13_⟩
  have A4 : Z (A1 ≠ A9) := ⟨h14_⟩
  have Ab : Z (A9 ≠ A1) := ⟨h15_⟩
  replace A0 : Z (AE.heap[A1]? = some (.cells #[.int .i64 a0_0, .int .i64 a0_1, .slice A0_2 l0_2.length c0_2] 32 (0, 0))) := ⟨h3_⟩
  replace HB : Z (Below w.heap.size w AE) := ⟨h16_⟩
  clear h0_ h1_ h2_ h3_ h4_ h5_ h6_ h7_ h8_ h9_ h10_ h11_ h12_ h13_ h14_ h15_ h16_
  have hHeld : AE.cell? ⟨A1, 0, none⟩ = some (.int .i64 a0_0) ∧ AE.cell? ⟨A1, 1, none⟩ = some (.int .i64 a0_1) ∧ AE.cell? ⟨A1, 2, none⟩ = some (.slice A0_2 l0_2.length c0_2) := hS_
  obtain ⟨Bu, Bv, AS⟩ := Kd.R_slice Al.o
  (first | subst AS | (injection AS with f1_ f2_ f3_; have f4_ := f1_.symm; have f5_ := f3_.symm; clear f1_ f2_ f3_; subst f4_; subst f5_))
  refine norm_ (a' := ?_) ?_ ?_
  rotate_left
  ·simp only [putAll, Act.put, q1, q2, q3]
   rfl
  refine one_ (i := 11) (N := none) #[true, true, true, true, true, true, true, true, true, true, true, true, false, false] rfl rfl (one_of HT_.o (by kernel_rfl)) (by decide) (fun K hK => ?_)
  have BH : AE.cell? ⟨A8, 0, none⟩ = some (.int .i64 0) := (ql Ae.o 0).trans rfl
  have hfs17 := qz Ae.o 0
  have Bi := A2.o
  have Bj := Ad.o
  have AZ := Aa.o
  have B0 := Ac.o
  have BI : AE.cell? ⟨A8, 1, none⟩ = some (.int .i64 0) := (ql Ae.o 1).trans rfl
  have hfs18 := qz Ae.o 1
  have Bk := A2.o
  have Bl := Ad.o
  have B2 := Aa.o
  have B7 := Ac.o
  have BJ : AE.cell? ⟨A8, 2, none⟩ = some (.int .i64 0) := (ql Ae.o 2).trans rfl
  have hfs19 := qz Ae.o 2
  have Bm := A2.o
  have Bn := Ad.o
  have Ba := Aa.o
  have Bb := Ac.o
  refine skip_ (w1 := ?_) ?hwx ?hnx ?_ ?_; (case hwx => rfl); (case hnx => rfl)
  rotate_left
  ·go_simp
   rfl
  refine hK.out _ _ ⟨(cx A2.o ((cx A2.o ((cx A2.o (hHeld.1)))))), (cx A2.o ((cx A2.o ((cx A2.o (hHeld.2.1)))))), (cx A2.o ((cx A2.o ((cx A2.o (hHeld.2.2))))))⟩ (fun hHeld => ?_)
  clear hK K
  refine one_ (i := 12) (N := none) #[true, true, true, true, true, true, true, true, true, true, true, true, true, false] rfl rfl (one_of HT_.o (by kernel_rfl)) (by decide) (fun K hK => ?_)
  have BK : AE.cell? ⟨A9, 0, none⟩ = some (.int .i64 0) := (ql Af.o 0).trans rfl
  have hfs20 := qz Af.o 0
  have Bo := A4.o
  have Bp := Ac.o
  have Bc := Ab.o
  have Bd := Ad.o
  have BL : AE.cell? ⟨A9, 1, none⟩ = some (.int .i64 0) := (ql Af.o 1).trans rfl
  have hfs21 := qz Af.o 1
  have Bq := A4.o
  have Br := Ac.o
  have Be := Ab.o
  have Bf := Ad.o
  have BM : AE.cell? ⟨A9, 2, none⟩ = some (.slice none 0 0) := (ql Af.o 2).trans rfl
  have hfs23 := qz Af.o 2
  have Bs := A4.o
  have Bt := Ac.o
  have Bg := Ab.o
  have Bh := Ad.o
  refine skip_ (w1 := ?_) ?hwx ?hnx ?_ ?_; (case hwx => rfl); (case hnx => rfl)
  rotate_left
  ·go_simp
   rfl
  refine hK.out _ _ ⟨(cx A4.o ((cx A4.o ((cx A4.o (hHeld.1)))))), (cx A4.o ((cx A4.o ((cx A4.o (hHeld.2.1)))))), (cx A4.o ((cx A4.o ((cx A4.o (hHeld.2.2))))))⟩ (fun hHeld => ?_)
  clear hK K
  refine pure_ (i := 13) (N := some 8) (v := ?_) (a' := ?_) #[true, true, true, true, true, true, true, true, true, true, true, true, true, true] rfl rfl (any_of HT_.o (by kernel_rfl)) (fun _ _ _ h => h) (Or.inl ⟨by rfl, ?_⟩) ?_ ?_
  rotate_left
  ·intro w'
   go_simp
   with_reducible rfl
  rotate_left
  ·simp only [Act.put, q1, q2, q3, i64_w, i32_w]
   rfl
  refine done_ (done_of HT_.o (by kernel_rfl)) ?_
  try go_wp2
  go_ret2
  exact ⟨_, by first | rfl | (simp [eN, eS] <;> rfl) | (simp [*, eN, eS] <;> rfl), by (with_reducible repeat (first | apply Kd.S_alloc | apply Kd.S_drewN | apply Kd.S_drew)); exact Kd.S_mono (Kd.S_far (p := ⟨A9, 2, none⟩) (Kd.S_far (p := ⟨A9, 1, none⟩) (Kd.S_far (p := ⟨A9, 0, none⟩) (Kd.S_far (p := ⟨A8, 2, none⟩) (Kd.S_far (p := ⟨A8, 1, none⟩) (Kd.S_far (p := ⟨A8, 0, none⟩) (Kd.S_types (Kd.S_types Am.o Ae.o (by decide)) Af.o (by decide)) (fun _ hk => hk.1.2) (.int .i64 Aq)) (fun _ hk => hk.1.2) (.int .i64 Ar)) (fun _ hk => hk.1.2) (.int .i64 As)) (fun _ hk => hk.2) (.int .i64 At)) (fun _ hk => hk.2) (.int .i64 Au)) (fun _ hk => hk.2) (.slice Bu Ay.length Bv)) (fun _ hk => trivial), vB HB⟩
 ·replace c4 := Bool.eq_false_iff.mpr c4
  subst c4
  have H1 : (some (([] : List (List Int)), false)) = some (r1, r2) := by rw [if_neg (show ¬ (false = true) by decide)] at H; exact H
  clear H
  have H := H1
  clear H1
  simp only [Option.some.injEq, Prod.mk.injEq] at H
  obtain ⟨rfl, rfl⟩ := H
  go_enter Try.func35, Try.ntmps35
  go_wp2_with (first | ((with_reducible refine gq (N := 2) rfl ?_); refine be (N := 2) (cs := #[.int .i64 a0_0, .int .i64 a0_1, .slice A0_2 l0_2.length c0_2]) (t := 32) ?_; intro A1 hg BQ hbox hb; have A0 := Z.m (hbox); have AH := gW (w := w) HB hg; have AO := AH; replace HB := bB HB hb; clear hb hbox hg; have AT := bc0 A0; have AU := bc1 A0; have AV := bc2 A0; have AW := qz A0.o 0; have AX := qz A0.o 1; have AY := qz A0.o 2) | ((with_reducible refine gc (f := 50) rfl ?_); refine gA (some 11) _ #[.agg #[.int .i64 a0_0, .int .i64 a0_1, .slice A0_2 l0_2.length c0_2], .int .i64 a1] ?_ Try.func50; (with_reducible refine (spec_flHas.calls k a0_0 a0_1 _ _ l0_2 a1 false _ ?side1 ?side2 A3.o).mono ?_); (case side1 => repeat (first | exact (Kd.C_below Aw.o HB.o) | (with_reducible refine Kd.C_alloc ?_ _) | (with_reducible refine Kd.C_drewN ?_ _) | (with_reducible refine Kd.C_drew ?_))); (case side2 => exact Av.o); rintro e BR ⟨rfl, hb⟩; refine ⟨_, rfl, ?_⟩; replace A0 := kB A0 hb; replace HB := bB HB hb; (try clear hb); (try clear BG); (try clear hk); (try clear hi)))
  go_ret2
  exact ⟨_, by first | rfl | (simp [eN, eS] <;> rfl) | (simp [*, eN, eS] <;> rfl), by first | exact Kd.S_nil _ _ _ _ _ | exact Kd.N_nil _ _ _ _ _ | exact Kd.V_nil _ _ _ _ _ | exact Kd.Q_nil _ _ _ _ _ | exact Kd.R_nil _ _ _ _ _, vB HB⟩

end Go.Proofs.Ytoklfgjemfojgaa.PAll
