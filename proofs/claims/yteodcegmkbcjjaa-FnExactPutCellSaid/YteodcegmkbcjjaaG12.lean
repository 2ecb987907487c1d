/- Began as a text that print.sh wrote (of the functions named below); turned and shortened by this session. -/
import Derived.Test.YteodcegmkbcjjaaG0
import Derived.Test.YteodcegmkbcjjaaG1
import Derived.Test.YteodcegmkbcjjaaG2
import Derived.Test.YteodcegmkbcjjaaG4
namespace Go.Proofs.Yteodcegmkbcjjaa.PAll
open Go.RowKit Go.Proofs.YteodcegmkbcjjaaW.PrintWords Go.Proofs.YteodcegmkbcjjaaW.PrintLast Go.Proofs.YteodcegmkbcjjaaW.PrintMore
attribute [local go_sem] max2_int min2_int max_two min_two max_three min_three max_four min_four   -- for this text's walks alone
set_option linter.unusedVariables false
set_option linter.unusedSimpArgs false

/-! ### spec_boHas: function 57 -/
def spec_boHas.f (k : Nat) (a0_0 : Int) (a0_1 : Int) (l0_2 : List (S34)) (a1 : Int) (a2 : Int) : Option (Bool) := (spec_boGood.f k a0_0 a0_1 l0_2).bind fun t358 => (if t358 = true then ((spec_l1In.f a1 0 (wrap64 (a0_0 - 1))).bind fun t359 => (if t359 = true then ((spec_l1In.f a2 0 (wrap64 (a0_1 - 1))).bind fun t360 => (some t360)) else (some false))) else (some false))
set_option maxHeartbeats 8000000 in
set_option maxRecDepth 100000 in
theorem spec_boHas.calls (k : Nat) (a0_0 : Int) (a0_1 : Int) (A0_2 : Option Addr) (c0_2 : Nat) (l0_2 : List (S34)) (a1 : Int) (a2 : Int) (r : Bool) (w : World) (hr0_2 : Kd.C k34 w A0_2 l0_2.length l0_2) (hc0_2 : l0_2.length ≤ c0_2) (h : spec_boHas.f k a0_0 a0_1 l0_2 a1 a2 = some r) :
 Calls Try.prog 57 #[.agg #[.int .i64 a0_0, .int .i64 a0_1, .slice A0_2 l0_2.length c0_2], .int .i64 a1, .int .i64 a2] w fun e w' => e = .returned (.bool r) ∧ Below w.heap.size w w' := by
 have AK := Try.underlying29
 have A7 := Z.m hr0_2
 have A5 := Z.m hc0_2
 clear hr0_2 hc0_2
 have HB := Z.m (Below.refl w.heap.size w)
 have H : ((spec_boGood.f k a0_0 a0_1 l0_2).bind fun A9 => (if A9 = true then ((spec_l1In.f a1 0 (wrap64 (a0_0 - 1))).bind fun A3 => (if A3 = true then ((spec_l1In.f a2 0 (wrap64 (a0_1 - 1))).bind fun A1 => (some A1)) else (some false))) else (some false))) = some r := h
 clear h
 replace H := Option.bind_eq_some_iff.mp H
 obtain ⟨A9, AG, H⟩ := H
 replace H : (if A9 = true then ((spec_l1In.f a1 0 (wrap64 (a0_0 - 1))).bind fun A3 => (if A3 = true then ((spec_l1In.f a2 0 (wrap64 (a0_1 - 1))).bind fun A1 => (some A1)) else (some false))) else (some false)) = some r := H
 have A4 := Z.m AG
 clear AG
 by_cases c5 : A9 = true
 ·subst c5
  have H1 : ((spec_l1In.f a1 0 (wrap64 (a0_0 - 1))).bind fun A3 => (if A3 = true then ((spec_l1In.f a2 0 (wrap64 (a0_1 - 1))).bind fun A1 => (some A1)) else (some false))) = some r := by rw [if_pos rfl] at H; exact H
  clear H
  have H := H1
  clear H1
  replace H := Option.bind_eq_some_iff.mp H
  obtain ⟨A3, AH, H⟩ := H
  replace H : (if A3 = true then ((spec_l1In.f a2 0 (wrap64 (a0_1 - 1))).bind fun A1 => (some A1)) else (some false)) = some r := H
  have A6 := Z.m AH
  clear AH
  by_cases c7 : A3 = true
  ·subst c7
   have H1 : ((spec_l1In.f a2 0 (wrap64 (a0_1 - 1))).bind fun A1 => (some A1)) = some r := by rw [if_pos rfl] at H; exact H
   clear H
   have H := H1
   clear H1
   replace H := Option.bind_eq_some_iff.mp H
   obtain ⟨A1, AI, H⟩ := H
   replace H : (some A1) = some r := H
   have A8 := Z.m AI
   clear AI
   obtain rfl := Option.some.inj H
   go_enter Try.func57, Try.ntmps57
   go_wp2_with (first | ((with_reducible refine gq (N := 3) rfl ?_); refine be (N := 3) (cs := #[.int .i64 a0_0, .int .i64 a0_1, .slice A0_2 l0_2.length c0_2]) (t := 29) ?_; intro Ab hg w9 hbox hb; have A0 := Z.m (hbox); have A2 := gW (w := w) HB hg; have Aa := A2; replace HB := bB HB hb; clear hb hbox hg; have Ac := bc0 A0; have Ad := bc1 A0; have Ae := bc2 A0; have Ar := qz A0.o 0; have As := qz A0.o 1; have At := qz A0.o 2) | ((with_reducible refine gc (f := 53) rfl ?_); refine gA (some 8) _ #[.agg #[.int .i64 a0_0, .int .i64 a0_1, .slice A0_2 l0_2.length c0_2]] ?_ Try.func53; (with_reducible refine (spec_boGood.calls k a0_0 a0_1 _ _ l0_2 true _ ?side1 ?side2 A4.o).mono ?_); (case side1 => repeat (first | exact (Kd.C_below A7.o HB.o) | (with_reducible refine Kd.C_alloc ?_ _) | (with_reducible refine Kd.C_drewN ?_ _) | (with_reducible refine Kd.C_drew ?_))); (case side2 => exact A5.o); rintro e AL ⟨rfl, hb⟩; refine ⟨_, rfl, ?_⟩; replace A0 := kB A0 hb; replace HB := bB HB hb; (try clear hb); (try clear AJ); (try clear hk); (try clear hi); have Af := bc0 A0; have Ag := bc1 A0; have Ah := bc2 A0; have Au := qz A0.o 0; have Av := qz A0.o 1; have Aw := qz A0.o 2) | (go_at_call 60; (with_reducible refine (spec_l1In.calls a1 0 (wrap64 (a0_0 - 1)) true _ A6.o).mono ?_); rintro e w' ⟨rfl, ⟨nd, rfl⟩⟩) | (go_at_call 60; (with_reducible refine (spec_l1In.calls a2 0 (wrap64 (a0_1 - 1)) A1 _ A8.o).mono ?_); rintro e w' ⟨rfl, ⟨nd, rfl⟩⟩))
   go_ret
   exact ⟨by first | rfl | (simp [eN, eS] <;> rfl) | (simp [*, eN, eS] <;> rfl), vB HB⟩
  ·replace c7 := Bool.eq_false_iff.mpr c7
   subst c7
   have H1 : (some false) = some r := by rw [if_neg (show ¬ (false = true) by decide)] at H; exact H
   clear H
   have H := H1
   clear H1
   obtain rfl := Option.some.inj H
   go_enter Try.func57, Try.ntmps57
   go_wp2_with (first | ((with_reducible refine gq (N := 3) rfl ?_); refine be (N := 3) (cs := #[.int .i64 a0_0, .int .i64 a0_1, .slice A0_2 l0_2.length c0_2]) (t := 29) ?_; intro Ab hg AM hbox hb; have A0 := Z.m (hbox); have A2 := gW (w := w) HB hg; have Aa := A2; replace HB := bB HB hb; clear hb hbox hg; have Ai := bc0 A0; have Aj := bc1 A0; have Ak := bc2 A0; have Ax := qz A0.o 0; have Ay := qz A0.o 1; have Az := qz A0.o 2) | ((with_reducible refine gc (f := 53) rfl ?_); refine gA (some 8) _ #[.agg #[.int .i64 a0_0, .int .i64 a0_1, .slice A0_2 l0_2.length c0_2]] ?_ Try.func53; (with_reducible refine (spec_boGood.calls k a0_0 a0_1 _ _ l0_2 true _ ?side1 ?side2 A4.o).mono ?_); (case side1 => repeat (first | exact (Kd.C_below A7.o HB.o) | (with_reducible refine Kd.C_alloc ?_ _) | (with_reducible refine Kd.C_drewN ?_ _) | (with_reducible refine Kd.C_drew ?_))); (case side2 => exact A5.o); rintro e AN ⟨rfl, hb⟩; refine ⟨_, rfl, ?_⟩; replace A0 := kB A0 hb; replace HB := bB HB hb; (try clear hb); (try clear AJ); (try clear hk); (try clear hi); have Al := bc0 A0; have Am := bc1 A0; have An := bc2 A0; have AA := qz A0.o 0; have AB := qz A0.o 1; have AC := qz A0.o 2) | (go_at_call 60; (with_reducible refine (spec_l1In.calls a1 0 (wrap64 (a0_0 - 1)) false _ A6.o).mono ?_); rintro e w' ⟨rfl, ⟨nd, rfl⟩⟩))
   go_ret
   exact ⟨by first | rfl | (simp [eN, eS] <;> rfl) | (simp [*, eN, eS] <;> rfl), vB HB⟩
 ·replace c5 := Bool.eq_false_iff.mpr c5
  subst c5
  have H1 : (some false) = some r := by rw [if_neg (show ¬ (false = true) by decide)] at H; exact H
  clear H
  have H := H1
  clear H1
  obtain rfl := Option.some.inj H
  go_enter Try.func57, Try.ntmps57
  go_wp2_with (first | ((with_reducible refine gq (N := 3) rfl ?_); refine be (N := 3) (cs := #[.int .i64 a0_0, .int .i64 a0_1, .slice A0_2 l0_2.length c0_2]) (t := 29) ?_; intro Ab hg AO hbox hb; have A0 := Z.m (hbox); have A2 := gW (w := w) HB hg; have Aa := A2; replace HB := bB HB hb; clear hb hbox hg; have Ao := bc0 A0; have Ap := bc1 A0; have Aq := bc2 A0; have AD := qz A0.o 0; have AE := qz A0.o 1; have AF := qz A0.o 2) | ((with_reducible refine gc (f := 53) rfl ?_); refine gA (some 8) _ #[.agg #[.int .i64 a0_0, .int .i64 a0_1, .slice A0_2 l0_2.length c0_2]] ?_ Try.func53; (with_reducible refine (spec_boGood.calls k a0_0 a0_1 _ _ l0_2 false _ ?side1 ?side2 A4.o).mono ?_); (case side1 => repeat (first | exact (Kd.C_below A7.o HB.o) | (with_reducible refine Kd.C_alloc ?_ _) | (with_reducible refine Kd.C_drewN ?_ _) | (with_reducible refine Kd.C_drew ?_))); (case side2 => exact A5.o); rintro e AP ⟨rfl, hb⟩; refine ⟨_, rfl, ?_⟩; replace A0 := kB A0 hb; replace HB := bB HB hb; (try clear hb); (try clear AJ); (try clear hk); (try clear hi)))
  go_ret
  exact ⟨by first | rfl | (simp [eN, eS] <;> rfl) | (simp [*, eN, eS] <;> rfl), vB HB⟩

/-! ### spec_boOwn: function 84 -/
def spec_boOwn.f (a0_0 : Int) (a0_1 : Int) (l0_2 : List (S34)) : Option (Int × Int × (List (S34))) := (some (([] : List (S34)) : List (S34))).bind fun y363 => (if y363.length + l0_2.length < 8796093022208 then (some (a0_0, a0_1, (y363 ++ l0_2))) else (none))
def spec_boOwn.T1 : Bool × List (List Nat × List Nat) := (true, [([], []), ([0], [0]), ([], []), ([2], [2]), ([], []), ([], []), ([5], [5]), ([4, 6], [4, 6]), ([1, 3, 7], [1, 3, 7]), ([8, 7, 0, 1, 2, 3, 4, 5, 6, 7, 8], [8])])
def spec_boOwn.B1 : List Nat := [0, 1, 0, 4, 0, 0, 32, 112, 255, 511]
theorem spec_boOwn.tab1 : rtab .any (opsOf Try.f84 1) = spec_boOwn.T1 := by kernel_rfl
theorem spec_boOwn.bits1 : waitsOk spec_boOwn.T1.2 spec_boOwn.B1 = true := by kernel_rfl
set_option maxHeartbeats 8000000 in
set_option maxRecDepth 100000 in
theorem spec_boOwn.calls (a0_0 : Int) (a0_1 : Int) (A0_2 : Option Addr) (c0_2 : Nat) (l0_2 : List (S34)) (r1 : Int) (r2 : Int) (r3 : List (S34)) (w : World) (hr0_2 : Kd.C k34 w A0_2 l0_2.length l0_2) (hc0_2 : l0_2.length ≤ c0_2) (h : spec_boOwn.f a0_0 a0_1 l0_2 = some (r1, r2, r3)) :
 Calls Try.prog 84 #[.agg #[.int .i64 a0_0, .int .i64 a0_1, .slice A0_2 l0_2.length c0_2]] w fun e w' => ∃ v2_ : Value, e = .returned (.agg #[.int .i64 r1, .int .i64 r2, v2_]) ∧ Kd.R k34 34 w' w.heap.size (fun _ => True) v2_ r3 ∧ Below w.heap.size w w' := by
 have Az := Try.underlying29
 have Ae := Z.m hr0_2
 have As := Z.m hc0_2
 clear hr0_2 hc0_2
 have HB := Z.m (Below.refl w.heap.size w)
 have H : ((some (([] : List (S34)) : List (S34))).bind fun A7 => (if A7.length + l0_2.length < 8796093022208 then (some (a0_0, a0_1, (A7 ++ l0_2))) else (none))) = some (r1, r2, r3) := h
 clear h
 obtain ⟨A7, A5⟩ : ∃ y_ : List (S34), y_ = (([] : List (S34))) := ⟨_, rfl⟩
 replace H : (if A7.length + l0_2.length < 8796093022208 then (some (a0_0, a0_1, (A7 ++ l0_2))) else (none)) = some (r1, r2, r3) := by first | (rw [A5]; with_reducible exact H) | (have H2_ := (Option.bind_some _ _).symm.trans H; rw [A5]; with_reducible exact H2_) | (have H2_ := (Option.bind_some _ _).symm.trans H; with_reducible exact H2_) | with_reducible exact H | (rw [A5]; exact H) | exact H
 have Ab := Z.m A5
 clear A5
 by_cases c2 : A7.length + l0_2.length < 8796093022208
 ·rw [if_pos c2] at H
  have Ao := Z.m c2
  clear c2
  obtain ⟨Ah, A6⟩ : ∃ y_ : List (S34), y_ = (A7 ++ l0_2) := ⟨_, rfl⟩
  replace H : (some (a0_0, a0_1, Ah)) = some (r1, r2, r3) := by first | (rw [A6]; with_reducible exact H) | (have H2_ := (Option.bind_some _ _).symm.trans H; rw [A6]; with_reducible exact H2_) | (have H2_ := (Option.bind_some _ _).symm.trans H; with_reducible exact H2_) | with_reducible exact H | (rw [A6]; exact H) | exact H
  have Af := Z.m A6
  clear A6
  simp only [Option.some.injEq, Prod.mk.injEq] at H
  obtain ⟨rfl, rfl, rfl⟩ := H
  go_enter Try.func84, Try.ntmps84
  try go_wp2_with (first | ((with_reducible refine gq (N := 1) rfl ?_); refine be (N := 1) (cs := #[.int .i64 a0_0, .int .i64 a0_1, .slice A0_2 l0_2.length c0_2]) (t := 29) ?_; intro A9 hg w3 hbox hb; have A1 := Z.m (hbox); have Ac := gW (w := w) HB hg; have Aq := Ac; replace HB := bB HB hb; clear hb hbox hg) | ((with_reducible refine gq (N := 2) rfl ?_); refine be (N := 2) (cs := #[.int .i64 0, .int .i64 0, .slice none 0 0]) (t := 29) ?_; intro A4 hg w4 hbox hb; have A2 := Z.m (hbox); have Ad := gW (w := w) HB hg; have Ar := Ad; have A0 := neL A1 hg; have A3 := neG A1 hg; replace A1 := kB A1 hb; replace HB := bB HB hb; clear hb hbox hg))
  replace A1 := Z.m (blk_drew A1.o)
  replace A2 := Z.m (blk_drew A2.o)
  replace HB := Z.m (qd HB.o)
  refine start_ (n := 10) (S := fun w' => w'.cell? ⟨A9, 0, none⟩ = some (.int .i64 a0_0) ∧ w'.cell? ⟨A9, 1, none⟩ = some (.int .i64 a0_1) ∧ w'.cell? ⟨A9, 2, none⟩ = some (.slice A0_2 l0_2.length c0_2)) (ds := []) #[false, false, false, false, false, false, false, false, false, false] (by kernel_rfl) rfl rfl ⟨(ql A1.o 0).trans rfl, (ql A1.o 1).trans rfl, (ql A1.o 2).trans rfl⟩ (fun hHeld => ?_); refine with_tabW spec_boOwn.tab1 spec_boOwn.bits1 (fun HT_ HW_ => ?_)
  generalize w4.drew = w5 at A1 A2 HB hHeld ⊢
  refine pure_ (i := 0) (N := some 3) (v := ?_) (a' := ?_) #[true, false, false, false, false, false, false, false, false, false] rfl rfl (any_of HT_.o (by kernel_rfl)) (fun _ _ _ h => h) (Or.inl ⟨by rfl, ?_⟩) ?_ ?_
  rotate_left
  ·intro w'
   go_simp
   with_reducible rfl
  rotate_left
  ·simp only [Act.put, q1, q2, q3, i64_w, i32_w]
   rfl
  refine pure_ (i := 2) (N := some 5) (v := ?_) (a' := ?_) #[true, false, true, false, false, false, false, false, false, false] rfl rfl (any_of HT_.o (by kernel_rfl)) (fun _ _ _ h => h) (Or.inl ⟨by rfl, ?_⟩) ?_ ?_
  rotate_left
  ·intro w'
   go_simp
   with_reducible rfl
  rotate_left
  ·simp only [Act.put, q1, q2, q3, i64_w, i32_w]
   rfl
  refine pure_ (i := 5) (N := some 8) (v := ?_) (a' := ?_) #[true, false, true, false, false, true, false, false, false, false] rfl rfl (any_of HT_.o (by kernel_rfl)) (fun _ _ _ h => h) (Or.inl ⟨by rfl, ?_⟩) ?_ ?_
  rotate_left
  ·intro w'
   go_simp
   with_reducible rfl
  rotate_left
  ·simp only [Act.put, q1, q2, q3, i64_w, i32_w]
   rfl
  refine take_ (i := 1) (N := some 4) (v := ?_) (a' := ?_) #[true, true, true, false, false, true, false, false, false, false] rfl rfl (take_ofW HT_.o HW_.o (by kernel_rfl)) (fun _ _ _ h => h) (Or.inl ⟨by rfl, ?_⟩) hHeld ?_ ?_
  rotate_left
  ·rintro w' ⟨s0, s1, s2⟩
   go_simp
   with_reducible rfl
  rotate_left
  ·simp only [Act.put, q1, q2, q3, i64_w, i32_w]
   rfl
  refine take_ (i := 3) (N := some 6) (v := ?_) (a' := ?_) #[true, true, true, true, false, true, false, false, false, false] rfl rfl (take_ofW HT_.o HW_.o (by kernel_rfl)) (fun _ _ _ h => h) (Or.inl ⟨by rfl, ?_⟩) hHeld ?_ ?_
  rotate_left
  ·rintro w' ⟨s0, s1, s2⟩
   go_simp
   with_reducible rfl
  rotate_left
  ·simp only [Act.put, q1, q2, q3, i64_w, i32_w]
   rfl
  refine take_ (i := 6) (N := some 9) (v := ?_) (a' := ?_) #[true, true, true, true, false, true, true, false, false, false] rfl rfl (take_ofW HT_.o HW_.o (by kernel_rfl)) (fun _ _ _ h => h) (Or.inl ⟨by rfl, ?_⟩) hHeld ?_ ?_
  rotate_left
  ·rintro w' ⟨s0, s1, s2⟩
   go_simp
   with_reducible rfl
  rotate_left
  ·simp only [Act.put, q1, q2, q3, i64_w, i32_w]
   rfl
  refine one_ (i := 4) (N := some 7) #[true, true, true, true, true, true, true, false, false, false] rfl rfl (one_of HT_.o (by kernel_rfl)) (by decide) (fun K hK => ?_)
  refine Kd.R_lit_step k34 _ 34 ?hg (N := 7) ?hd (xs := ([] : List (S34))) (inner := []) (ok := fun _ => True) (okp := fun _ => True) ?hr ?hp (fun _ hk => hk) trivial (Below.refl _ _) (Nat.le_refl _) (by simp) ?_; (case hd => rfl); (case hg => rfl); (case hr => first | (go_simp; done) | (go_simp; rfl)); (case hp => exact (Reps.none _ _))
  intro Ap w6 Ag hb hg_ hnew_
  clear hg_ hnew_
  (first | rw [← Ab.o] at Ag | (simp only [Int.reduceToNat] at Ag; rw [← Ab.o] at Ag))
  have A8 := Z.m (Kd.R_lower Ag (below_size (vB HB)))
  replace A1 := kB A1 hb
  replace A2 := kB A2 hb
  replace HB := bB HB hb
  clear hb Ag
  refine hK.out _ _ ⟨(ql A1.o 0).trans rfl, (ql A1.o 1).trans rfl, (ql A1.o 2).trans rfl⟩ (fun hHeld => ?_)
  clear hK K
  refine norm_ (a' := ?_) ?_ ?_
  rotate_left
  ·show Act.put _ (some 7) _ = _
   simp only [Act.put, q1, q2, q3, i64_w, i32_w]
   rfl
  refine one_ (i := 7) (N := some 10) #[true, true, true, true, true, true, true, true, false, false] rfl rfl (one_of HT_.o (by kernel_rfl)) (by decide) (fun K hK => ?_)
  refine Kd.R_append_rows_step k34 (w0 := w) w.heap.size (by rfl) (.tmp 7) (.tmp 9) 27 34 (.agg #[(.int .i64 0), (.int .i64 0)]) 16 rfl Try.underlying27 info34 rfl (by decide) (by omega) Ap A7 l0_2 _ _ _ (fun _ => True) (fun _ => False) rfl rfl ?aO ?aR (fun _ _ h => h) (fun _ h => h.elim) ?aF ?aB ?aS ?aL ?_
  (case aR => repeat (first | exact (Kd.C_below Ae.o HB.o) | (with_reducible refine Kd.C_alloc ?_ _) | (with_reducible refine Kd.C_drewN ?_ _) | (with_reducible refine Kd.C_drew ?_)))
  (case aB => exact (vB HB))
  (case aF => exact (fun _ _ => trivial))
  (case aO => exact (vR A8))
  (case aS => exact (below_size (vB HB)))
  (case aL => have := Ao.o; omega)
  intro AA w8 ho hb hg hat
  rw [← Af.o] at ho
  have Aa := Z.m (ho)
  replace A1 := Z.m (qg (g := A9) (o := .cells #[.int .i64 a0_0, .int .i64 a0_1, .slice A0_2 l0_2.length c0_2] 29 (0, 0)) (vK A1) hg (Kd.R_ne A8.o A1.o (by decide)))
  replace A2 := Z.m (qg (g := A4) (o := .cells #[.int .i64 0, .int .i64 0, .slice none 0 0] 29 (0, 0)) (vK A2) hg (Kd.R_ne A8.o A2.o (by decide)))
  replace HB := Z.m (hb)
  clear A8
  clear ho hb hg hat
  obtain ⟨Au, Av, At⟩ := Kd.R_slice Aa.o
  (first | subst At | (injection At with f1_ f2_ f3_; have f4_ := f1_.symm; have f5_ := f3_.symm; clear f1_ f2_ f3_; subst f4_; subst f5_))
  refine hK.out _ _ ⟨(ql A1.o 0).trans rfl, (ql A1.o 1).trans rfl, (ql A1.o 2).trans rfl⟩ (fun hHeld => ?_)
  clear hK K
  refine norm_ (a' := ?_) ?_ ?_
  rotate_left
  ·show Act.put _ (some 10) _ = _
   simp only [Act.put, q1, q2, q3, i64_w, i32_w]
   rfl
  refine pure_ (i := 8) (N := some 11) (v := ?_) (a' := ?_) #[true, true, true, true, true, true, true, true, true, false] rfl rfl (any_of HT_.o (by kernel_rfl)) (fun _ _ _ h => h) (Or.inl ⟨by rfl, ?_⟩) ?_ ?_
  rotate_left
  ·intro w'
   go_simp
   with_reducible rfl
  rotate_left
  ·simp only [Act.put, q1, q2, q3, i64_w, i32_w]
   rfl
  refine one_ (i := 9) (N := none) #[true, true, true, true, true, true, true, true, true, true] rfl rfl (one_of HT_.o (by kernel_rfl)) (by decide) (fun K hK => ?_)
  have Aw : w8.cell? ⟨A4, 0, none⟩ = some (.int .i64 0) := (ql A2.o 0).trans rfl
  have hfs10 := qz A2.o 0
  have Al := A0.o
  have Ai := A3.o
  have Ax : w8.cell? ⟨A4, 1, none⟩ = some (.int .i64 0) := (ql A2.o 1).trans rfl
  have hfs11 := qz A2.o 1
  have Am := A0.o
  have Aj := A3.o
  have Ay : w8.cell? ⟨A4, 2, none⟩ = some (.slice none 0 0) := (ql A2.o 2).trans rfl
  have hfs12 := qz A2.o 2
  have An := A0.o
  have Ak := A3.o
  refine skip_ (w1 := ?_) ?hwx ?hnx ?_ ?_; (case hwx => rfl); (case hnx => rfl)
  rotate_left
  ·go_simp
   rfl
  refine hK.out _ _ ⟨(cx A0.o ((cx A0.o ((cx A0.o (hHeld.1)))))), (cx A0.o ((cx A0.o ((cx A0.o (hHeld.2.1)))))), (cx A0.o ((cx A0.o ((cx A0.o (hHeld.2.2))))))⟩ (fun hHeld => ?_)
  clear hK K
  refine done_ (done_of HT_.o (by kernel_rfl)) ?_
  try go_wp2
  refine bodyPost_ret (results_cell_row rfl _ _ A4 29 #[.int .i64 a0_0, .int .i64 a0_1, .slice Au Ah.length Av] (0, 0) _ rfl (by refine bK ?_; apply st3; refine bK ?_; exact A2.o) Try.underlying29 rfl (by kernel_rfl)) rfl ?_
  exact ⟨_, by first | rfl | (simp [eN, eS] <;> rfl) | (simp [*, eN, eS] <;> rfl), by refine rK ?_; exact Kd.Rm (rf (rf (rf (Kd.Ry Aa.o A2.o (by decide))))) (fun _ hk => trivial), vB HB⟩
 ·rw [if_neg c2] at H
  exact absurd H (by simp)

/-! ### spec_boWith: function 69 -/
def spec_boWith.f (a0_0 : Int) (a0_1 : Int) (l0_2 : List (S34)) (a1 : Int) (a2_0 : Int) (a2_1 : Int) : Option (Int × Int × (List (S34))) := (spec_boOwn.f a0_0 a0_1 l0_2).bind fun bt372 => (if 0 ≤ a1 then (if a1 < (bt372.2.2.length : Int) then (some (bt372.1, bt372.2.1, (bt372.2.2.set (a1 : Int).toNat (⟨a2_0, a2_1⟩ : S34)))) else (none)) else (none))
set_option maxHeartbeats 8000000 in
set_option maxRecDepth 100000 in
theorem spec_boWith.calls (a0_0 : Int) (a0_1 : Int) (A0_2 : Option Addr) (c0_2 : Nat) (l0_2 : List (S34)) (a1 : Int) (a2_0 : Int) (a2_1 : Int) (r1 : Int) (r2 : Int) (r3 : List (S34)) (w : World) (hr0_2 : Kd.C k34 w A0_2 l0_2.length l0_2) (hc0_2 : l0_2.length ≤ c0_2) (h : spec_boWith.f a0_0 a0_1 l0_2 a1 a2_0 a2_1 = some (r1, r2, r3)) :
 Calls Try.prog 69 #[.agg #[.int .i64 a0_0, .int .i64 a0_1, .slice A0_2 l0_2.length c0_2], .int .i64 a1, .agg #[.int .i64 a2_0, .int .i64 a2_1]] w fun e w' => ∃ v2_ : Value, e = .returned (.agg #[.int .i64 r1, .int .i64 r2, v2_]) ∧ Kd.R k34 34 w' w.heap.size (fun _ => True) v2_ r3 ∧ Below w.heap.size w w' := by
 have C0 := Try.underlying29
 have C1 := Try.underlying34
 have AJ := Z.m hr0_2
 have AI := Z.m hc0_2
 clear hr0_2 hc0_2
 have HB := Z.m (Below.refl w.heap.size w)
 have H : ((spec_boOwn.f a0_0 a0_1 l0_2).bind fun bt372 => (if 0 ≤ a1 then (if a1 < (bt372.2.2.length : Int) then (some (bt372.1, bt372.2.1, (bt372.2.2.set (a1 : Int).toNat (⟨a2_0, a2_1⟩ : S34)))) else (none)) else (none))) = some (r1, r2, r3) := h
 clear h
 replace H := Option.bind_eq_some_iff.mp H
 obtain ⟨⟨Ae, Af, A6⟩, Bw, H⟩ := H
 replace H : (if 0 ≤ a1 then (if a1 < (A6.length : Int) then (some (Ae, Af, (A6.set (a1 : Int).toNat (⟨a2_0, a2_1⟩ : S34)))) else (none)) else (none)) = some (r1, r2, r3) := H
 have A4 := Z.m Bw
 clear Bw
 by_cases c5 : 0 ≤ a1
 ·rw [if_pos c5] at H
  have BX := decide_eq_true c5
  clear c5
  by_cases c6 : a1 < (A6.length : Int)
  ·rw [if_pos c6] at H
   have BY := decide_eq_true c6
   clear c6
   obtain ⟨AN, Ac⟩ : ∃ y_ : List (S34), y_ = (A6.set (a1 : Int).toNat (⟨a2_0, a2_1⟩ : S34)) := ⟨_, rfl⟩
   replace H : (some (Ae, Af, AN)) = some (r1, r2, r3) := by first | (rw [Ac]; with_reducible exact H) | (have H2_ := (Option.bind_some _ _).symm.trans H; rw [Ac]; with_reducible exact H2_) | (have H2_ := (Option.bind_some _ _).symm.trans H; with_reducible exact H2_) | with_reducible exact H | (rw [Ac]; exact H) | exact H
   have AL := Z.m Ac
   clear Ac
   simp only [Option.some.injEq, Prod.mk.injEq] at H
   obtain ⟨rfl, rfl, rfl⟩ := H
   go_enter Try.func69, Try.ntmps69
   go_wp2_with (first | ((with_reducible refine gq (N := 3) rfl ?_); refine be (N := 3) (cs := #[.int .i64 a0_0, .int .i64 a0_1, .slice A0_2 l0_2.length c0_2]) (t := 29) ?_; intro Au hg w8 hbox hb; have A0 := Z.m (hbox); have AE := gW (w := w) HB hg; have By := AE; replace HB := bB HB hb; clear hb hbox hg) | ((with_reducible refine gq (N := 5) rfl ?_); refine be (N := 5) (cs := #[.int .i64 a2_0, .int .i64 a2_1]) (t := 34) ?_; intro Aa hg w9 hbox hb; have A2 := Z.m (hbox); have AF := gW (w := w) HB hg; have Bz := AF; have Ah := neL A0 hg; have Aj := neG A0 hg; replace A0 := kB A0 hb; replace HB := bB HB hb; clear hb hbox hg) | ((with_reducible refine gq (N := 6) rfl ?_); refine be (N := 6) (cs := #[.int .i64 0, .int .i64 0, .slice none 0 0]) (t := 29) ?_; intro Ar hg C8 hbox hb; have A3 := Z.m (hbox); have AG := gW (w := w) HB hg; have BA := AG; have Ai := neL A0 hg; have Al := neG A0 hg; have Ak := neL A2 hg; have Am := neG A2 hg; replace A0 := kB A0 hb; replace A2 := kB A2 hb; replace HB := bB HB hb; clear hb hbox hg; have BI := Ah.o; have BO := Aj.o; have BJ := Ai.o; have BP := Al.o; have AO := bc0 A0; have AP := bc1 A0; have AQ := bc2 A0; have Bc := qz A0.o 0; have Bd := qz A0.o 1; have Be := qz A0.o 2) | ((with_reducible refine gc (f := 84) rfl ?_); refine gA (some 9) _ #[.agg #[.int .i64 a0_0, .int .i64 a0_1, .slice A0_2 l0_2.length c0_2]] ?_ Try.func84; (with_reducible refine (spec_boOwn.calls a0_0 a0_1 _ _ l0_2 Ae Af A6 _ ?side1 ?side2 A4.o).mono ?_); (case side1 => repeat (first | exact (Kd.C_below AJ.o HB.o) | (with_reducible refine Kd.C_alloc ?_ _) | (with_reducible refine Kd.C_drewN ?_ _) | (with_reducible refine Kd.C_drew ?_))); (case side2 => exact AI.o); rintro e C9 ⟨C2, rfl, BU, hb⟩; refine ⟨_, rfl, ?_⟩; have A5 := Z.m (Kd.R_lower (Kd.R_newB BU (g := Aa) (o := .cells #[.int .i64 a2_0, .int .i64 a2_1] 34 (0, 0)) (vK A2)) (below_size (vB HB))); replace A0 := kB A0 hb; replace A2 := kB A2 hb; replace A3 := kB A3 hb; replace HB := bB HB hb; (try clear hb); (try clear C7); (try clear hk); (try clear hi); (try clear BU)) | ((with_reducible refine gq (N := 7) rfl ?_); refine be (N := 7) (cs := #[.int .i64 0, .int .i64 0, .slice none 0 0]) (t := 29) ?_; intro Ab hg C3 hbox hb; have A1 := Z.m (hbox); have AH := gW (w := w) HB hg; have BB := AH; have A7 := neL A0 hg; have An := neG A0 hg; have A8 := neL A2 hg; have Ao := neG A2 hg; have A9 := neL A3 hg; have Ap := neG A3 hg; replace A5 := Z.m (Kd.Rb (vR A5) hb); replace A0 := kB A0 hb; replace A2 := kB A2 hb; replace A3 := kB A3 hb; replace HB := bB HB hb; clear hb hbox hg; have BK := An.o; have BQ := A7.o; have BL := Ao.o; have BR := A8.o; have BM := Ap.o; have BS := A9.o; have AR := bc0 A1; have AS := bc1 A1; have AT := bc2 A1; have Bf := qz A1.o 0; have Bg := qz A1.o 1; have Bh := qz A1.o 2; obtain ⟨Aw, Ad, Bt⟩ := Kd.R_slice A5.o; subst Bt) | ((with_reducible refine gt (t := 29) (p := 7) rfl ?_); refine store_event (t := 29) (p := 7) (v := ?vo_w21) (w1 := (((C3.setCell ⟨Ab, 0, none⟩ (.int .i64 Ae)).setCell ⟨Ab, 1, none⟩ (.int .i64 Af)).setCell ⟨Ab, 2, none⟩ (.slice Aw A6.length Ad))) ?hg ?ho ?hn ?hr ?_; (case ho => rfl); (case hg => rfl); (case hn => rfl); (case hr => first | (go_simp; done) | (go_simp; rfl)); intro Aq hw; replace A5 : Z (Kd.R k34 34 Aq w.heap.size (fun k_ => k_ ≠ Aa) (.slice Aw A6.length Ad) A6) := ⟨(by rw [hw]; exact (by refine rK ?_; exact Kd.Rm (rf (rf (rf (Kd.Ry A5.o A1.o (by decide))))) (fun _ hk => hk.1.2)))⟩; replace A0 : Z (Aq.heap[Au]? = some (.cells #[.int .i64 a0_0, .int .i64 a0_1, .slice A0_2 l0_2.length c0_2] 29 (0, 0))) := ⟨(by rw [hw]; exact (by refine bK ?_; (iterate 3 refine qF ?_ A7); exact A0.o))⟩; replace A2 : Z (Aq.heap[Aa]? = some (.cells #[.int .i64 a2_0, .int .i64 a2_1] 34 (0, 0))) := ⟨(by rw [hw]; exact (by refine bK ?_; (iterate 3 refine qF ?_ A8); exact A2.o))⟩; replace A3 : Z (Aq.heap[Ar]? = some (.cells #[.int .i64 0, .int .i64 0, .slice none 0 0] 29 (0, 0))) := ⟨(by rw [hw]; exact (by refine bK ?_; (iterate 3 refine qF ?_ A9); exact A3.o))⟩; replace A1 : Z (Aq.heap[Ab]? = some (.cells #[.int .i64 Ae, .int .i64 Af, .slice Aw A6.length Ad] 29 (0, 0))) := ⟨(by rw [hw]; exact (by refine bK ?_; apply st3; refine bK ?_; exact A1.o))⟩; replace HB : Z (Below w.heap.size w Aq) := ⟨(by rw [hw]; exact (vB HB))⟩; clear hw; have AU := bc0 A1; have AV := bc1 A1; have AW := bc2 A1; have Bi := qz A1.o 0; have Bj := qz A1.o 1; have Bk := qz A1.o 2; have BN := Ak.o; have BT := Am.o; have AX := bc0 A2; have AY := bc1 A2; have Bl := qz A2.o 0; have Bm := qz A2.o 1; have p7 : 0 ≤ (a1 : Int) := ofD; have q7 : (a1 : Int) < ((A6.length : Int) : Int) := ofD; obtain ⟨As, C6, BD, BE, gl7, cl7, BC⟩ := Kd.R_form A5.o (by omega); (first | cases BD | (injection BD with ea_ en_ ec_; (first | subst ea_ | (injection ea_ with ea_; subst ea_)); subst ec_; clear en_)); have Bx := Z.m BE; have C4 := Z.m BC; clear BE gl7 BC; obtain ⟨C5, Bu, BF, Ay, AB⟩ := Kd.R_elem A5.o z34 (a1 : Int) p7 q7; obtain rfl := k34_openM BF; have BV : Aq.cell? ⟨As, (a1 : Int).toNat * 2, none⟩ = some (.int .i64 ((rd_T34 A6 a1).f0)) := Ay 0 _ rfl; have BW : Aq.cell? ⟨As, (a1 : Int).toNat * 2 + 1, none⟩ = some (.int .i64 ((rd_T34 A6 a1).f1)) := Ay 1 _ rfl; have BG : Aq.frozen? ⟨As, (a1 : Int).toNat * 2, none⟩ = false := AB 0; have BH : Aq.frozen? ⟨As, (a1 : Int).toNat * 2 + 1, none⟩ = false := AB 1; (try clear Bu); (try clear Ay); (try clear AB); (try clear BF); replace p7 := eq_true p7; replace q7 := eq_true q7; have AK := Z.m (show Kd.R k34 34 Aq w.heap.size (fun k_ => k_ ≠ Aa) (.slice (some ⟨As, 0, none⟩) A6.length Ad) A6 from (vR A5)); obtain ⟨BZ, Av, AM, Ag, At⟩ := Kd.R_elem AK.o z34 (a1 : Int) (ofD) (by have h_ : (a1 : Int) < ((A6.length : Int) : Int) := ofD; first | exact h_ | (have e_ := (Kd.RrZ A5.o).1; omega) | simpa using h_); obtain rfl := k34_openM AM; have Ax := Kd.R_seg AK.o (a1 : Int) (ofD) (by have h_ : (a1 : Int) < ((A6.length : Int) : Int) := ofD; first | exact h_ | (have e_ := (Kd.RrZ A5.o).1; omega) | simpa using h_) (seg := [.int .i64 a2_0, .int .i64 a2_1]) (j := 0) Av Ag (show 2 ≤ 2 from by decide) (x' := (⟨a2_0, a2_1⟩ : S34)) (k34_mkM _ _ _ (⟨a2_0, a2_1⟩ : S34) ) (fun _ hk => hk); have AC := Ag 0 _ rfl; (try simp only [show (k34).sz = 2 from rfl, Nat.mul_one, Nat.add_zero] at AC); have Az := At 0; (try simp only [show (k34).sz = 2 from rfl, Nat.mul_one, Nat.add_zero] at Az); have AD := Ag 1 _ rfl; (try simp only [show (k34).sz = 2 from rfl, Nat.mul_one, Nat.add_zero] at AD); have AA := At 1; (try simp only [show (k34).sz = 2 from rfl, Nat.mul_one, Nat.add_zero] at AA); (try clear Av); (try clear Ag); (try clear At); (try clear AM)) | ((with_reducible refine gt (t := 34) (p := 14) rfl ?_); refine store_event (t := 34) (p := 14) (v := ?vo_w26) (w1 := ((Aq.setCell ⟨As, (a1 : Int).toNat * 2, none⟩ (.int .i64 a2_0)).setCell ⟨As, (a1 : Int).toNat * 2 + 1, none⟩ (.int .i64 a2_1))) ?hg ?ho ?hn ?hr ?_; (case ho => rfl); (case hg => rfl); (case hn => rfl); (case hr => first | (go_simp; done) | (go_simp; rfl)); intro Bv hw; have hg : Aq.grownBy Bv (some As) := (by rw [hw]; exact Ax.2); have hp_ : Kd.R k34 34 Bv w.heap.size (fun k_ => k_ ≠ Aa) (.slice (some ⟨As, 0, none⟩) A6.length Ad) AN := (by rw [hw, AL.o]; exact Ax.1); clear Ax; replace A0 := Z.m (qg (g := Au) (o := .cells #[.int .i64 a0_0, .int .i64 a0_1, .slice A0_2 l0_2.length c0_2] 29 (0, 0)) (vK A0) hg (Kd.R_ne A5.o A0.o (by decide))); replace A2 := Z.m (qg (g := Aa) (o := .cells #[.int .i64 a2_0, .int .i64 a2_1] 34 (0, 0)) (vK A2) hg (Kd.R_away A5.o (fun _ hk => hk))); replace A3 := Z.m (qg (g := Ar) (o := .cells #[.int .i64 0, .int .i64 0, .slice none 0 0] 29 (0, 0)) (vK A3) hg (Kd.R_ne A5.o A3.o (by decide))); replace A1 := Z.m (qg (g := Ab) (o := .cells #[.int .i64 Ae, .int .i64 Af, .slice (some ⟨As, 0, none⟩) A6.length Ad] 29 (0, 0)) (vK A1) hg (Kd.R_ne A5.o A1.o (by decide))); replace A5 := Z.m (hp_); replace HB := Z.m ((by rw [hw]; exact qx (qx (HB.o) Bx.o) Bx.o : Below w.heap.size w Bv)); clear hg hw hp_; have AZ := bc0 A1; have B0 := bc1 A1; have B2 := bc2 A1; have Bn := qz A1.o 0; have Bo := qz A1.o 1; have Bp := qz A1.o 2; have B9 := bc0 A3; have Ba := bc1 A3; have Bb := bc2 A3; have Bq := qz A3.o 0; have Br := qz A3.o 1; have Bs := qz A3.o 2))
   refine bodyPost_ret (results_cell_row rfl _ _ Ar 29 #[.int .i64 Ae, .int .i64 Af, .slice (some ⟨As, 0, none⟩) A6.length Ad] (0, 0) _ rfl (by refine bK ?_; apply st3; refine bK ?_; exact A3.o) Try.underlying29 rfl (by kernel_rfl)) rfl ?_
   exact ⟨_, by first | rfl | (simp [eN, eS] <;> rfl) | (simp [*, eN, eS] <;> rfl), by refine rK ?_; exact Kd.Rm (rf (rf (rf (Kd.Ry A5.o A3.o (by decide))))) (fun _ hk => trivial), vB HB⟩
  ·rw [if_neg c6] at H
   exact absurd H (by simp)
 ·rw [if_neg c5] at H
  exact absurd H (by simp)

/-! ### spec_PutCell: function 33 -/
def spec_PutCell.f (k : Nat) (a0_0 : Int) (a0_1 : Int) (l0_2 : List (S34)) (a1 : Int) (a2 : Int) (a3_0 : Int) (a3_1 : Int) : Option (Int × Int × (List (S34)) × Bool) := (spec_boHas.f k a0_0 a0_1 l0_2 a1 a2).bind fun t382 => (if t382 = true then ((spec_paGood.f a3_0 a3_1).bind fun t383 => (if t383 = true then ((spec_boWith.f a0_0 a0_1 l0_2 (wrap64 ((wrap64 (a1 * a0_1)) + a2)) a3_0 a3_1).bind fun bt384 => (some (bt384.1, bt384.2.1, bt384.2.2, true))) else (some (0, 0, ([] : List (S34)), false)))) else (some (0, 0, ([] : List (S34)), false)))
set_option maxHeartbeats 8000000 in
set_option maxRecDepth 100000 in
theorem spec_PutCell.calls (k : Nat) (a0_0 : Int) (a0_1 : Int) (A0_2 : Option Addr) (c0_2 : Nat) (l0_2 : List (S34)) (a1 : Int) (a2 : Int) (a3_0 : Int) (a3_1 : Int) (r1 : Int) (r2 : Int) (r3 : List (S34)) (r4 : Bool) (w : World) (hr0_2 : Kd.C k34 w A0_2 l0_2.length l0_2) (hc0_2 : l0_2.length ≤ c0_2) (h : spec_PutCell.f k a0_0 a0_1 l0_2 a1 a2 a3_0 a3_1 = some (r1, r2, r3, r4)) :
 Calls Try.prog 33 #[.agg #[.int .i64 a0_0, .int .i64 a0_1, .slice A0_2 l0_2.length c0_2], .int .i64 a1, .int .i64 a2, .agg #[.int .i64 a3_0, .int .i64 a3_1]] w fun e w' => ∃ v2_ : Value, e = .returned (.tuple #[.agg #[.int .i64 r1, .int .i64 r2, v2_], .bool r4]) ∧ Kd.R k34 34 w' w.heap.size (fun _ => True) v2_ r3 ∧ Below w.heap.size w w' := by
 have BS := Try.underlying29
 have BT := Try.underlying34
 have Ai := Z.m hr0_2
 have Ah := Z.m hc0_2
 clear hr0_2 hc0_2
 have HB := Z.m (Below.refl w.heap.size w)
 have H : ((spec_boHas.f k a0_0 a0_1 l0_2 a1 a2).bind fun Ak => (if Ak = true then ((spec_paGood.f a3_0 a3_1).bind fun Ag => (if Ag = true then ((spec_boWith.f a0_0 a0_1 l0_2 (wrap64 ((wrap64 (a1 * a0_1)) + a2)) a3_0 a3_1).bind fun bt384 => (some (bt384.1, bt384.2.1, bt384.2.2, true))) else (some (0, 0, ([] : List (S34)), false)))) else (some (0, 0, ([] : List (S34)), false)))) = some (r1, r2, r3, r4) := h
 clear h
 replace H := Option.bind_eq_some_iff.mp H
 obtain ⟨Ak, Bw, H⟩ := H
 replace H : (if Ak = true then ((spec_paGood.f a3_0 a3_1).bind fun Ag => (if Ag = true then ((spec_boWith.f a0_0 a0_1 l0_2 (wrap64 ((wrap64 (a1 * a0_1)) + a2)) a3_0 a3_1).bind fun bt384 => (some (bt384.1, bt384.2.1, bt384.2.2, true))) else (some (0, 0, ([] : List (S34)), false)))) else (some (0, 0, ([] : List (S34)), false))) = some (r1, r2, r3, r4) := H
 have A5 := Z.m Bw
 clear Bw
 by_cases c6 : Ak = true
 ·subst c6
  have H1 : ((spec_paGood.f a3_0 a3_1).bind fun Ag => (if Ag = true then ((spec_boWith.f a0_0 a0_1 l0_2 (wrap64 ((wrap64 (a1 * a0_1)) + a2)) a3_0 a3_1).bind fun bt384 => (some (bt384.1, bt384.2.1, bt384.2.2, true))) else (some (0, 0, ([] : List (S34)), false)))) = some (r1, r2, r3, r4) := by rw [if_pos rfl] at H; exact H
  clear H
  have H := H1
  clear H1
  replace H := Option.bind_eq_some_iff.mp H
  obtain ⟨Ag, Bx, H⟩ := H
  replace H : (if Ag = true then ((spec_boWith.f a0_0 a0_1 l0_2 (wrap64 ((wrap64 (a1 * a0_1)) + a2)) a3_0 a3_1).bind fun bt384 => (some (bt384.1, bt384.2.1, bt384.2.2, true))) else (some (0, 0, ([] : List (S34)), false))) = some (r1, r2, r3, r4) := H
  have A7 := Z.m Bx
  clear Bx
  by_cases c8 : Ag = true
  ·subst c8
   have H1 : ((spec_boWith.f a0_0 a0_1 l0_2 (wrap64 ((wrap64 (a1 * a0_1)) + a2)) a3_0 a3_1).bind fun bt384 => (some (bt384.1, bt384.2.1, bt384.2.2, true))) = some (r1, r2, r3, r4) := by rw [if_pos rfl] at H; exact H
   clear H
   have H := H1
   clear H1
   replace H := Option.bind_eq_some_iff.mp H
   obtain ⟨⟨Aq, Ar, As⟩, By, H⟩ := H
   replace H : (some (Aq, Ar, As, true)) = some (r1, r2, r3, r4) := H
   have A9 := Z.m By
   clear By
   simp only [Option.some.injEq, Prod.mk.injEq] at H
   obtain ⟨rfl, rfl, rfl, rfl⟩ := H
   go_enter Try.func33, Try.ntmps33
   go_wp2_with (first | ((with_reducible refine gq (N := 4) rfl ?_); refine be (N := 4) (cs := #[.int .i64 a0_0, .int .i64 a0_1, .slice A0_2 l0_2.length c0_2]) (t := 29) ?_; intro Ap hg BV hbox hb; have A0 := Z.m (hbox); have Ac := gW (w := w) HB hg; have Al := Ac; replace HB := bB HB hb; clear hb hbox hg) | ((with_reducible refine gq (N := 7) rfl ?_); refine be (N := 7) (cs := #[.int .i64 a3_0, .int .i64 a3_1]) (t := 34) ?_; intro Aj hg BW hbox hb; have A1 := Z.m (hbox); have Ad := gW (w := w) HB hg; have Am := Ad; have A3 := neL A0 hg; have A6 := neG A0 hg; replace A0 := kB A0 hb; replace HB := bB HB hb; clear hb hbox hg) | ((with_reducible refine gq (N := 8) rfl ?_); refine be (N := 8) (cs := #[.int .i64 0, .int .i64 0, .slice none 0 0]) (t := 29) ?_; intro Af hg BX hbox hb; have A2 := Z.m (hbox); have Ae := gW (w := w) HB hg; have An := Ae; have A4 := neL A0 hg; have Aa := neG A0 hg; have A8 := neL A1 hg; have Ab := neG A1 hg; replace A0 := kB A0 hb; replace A1 := kB A1 hb; replace HB := bB HB hb; clear hb hbox hg; have Bz := A3.o; have BI := A6.o; have BA := A4.o; have BJ := Aa.o; have Au := bc0 A0; have Av := bc1 A0; have Aw := bc2 A0; have AV := qz A0.o 0; have AW := qz A0.o 1; have AX := qz A0.o 2) | ((with_reducible refine gc (f := 57) rfl ?_); refine gA (some 13) _ #[.agg #[.int .i64 a0_0, .int .i64 a0_1, .slice A0_2 l0_2.length c0_2], .int .i64 a1, .int .i64 a2] ?_ Try.func57; (with_reducible refine (spec_boHas.calls k a0_0 a0_1 _ _ l0_2 a1 a2 true _ ?side1 ?side2 A5.o).mono ?_); (case side1 => repeat (first | exact (Kd.C_below Ai.o HB.o) | (with_reducible refine Kd.C_alloc ?_ _) | (with_reducible refine Kd.C_drewN ?_ _) | (with_reducible refine Kd.C_drew ?_))); (case side2 => exact Ah.o); rintro e BY ⟨rfl, hb⟩; refine ⟨_, rfl, ?_⟩; replace A0 := kB A0 hb; replace A1 := kB A1 hb; replace A2 := kB A2 hb; replace HB := bB HB hb; (try clear hb); (try clear At); (try clear hk); (try clear hi); have BB := A8.o; have BK := Ab.o; have Ax := bc0 A1; have Ay := bc1 A1; have AY := qz A1.o 0; have AZ := qz A1.o 1) | (go_at_call 68; (with_reducible refine (spec_paGood.calls a3_0 a3_1 true _ A7.o).mono ?_); rintro e BZ ⟨rfl, hb⟩; replace A0 := kB A0 hb; replace A1 := kB A1 hb; replace A2 := kB A2 hb; replace HB := bB HB hb; (try clear hb); (try clear At); (try clear hk); (try clear hi); have Az := bc0 A0; have AA := bc1 A0; have AB := bc2 A0; have B0 := qz A0.o 0; have B2 := qz A0.o 1; have B9 := qz A0.o 2; have AC := bc0 A1; have AD := bc1 A1; have Ba := qz A1.o 0; have Bb := qz A1.o 1) | ((with_reducible refine gc (f := 69) rfl ?_); refine gA (some 29) _ #[.agg #[.int .i64 a0_0, .int .i64 a0_1, .slice A0_2 l0_2.length c0_2], .int .i64 (wrap64 ((wrap64 (a1 * a0_1)) + a2)), .agg #[.int .i64 a3_0, .int .i64 a3_1]] ?_ Try.func69; (with_reducible refine (spec_boWith.calls a0_0 a0_1 _ _ l0_2 (wrap64 ((wrap64 (a1 * a0_1)) + a2)) a3_0 a3_1 Aq Ar As _ ?side1 ?side2 A9.o).mono ?_); (case side1 => repeat (first | exact (Kd.C_below Ai.o HB.o) | (with_reducible refine Kd.C_alloc ?_ _) | (with_reducible refine Kd.C_drewN ?_ _) | (with_reducible refine Kd.C_drew ?_))); (case side2 => exact Ah.o); rintro e C0 ⟨BU, rfl, BR, hb⟩; refine ⟨_, rfl, ?_⟩; have Ao := Z.m (Kd.R_lower (Kd.R_newB BR (g := Aj) (o := .cells #[.int .i64 a3_0, .int .i64 a3_1] 34 (0, 0)) (vK A1)) (below_size (vB HB))); replace A0 := kB A0 hb; replace A1 := kB A1 hb; replace A2 := kB A2 hb; replace HB := bB HB hb; (try clear hb); (try clear At); (try clear hk); (try clear hi); (try clear BR); have AE := bc0 A2; have AF := bc1 A2; have AG := bc2 A2; have Bc := qz A2.o 0; have Bd := qz A2.o 1; have Be := qz A2.o 2; obtain ⟨Bt, Bu, Bv⟩ := Kd.R_slice Ao.o; subst Bv))
   refine bodyPost_ret (results_ct rfl _ _ Af 29 #[.int .i64 Aq, .int .i64 Ar, .slice Bt As.length Bu] (0, 0) _ rfl (by refine bK ?_; apply st3; refine bK ?_; exact A2.o) Try.underlying29 rfl (by kernel_rfl)) rfl ?_
   exact ⟨_, by first | rfl | (simp [eN, eS] <;> rfl) | (simp [*, eN, eS] <;> rfl), by refine rK ?_; exact Kd.Rm (rf (rf (rf (Kd.Ry Ao.o A2.o (by decide))))) (fun _ hk => trivial), vB HB⟩
  ·replace c8 := Bool.eq_false_iff.mpr c8
   subst c8
   have H1 : (some (0, 0, ([] : List (S34)), false)) = some (r1, r2, r3, r4) := by rw [if_neg (show ¬ (false = true) by decide)] at H; exact H
   clear H
   have H := H1
   clear H1
   simp only [Option.some.injEq, Prod.mk.injEq] at H
   obtain ⟨rfl, rfl, rfl, rfl⟩ := H
   go_enter Try.func33, Try.ntmps33
   go_wp2_with (first | ((with_reducible refine gq (N := 4) rfl ?_); refine be (N := 4) (cs := #[.int .i64 a0_0, .int .i64 a0_1, .slice A0_2 l0_2.length c0_2]) (t := 29) ?_; intro Ap hg C1 hbox hb; have A0 := Z.m (hbox); have Ac := gW (w := w) HB hg; have Al := Ac; replace HB := bB HB hb; clear hb hbox hg) | ((with_reducible refine gq (N := 7) rfl ?_); refine be (N := 7) (cs := #[.int .i64 a3_0, .int .i64 a3_1]) (t := 34) ?_; intro Aj hg C2 hbox hb; have A1 := Z.m (hbox); have Ad := gW (w := w) HB hg; have Am := Ad; have A3 := neL A0 hg; have A6 := neG A0 hg; replace A0 := kB A0 hb; replace HB := bB HB hb; clear hb hbox hg) | ((with_reducible refine gq (N := 8) rfl ?_); refine be (N := 8) (cs := #[.int .i64 0, .int .i64 0, .slice none 0 0]) (t := 29) ?_; intro Af hg C3 hbox hb; have A2 := Z.m (hbox); have Ae := gW (w := w) HB hg; have An := Ae; have A4 := neL A0 hg; have Aa := neG A0 hg; have A8 := neL A1 hg; have Ab := neG A1 hg; replace A0 := kB A0 hb; replace A1 := kB A1 hb; replace HB := bB HB hb; clear hb hbox hg; have BC := A3.o; have BL := A6.o; have BD := A4.o; have BM := Aa.o; have AH := bc0 A0; have AI := bc1 A0; have AJ := bc2 A0; have Bf := qz A0.o 0; have Bg := qz A0.o 1; have Bh := qz A0.o 2) | ((with_reducible refine gc (f := 57) rfl ?_); refine gA (some 13) _ #[.agg #[.int .i64 a0_0, .int .i64 a0_1, .slice A0_2 l0_2.length c0_2], .int .i64 a1, .int .i64 a2] ?_ Try.func57; (with_reducible refine (spec_boHas.calls k a0_0 a0_1 _ _ l0_2 a1 a2 true _ ?side1 ?side2 A5.o).mono ?_); (case side1 => repeat (first | exact (Kd.C_below Ai.o HB.o) | (with_reducible refine Kd.C_alloc ?_ _) | (with_reducible refine Kd.C_drewN ?_ _) | (with_reducible refine Kd.C_drew ?_))); (case side2 => exact Ah.o); rintro e C4 ⟨rfl, hb⟩; refine ⟨_, rfl, ?_⟩; replace A0 := kB A0 hb; replace A1 := kB A1 hb; replace A2 := kB A2 hb; replace HB := bB HB hb; (try clear hb); (try clear At); (try clear hk); (try clear hi); have BE := A8.o; have BN := Ab.o; have AK := bc0 A1; have AL := bc1 A1; have Bi := qz A1.o 0; have Bj := qz A1.o 1) | (go_at_call 68; (with_reducible refine (spec_paGood.calls a3_0 a3_1 false _ A7.o).mono ?_); rintro e C5 ⟨rfl, hb⟩; replace A0 := kB A0 hb; replace A1 := kB A1 hb; replace A2 := kB A2 hb; replace HB := bB HB hb; (try clear hb); (try clear At); (try clear hk); (try clear hi); have AM := bc0 A2; have AN := bc1 A2; have AO := bc2 A2; have Bk := qz A2.o 0; have Bl := qz A2.o 1; have Bm := qz A2.o 2))
   refine bodyPost_ret (results_ct rfl _ _ Af 29 #[.int .i64 0, .int .i64 0, .slice none 0 0] (0, 0) _ rfl (by refine bK ?_; apply st3; refine bK ?_; exact A2.o) Try.underlying29 rfl (by kernel_rfl)) rfl ?_
   exact ⟨_, by first | rfl | (simp [eN, eS] <;> rfl) | (simp [*, eN, eS] <;> rfl), by first | exact Kd.R_nil _ _ _ _ _ | exact Kd.N_nil _ _ _ _ _ | exact Kd.V_nil _ _ _ _ _ | exact Kd.Q_nil _ _ _ _ _ | exact Kd.S_nil _ _ _ _ _, vB HB⟩
 ·replace c6 := Bool.eq_false_iff.mpr c6
  subst c6
  have H1 : (some (0, 0, ([] : List (S34)), false)) = some (r1, r2, r3, r4) := by rw [if_neg (show ¬ (false = true) by decide)] at H; exact H
  clear H
  have H := H1
  clear H1
  simp only [Option.some.injEq, Prod.mk.injEq] at H
  obtain ⟨rfl, rfl, rfl, rfl⟩ := H
  go_enter Try.func33, Try.ntmps33
  go_wp2_with (first | ((with_reducible refine gq (N := 4) rfl ?_); refine be (N := 4) (cs := #[.int .i64 a0_0, .int .i64 a0_1, .slice A0_2 l0_2.length c0_2]) (t := 29) ?_; intro Ap hg C6 hbox hb; have A0 := Z.m (hbox); have Ac := gW (w := w) HB hg; have Al := Ac; replace HB := bB HB hb; clear hb hbox hg) | ((with_reducible refine gq (N := 7) rfl ?_); refine be (N := 7) (cs := #[.int .i64 a3_0, .int .i64 a3_1]) (t := 34) ?_; intro Aj hg C7 hbox hb; have A1 := Z.m (hbox); have Ad := gW (w := w) HB hg; have Am := Ad; have A3 := neL A0 hg; have A6 := neG A0 hg; replace A0 := kB A0 hb; replace HB := bB HB hb; clear hb hbox hg) | ((with_reducible refine gq (N := 8) rfl ?_); refine be (N := 8) (cs := #[.int .i64 0, .int .i64 0, .slice none 0 0]) (t := 29) ?_; intro Af hg C8 hbox hb; have A2 := Z.m (hbox); have Ae := gW (w := w) HB hg; have An := Ae; have A4 := neL A0 hg; have Aa := neG A0 hg; have A8 := neL A1 hg; have Ab := neG A1 hg; replace A0 := kB A0 hb; replace A1 := kB A1 hb; replace HB := bB HB hb; clear hb hbox hg; have BF := A3.o; have BO := A6.o; have BG := A4.o; have BP := Aa.o; have AP := bc0 A0; have AQ := bc1 A0; have AR := bc2 A0; have Bn := qz A0.o 0; have Bo := qz A0.o 1; have Bp := qz A0.o 2) | ((with_reducible refine gc (f := 57) rfl ?_); refine gA (some 13) _ #[.agg #[.int .i64 a0_0, .int .i64 a0_1, .slice A0_2 l0_2.length c0_2], .int .i64 a1, .int .i64 a2] ?_ Try.func57; (with_reducible refine (spec_boHas.calls k a0_0 a0_1 _ _ l0_2 a1 a2 false _ ?side1 ?side2 A5.o).mono ?_); (case side1 => repeat (first | exact (Kd.C_below Ai.o HB.o) | (with_reducible refine Kd.C_alloc ?_ _) | (with_reducible refine Kd.C_drewN ?_ _) | (with_reducible refine Kd.C_drew ?_))); (case side2 => exact Ah.o); rintro e C9 ⟨rfl, hb⟩; refine ⟨_, rfl, ?_⟩; replace A0 := kB A0 hb; replace A1 := kB A1 hb; replace A2 := kB A2 hb; replace HB := bB HB hb; (try clear hb); (try clear At); (try clear hk); (try clear hi); have BH := Ab.o; have BQ := A8.o; have AS := bc0 A2; have AT := bc1 A2; have AU := bc2 A2; have Bq := qz A2.o 0; have Br := qz A2.o 1; have Bs := qz A2.o 2))
  refine bodyPost_ret (results_ct rfl _ _ Af 29 #[.int .i64 0, .int .i64 0, .slice none 0 0] (0, 0) _ rfl (by refine bK ?_; apply st3; refine bK ?_; exact A2.o) Try.underlying29 rfl (by kernel_rfl)) rfl ?_
  exact ⟨_, by first | rfl | (simp [eN, eS] <;> rfl) | (simp [*, eN, eS] <;> rfl), by first | exact Kd.R_nil _ _ _ _ _ | exact Kd.N_nil _ _ _ _ _ | exact Kd.V_nil _ _ _ _ _ | exact Kd.Q_nil _ _ _ _ _ | exact Kd.S_nil _ _ _ _ _, vB HB⟩

/-! ### impl_onBoard: function 59 -/
def impl_onBoard.f (k : Nat) (a0_0 : Int) (a0_1 : Int) (l0_2 : List (S34)) (a1 : Int) (a2 : Int) : Option (Bool) := (impl_IsBoard.f k a0_0 a0_1 l0_2).bind fun t390 => (if t390 = true then (if a1 ≥ 0 then (if a1 < a0_0 then (if a2 ≥ 0 then (some (decide (a2 < a0_1))) else (some false)) else (some false)) else (some false)) else (some false))
set_option maxHeartbeats 8000000 in
set_option maxRecDepth 100000 in
theorem impl_onBoard.calls (k : Nat) (a0_0 : Int) (a0_1 : Int) (A0_2 : Option Addr) (c0_2 : Nat) (l0_2 : List (S34)) (a1 : Int) (a2 : Int) (r : Bool) (w : World) (hr0_2 : Kd.C k34 w A0_2 l0_2.length l0_2) (hc0_2 : l0_2.length ≤ c0_2) (h : impl_onBoard.f k a0_0 a0_1 l0_2 a1 a2 = some r) :
 Calls Try.prog 59 #[.agg #[.int .i64 a0_0, .int .i64 a0_1, .slice A0_2 l0_2.length c0_2], .int .i64 a1, .int .i64 a2] w fun e w' => e = .returned (.bool r) ∧ Below w.heap.size w w' := by
 have AZ := Try.underlying29
 have A3 := Z.m hr0_2
 have A2 := Z.m hc0_2
 clear hr0_2 hc0_2
 have HB := Z.m (Below.refl w.heap.size w)
 have H : ((impl_IsBoard.f k a0_0 a0_1 l0_2).bind fun A7 => (if A7 = true then (if a1 ≥ 0 then (if a1 < a0_0 then (if a2 ≥ 0 then (some (decide (a2 < a0_1))) else (some false)) else (some false)) else (some false)) else (some false))) = some r := h
 clear h
 replace H := Option.bind_eq_some_iff.mp H
 obtain ⟨A7, AY, H⟩ := H
 replace H : (if A7 = true then (if a1 ≥ 0 then (if a1 < a0_0 then (if a2 ≥ 0 then (some (decide (a2 < a0_1))) else (some false)) else (some false)) else (some false)) else (some false)) = some r := H
 have A4 := Z.m AY
 clear AY
 by_cases c5 : A7 = true
 ·subst c5
  have H1 : (if a1 ≥ 0 then (if a1 < a0_0 then (if a2 ≥ 0 then (some (decide (a2 < a0_1))) else (some false)) else (some false)) else (some false)) = some r := by rw [if_pos rfl] at H; exact H
  clear H
  have H := H1
  clear H1
  by_cases c6 : a1 ≥ 0
  ·rw [if_pos c6] at H
   have AV := decide_eq_true c6
   clear c6
   by_cases c7 : a1 < a0_0
   ·rw [if_pos c7] at H
    have AW := decide_eq_true c7
    clear c7
    by_cases c8 : a2 ≥ 0
    ·rw [if_pos c8] at H
     have AX := decide_eq_true c8
     clear c8
     obtain rfl := Option.some.inj H
     go_enter Try.func59, Try.ntmps59
     go_wp2_with (first | ((with_reducible refine gq (N := 3) rfl ?_); refine be (N := 3) (cs := #[.int .i64 a0_0, .int .i64 a0_1, .slice A0_2 l0_2.length c0_2]) (t := 29) ?_; intro A6 hg w9 hbox hb; have A0 := Z.m (hbox); have A1 := gW (w := w) HB hg; have A5 := A1; replace HB := bB HB hb; clear hb hbox hg; have A9 := bc0 A0; have Aa := bc1 A0; have Ab := bc2 A0; have Ax := qz A0.o 0; have Ay := qz A0.o 1; have Az := qz A0.o 2) | ((with_reducible refine gc (f := 18) rfl ?_); refine gA (some 8) _ #[.agg #[.int .i64 a0_0, .int .i64 a0_1, .slice A0_2 l0_2.length c0_2]] ?_ Try.func18; (with_reducible refine (impl_IsBoard.calls k a0_0 a0_1 _ _ l0_2 true _ ?side1 ?side2 A4.o).mono ?_); (case side1 => repeat (first | exact (Kd.C_below A3.o HB.o) | (with_reducible refine Kd.C_alloc ?_ _) | (with_reducible refine Kd.C_drewN ?_ _) | (with_reducible refine Kd.C_drew ?_))); (case side2 => exact A2.o); rintro e B0 ⟨rfl, hb⟩; refine ⟨_, rfl, ?_⟩; replace A0 := kB A0 hb; replace HB := bB HB hb; (try clear hb); (try clear A8); (try clear hk); (try clear hi); have Ac := bc0 A0; have Ad := bc1 A0; have Ae := bc2 A0; have AA := qz A0.o 0; have AB := qz A0.o 1; have AC := qz A0.o 2))
     go_ret
     exact ⟨by first | rfl | (simp [eN, eS] <;> rfl) | (simp [*, eN, eS] <;> rfl), vB HB⟩
    ·rw [if_neg c8] at H
     have AX := decide_eq_false c8
     clear c8
     obtain rfl := Option.some.inj H
     go_enter Try.func59, Try.ntmps59
     go_wp2_with (first | ((with_reducible refine gq (N := 3) rfl ?_); refine be (N := 3) (cs := #[.int .i64 a0_0, .int .i64 a0_1, .slice A0_2 l0_2.length c0_2]) (t := 29) ?_; intro A6 hg B2 hbox hb; have A0 := Z.m (hbox); have A1 := gW (w := w) HB hg; have A5 := A1; replace HB := bB HB hb; clear hb hbox hg; have Af := bc0 A0; have Ag := bc1 A0; have Ah := bc2 A0; have AD := qz A0.o 0; have AE := qz A0.o 1; have AF := qz A0.o 2) | ((with_reducible refine gc (f := 18) rfl ?_); refine gA (some 8) _ #[.agg #[.int .i64 a0_0, .int .i64 a0_1, .slice A0_2 l0_2.length c0_2]] ?_ Try.func18; (with_reducible refine (impl_IsBoard.calls k a0_0 a0_1 _ _ l0_2 true _ ?side1 ?side2 A4.o).mono ?_); (case side1 => repeat (first | exact (Kd.C_below A3.o HB.o) | (with_reducible refine Kd.C_alloc ?_ _) | (with_reducible refine Kd.C_drewN ?_ _) | (with_reducible refine Kd.C_drew ?_))); (case side2 => exact A2.o); rintro e B9 ⟨rfl, hb⟩; refine ⟨_, rfl, ?_⟩; replace A0 := kB A0 hb; replace HB := bB HB hb; (try clear hb); (try clear A8); (try clear hk); (try clear hi); have Ai := bc0 A0; have Aj := bc1 A0; have Ak := bc2 A0; have AG := qz A0.o 0; have AH := qz A0.o 1; have AI := qz A0.o 2))
     go_ret
     exact ⟨by first | rfl | (simp [eN, eS] <;> rfl) | (simp [*, eN, eS] <;> rfl), vB HB⟩
   ·rw [if_neg c7] at H
    have AW := decide_eq_false c7
    clear c7
    obtain rfl := Option.some.inj H
    go_enter Try.func59, Try.ntmps59
    go_wp2_with (first | ((with_reducible refine gq (N := 3) rfl ?_); refine be (N := 3) (cs := #[.int .i64 a0_0, .int .i64 a0_1, .slice A0_2 l0_2.length c0_2]) (t := 29) ?_; intro A6 hg Ba hbox hb; have A0 := Z.m (hbox); have A1 := gW (w := w) HB hg; have A5 := A1; replace HB := bB HB hb; clear hb hbox hg; have Al := bc0 A0; have Am := bc1 A0; have An := bc2 A0; have AJ := qz A0.o 0; have AK := qz A0.o 1; have AL := qz A0.o 2) | ((with_reducible refine gc (f := 18) rfl ?_); refine gA (some 8) _ #[.agg #[.int .i64 a0_0, .int .i64 a0_1, .slice A0_2 l0_2.length c0_2]] ?_ Try.func18; (with_reducible refine (impl_IsBoard.calls k a0_0 a0_1 _ _ l0_2 true _ ?side1 ?side2 A4.o).mono ?_); (case side1 => repeat (first | exact (Kd.C_below A3.o HB.o) | (with_reducible refine Kd.C_alloc ?_ _) | (with_reducible refine Kd.C_drewN ?_ _) | (with_reducible refine Kd.C_drew ?_))); (case side2 => exact A2.o); rintro e Bb ⟨rfl, hb⟩; refine ⟨_, rfl, ?_⟩; replace A0 := kB A0 hb; replace HB := bB HB hb; (try clear hb); (try clear A8); (try clear hk); (try clear hi); have Ao := bc0 A0; have Ap := bc1 A0; have Aq := bc2 A0; have AM := qz A0.o 0; have AN := qz A0.o 1; have AO := qz A0.o 2))
    go_ret
    exact ⟨by first | rfl | (simp [eN, eS] <;> rfl) | (simp [*, eN, eS] <;> rfl), vB HB⟩
  ·rw [if_neg c6] at H
   have AV := decide_eq_false c6
   clear c6
   obtain rfl := Option.some.inj H
   go_enter Try.func59, Try.ntmps59
   go_wp2_with (first | ((with_reducible refine gq (N := 3) rfl ?_); refine be (N := 3) (cs := #[.int .i64 a0_0, .int .i64 a0_1, .slice A0_2 l0_2.length c0_2]) (t := 29) ?_; intro A6 hg Bc hbox hb; have A0 := Z.m (hbox); have A1 := gW (w := w) HB hg; have A5 := A1; replace HB := bB HB hb; clear hb hbox hg; have Ar := bc0 A0; have As := bc1 A0; have At := bc2 A0; have AP := qz A0.o 0; have AQ := qz A0.o 1; have AR := qz A0.o 2) | ((with_reducible refine gc (f := 18) rfl ?_); refine gA (some 8) _ #[.agg #[.int .i64 a0_0, .int .i64 a0_1, .slice A0_2 l0_2.length c0_2]] ?_ Try.func18; (with_reducible refine (impl_IsBoard.calls k a0_0 a0_1 _ _ l0_2 true _ ?side1 ?side2 A4.o).mono ?_); (case side1 => repeat (first | exact (Kd.C_below A3.o HB.o) | (with_reducible refine Kd.C_alloc ?_ _) | (with_reducible refine Kd.C_drewN ?_ _) | (with_reducible refine Kd.C_drew ?_))); (case side2 => exact A2.o); rintro e Bd ⟨rfl, hb⟩; refine ⟨_, rfl, ?_⟩; replace A0 := kB A0 hb; replace HB := bB HB hb; (try clear hb); (try clear A8); (try clear hk); (try clear hi)))
   go_ret
   exact ⟨by first | rfl | (simp [eN, eS] <;> rfl) | (simp [*, eN, eS] <;> rfl), vB HB⟩
 ·replace c5 := Bool.eq_false_iff.mpr c5
  subst c5
  have H1 : (some false) = some r := by rw [if_neg (show ¬ (false = true) by decide)] at H; exact H
  clear H
  have H := H1
  clear H1
  obtain rfl := Option.some.inj H
  go_enter Try.func59, Try.ntmps59
  go_wp2_with (first | ((with_reducible refine gq (N := 3) rfl ?_); refine be (N := 3) (cs := #[.int .i64 a0_0, .int .i64 a0_1, .slice A0_2 l0_2.length c0_2]) (t := 29) ?_; intro A6 hg Be hbox hb; have A0 := Z.m (hbox); have A1 := gW (w := w) HB hg; have A5 := A1; replace HB := bB HB hb; clear hb hbox hg; have Au := bc0 A0; have Av := bc1 A0; have Aw := bc2 A0; have AS := qz A0.o 0; have AT := qz A0.o 1; have AU := qz A0.o 2) | ((with_reducible refine gc (f := 18) rfl ?_); refine gA (some 8) _ #[.agg #[.int .i64 a0_0, .int .i64 a0_1, .slice A0_2 l0_2.length c0_2]] ?_ Try.func18; (with_reducible refine (impl_IsBoard.calls k a0_0 a0_1 _ _ l0_2 false _ ?side1 ?side2 A4.o).mono ?_); (case side1 => repeat (first | exact (Kd.C_below A3.o HB.o) | (with_reducible refine Kd.C_alloc ?_ _) | (with_reducible refine Kd.C_drewN ?_ _) | (with_reducible refine Kd.C_drew ?_))); (case side2 => exact A2.o); rintro e Bf ⟨rfl, hb⟩; refine ⟨_, rfl, ?_⟩; replace A0 := kB A0 hb; replace HB := bB HB hb; (try clear hb); (try clear A8); (try clear hk); (try clear hi)))
  go_ret
  exact ⟨by first | rfl | (simp [eN, eS] <;> rfl) | (simp [*, eN, eS] <;> rfl), vB HB⟩

end Go.Proofs.Yteodcegmkbcjjaa.PAll
