/- Began as a text that print.sh wrote (of the functions named below); turned and shortened by this session. -/
import Derived.Test.YtoklfgjemfojgaaG0
namespace Go.Proofs.Ytoklfgjemfojgaa.PAll
open Go.RowKit Go.Proofs.YtoklfgjemfojgaaW.PrintWords Go.Proofs.YtoklfgjemfojgaaW.PrintLast Go.Proofs.YtoklfgjemfojgaaW.PrintMore
attribute [local go_sem] max2_int min2_int max_two min_two max_three min_three max_four min_four   -- for this text's walks alone
set_option linter.unusedVariables false
set_option linter.unusedSimpArgs false

/-! ### impl_copyBoard: function 55 -/
def impl_copyBoard.f (a0_0 : Int) (a0_1 : Int) (l0_2 : List (S89)) : Option (Int × Int × (List (S89))) := (some (([] : List (S89)) : List (S89))).bind fun y285 => (if y285.length + l0_2.length < 8796093022208 then (some (a0_0, a0_1, (y285 ++ l0_2))) else (none))
def impl_copyBoard.T1 : Bool × List (List Nat × List Nat) := (true, [([], []), ([0], [0]), ([], []), ([2], [2]), ([], []), ([], []), ([5], [5]), ([4, 6], [4, 6]), ([1, 3, 7], [1, 3, 7]), ([8, 7, 0, 1, 2, 3, 4, 5, 6, 7, 8], [8])])
def impl_copyBoard.B1 : List Nat := [0, 1, 0, 4, 0, 0, 32, 112, 255, 511]
theorem impl_copyBoard.tab1 : rtab .any (opsOf Try.f55 1) = impl_copyBoard.T1 := by kernel_rfl
theorem impl_copyBoard.bits1 : waitsOk impl_copyBoard.T1.2 impl_copyBoard.B1 = true := by kernel_rfl
set_option maxHeartbeats 8000000 in
set_option maxRecDepth 100000 in
theorem impl_copyBoard.calls (a0_0 : Int) (a0_1 : Int) (A0_2 : Option Addr) (c0_2 : Nat) (l0_2 : List (S89)) (r1 : Int) (r2 : Int) (r3 : List (S89)) (w : World) (hr0_2 : Kd.C k89 w A0_2 l0_2.length l0_2) (hc0_2 : l0_2.length ≤ c0_2) (h : impl_copyBoard.f a0_0 a0_1 l0_2 = some (r1, r2, r3)) :
 Calls Try.prog 55 #[.agg #[.int .i64 a0_0, .int .i64 a0_1, .slice A0_2 l0_2.length c0_2]] w fun e w' => ∃ v2_ : Value, e = .returned (.agg #[.int .i64 r1, .int .i64 r2, v2_]) ∧ Kd.R k89 89 w' w.heap.size (fun _ => True) v2_ r3 ∧ Below w.heap.size w w' := by
 have Az := Try.underlying32
 have Ae := Z.m hr0_2
 have As := Z.m hc0_2
 clear hr0_2 hc0_2
 have HB := Z.m (Below.refl w.heap.size w)
 have H : ((some (([] : List (S89)) : List (S89))).bind fun A7 => (if A7.length + l0_2.length < 8796093022208 then (some (a0_0, a0_1, (A7 ++ l0_2))) else (none))) = some (r1, r2, r3) := h
 clear h
 obtain ⟨A7, A5⟩ : ∃ y_ : List (S89), y_ = (([] : List (S89))) := ⟨_, rfl⟩
 replace H : (if A7.length + l0_2.length < 8796093022208 then (some (a0_0, a0_1, (A7 ++ l0_2))) else (none)) = some (r1, r2, r3) := by first | (rw [A5]; with_reducible exact H) | (have H2_ := (Option.bind_some _ _).symm.trans H; rw [A5]; with_reducible exact H2_) | (have H2_ := (Option.bind_some _ _).symm.trans H; with_reducible exact H2_) | with_reducible exact H | (rw [A5]; exact H) | exact H
 have Ab := Z.m A5
 clear A5
 by_cases c2 : A7.length + l0_2.length < 8796093022208
 ·rw [if_pos c2] at H
  have Ao := Z.m c2
  clear c2
  obtain ⟨Ah, A6⟩ : ∃ y_ : List (S89), y_ = (A7 ++ l0_2) := ⟨_, rfl⟩
  replace H : (some (a0_0, a0_1, Ah)) = some (r1, r2, r3) := by first | (rw [A6]; with_reducible exact H) | (have H2_ := (Option.bind_some _ _).symm.trans H; rw [A6]; with_reducible exact H2_) | (have H2_ := (Option.bind_some _ _).symm.trans H; with_reducible exact H2_) | with_reducible exact H | (rw [A6]; exact H) | exact H
  have Af := Z.m A6
  clear A6
  simp only [Option.some.injEq, Prod.mk.injEq] at H
  obtain ⟨rfl, rfl, rfl⟩ := H
  go_enter Try.func55, Try.ntmps55
  try go_wp2_with (first | ((with_reducible refine gq (N := 1) rfl ?_); refine be (N := 1) (cs := #[.int .i64 a0_0, .int .i64 a0_1, .slice A0_2 l0_2.length c0_2]) (t := 32) ?_; intro A9 hg w3 hbox hb; have A1 := Z.m (hbox); have Ac := gW (w := w) HB hg; have Aq := Ac; replace HB := bB HB hb; clear hb hbox hg) | ((with_reducible refine gq (N := 2) rfl ?_); refine be (N := 2) (cs := #[.int .i64 0, .int .i64 0, .slice none 0 0]) (t := 32) ?_; intro A4 hg w4 hbox hb; have A2 := Z.m (hbox); have Ad := gW (w := w) HB hg; have Ar := Ad; have A0 := neL A1 hg; have A3 := neG A1 hg; replace A1 := kB A1 hb; replace HB := bB HB hb; clear hb hbox hg))
  replace A1 := Z.m (blk_drew A1.o)
  replace A2 := Z.m (blk_drew A2.o)
  replace HB := Z.m (qd HB.o)
  refine start_ (n := 10) (S := fun w' => w'.cell? ⟨A9, 0, none⟩ = some (.int .i64 a0_0) ∧ w'.cell? ⟨A9, 1, none⟩ = some (.int .i64 a0_1) ∧ w'.cell? ⟨A9, 2, none⟩ = some (.slice A0_2 l0_2.length c0_2)) (ds := []) #[false, false, false, false, false, false, false, false, false, false] (by kernel_rfl) rfl rfl ⟨(ql A1.o 0).trans rfl, (ql A1.o 1).trans rfl, (ql A1.o 2).trans rfl⟩ (fun hHeld => ?_); refine with_tabW impl_copyBoard.tab1 impl_copyBoard.bits1 (fun HT_ HW_ => ?_)
  generalize w4.drew = w5 at A1 A2 HB hHeld ⊢
  refine pure_ (i := 0) (N := some 3) (v := ?_) (a' := ?_) #[true, false, false, false, false, false, false, false, false, false] rfl rfl (any_of HT_.o (by kernel_rfl)) (fun _ _ _ h => h) (Or.inl ⟨by rfl, ?_⟩) ?_ ?_
  rotate_left
  ·intro w'
   go_simp
   with_reducible rfl
  rotate_left
  ·simp only [Act.put, q1, q2, q3, i64_w, i32_w]
   rfl
  refine pure_ (i := 2) (N := some 5) (v := ?_) (a' := ?_) #[true, false, true, false, false, false, false, false, false, false] rfl rfl (any_of HT_.o (by kernel_rfl)) (fun _ _ _ h => h) (Or.inl ⟨by rfl, ?_⟩) ?_ ?_
  rotate_left
  ·intro w'
   go_simp
   with_reducible rfl
  rotate_left
  ·simp only [Act.put, q1, q2, q3, i64_w, i32_w]
   rfl
  refine pure_ (i := 5) (N := some 8) (v := ?_) (a' := ?_) #[true, false, true, false, false, true, false, false, false, false] rfl rfl (any_of HT_.o (by kernel_rfl)) (fun _ _ _ h => h) (Or.inl ⟨by rfl, ?_⟩) ?_ ?_
  rotate_left
  ·intro w'
   go_simp
   with_reducible rfl
  rotate_left
  ·simp only [Act.put, q1, q2, q3, i64_w, i32_w]
   rfl
  refine take_ (i := 1) (N := some 4) (v := ?_) (a' := ?_) #[true, true, true, false, false, true, false, false, false, false] rfl rfl (take_ofW HT_.o HW_.o (by kernel_rfl)) (fun _ _ _ h => h) (Or.inl ⟨by rfl, ?_⟩) hHeld ?_ ?_
  rotate_left
  ·rintro w' ⟨s0, s1, s2⟩
   go_simp
   with_reducible rfl
  rotate_left
  ·simp only [Act.put, q1, q2, q3, i64_w, i32_w]
   rfl
  refine take_ (i := 3) (N := some 6) (v := ?_) (a' := ?_) #[true, true, true, true, false, true, false, false, false, false] rfl rfl (take_ofW HT_.o HW_.o (by kernel_rfl)) (fun _ _ _ h => h) (Or.inl ⟨by rfl, ?_⟩) hHeld ?_ ?_
  rotate_left
  ·rintro w' ⟨s0, s1, s2⟩
   go_simp
   with_reducible rfl
  rotate_left
  ·simp only [Act.put, q1, q2, q3, i64_w, i32_w]
   rfl
  refine take_ (i := 6) (N := some 9) (v := ?_) (a' := ?_) #[true, true, true, true, false, true, true, false, false, false] rfl rfl (take_ofW HT_.o HW_.o (by kernel_rfl)) (fun _ _ _ h => h) (Or.inl ⟨by rfl, ?_⟩) hHeld ?_ ?_
  rotate_left
  ·rintro w' ⟨s0, s1, s2⟩
   go_simp
   with_reducible rfl
  rotate_left
  ·simp only [Act.put, q1, q2, q3, i64_w, i32_w]
   rfl
  refine one_ (i := 4) (N := some 7) #[true, true, true, true, true, true, true, false, false, false] rfl rfl (one_of HT_.o (by kernel_rfl)) (by decide) (fun K hK => ?_)
  refine Kd.R_lit_step k89 _ 89 ?hg (N := 7) ?hd (xs := ([] : List (S89))) (inner := []) (ok := fun _ => True) (okp := fun _ => True) ?hr ?hp (fun _ hk => hk) trivial (Below.refl _ _) (Nat.le_refl _) (by simp) ?_; (case hd => rfl); (case hg => rfl); (case hr => first | (go_simp; done) | (go_simp; rfl)); (case hp => exact (Reps.none _ _))
  intro Ap w6 Ag hb hg_ hnew_
  clear hg_ hnew_
  (first | rw [← Ab.o] at Ag | (simp only [Int.reduceToNat] at Ag; rw [← Ab.o] at Ag))
  have A8 := Z.m (Kd.R_lower Ag (below_size (vB HB)))
  replace A1 := kB A1 hb
  replace A2 := kB A2 hb
  replace HB := bB HB hb
  clear hb Ag
  refine hK.out _ _ ⟨(ql A1.o 0).trans rfl, (ql A1.o 1).trans rfl, (ql A1.o 2).trans rfl⟩ (fun hHeld => ?_)
  clear hK K
  refine norm_ (a' := ?_) ?_ ?_
  rotate_left
  ·show Act.put _ (some 7) _ = _
   simp only [Act.put, q1, q2, q3, i64_w, i32_w]
   rfl
  refine one_ (i := 7) (N := some 10) #[true, true, true, true, true, true, true, true, false, false] rfl rfl (one_of HT_.o (by kernel_rfl)) (by decide) (fun K hK => ?_)
  refine Kd.R_append_rows_step k89 (w0 := w) w.heap.size (by rfl) (.tmp 7) (.tmp 9) 30 89 (.agg #[(.int .i64 0), (.int .i64 0)]) 16 rfl Try.underlying30 info89 rfl (by decide) (by omega) Ap A7 l0_2 _ _ _ (fun _ => True) (fun _ => False) rfl rfl ?aO ?aR (fun _ _ h => h) (fun _ h => h.elim) ?aF ?aB ?aS ?aL ?_
  (case aR => repeat (first | exact (Kd.C_below Ae.o HB.o) | (with_reducible refine Kd.C_alloc ?_ _) | (with_reducible refine Kd.C_drewN ?_ _) | (with_reducible refine Kd.C_drew ?_)))
  (case aB => exact (vB HB))
  (case aF => exact (fun _ _ => trivial))
  (case aO => exact (vR A8))
  (case aS => exact (below_size (vB HB)))
  (case aL => have := Ao.o; omega)
  intro AA w8 ho hb hg hat
  rw [← Af.o] at ho
  have Aa := Z.m (ho)
  replace A1 := Z.m (qg (g := A9) (o := .cells #[.int .i64 a0_0, .int .i64 a0_1, .slice A0_2 l0_2.length c0_2] 32 (0, 0)) (vK A1) hg (Kd.R_ne A8.o A1.o (by decide)))
  replace A2 := Z.m (qg (g := A4) (o := .cells #[.int .i64 0, .int .i64 0, .slice none 0 0] 32 (0, 0)) (vK A2) hg (Kd.R_ne A8.o A2.o (by decide)))
  replace HB := Z.m (hb)
  clear A8
  clear ho hb hg hat
  obtain ⟨Au, Av, At⟩ := Kd.R_slice Aa.o
  (first | subst At | (injection At with f1_ f2_ f3_; have f4_ := f1_.symm; have f5_ := f3_.symm; clear f1_ f2_ f3_; subst f4_; subst f5_))
  refine hK.out _ _ ⟨(ql A1.o 0).trans rfl, (ql A1.o 1).trans rfl, (ql A1.o 2).trans rfl⟩ (fun hHeld => ?_)
  clear hK K
  refine norm_ (a' := ?_) ?_ ?_
  rotate_left
  ·show Act.put _ (some 10) _ = _
   simp only [Act.put, q1, q2, q3, i64_w, i32_w]
   rfl
  refine pure_ (i := 8) (N := some 11) (v := ?_) (a' := ?_) #[true, true, true, true, true, true, true, true, true, false] rfl rfl (any_of HT_.o (by kernel_rfl)) (fun _ _ _ h => h) (Or.inl ⟨by rfl, ?_⟩) ?_ ?_
  rotate_left
  ·intro w'
   go_simp
   with_reducible rfl
  rotate_left
  ·simp only [Act.put, q1, q2, q3, i64_w, i32_w]
   rfl
  refine one_ (i := 9) (N := none) #[true, true, true, true, true, true, true, true, true, true] rfl rfl (one_of HT_.o (by kernel_rfl)) (by decide) (fun K hK => ?_)
  have Aw : w8.cell? ⟨A4, 0, none⟩ = some (.int .i64 0) := (ql A2.o 0).trans rfl
  have hfs10 := qz A2.o 0
  have Al := A0.o
  have Ai := A3.o
  have Ax : w8.cell? ⟨A4, 1, none⟩ = some (.int .i64 0) := (ql A2.o 1).trans rfl
  have hfs11 := qz A2.o 1
  have Am := A0.o
  have Aj := A3.o
  have Ay : w8.cell? ⟨A4, 2, none⟩ = some (.slice none 0 0) := (ql A2.o 2).trans rfl
  have hfs12 := qz A2.o 2
  have An := A0.o
  have Ak := A3.o
  refine skip_ (w1 := ?_) ?hwx ?hnx ?_ ?_; (case hwx => rfl); (case hnx => rfl)
  rotate_left
  ·go_simp
   rfl
  refine hK.out _ _ ⟨(cx A0.o ((cx A0.o ((cx A0.o (hHeld.1)))))), (cx A0.o ((cx A0.o ((cx A0.o (hHeld.2.1)))))), (cx A0.o ((cx A0.o ((cx A0.o (hHeld.2.2))))))⟩ (fun hHeld => ?_)
  clear hK K
  refine done_ (done_of HT_.o (by kernel_rfl)) ?_
  try go_wp2
  refine bodyPost_ret (results_cell_row rfl _ _ A4 32 #[.int .i64 a0_0, .int .i64 a0_1, .slice Au Ah.length Av] (0, 0) _ rfl (by refine bK ?_; apply st3; refine bK ?_; exact A2.o) Try.underlying32 rfl (by kernel_rfl)) rfl ?_
  exact ⟨_, by first | rfl | (simp [eN, eS] <;> rfl) | (simp [*, eN, eS] <;> rfl), by refine rK ?_; exact Kd.Rm (rf (rf (rf (Kd.Ry Aa.o A2.o (by decide))))) (fun _ hk => trivial), vB HB⟩
 ·rw [if_neg c2] at H
  exact absurd H (by simp)

/-! ### impl_isGeared: function 75 -/
def impl_isGeared.f (a0_0 : Int) (a0_1 : Int) : Option (Bool) := if a0_0 = 6 then (some true) else (some (a0_0 == 7))
set_option maxHeartbeats 8000000 in
set_option maxRecDepth 100000 in
theorem impl_isGeared.calls (a0_0 : Int) (a0_1 : Int) (r : Bool) (w : World) (h : impl_isGeared.f a0_0 a0_1 = some r) :
 Calls Try.prog 75 #[.agg #[.int .i64 a0_0, .int .i64 a0_1]] w fun e w' => e = .returned (.bool r) ∧ Below w.heap.size w w' := by
 have Ae := Try.underlying89
 have HB := Z.m (Below.refl w.heap.size w)
 have H : (if a0_0 = 6 then (some true) else (some (a0_0 == 7))) = some r := h
 clear h
 by_cases c2 : a0_0 = 6
 ·rw [if_pos c2] at H
  have A4 := beq_iff_eq.mpr c2
  have A5 := bne_eq_false_iff_eq.mpr c2
  clear c2
  obtain rfl := Option.some.inj H
  go_enter Try.func75, Try.ntmps75
  go_wp2_with (first | ((with_reducible refine gq (N := 1) rfl ?_); refine be (N := 1) (cs := #[.int .i64 a0_0, .int .i64 a0_1]) (t := 89) ?_; intro A3 hg w3 hbox hb; have A0 := Z.m (hbox); have A1 := gW (w := w) HB hg; have A2 := A1; replace HB := bB HB hb; clear hb hbox hg; have A6 := bc0 A0; have A7 := bc1 A0; have Aa := qz A0.o 0; have Ab := qz A0.o 1))
  go_ret
  exact ⟨by first | rfl | (simp [eN, eS] <;> rfl) | (simp [*, eN, eS] <;> rfl), vB HB⟩
 ·rw [if_neg c2] at H
  have A4 := beq_eq_false_iff_ne.mpr c2
  have A5 := bne_iff_ne.mpr c2
  obtain rfl := Option.some.inj H
  go_enter Try.func75, Try.ntmps75
  go_wp2_with (first | ((with_reducible refine gq (N := 1) rfl ?_); refine be (N := 1) (cs := #[.int .i64 a0_0, .int .i64 a0_1]) (t := 89) ?_; intro A3 hg w5 hbox hb; have A0 := Z.m (hbox); have A1 := gW (w := w) HB hg; have A2 := A1; replace HB := bB HB hb; clear hb hbox hg; have A8 := bc0 A0; have A9 := bc1 A0; have Ac := qz A0.o 0; have Ad := qz A0.o 1))
  go_ret
  exact ⟨by first | rfl | (simp [eN, eS] <;> rfl) | (simp [*, eN, eS] <;> rfl), vB HB⟩

/-! ### impl_besideOf: function 76 -/
mutual
def impl_besideOf.j0 : Nat → Int → List Int → Int → Int → Int → Int → List (S89) → Option (List Int)
 | 0, _, _, _, _, _, _, _ => none
 | k + 1, x1, x5, x6, x7, x293000, x293001, x293002 => if x7 > 0 then (if x5.length < 17592186044416 then (impl_besideOf.j1 k x1 (x5 ++ [wrap64 (x1 - 1)]) x6 x7 x293000 x293001 x293002) else (none)) else (impl_besideOf.j1 k x1 x5 x6 x7 x293000 x293001 x293002)
def impl_besideOf.j1 : Nat → Int → List Int → Int → Int → Int → Int → List (S89) → Option (List Int)
 | 0, _, _, _, _, _, _, _ => none
 | k + 1, x1, x5, x6, x7, x293000, x293001, x293002 => if (wrap64 (x7 + 1)) < x293001 then (if x5.length < 17592186044416 then ((some (x5 ++ [wrap64 (x1 + 1)] : List Int)).bind fun y302 => (if (wrap64 (x6 + 1)) < x293000 then (if y302.length < 17592186044416 then (some (y302 ++ [wrap64 (x1 + x293001)])) else (none)) else (some y302))) else (none)) else (if (wrap64 (x6 + 1)) < x293000 then (if x5.length < 17592186044416 then (some (x5 ++ [wrap64 (x1 + x293001)])) else (none)) else (some x5))
end
def impl_besideOf.f (k : Nat) (a0_0 : Int) (a0_1 : Int) (l0_2 : List (S89)) (a1 : Int) : Option (List Int) := (some (([] : List Int) : List Int)).bind fun y293 => (if a0_1 = 0 then (none) else (if (wrap64 (Int.tdiv a1 a0_1)) > 0 then (if y293.length < 17592186044416 then (impl_besideOf.j0 k a1 (y293 ++ [wrap64 (a1 - a0_1)]) (wrap64 (Int.tdiv a1 a0_1)) (Int.tmod a1 a0_1) a0_0 a0_1 l0_2) else (none)) else (impl_besideOf.j0 k a1 y293 (wrap64 (Int.tdiv a1 a0_1)) (Int.tmod a1 a0_1) a0_0 a0_1 l0_2)))
set_option maxHeartbeats 8000000 in
set_option maxRecDepth 100000 in
theorem impl_besideOf.calls (k : Nat) (a0_0 : Int) (a0_1 : Int) (A0_2 : Option Addr) (c0_2 : Nat) (l0_2 : List (S89)) (a1 : Int) (r : List Int) (w : World) (hr0_2 : Kd.C k89 w A0_2 l0_2.length l0_2) (hc0_2 : l0_2.length ≤ c0_2) (h : impl_besideOf.f k a0_0 a0_1 l0_2 a1 = some r) :
 Calls Try.prog 76 #[.agg #[.int .i64 a0_0, .int .i64 a0_1, .slice A0_2 l0_2.length c0_2], .int .i64 a1] w fun e w' => ∃ v0_ : Value, e = .returned (v0_) ∧ Kd.R (Kd.int .i64) 3 w' w.heap.size (fun _ => True) v0_ r ∧ Below w.heap.size w w' := by
 have BT := Try.underlying32
 have BL := Z.m hr0_2
 have BJ := Z.m hc0_2
 clear hr0_2 hc0_2
 have HB := Z.m (Below.refl w.heap.size w)
 have H : ((some (([] : List Int) : List Int)).bind fun A6 => (if a0_1 = 0 then (none) else (if (wrap64 (Int.tdiv a1 a0_1)) > 0 then (if A6.length < 17592186044416 then (impl_besideOf.j0 k a1 (A6 ++ [wrap64 (a1 - a0_1)]) (wrap64 (Int.tdiv a1 a0_1)) (Int.tmod a1 a0_1) a0_0 a0_1 l0_2) else (none)) else (impl_besideOf.j0 k a1 A6 (wrap64 (Int.tdiv a1 a0_1)) (Int.tmod a1 a0_1) a0_0 a0_1 l0_2)))) = some r := h
 clear h
 obtain ⟨A6, Ae⟩ : ∃ y_ : List Int, y_ = (([] : List Int)) := ⟨_, rfl⟩
 replace H : (if a0_1 = 0 then (none) else (if (wrap64 (Int.tdiv a1 a0_1)) > 0 then (if A6.length < 17592186044416 then (impl_besideOf.j0 k a1 (A6 ++ [wrap64 (a1 - a0_1)]) (wrap64 (Int.tdiv a1 a0_1)) (Int.tmod a1 a0_1) a0_0 a0_1 l0_2) else (none)) else (impl_besideOf.j0 k a1 A6 (wrap64 (Int.tdiv a1 a0_1)) (Int.tmod a1 a0_1) a0_0 a0_1 l0_2))) = some r := by first | (rw [Ae]; with_reducible exact H) | (have H2_ := (Option.bind_some _ _).symm.trans H; rw [Ae]; with_reducible exact H2_) | (have H2_ := (Option.bind_some _ _).symm.trans H; with_reducible exact H2_) | with_reducible exact H | (rw [Ae]; exact H) | exact H
 have A8 := Z.m Ae
 clear Ae
 by_cases c3 : a0_1 = 0
 ·rw [if_pos c3] at H
  exact absurd H (by simp)
 ·rw [if_neg c3] at H
  have BF := beq_eq_false_iff_ne.mpr c3
  have BG := bne_iff_ne.mpr c3
  have BE := Z.m H
  clear H
  go_enter Try.func76, Try.ntmps76
  go_upto_if 18 with (first | ((with_reducible refine gq (N := 2) rfl ?_); refine be (N := 2) (cs := #[.int .i64 a0_0, .int .i64 a0_1, .slice A0_2 l0_2.length c0_2]) (t := 32) ?_; intro A2 hg w5 hbox hb; have A0 := Z.m (hbox); have Ab := gW (w := w) HB hg; have AS := Ab; replace HB := bB HB hb; clear hb hbox hg) | ((with_reducible refine gq (N := 8) rfl ?_); refine Kd.R_lit (Kd.int .i64) _ 3 ?hg (N := 8) ?hd (xs := ([] : List Int)) (inner := []) (ok := fun _ => True) (okp := fun _ => True) ?hr ?hp (fun _ hk => hk) trivial (Below.refl _ _) (Nat.le_refl _) (by simp) ?_; (case hd => rfl); (case hg => rfl); (case hr => first | (go_simp; done) | (go_simp; rfl)); (case hp => exact (Reps.none _ _)); intro AR w6 Ad hb hg_ hnew_; clear hg_ hnew_; (first | rw [← A8.o] at Ad | (simp only [Int.reduceToNat] at Ad; rw [← A8.o] at Ad)); have A5 := Z.m (Kd.R_lower Ad (below_size (vB HB))); replace A0 := kB A0 hb; replace HB := bB HB hb; clear hb Ad; have Am := bc0 A0; have An := bc1 A0; have Ao := bc2 A0; have Ap := qz A0.o 0; have Aq := qz A0.o 1; have Ar := qz A0.o 2))
  repeat (go_quiet (first | ((with_reducible refine gq (N := 2) rfl ?_); refine be (N := 2) (cs := #[.int .i64 a0_0, .int .i64 a0_1, .slice A0_2 l0_2.length c0_2]) (t := 32) ?_; intro A2 hg w5 hbox hb; have A0 := Z.m (hbox); have Ab := gW (w := w) HB hg; have AS := Ab; replace HB := bB HB hb; clear hb hbox hg) | ((with_reducible refine gq (N := 8) rfl ?_); refine Kd.R_lit (Kd.int .i64) _ 3 ?hg (N := 8) ?hd (xs := ([] : List Int)) (inner := []) (ok := fun _ => True) (okp := fun _ => True) ?hr ?hp (fun _ hk => hk) trivial (Below.refl _ _) (Nat.le_refl _) (by simp) ?_; (case hd => rfl); (case hg => rfl); (case hr => first | (go_simp; done) | (go_simp; rfl)); (case hp => exact (Reps.none _ _)); intro AR w6 Ad hb hg_ hnew_; clear hg_ hnew_; (first | rw [← A8.o] at Ad | (simp only [Int.reduceToNat] at Ad; rw [← A8.o] at Ad)); have A5 := Z.m (Kd.R_lower Ad (below_size (vB HB))); replace A0 := kB A0 hb; replace HB := bB HB hb; clear hb Ad; have Am := bc0 A0; have An := bc1 A0; have Ao := bc2 A0; have Ap := qz A0.o 0; have Aq := qz A0.o 1; have Ar := qz A0.o 2)); go_upto_if 18 with (first | ((with_reducible refine gq (N := 2) rfl ?_); refine be (N := 2) (cs := #[.int .i64 a0_0, .int .i64 a0_1, .slice A0_2 l0_2.length c0_2]) (t := 32) ?_; intro A2 hg w5 hbox hb; have A0 := Z.m (hbox); have Ab := gW (w := w) HB hg; have AS := Ab; replace HB := bB HB hb; clear hb hbox hg) | ((with_reducible refine gq (N := 8) rfl ?_); refine Kd.R_lit (Kd.int .i64) _ 3 ?hg (N := 8) ?hd (xs := ([] : List Int)) (inner := []) (ok := fun _ => True) (okp := fun _ => True) ?hr ?hp (fun _ hk => hk) trivial (Below.refl _ _) (Nat.le_refl _) (by simp) ?_; (case hd => rfl); (case hg => rfl); (case hr => first | (go_simp; done) | (go_simp; rfl)); (case hp => exact (Reps.none _ _)); intro AR w6 Ad hb hg_ hnew_; clear hg_ hnew_; (first | rw [← A8.o] at Ad | (simp only [Int.reduceToNat] at Ad; rw [← A8.o] at Ad)); have A5 := Z.m (Kd.R_lower Ad (below_size (vB HB))); replace A0 := kB A0 hb; replace HB := bB HB hb; clear hb Ad; have Am := bc0 A0; have An := bc1 A0; have Ao := bc2 A0; have Ap := qz A0.o 0; have Aq := qz A0.o 1; have Ar := qz A0.o 2)))
  (try simp only [Act.put, q1, q2, q3])
  go_cut [5] (fun v5 wc => ∃ (kq : Nat) (Aa : List Int), Z (impl_besideOf.j0 kq a1 Aa (wrap64 (Int.tdiv a1 a0_1)) (Int.tmod a1 a0_1) a0_0 a0_1 l0_2 = some r) ∧ Z (kq ≤ k) ∧ Z (Kd.R (Kd.int .i64) 3 wc w.heap.size (fun _ => True) v5 Aa) ∧ Z (wc.heap[A2]? = some (.cells #[.int .i64 a0_0, .int .i64 a0_1, (.slice A0_2 l0_2.length c0_2)] 32 (0, 0))) ∧ Z (Below w.heap.size w wc))
  case first =>
   have H := BE.o
   clear BE
   by_cases c9 : (wrap64 (Int.tdiv a1 a0_1)) > 0
   ·rw [if_pos c9] at H
    have AQ := decide_eq_true c9
    clear c9
    (first | rw [AQ] | (simp only [i64_w, i32_w]; rw [AQ]) | skip)
    by_cases c10 : A6.length < 17592186044416
    ·rw [if_pos c10] at H
     have AI := Z.m c10
     clear c10
     obtain ⟨B2, Af⟩ : ∃ y_ : List Int, y_ = (A6 ++ [wrap64 (a1 - a0_1)]) := ⟨_, rfl⟩
     replace H : (impl_besideOf.j0 k a1 B2 (wrap64 (Int.tdiv a1 a0_1)) (Int.tmod a1 a0_1) a0_0 a0_1 l0_2) = some r := by first | (rw [Af]; with_reducible exact H) | (have H2_ := (Option.bind_some _ _).symm.trans H; rw [Af]; with_reducible exact H2_) | (have H2_ := (Option.bind_some _ _).symm.trans H; with_reducible exact H2_) | with_reducible exact H | (rw [Af]; exact H) | exact H
     have AM := Z.m Af
     clear Af
     have H' := Z.m H
     clear H
     have Ba := bc0 A0
     have Bb := bc1 A0
     have Bc := bc2 A0
     have Bp := qz A0.o 0
     have Bq := qz A0.o 1
     have Br := qz A0.o 2
     go_wp2_with (first | ((with_reducible refine gu (b := .append) (xs := #[.tmp 19, .tmp 24]) rfl ?_); at_builtin; refine Kd.R_append (Kd.int .i64) (w0 := w) w.heap.size rfl (.tmp 19) (.tmp 24) 43 3 (.int .i64 0) 8 rfl Try.underlying43 info3 rfl (by decide) (by omega) AR A6 (wrap64 (a1 - a0_1)) [.int .i64 (wrap64 (a1 - a0_1))] (fun _ => True) (fun _ => False) rfl rfl ?aP (fun _ hk => hk.elim) ?aF ?aO ?aB ?aS ?aL ?_; (case aP => exact rfl); (case aB => exact (vB HB)); (case aF => exact (fun _ _ => trivial)); (case aO => exact (vR A5)); (case aS => exact (below_size (vB HB))); (case aL => have := AI.o; omega); intro AX BM ho hb hg hat; rw [← AM.o] at ho; have AE := Z.m (ho); replace A0 := Z.m (qg (g := A2) (o := .cells #[.int .i64 a0_0, .int .i64 a0_1, .slice A0_2 l0_2.length c0_2] 32 (0, 0)) (vK A0) hg (Kd.R_ne A5.o A0.o (by decide))); replace HB := Z.m (hb); clear A5; clear ho hb hg hat))
     repeat (go_quiet (first | ((with_reducible refine gu (b := .append) (xs := #[.tmp 19, .tmp 24]) rfl ?_); at_builtin; refine Kd.R_append (Kd.int .i64) (w0 := w) w.heap.size rfl (.tmp 19) (.tmp 24) 43 3 (.int .i64 0) 8 rfl Try.underlying43 info3 rfl (by decide) (by omega) AR A6 (wrap64 (a1 - a0_1)) [.int .i64 (wrap64 (a1 - a0_1))] (fun _ => True) (fun _ => False) rfl rfl ?aP (fun _ hk => hk.elim) ?aF ?aO ?aB ?aS ?aL ?_; (case aP => exact rfl); (case aB => exact (vB HB)); (case aF => exact (fun _ _ => trivial)); (case aO => exact (vR A5)); (case aS => exact (below_size (vB HB))); (case aL => have := AI.o; omega); intro AX BM ho hb hg hat; rw [← AM.o] at ho; have AE := Z.m (ho); replace A0 := Z.m (qg (g := A2) (o := .cells #[.int .i64 a0_0, .int .i64 a0_1, .slice A0_2 l0_2.length c0_2] 32 (0, 0)) (vK A0) hg (Kd.R_ne A5.o A0.o (by decide))); replace HB := Z.m (hb); clear A5; clear ho hb hg hat)); try go_wp2_with (first | ((with_reducible refine gu (b := .append) (xs := #[.tmp 19, .tmp 24]) rfl ?_); at_builtin; refine Kd.R_append (Kd.int .i64) (w0 := w) w.heap.size rfl (.tmp 19) (.tmp 24) 43 3 (.int .i64 0) 8 rfl Try.underlying43 info3 rfl (by decide) (by omega) AR A6 (wrap64 (a1 - a0_1)) [.int .i64 (wrap64 (a1 - a0_1))] (fun _ => True) (fun _ => False) rfl rfl ?aP (fun _ hk => hk.elim) ?aF ?aO ?aB ?aS ?aL ?_; (case aP => exact rfl); (case aB => exact (vB HB)); (case aF => exact (fun _ _ => trivial)); (case aO => exact (vR A5)); (case aS => exact (below_size (vB HB))); (case aL => have := AI.o; omega); intro AX BM ho hb hg hat; rw [← AM.o] at ho; have AE := Z.m (ho); replace A0 := Z.m (qg (g := A2) (o := .cells #[.int .i64 a0_0, .int .i64 a0_1, .slice A0_2 l0_2.length c0_2] 32 (0, 0)) (vK A0) hg (Kd.R_ne A5.o A0.o (by decide))); replace HB := Z.m (hb); clear A5; clear ho hb hg hat)))
     go_meet
     case rel => exact ⟨_, (B2), H', ⟨by first | omega | exact Nat.le_refl _⟩, ⟨vR AE⟩, ⟨vK A0⟩, ⟨vB HB⟩⟩
    ·rw [if_neg c10] at H
     exact absurd H (by simp)
   ·rw [if_neg c9] at H
    have AQ := decide_eq_false c9
    clear c9
    (first | rw [AQ] | (simp only [i64_w, i32_w]; rw [AQ]) | skip)
    have H' := Z.m H
    clear H
    go_wp2
    repeat (go_quiet (fail); try go_wp2)
    go_meet
    case rel => exact ⟨_, (A6), H', ⟨by first | omega | exact Nat.le_refl _⟩, ⟨vR A5⟩, ⟨vK A0⟩, ⟨vB HB⟩⟩
  case rest =>
   clear BE
   (try clear c3); (try clear BF); (try clear BG)
   (try clear Am); (try clear An); (try clear Ao); (try clear Ap); (try clear Aq); (try clear Ar)
   obtain ⟨kq, Aa, HA, BK, A1, A0, HB⟩ := hcut
   cases kq with
   | zero => exact absurd HA.o (by simp [impl_besideOf.j0])
   | succ kj3 =>
    have H := HA.o
    clear HA
    simp only [impl_besideOf.j0] at H
    have AT := Z.m H
    clear H
    go_upto_if 27 with (fail)
    repeat (go_quiet (fail); go_upto_if 27 with (fail))
    go_cut [5] (fun v5 wc => ∃ (kq : Nat) (A3 : List Int), Z (impl_besideOf.j1 kq a1 A3 (wrap64 (Int.tdiv a1 a0_1)) (Int.tmod a1 a0_1) a0_0 a0_1 l0_2 = some r) ∧ Z (kq ≤ kj3) ∧ Z (Kd.R (Kd.int .i64) 3 wc w.heap.size (fun _ => True) v5 A3) ∧ Z (wc.heap[A2]? = some (.cells #[.int .i64 a0_0, .int .i64 a0_1, (.slice A0_2 l0_2.length c0_2)] 32 (0, 0))) ∧ Z (Below w.heap.size w wc))
    case first =>
     have H := AT.o
     clear AT
     by_cases c14 : (Int.tmod a1 a0_1) > 0
     ·rw [if_pos c14] at H
      have Ac := decide_eq_true c14
      clear c14
      (first | rw [Ac] | (simp only [i64_w, i32_w]; rw [Ac]) | skip)
      by_cases c15 : Aa.length < 17592186044416
      ·rw [if_pos c15] at H
       have AJ := Z.m c15
       clear c15
       obtain ⟨B7, Ag⟩ : ∃ y_ : List Int, y_ = (Aa ++ [wrap64 (a1 - 1)]) := ⟨_, rfl⟩
       replace H : (impl_besideOf.j1 kj3 a1 B7 (wrap64 (Int.tdiv a1 a0_1)) (Int.tmod a1 a0_1) a0_0 a0_1 l0_2) = some r := by first | (rw [Ag]; with_reducible exact H) | (have H2_ := (Option.bind_some _ _).symm.trans H; rw [Ag]; with_reducible exact H2_) | (have H2_ := (Option.bind_some _ _).symm.trans H; with_reducible exact H2_) | with_reducible exact H | (rw [Ag]; exact H) | exact H
       have AN := Z.m Ag
       clear Ag
       have H' := Z.m H
       clear H
       go_wp2_with (first | ((with_reducible refine gu (b := .append) (xs := #[.tmp 28, .tmp 31]) rfl ?_); at_builtin; refine Kd.R_append (Kd.int .i64) (w0 := w) w.heap.size rfl (.tmp 28) (.tmp 31) 43 3 (.int .i64 0) 8 rfl Try.underlying43 info3 rfl (by decide) (by omega) u5 Aa (wrap64 (a1 - 1)) [.int .i64 (wrap64 (a1 - 1))] (fun _ => True) (fun _ => False) rfl rfl ?aP (fun _ hk => hk.elim) ?aF ?aO ?aB ?aS ?aL ?_; (case aP => exact rfl); (case aB => exact (vB HB)); (case aF => exact (fun _ _ => trivial)); (case aO => exact (vR A1)); (case aS => exact (below_size (vB HB))); (case aL => have := AJ.o; omega); intro AY BN ho hb hg hat; rw [← AN.o] at ho; have AF := Z.m (ho); replace A0 := Z.m (qg (g := A2) (o := .cells #[.int .i64 a0_0, .int .i64 a0_1, .slice A0_2 l0_2.length c0_2] 32 (0, 0)) (vK A0) hg (Kd.R_ne A1.o A0.o (by decide))); replace HB := Z.m (hb); clear A1; clear ho hb hg hat))
       repeat (go_quiet (first | ((with_reducible refine gu (b := .append) (xs := #[.tmp 28, .tmp 31]) rfl ?_); at_builtin; refine Kd.R_append (Kd.int .i64) (w0 := w) w.heap.size rfl (.tmp 28) (.tmp 31) 43 3 (.int .i64 0) 8 rfl Try.underlying43 info3 rfl (by decide) (by omega) u5 Aa (wrap64 (a1 - 1)) [.int .i64 (wrap64 (a1 - 1))] (fun _ => True) (fun _ => False) rfl rfl ?aP (fun _ hk => hk.elim) ?aF ?aO ?aB ?aS ?aL ?_; (case aP => exact rfl); (case aB => exact (vB HB)); (case aF => exact (fun _ _ => trivial)); (case aO => exact (vR A1)); (case aS => exact (below_size (vB HB))); (case aL => have := AJ.o; omega); intro AY BN ho hb hg hat; rw [← AN.o] at ho; have AF := Z.m (ho); replace A0 := Z.m (qg (g := A2) (o := .cells #[.int .i64 a0_0, .int .i64 a0_1, .slice A0_2 l0_2.length c0_2] 32 (0, 0)) (vK A0) hg (Kd.R_ne A1.o A0.o (by decide))); replace HB := Z.m (hb); clear A1; clear ho hb hg hat)); try go_wp2_with (first | ((with_reducible refine gu (b := .append) (xs := #[.tmp 28, .tmp 31]) rfl ?_); at_builtin; refine Kd.R_append (Kd.int .i64) (w0 := w) w.heap.size rfl (.tmp 28) (.tmp 31) 43 3 (.int .i64 0) 8 rfl Try.underlying43 info3 rfl (by decide) (by omega) u5 Aa (wrap64 (a1 - 1)) [.int .i64 (wrap64 (a1 - 1))] (fun _ => True) (fun _ => False) rfl rfl ?aP (fun _ hk => hk.elim) ?aF ?aO ?aB ?aS ?aL ?_; (case aP => exact rfl); (case aB => exact (vB HB)); (case aF => exact (fun _ _ => trivial)); (case aO => exact (vR A1)); (case aS => exact (below_size (vB HB))); (case aL => have := AJ.o; omega); intro AY BN ho hb hg hat; rw [← AN.o] at ho; have AF := Z.m (ho); replace A0 := Z.m (qg (g := A2) (o := .cells #[.int .i64 a0_0, .int .i64 a0_1, .slice A0_2 l0_2.length c0_2] 32 (0, 0)) (vK A0) hg (Kd.R_ne A1.o A0.o (by decide))); replace HB := Z.m (hb); clear A1; clear ho hb hg hat)))
       go_meet
       case rel => exact ⟨_, (B7), H', ⟨by have := BK.o; first | omega | exact Nat.le_refl _⟩, ⟨vR AF⟩, ⟨vK A0⟩, ⟨vB HB⟩⟩
      ·rw [if_neg c15] at H
       exact absurd H (by simp)
     ·rw [if_neg c14] at H
      have Ac := decide_eq_false c14
      clear c14
      (first | rw [Ac] | (simp only [i64_w, i32_w]; rw [Ac]) | skip)
      have H' := Z.m H
      clear H
      go_wp2
      repeat (go_quiet (fail); try go_wp2)
      go_meet
      case rel => exact ⟨_, (Aa), H', ⟨by have := BK.o; first | omega | exact Nat.le_refl _⟩, ⟨vR A1⟩, ⟨vK A0⟩, ⟨vB HB⟩⟩
    case rest =>
     clear AT
     obtain ⟨kq, A3, HA, BS, A1, A0, HB⟩ := hcut
     cases kq with
     | zero => exact absurd HA.o (by simp [impl_besideOf.j1])
     | succ kj12 =>
      have H := HA.o
      clear HA
      simp only [impl_besideOf.j1] at H
      by_cases c17 : (wrap64 ((Int.tmod a1 a0_1) + 1)) < a0_1
      ·rw [if_pos c17] at H
       have AU := decide_eq_true c17
       clear c17
       by_cases c18 : A3.length < 17592186044416
       ·rw [if_pos c18] at H
        have A7 := Z.m c18
        clear c18
        obtain ⟨Al, Ah⟩ : ∃ y_ : List Int, y_ = (A3 ++ [wrap64 (a1 + 1)]) := ⟨_, rfl⟩
        replace H : (if (wrap64 ((wrap64 (Int.tdiv a1 a0_1)) + 1)) < a0_0 then (if Al.length < 17592186044416 then (some (Al ++ [wrap64 (a1 + a0_1)])) else (none)) else (some Al)) = some r := by first | (rw [Ah]; with_reducible exact H) | (have H2_ := (Option.bind_some _ _).symm.trans H; rw [Ah]; with_reducible exact H2_) | (have H2_ := (Option.bind_some _ _).symm.trans H; with_reducible exact H2_) | with_reducible exact H | (rw [Ah]; exact H) | exact H
        have A9 := Z.m Ah
        clear Ah
        by_cases c19 : (wrap64 ((wrap64 (Int.tdiv a1 a0_1)) + 1)) < a0_0
        ·rw [if_pos c19] at H
         have AV := decide_eq_true c19
         clear c19
         by_cases c20 : Al.length < 17592186044416
         ·rw [if_pos c20] at H
          have AK := Z.m c20
          clear c20
          obtain ⟨BH, Ai⟩ : ∃ y_ : List Int, y_ = (Al ++ [wrap64 (a1 + a0_1)]) := ⟨_, rfl⟩
          replace H : (some BH) = some r := by first | (rw [Ai]; with_reducible exact H) | (have H2_ := (Option.bind_some _ _).symm.trans H; rw [Ai]; with_reducible exact H2_) | (have H2_ := (Option.bind_some _ _).symm.trans H; with_reducible exact H2_) | with_reducible exact H | (rw [Ai]; exact H) | exact H
          have AO := Z.m Ai
          clear Ai
          obtain rfl := Option.some.inj H
          have Bd := bc0 A0
          have Be := bc1 A0
          have Bf := bc2 A0
          have Bs := qz A0.o 0
          have Bt := qz A0.o 1
          have Bu := qz A0.o 2
          go_wp2_with (first | ((with_reducible refine gu (b := .append) (xs := #[.tmp 38, .tmp 41]) rfl ?_); at_builtin; refine Kd.R_append (Kd.int .i64) (w0 := w) w.heap.size rfl (.tmp 38) (.tmp 41) 43 3 (.int .i64 0) 8 rfl Try.underlying43 info3 rfl (by decide) (by omega) u5 A3 (wrap64 (a1 + 1)) [.int .i64 (wrap64 (a1 + 1))] (fun _ => True) (fun _ => False) rfl rfl ?aP (fun _ hk => hk.elim) ?aF ?aO ?aB ?aS ?aL ?_; (case aP => exact rfl); (case aB => exact (vB HB)); (case aF => exact (fun _ _ => trivial)); (case aO => exact (vR A1)); (case aS => exact (below_size (vB HB))); (case aL => have := A7.o; omega); intro Ak BO ho hb hg hat; rw [← A9.o] at ho; have A4 := Z.m (ho); replace A0 := Z.m (qg (g := A2) (o := .cells #[.int .i64 a0_0, .int .i64 a0_1, .slice A0_2 l0_2.length c0_2] 32 (0, 0)) (vK A0) hg (Kd.R_ne A1.o A0.o (by decide))); replace HB := Z.m (hb); clear A1; clear ho hb hg hat; have As := bc0 A0; have At := bc1 A0; have Au := bc2 A0; have Ay := qz A0.o 0; have Az := qz A0.o 1; have AA := qz A0.o 2) | ((with_reducible refine gu (b := .append) (xs := #[.tmp 48, .tmp 53]) rfl ?_); at_builtin; refine Kd.R_append (Kd.int .i64) (w0 := w) w.heap.size rfl (.tmp 48) (.tmp 53) 43 3 (.int .i64 0) 8 rfl Try.underlying43 info3 rfl (by decide) (by omega) Ak Al (wrap64 (a1 + a0_1)) [.int .i64 (wrap64 (a1 + a0_1))] (fun _ => True) (fun _ => False) rfl rfl ?aP (fun _ hk => hk.elim) ?aF ?aO ?aB ?aS ?aL ?_; (case aP => exact rfl); (case aB => exact (vB HB)); (case aF => exact (fun _ _ => trivial)); (case aO => exact (vR A4)); (case aS => exact (below_size (vB HB))); (case aL => have := AK.o; omega); intro AZ BP ho hb hg hat; rw [← AO.o] at ho; have AG := Z.m (ho); replace A0 := Z.m (qg (g := A2) (o := .cells #[.int .i64 a0_0, .int .i64 a0_1, .slice A0_2 l0_2.length c0_2] 32 (0, 0)) (vK A0) hg (Kd.R_ne A4.o A0.o (by decide))); replace HB := Z.m (hb); clear A4; clear ho hb hg hat))
          repeat (go_quiet (first | ((with_reducible refine gu (b := .append) (xs := #[.tmp 38, .tmp 41]) rfl ?_); at_builtin; refine Kd.R_append (Kd.int .i64) (w0 := w) w.heap.size rfl (.tmp 38) (.tmp 41) 43 3 (.int .i64 0) 8 rfl Try.underlying43 info3 rfl (by decide) (by omega) u5 A3 (wrap64 (a1 + 1)) [.int .i64 (wrap64 (a1 + 1))] (fun _ => True) (fun _ => False) rfl rfl ?aP (fun _ hk => hk.elim) ?aF ?aO ?aB ?aS ?aL ?_; (case aP => exact rfl); (case aB => exact (vB HB)); (case aF => exact (fun _ _ => trivial)); (case aO => exact (vR A1)); (case aS => exact (below_size (vB HB))); (case aL => have := A7.o; omega); intro Ak BO ho hb hg hat; rw [← A9.o] at ho; have A4 := Z.m (ho); replace A0 := Z.m (qg (g := A2) (o := .cells #[.int .i64 a0_0, .int .i64 a0_1, .slice A0_2 l0_2.length c0_2] 32 (0, 0)) (vK A0) hg (Kd.R_ne A1.o A0.o (by decide))); replace HB := Z.m (hb); clear A1; clear ho hb hg hat; have As := bc0 A0; have At := bc1 A0; have Au := bc2 A0; have Ay := qz A0.o 0; have Az := qz A0.o 1; have AA := qz A0.o 2) | ((with_reducible refine gu (b := .append) (xs := #[.tmp 48, .tmp 53]) rfl ?_); at_builtin; refine Kd.R_append (Kd.int .i64) (w0 := w) w.heap.size rfl (.tmp 48) (.tmp 53) 43 3 (.int .i64 0) 8 rfl Try.underlying43 info3 rfl (by decide) (by omega) Ak Al (wrap64 (a1 + a0_1)) [.int .i64 (wrap64 (a1 + a0_1))] (fun _ => True) (fun _ => False) rfl rfl ?aP (fun _ hk => hk.elim) ?aF ?aO ?aB ?aS ?aL ?_; (case aP => exact rfl); (case aB => exact (vB HB)); (case aF => exact (fun _ _ => trivial)); (case aO => exact (vR A4)); (case aS => exact (below_size (vB HB))); (case aL => have := AK.o; omega); intro AZ BP ho hb hg hat; rw [← AO.o] at ho; have AG := Z.m (ho); replace A0 := Z.m (qg (g := A2) (o := .cells #[.int .i64 a0_0, .int .i64 a0_1, .slice A0_2 l0_2.length c0_2] 32 (0, 0)) (vK A0) hg (Kd.R_ne A4.o A0.o (by decide))); replace HB := Z.m (hb); clear A4; clear ho hb hg hat)); try go_wp2_with (first | ((with_reducible refine gu (b := .append) (xs := #[.tmp 38, .tmp 41]) rfl ?_); at_builtin; refine Kd.R_append (Kd.int .i64) (w0 := w) w.heap.size rfl (.tmp 38) (.tmp 41) 43 3 (.int .i64 0) 8 rfl Try.underlying43 info3 rfl (by decide) (by omega) u5 A3 (wrap64 (a1 + 1)) [.int .i64 (wrap64 (a1 + 1))] (fun _ => True) (fun _ => False) rfl rfl ?aP (fun _ hk => hk.elim) ?aF ?aO ?aB ?aS ?aL ?_; (case aP => exact rfl); (case aB => exact (vB HB)); (case aF => exact (fun _ _ => trivial)); (case aO => exact (vR A1)); (case aS => exact (below_size (vB HB))); (case aL => have := A7.o; omega); intro Ak BO ho hb hg hat; rw [← A9.o] at ho; have A4 := Z.m (ho); replace A0 := Z.m (qg (g := A2) (o := .cells #[.int .i64 a0_0, .int .i64 a0_1, .slice A0_2 l0_2.length c0_2] 32 (0, 0)) (vK A0) hg (Kd.R_ne A1.o A0.o (by decide))); replace HB := Z.m (hb); clear A1; clear ho hb hg hat; have As := bc0 A0; have At := bc1 A0; have Au := bc2 A0; have Ay := qz A0.o 0; have Az := qz A0.o 1; have AA := qz A0.o 2) | ((with_reducible refine gu (b := .append) (xs := #[.tmp 48, .tmp 53]) rfl ?_); at_builtin; refine Kd.R_append (Kd.int .i64) (w0 := w) w.heap.size rfl (.tmp 48) (.tmp 53) 43 3 (.int .i64 0) 8 rfl Try.underlying43 info3 rfl (by decide) (by omega) Ak Al (wrap64 (a1 + a0_1)) [.int .i64 (wrap64 (a1 + a0_1))] (fun _ => True) (fun _ => False) rfl rfl ?aP (fun _ hk => hk.elim) ?aF ?aO ?aB ?aS ?aL ?_; (case aP => exact rfl); (case aB => exact (vB HB)); (case aF => exact (fun _ _ => trivial)); (case aO => exact (vR A4)); (case aS => exact (below_size (vB HB))); (case aL => have := AK.o; omega); intro AZ BP ho hb hg hat; rw [← AO.o] at ho; have AG := Z.m (ho); replace A0 := Z.m (qg (g := A2) (o := .cells #[.int .i64 a0_0, .int .i64 a0_1, .slice A0_2 l0_2.length c0_2] 32 (0, 0)) (vK A0) hg (Kd.R_ne A4.o A0.o (by decide))); replace HB := Z.m (hb); clear A4; clear ho hb hg hat)))
          go_ret
          exact ⟨_, by first | rfl | (simp [eN, eS] <;> rfl) | (simp [*, eN, eS] <;> rfl), vR AG, vB HB⟩
         ·rw [if_neg c20] at H
          exact absurd H (by simp)
        ·rw [if_neg c19] at H
         have AV := decide_eq_false c19
         clear c19
         obtain rfl := Option.some.inj H
         have Bg := bc0 A0
         have Bh := bc1 A0
         have Bi := bc2 A0
         have Bv := qz A0.o 0
         have Bw := qz A0.o 1
         have Bx := qz A0.o 2
         go_wp2_with (first | ((with_reducible refine gu (b := .append) (xs := #[.tmp 38, .tmp 41]) rfl ?_); at_builtin; refine Kd.R_append (Kd.int .i64) (w0 := w) w.heap.size rfl (.tmp 38) (.tmp 41) 43 3 (.int .i64 0) 8 rfl Try.underlying43 info3 rfl (by decide) (by omega) u5 A3 (wrap64 (a1 + 1)) [.int .i64 (wrap64 (a1 + 1))] (fun _ => True) (fun _ => False) rfl rfl ?aP (fun _ hk => hk.elim) ?aF ?aO ?aB ?aS ?aL ?_; (case aP => exact rfl); (case aB => exact (vB HB)); (case aF => exact (fun _ _ => trivial)); (case aO => exact (vR A1)); (case aS => exact (below_size (vB HB))); (case aL => have := A7.o; omega); intro Ak BQ ho hb hg hat; rw [← A9.o] at ho; have A4 := Z.m (ho); replace A0 := Z.m (qg (g := A2) (o := .cells #[.int .i64 a0_0, .int .i64 a0_1, .slice A0_2 l0_2.length c0_2] 32 (0, 0)) (vK A0) hg (Kd.R_ne A1.o A0.o (by decide))); replace HB := Z.m (hb); clear A1; clear ho hb hg hat; have Av := bc0 A0; have Aw := bc1 A0; have Ax := bc2 A0; have AB := qz A0.o 0; have AC := qz A0.o 1; have AD := qz A0.o 2))
         repeat (go_quiet (first | ((with_reducible refine gu (b := .append) (xs := #[.tmp 38, .tmp 41]) rfl ?_); at_builtin; refine Kd.R_append (Kd.int .i64) (w0 := w) w.heap.size rfl (.tmp 38) (.tmp 41) 43 3 (.int .i64 0) 8 rfl Try.underlying43 info3 rfl (by decide) (by omega) u5 A3 (wrap64 (a1 + 1)) [.int .i64 (wrap64 (a1 + 1))] (fun _ => True) (fun _ => False) rfl rfl ?aP (fun _ hk => hk.elim) ?aF ?aO ?aB ?aS ?aL ?_; (case aP => exact rfl); (case aB => exact (vB HB)); (case aF => exact (fun _ _ => trivial)); (case aO => exact (vR A1)); (case aS => exact (below_size (vB HB))); (case aL => have := A7.o; omega); intro Ak BQ ho hb hg hat; rw [← A9.o] at ho; have A4 := Z.m (ho); replace A0 := Z.m (qg (g := A2) (o := .cells #[.int .i64 a0_0, .int .i64 a0_1, .slice A0_2 l0_2.length c0_2] 32 (0, 0)) (vK A0) hg (Kd.R_ne A1.o A0.o (by decide))); replace HB := Z.m (hb); clear A1; clear ho hb hg hat; have Av := bc0 A0; have Aw := bc1 A0; have Ax := bc2 A0; have AB := qz A0.o 0; have AC := qz A0.o 1; have AD := qz A0.o 2)); try go_wp2_with (first | ((with_reducible refine gu (b := .append) (xs := #[.tmp 38, .tmp 41]) rfl ?_); at_builtin; refine Kd.R_append (Kd.int .i64) (w0 := w) w.heap.size rfl (.tmp 38) (.tmp 41) 43 3 (.int .i64 0) 8 rfl Try.underlying43 info3 rfl (by decide) (by omega) u5 A3 (wrap64 (a1 + 1)) [.int .i64 (wrap64 (a1 + 1))] (fun _ => True) (fun _ => False) rfl rfl ?aP (fun _ hk => hk.elim) ?aF ?aO ?aB ?aS ?aL ?_; (case aP => exact rfl); (case aB => exact (vB HB)); (case aF => exact (fun _ _ => trivial)); (case aO => exact (vR A1)); (case aS => exact (below_size (vB HB))); (case aL => have := A7.o; omega); intro Ak BQ ho hb hg hat; rw [← A9.o] at ho; have A4 := Z.m (ho); replace A0 := Z.m (qg (g := A2) (o := .cells #[.int .i64 a0_0, .int .i64 a0_1, .slice A0_2 l0_2.length c0_2] 32 (0, 0)) (vK A0) hg (Kd.R_ne A1.o A0.o (by decide))); replace HB := Z.m (hb); clear A1; clear ho hb hg hat; have Av := bc0 A0; have Aw := bc1 A0; have Ax := bc2 A0; have AB := qz A0.o 0; have AC := qz A0.o 1; have AD := qz A0.o 2)))
         go_ret
         exact ⟨_, by first | rfl | (simp [eN, eS] <;> rfl) | (simp [*, eN, eS] <;> rfl), vR A4, vB HB⟩
       ·rw [if_neg c18] at H
        exact absurd H (by simp)
      ·rw [if_neg c17] at H
       have AU := decide_eq_false c17
       clear c17
       by_cases c28 : (wrap64 ((wrap64 (Int.tdiv a1 a0_1)) + 1)) < a0_0
       ·rw [if_pos c28] at H
        have AW := decide_eq_true c28
        clear c28
        by_cases c29 : A3.length < 17592186044416
        ·rw [if_pos c29] at H
         have AL := Z.m c29
         clear c29
         obtain ⟨BI, Aj⟩ : ∃ y_ : List Int, y_ = (A3 ++ [wrap64 (a1 + a0_1)]) := ⟨_, rfl⟩
         replace H : (some BI) = some r := by first | (rw [Aj]; with_reducible exact H) | (have H2_ := (Option.bind_some _ _).symm.trans H; rw [Aj]; with_reducible exact H2_) | (have H2_ := (Option.bind_some _ _).symm.trans H; with_reducible exact H2_) | with_reducible exact H | (rw [Aj]; exact H) | exact H
         have AP := Z.m Aj
         clear Aj
         obtain rfl := Option.some.inj H
         have Bj := bc0 A0
         have Bk := bc1 A0
         have Bl := bc2 A0
         have By := qz A0.o 0
         have Bz := qz A0.o 1
         have BA := qz A0.o 2
         go_wp2_with (first | ((with_reducible refine gu (b := .append) (xs := #[.tmp 48, .tmp 53]) rfl ?_); at_builtin; refine Kd.R_append (Kd.int .i64) (w0 := w) w.heap.size rfl (.tmp 48) (.tmp 53) 43 3 (.int .i64 0) 8 rfl Try.underlying43 info3 rfl (by decide) (by omega) u5 A3 (wrap64 (a1 + a0_1)) [.int .i64 (wrap64 (a1 + a0_1))] (fun _ => True) (fun _ => False) rfl rfl ?aP (fun _ hk => hk.elim) ?aF ?aO ?aB ?aS ?aL ?_; (case aP => exact rfl); (case aB => exact (vB HB)); (case aF => exact (fun _ _ => trivial)); (case aO => exact (vR A1)); (case aS => exact (below_size (vB HB))); (case aL => have := AL.o; omega); intro B0 BR ho hb hg hat; rw [← AP.o] at ho; have AH := Z.m (ho); replace A0 := Z.m (qg (g := A2) (o := .cells #[.int .i64 a0_0, .int .i64 a0_1, .slice A0_2 l0_2.length c0_2] 32 (0, 0)) (vK A0) hg (Kd.R_ne A1.o A0.o (by decide))); replace HB := Z.m (hb); clear A1; clear ho hb hg hat))
         repeat (go_quiet (first | ((with_reducible refine gu (b := .append) (xs := #[.tmp 48, .tmp 53]) rfl ?_); at_builtin; refine Kd.R_append (Kd.int .i64) (w0 := w) w.heap.size rfl (.tmp 48) (.tmp 53) 43 3 (.int .i64 0) 8 rfl Try.underlying43 info3 rfl (by decide) (by omega) u5 A3 (wrap64 (a1 + a0_1)) [.int .i64 (wrap64 (a1 + a0_1))] (fun _ => True) (fun _ => False) rfl rfl ?aP (fun _ hk => hk.elim) ?aF ?aO ?aB ?aS ?aL ?_; (case aP => exact rfl); (case aB => exact (vB HB)); (case aF => exact (fun _ _ => trivial)); (case aO => exact (vR A1)); (case aS => exact (below_size (vB HB))); (case aL => have := AL.o; omega); intro B0 BR ho hb hg hat; rw [← AP.o] at ho; have AH := Z.m (ho); replace A0 := Z.m (qg (g := A2) (o := .cells #[.int .i64 a0_0, .int .i64 a0_1, .slice A0_2 l0_2.length c0_2] 32 (0, 0)) (vK A0) hg (Kd.R_ne A1.o A0.o (by decide))); replace HB := Z.m (hb); clear A1; clear ho hb hg hat)); try go_wp2_with (first | ((with_reducible refine gu (b := .append) (xs := #[.tmp 48, .tmp 53]) rfl ?_); at_builtin; refine Kd.R_append (Kd.int .i64) (w0 := w) w.heap.size rfl (.tmp 48) (.tmp 53) 43 3 (.int .i64 0) 8 rfl Try.underlying43 info3 rfl (by decide) (by omega) u5 A3 (wrap64 (a1 + a0_1)) [.int .i64 (wrap64 (a1 + a0_1))] (fun _ => True) (fun _ => False) rfl rfl ?aP (fun _ hk => hk.elim) ?aF ?aO ?aB ?aS ?aL ?_; (case aP => exact rfl); (case aB => exact (vB HB)); (case aF => exact (fun _ _ => trivial)); (case aO => exact (vR A1)); (case aS => exact (below_size (vB HB))); (case aL => have := AL.o; omega); intro B0 BR ho hb hg hat; rw [← AP.o] at ho; have AH := Z.m (ho); replace A0 := Z.m (qg (g := A2) (o := .cells #[.int .i64 a0_0, .int .i64 a0_1, .slice A0_2 l0_2.length c0_2] 32 (0, 0)) (vK A0) hg (Kd.R_ne A1.o A0.o (by decide))); replace HB := Z.m (hb); clear A1; clear ho hb hg hat)))
         go_ret
         exact ⟨_, by first | rfl | (simp [eN, eS] <;> rfl) | (simp [*, eN, eS] <;> rfl), vR AH, vB HB⟩
        ·rw [if_neg c29] at H
         exact absurd H (by simp)
       ·rw [if_neg c28] at H
        have AW := decide_eq_false c28
        clear c28
        obtain rfl := Option.some.inj H
        have Bm := bc0 A0
        have Bn := bc1 A0
        have Bo := bc2 A0
        have BB := qz A0.o 0
        have BC := qz A0.o 1
        have BD := qz A0.o 2
        go_wp2
        repeat (go_quiet (fail); try go_wp2)
        go_ret
        exact ⟨_, by first | rfl | (simp [eN, eS] <;> rfl) | (simp [*, eN, eS] <;> rfl), vR A1, vB HB⟩

end Go.Proofs.Ytoklfgjemfojgaa.PAll
