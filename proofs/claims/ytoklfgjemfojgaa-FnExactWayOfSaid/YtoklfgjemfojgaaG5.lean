/- Began as a text that print.sh wrote (of the functions named below); turned and shortened by this session. -/
import Derived.Test.YtoklfgjemfojgaaG0
namespace Go.Proofs.Ytoklfgjemfojgaa.PAll
open Go.RowKit Go.Proofs.YtoklfgjemfojgaaW.PrintWords Go.Proofs.YtoklfgjemfojgaaW.PrintLast Go.Proofs.YtoklfgjemfojgaaW.PrintMore
attribute [local go_sem] max2_int min2_int max_two min_two max_three min_three max_four min_four   -- for this text's walks alone
set_option linter.unusedVariables false
set_option linter.unusedSimpArgs false

/-! ### spec_boOwn: function 82 -/
def spec_boOwn.f (a0_0 : Int) (a0_1 : Int) (l0_2 : List (S89)) : Option (Int × Int × (List (S89))) := (some (([] : List (S89)) : List (S89))).bind fun y189 => (if y189.length + l0_2.length < 8796093022208 then (some (a0_0, a0_1, (y189 ++ l0_2))) else (none))
def spec_boOwn.T1 : Bool × List (List Nat × List Nat) := (true, [([], []), ([0], [0]), ([], []), ([2], [2]), ([], []), ([], []), ([5], [5]), ([4, 6], [4, 6]), ([1, 3, 7], [1, 3, 7]), ([8, 7, 0, 1, 2, 3, 4, 5, 6, 7, 8], [8])])
def spec_boOwn.B1 : List Nat := [0, 1, 0, 4, 0, 0, 32, 112, 255, 511]
theorem spec_boOwn.tab1 : rtab .any (opsOf Try.f82 1) = spec_boOwn.T1 := by kernel_rfl
theorem spec_boOwn.bits1 : waitsOk spec_boOwn.T1.2 spec_boOwn.B1 = true := by kernel_rfl
set_option maxHeartbeats 8000000 in
set_option maxRecDepth 100000 in
theorem spec_boOwn.calls (a0_0 : Int) (a0_1 : Int) (A0_2 : Option Addr) (c0_2 : Nat) (l0_2 : List (S89)) (r1 : Int) (r2 : Int) (r3 : List (S89)) (w : World) (hr0_2 : Kd.C k89 w A0_2 l0_2.length l0_2) (hc0_2 : l0_2.length ≤ c0_2) (h : spec_boOwn.f a0_0 a0_1 l0_2 = some (r1, r2, r3)) :
 Calls Try.prog 82 #[.agg #[.int .i64 a0_0, .int .i64 a0_1, .slice A0_2 l0_2.length c0_2]] w fun e w' => ∃ v2_ : Value, e = .returned (.agg #[.int .i64 r1, .int .i64 r2, v2_]) ∧ Kd.R k89 89 w' w.heap.size (fun _ => True) v2_ r3 ∧ Below w.heap.size w w' := by
 have Az := Try.underlying32
 have Ae := Z.m hr0_2
 have As := Z.m hc0_2
 clear hr0_2 hc0_2
 have HB := Z.m (Below.refl w.heap.size w)
 have H : ((some (([] : List (S89)) : List (S89))).bind fun A7 => (if A7.length + l0_2.length < 8796093022208 then (some (a0_0, a0_1, (A7 ++ l0_2))) else (none))) = some (r1, r2, r3) := h
 clear h
 obtain ⟨A7, A5⟩ : ∃ y_ : List (S89), y_ = (([] : List (S89))) := ⟨_, rfl⟩
 replace H : (if A7.length + l0_2.length < 8796093022208 then (some (a0_0, a0_1, (A7 ++ l0_2))) else (none)) = some (r1, r2, r3) := by first | (rw [A5]; with_reducible exact H) | (have H2_ := (Option.bind_some _ _).symm.trans H; rw [A5]; with_reducible exact H2_) | (have H2_ := (Option.bind_some _ _).symm.trans H; with_reducible exact H2_) | with_reducible exact H | (rw [A5]; exact H) | exact H
 have Ab := Z.m A5
 clear A5
 by_cases c2 : A7.length + l0_2.length < 8796093022208
 ·rw [if_pos c2] at H
  have Ao := Z.m c2
  clear c2
  obtain ⟨Ah, A6⟩ : ∃ y_ : List (S89), y_ = (A7 ++ l0_2) := ⟨_, rfl⟩
  replace H : (some (a0_0, a0_1, Ah)) = some (r1, r2, r3) := by first | (rw [A6]; with_reducible exact H) | (have H2_ := (Option.bind_some _ _).symm.trans H; rw [A6]; with_reducible exact H2_) | (have H2_ := (Option.bind_some _ _).symm.trans H; with_reducible exact H2_) | with_reducible exact H | (rw [A6]; exact H) | exact H
  have Af := Z.m A6
  clear A6
  simp only [Option.some.injEq, Prod.mk.injEq] at H
  obtain ⟨rfl, rfl, rfl⟩ := H
  go_enter Try.func82, Try.ntmps82
  try go_wp2_with (first | ((with_reducible refine gq (N := 1) rfl ?_); refine be (N := 1) (cs := #[.int .i64 a0_0, .int .i64 a0_1, .slice A0_2 l0_2.length c0_2]) (t := 32) ?_; intro A9 hg w3 hbox hb; have A1 := Z.m (hbox); have Ac := gW (w := w) HB hg; have Aq := Ac; replace HB := bB HB hb; clear hb hbox hg) | ((with_reducible refine gq (N := 2) rfl ?_); refine be (N := 2) (cs := #[.int .i64 0, .int .i64 0, .slice none 0 0]) (t := 32) ?_; intro A4 hg w4 hbox hb; have A2 := Z.m (hbox); have Ad := gW (w := w) HB hg; have Ar := Ad; have A0 := neL A1 hg; have A3 := neG A1 hg; replace A1 := kB A1 hb; replace HB := bB HB hb; clear hb hbox hg))
  replace A1 := Z.m (blk_drew A1.o)
  replace A2 := Z.m (blk_drew A2.o)
  replace HB := Z.m (qd HB.o)
  refine start_ (n := 10) (S := fun w' => w'.cell? ⟨A9, 0, none⟩ = some (.int .i64 a0_0) ∧ w'.cell? ⟨A9, 1, none⟩ = some (.int .i64 a0_1) ∧ w'.cell? ⟨A9, 2, none⟩ = some (.slice A0_2 l0_2.length c0_2)) (ds := []) #[false, false, false, false, false, false, false, false, false, false] (by kernel_rfl) rfl rfl ⟨(ql A1.o 0).trans rfl, (ql A1.o 1).trans rfl, (ql A1.o 2).trans rfl⟩ (fun hHeld => ?_); refine with_tabW spec_boOwn.tab1 spec_boOwn.bits1 (fun HT_ HW_ => ?_)
  generalize w4.drew = w5 at A1 A2 HB hHeld ⊢
  refine pure_ (i := 0) (N := some 3) (v := ?_) (a' := ?_) #[true, false, false, false, false, false, false, false, false, false] rfl rfl (any_of HT_.o (by kernel_rfl)) (fun _ _ _ h => h) (Or.inl ⟨by rfl, ?_⟩) ?_ ?_
  rotate_left
  ·intro w'
   go_simp
   with_reducible rfl
  rotate_left
  ·simp only [Act.put, q1, q2, q3, i64_w, i32_w]
   rfl
  refine pure_ (i := 2) (N := some 5) (v := ?_) (a' := ?_) #[true, false, true, false, false, false, false, false, false, false] rfl rfl (any_of HT_.o (by kernel_rfl)) (fun _ _ _ h => h) (Or.inl ⟨by rfl, ?_⟩) ?_ ?_
  rotate_left
  ·intro w'
   go_simp
   with_reducible rfl
  rotate_left
  ·simp only [Act.put, q1, q2, q3, i64_w, i32_w]
   rfl
  refine pure_ (i := 5) (N := some 8) (v := ?_) (a' := ?_) #[true, false, true, false, false, true, false, false, false, false] rfl rfl (any_of HT_.o (by kernel_rfl)) (fun _ _ _ h => h) (Or.inl ⟨by rfl, ?_⟩) ?_ ?_
  rotate_left
  ·intro w'
   go_simp
   with_reducible rfl
  rotate_left
  ·simp only [Act.put, q1, q2, q3, i64_w, i32_w]
   rfl
  refine take_ (i := 1) (N := some 4) (v := ?_) (a' := ?_) #[true, true, true, false, false, true, false, false, false, false] rfl rfl (take_ofW HT_.o HW_.o (by kernel_rfl)) (fun _ _ _ h => h) (Or.inl ⟨by rfl, ?_⟩) hHeld ?_ ?_
  rotate_left
  ·rintro w' ⟨s0, s1, s2⟩
   go_simp
   with_reducible rfl
  rotate_left
  ·simp only [Act.put, q1, q2, q3, i64_w, i32_w]
   rfl
  refine take_ (i := 3) (N := some 6) (v := ?_) (a' := ?_) #[true, true, true, true, false, true, false, false, false, false] rfl rfl (take_ofW HT_.o HW_.o (by kernel_rfl)) (fun _ _ _ h => h) (Or.inl ⟨by rfl, ?_⟩) hHeld ?_ ?_
  rotate_left
  ·rintro w' ⟨s0, s1, s2⟩
   go_simp
   with_reducible rfl
  rotate_left
  ·simp only [Act.put, q1, q2, q3, i64_w, i32_w]
   rfl
  refine take_ (i := 6) (N := some 9) (v := ?_) (a' := ?_) #[true, true, true, true, false, true, true, false, false, false] rfl rfl (take_ofW HT_.o HW_.o (by kernel_rfl)) (fun _ _ _ h => h) (Or.inl ⟨by rfl, ?_⟩) hHeld ?_ ?_
  rotate_left
  ·rintro w' ⟨s0, s1, s2⟩
   go_simp
   with_reducible rfl
  rotate_left
  ·simp only [Act.put, q1, q2, q3, i64_w, i32_w]
   rfl
  refine one_ (i := 4) (N := some 7) #[true, true, true, true, true, true, true, false, false, false] rfl rfl (one_of HT_.o (by kernel_rfl)) (by decide) (fun K hK => ?_)
  refine Kd.R_lit_step k89 _ 89 ?hg (N := 7) ?hd (xs := ([] : List (S89))) (inner := []) (ok := fun _ => True) (okp := fun _ => True) ?hr ?hp (fun _ hk => hk) trivial (Below.refl _ _) (Nat.le_refl _) (by simp) ?_; (case hd => rfl); (case hg => rfl); (case hr => first | (go_simp; done) | (go_simp; rfl)); (case hp => exact (Reps.none _ _))
  intro Ap w6 Ag hb hg_ hnew_
  clear hg_ hnew_
  (first | rw [← Ab.o] at Ag | (simp only [Int.reduceToNat] at Ag; rw [← Ab.o] at Ag))
  have A8 := Z.m (Kd.R_lower Ag (below_size (vB HB)))
  replace A1 := kB A1 hb
  replace A2 := kB A2 hb
  replace HB := bB HB hb
  clear hb Ag
  refine hK.out _ _ ⟨(ql A1.o 0).trans rfl, (ql A1.o 1).trans rfl, (ql A1.o 2).trans rfl⟩ (fun hHeld => ?_)
  clear hK K
  refine norm_ (a' := ?_) ?_ ?_
  rotate_left
  ·show Act.put _ (some 7) _ = _
   simp only [Act.put, q1, q2, q3, i64_w, i32_w]
   rfl
  refine one_ (i := 7) (N := some 10) #[true, true, true, true, true, true, true, true, false, false] rfl rfl (one_of HT_.o (by kernel_rfl)) (by decide) (fun K hK => ?_)
  refine Kd.R_append_rows_step k89 (w0 := w) w.heap.size (by rfl) (.tmp 7) (.tmp 9) 30 89 (.agg #[(.int .i64 0), (.int .i64 0)]) 16 rfl Try.underlying30 info89 rfl (by decide) (by omega) Ap A7 l0_2 _ _ _ (fun _ => True) (fun _ => False) rfl rfl ?aO ?aR (fun _ _ h => h) (fun _ h => h.elim) ?aF ?aB ?aS ?aL ?_
  (case aR => repeat (first | exact (Kd.C_below Ae.o HB.o) | (with_reducible refine Kd.C_alloc ?_ _) | (with_reducible refine Kd.C_drewN ?_ _) | (with_reducible refine Kd.C_drew ?_)))
  (case aB => exact (vB HB))
  (case aF => exact (fun _ _ => trivial))
  (case aO => exact (vR A8))
  (case aS => exact (below_size (vB HB)))
  (case aL => have := Ao.o; omega)
  intro AA w8 ho hb hg hat
  rw [← Af.o] at ho
  have Aa := Z.m (ho)
  replace A1 := Z.m (qg (g := A9) (o := .cells #[.int .i64 a0_0, .int .i64 a0_1, .slice A0_2 l0_2.length c0_2] 32 (0, 0)) (vK A1) hg (Kd.R_ne A8.o A1.o (by decide)))
  replace A2 := Z.m (qg (g := A4) (o := .cells #[.int .i64 0, .int .i64 0, .slice none 0 0] 32 (0, 0)) (vK A2) hg (Kd.R_ne A8.o A2.o (by decide)))
  replace HB := Z.m (hb)
  clear A8
  clear ho hb hg hat
  obtain ⟨Au, Av, At⟩ := Kd.R_slice Aa.o
  (first | subst At | (injection At with f1_ f2_ f3_; have f4_ := f1_.symm; have f5_ := f3_.symm; clear f1_ f2_ f3_; subst f4_; subst f5_))
  refine hK.out _ _ ⟨(ql A1.o 0).trans rfl, (ql A1.o 1).trans rfl, (ql A1.o 2).trans rfl⟩ (fun hHeld => ?_)
  clear hK K
  refine norm_ (a' := ?_) ?_ ?_
  rotate_left
  ·show Act.put _ (some 10) _ = _
   simp only [Act.put, q1, q2, q3, i64_w, i32_w]
   rfl
  refine pure_ (i := 8) (N := some 11) (v := ?_) (a' := ?_) #[true, true, true, true, true, true, true, true, true, false] rfl rfl (any_of HT_.o (by kernel_rfl)) (fun _ _ _ h => h) (Or.inl ⟨by rfl, ?_⟩) ?_ ?_
  rotate_left
  ·intro w'
   go_simp
   with_reducible rfl
  rotate_left
  ·simp only [Act.put, q1, q2, q3, i64_w, i32_w]
   rfl
  refine one_ (i := 9) (N := none) #[true, true, true, true, true, true, true, true, true, true] rfl rfl (one_of HT_.o (by kernel_rfl)) (by decide) (fun K hK => ?_)
  have Aw : w8.cell? ⟨A4, 0, none⟩ = some (.int .i64 0) := (ql A2.o 0).trans rfl
  have hfs10 := qz A2.o 0
  have Al := A0.o
  have Ai := A3.o
  have Ax : w8.cell? ⟨A4, 1, none⟩ = some (.int .i64 0) := (ql A2.o 1).trans rfl
  have hfs11 := qz A2.o 1
  have Am := A0.o
  have Aj := A3.o
  have Ay : w8.cell? ⟨A4, 2, none⟩ = some (.slice none 0 0) := (ql A2.o 2).trans rfl
  have hfs12 := qz A2.o 2
  have An := A0.o
  have Ak := A3.o
  refine skip_ (w1 := ?_) ?hwx ?hnx ?_ ?_; (case hwx => rfl); (case hnx => rfl)
  rotate_left
  ·go_simp
   rfl
  refine hK.out _ _ ⟨(cx A0.o ((cx A0.o ((cx A0.o (hHeld.1)))))), (cx A0.o ((cx A0.o ((cx A0.o (hHeld.2.1)))))), (cx A0.o ((cx A0.o ((cx A0.o (hHeld.2.2))))))⟩ (fun hHeld => ?_)
  clear hK K
  refine done_ (done_of HT_.o (by kernel_rfl)) ?_
  try go_wp2
  refine bodyPost_ret (results_cell_row rfl _ _ A4 32 #[.int .i64 a0_0, .int .i64 a0_1, .slice Au Ah.length Av] (0, 0) _ rfl (by refine bK ?_; apply st3; refine bK ?_; exact A2.o) Try.underlying32 rfl (by kernel_rfl)) rfl ?_
  exact ⟨_, by first | rfl | (simp [eN, eS] <;> rfl) | (simp [*, eN, eS] <;> rfl), by refine rK ?_; exact Kd.Rm (rf (rf (rf (Kd.Ry Aa.o A2.o (by decide))))) (fun _ hk => trivial), vB HB⟩
 ·rw [if_neg c2] at H
  exact absurd H (by simp)

/-! ### spec_boAt: function 83 -/
def spec_boAt.f (a0_0 : Int) (a0_1 : Int) (l0_2 : List (S89)) (a1 : Int) (a2 : Int) : Option (Int × Int) := if 0 ≤ (wrap64 ((wrap64 (a1 * a0_1)) + a2)) then (if (wrap64 ((wrap64 (a1 * a0_1)) + a2)) < (l0_2.length : Int) then (some ((rd_T89 l0_2 (wrap64 ((wrap64 (a1 * a0_1)) + a2))).f0, (rd_T89 l0_2 (wrap64 ((wrap64 (a1 * a0_1)) + a2))).f1)) else (none)) else (none)
set_option maxHeartbeats 8000000 in
set_option maxRecDepth 100000 in
theorem spec_boAt.calls (a0_0 : Int) (a0_1 : Int) (A0_2 : Option Addr) (c0_2 : Nat) (l0_2 : List (S89)) (a1 : Int) (a2 : Int) (r1 : Int) (r2 : Int) (w : World) (hr0_2 : Kd.C k89 w A0_2 l0_2.length l0_2) (hc0_2 : l0_2.length ≤ c0_2) (h : spec_boAt.f a0_0 a0_1 l0_2 a1 a2 = some (r1, r2)) :
 Calls Try.prog 83 #[.agg #[.int .i64 a0_0, .int .i64 a0_1, .slice A0_2 l0_2.length c0_2], .int .i64 a1, .int .i64 a2] w fun e w' => e = .returned (.agg #[.int .i64 r1, .int .i64 r2]) ∧ Below w.heap.size w w' := by
 have Av := Try.underlying32
 have Aw := Try.underlying89
 have Aa := Z.m hr0_2
 have Ao := Z.m hc0_2
 clear hr0_2 hc0_2
 have HB := Z.m (Below.refl w.heap.size w)
 have H : (if 0 ≤ (wrap64 ((wrap64 (a1 * a0_1)) + a2)) then (if (wrap64 ((wrap64 (a1 * a0_1)) + a2)) < (l0_2.length : Int) then (some ((rd_T89 l0_2 (wrap64 ((wrap64 (a1 * a0_1)) + a2))).f0, (rd_T89 l0_2 (wrap64 ((wrap64 (a1 * a0_1)) + a2))).f1)) else (none)) else (none)) = some (r1, r2) := h
 clear h
 obtain ⟨A6, A7⟩ : ∃ j_ : Int, (wrap64 ((wrap64 (a1 * a0_1)) + a2)) = j_ := ⟨_, rfl⟩
 replace H : (if 0 ≤ (A6) then (if (A6) < (l0_2.length : Int) then (some ((rd_T89 l0_2 (A6)).f0, (rd_T89 l0_2 (A6)).f1)) else (none)) else (none)) = some (r1, r2) := by first | (rw [A7] at H; exact H) | (simp only [A7] at H ⊢; exact H)
 have hji4w : (IntKind.i64.wrap ((wrap64 (a1 * a0_1)) + a2)) = A6 := (i64_w _).trans A7
 by_cases c5 : 0 ≤ (A6)
 ·rw [if_pos c5] at H
  have Ar := decide_eq_true c5
  clear c5
  by_cases c6 : (A6) < (l0_2.length : Int)
  ·rw [if_pos c6] at H
   have As := decide_eq_true c6
   clear c6
   simp only [Option.some.injEq, Prod.mk.injEq] at H
   obtain ⟨rfl, rfl⟩ := H
   go_enter Try.func83, Try.ntmps83
   go_wp2_with (first | ((with_reducible refine gq (N := 3) rfl ?_); refine be (N := 3) (cs := #[.int .i64 a0_0, .int .i64 a0_1, .slice A0_2 l0_2.length c0_2]) (t := 32) ?_; intro Aq hg w7 hbox hb; have A0 := Z.m (hbox); have A8 := gW (w := w) HB hg; have Am := A8; replace HB := bB HB hb; clear hb hbox hg) | ((with_reducible refine gq (N := 6) rfl ?_); refine be (N := 6) (cs := #[.int .i64 0, .int .i64 0]) (t := 89) ?_; intro Ab hg w8 hbox hb; have A3 := Z.m (hbox); have A9 := gW (w := w) HB hg; have An := A9; have A4 := neL A0 hg; have A5 := neG A0 hg; replace A0 := kB A0 hb; replace HB := bB HB hb; clear hb hbox hg; have At := A4.o; have Au := A5.o; have Ac := bc0 A0; have Ad := bc1 A0; have Ae := bc2 A0; have Ah := qz A0.o 0; have Ai := qz A0.o 1; have Aj := qz A0.o 2; have p197 : 0 ≤ ((A6) : Int) := ofD; have q197 : (A6) < (l0_2.length : Int) := ofD; obtain ⟨Ap, e197, A1, A2⟩ := at_T89 Aa.o (A6) p197 q197; cases e197; replace A1 := (HB.o.cell (World.block_lt_of_cell? w _ A1)).trans A1; replace A2 := (HB.o.cell (World.block_lt_of_cell? w _ A2)).trans A2; replace p197 := eq_true p197; replace q197 := eq_true q197; have Af := bc0 A3; have Ag := bc1 A3; have Ak := qz A3.o 0; have Al := qz A3.o 1))
   refine bodyPost_ret (results_cell_row rfl _ _ Ab 89 #[.int .i64 ((rd_T89 l0_2 (A6)).f0), .int .i64 ((rd_T89 l0_2 (A6)).f1)] (0, 0) _ rfl (by refine bK ?_; refine qp (cs := #[iV ((rd_T89 l0_2 (A6)).f0), iV 0]) ?_ 1 _ rfl; refine bK ?_; refine qp (cs := #[iV 0, iV 0]) ?_ 0 _ rfl; refine bK ?_; exact A3.o) Try.underlying89 rfl (by kernel_rfl)) rfl ?_
   exact ⟨by first | rfl | (simp [eN, eS] <;> rfl) | (simp only [← A7]; first | rfl | (simp [eN, eS] <;> rfl)) | (simp [*, eN, eS] <;> rfl), vB HB⟩
  ·rw [if_neg c6] at H
   exact absurd H (by simp)
 ·rw [if_neg c5] at H
  exact absurd H (by simp)

/-! ### spec_paGoes: function 84 -/
def spec_paGoes.j0 : Nat → Int → Int → Bool → Int → Int → Option (Int)
 | 0, _, _, _, _, _ => none
 | k + 1, x1, x6, x11, x199000, x199001 => if x11 = true then (some (wrap64 ((wrap64 (2 * x199001)) - 1))) else (if x6 = 4 then (some (wrap64 (-x1))) else (some 0))
def spec_paGoes.f (k : Nat) (a0_0 : Int) (a0_1 : Int) (a1 : Int) : Option (Int) := if a0_0 = 1 then (some (-1)) else (if a0_0 = 2 then (some 1) else (if a0_0 = 3 then (spec_paGoes.j0 k a1 a0_0 (a0_0 == 3) a0_0 a0_1) else (spec_paGoes.j0 k a1 a0_0 (a0_0 == 6) a0_0 a0_1)))
set_option maxHeartbeats 8000000 in
set_option maxRecDepth 100000 in
theorem spec_paGoes.calls (k : Nat) (a0_0 : Int) (a0_1 : Int) (a1 : Int) (r : Int) (w : World) (h : spec_paGoes.f k a0_0 a0_1 a1 = some r) :
 Calls Try.prog 84 #[.agg #[.int .i64 a0_0, .int .i64 a0_1], .int .i64 a1] w fun e w' => e = .returned (.int .i64 r) ∧ Below w.heap.size w w' := by
 have Au := Try.underlying89
 have HB := Z.m (Below.refl w.heap.size w)
 have H : (if a0_0 = 1 then (some (-1)) else (if a0_0 = 2 then (some 1) else (if a0_0 = 3 then (spec_paGoes.j0 k a1 a0_0 (a0_0 == 3) a0_0 a0_1) else (spec_paGoes.j0 k a1 a0_0 (a0_0 == 6) a0_0 a0_1)))) = some r := h
 clear h
 by_cases c3 : a0_0 = 1
 ·rw [if_pos c3] at H
  have Ad := beq_iff_eq.mpr c3
  have Ae := bne_eq_false_iff_eq.mpr c3
  clear c3
  obtain rfl := Option.some.inj H
  go_enter Try.func84, Try.ntmps84
  go_wp2_with (first | ((with_reducible refine gq (N := 2) rfl ?_); refine be (N := 2) (cs := #[.int .i64 a0_0, .int .i64 a0_1]) (t := 89) ?_; intro A4 hg w4 hbox hb; have A0 := Z.m (hbox); have A1 := gW (w := w) HB hg; have A9 := A1; replace HB := bB HB hb; clear hb hbox hg; have Am := bc0 A0; have An := bc1 A0; have Aq := qz A0.o 0; have Ar := qz A0.o 1))
  go_ret
  exact ⟨by first | rfl | (simp [eN, eS] <;> rfl) | (simp [*, eN, eS] <;> rfl), vB HB⟩
 ·rw [if_neg c3] at H
  have Ad := beq_eq_false_iff_ne.mpr c3
  have Ae := bne_iff_ne.mpr c3
  by_cases c6 : a0_0 = 2
  ·rw [if_pos c6] at H
   have Af := beq_iff_eq.mpr c6
   have Ag := bne_eq_false_iff_eq.mpr c6
   clear c6
   obtain rfl := Option.some.inj H
   go_enter Try.func84, Try.ntmps84
   go_wp2_with (first | ((with_reducible refine gq (N := 2) rfl ?_); refine be (N := 2) (cs := #[.int .i64 a0_0, .int .i64 a0_1]) (t := 89) ?_; intro A4 hg w7 hbox hb; have A0 := Z.m (hbox); have A1 := gW (w := w) HB hg; have A9 := A1; replace HB := bB HB hb; clear hb hbox hg; have Ao := bc0 A0; have Ap := bc1 A0; have As := qz A0.o 0; have At := qz A0.o 1))
   go_ret
   exact ⟨by first | rfl | (simp [eN, eS] <;> rfl) | (simp [*, eN, eS] <;> rfl), vB HB⟩
  ·rw [if_neg c6] at H
   have Af := beq_eq_false_iff_ne.mpr c6
   have Ag := bne_iff_ne.mpr c6
   have Al := Z.m H
   clear H
   go_enter Try.func84, Try.ntmps84
   go_upto_if 11 with (first | ((with_reducible refine gq (N := 2) rfl ?_); refine be (N := 2) (cs := #[.int .i64 a0_0, .int .i64 a0_1]) (t := 89) ?_; intro A4 hg Aw hbox hb; have A0 := Z.m (hbox); have A1 := gW (w := w) HB hg; have A9 := A1; replace HB := bB HB hb; clear hb hbox hg; have A5 := bc0 A0; have A6 := bc1 A0; have A7 := qz A0.o 0; have A8 := qz A0.o 1))
   (try simp only [Act.put, q1, q2, q3])
   go_cut [11] (fun v11 wc => ∃ (kq : Nat) (A3 : Bool), v11 = .bool A3 ∧ Z (spec_paGoes.j0 kq a1 a0_0 A3 a0_0 a0_1 = some r) ∧ Z (kq ≤ k) ∧ Z (wc.heap[A4]? = some (.cells #[.int .i64 a0_0, .int .i64 a0_1] 89 (0, 0))) ∧ Z (Below w.heap.size w wc))
   case first =>
    have H := Al.o
    clear Al
    by_cases c12 : a0_0 = 3
    ·rw [if_pos c12] at H
     have A2 := beq_iff_eq.mpr c12
     have Aa := bne_eq_false_iff_eq.mpr c12
     clear c12
     (first | rw [A2] | (simp only [i64_w, i32_w]; rw [A2]) | skip)
     have H' := Z.m H
     clear H
     go_wp2
     go_meet
     case rel => exact ⟨_, ((a0_0 == 3)), (by first | rfl | (simp; done) | (simp [*]; done)), H', ⟨by first | omega | exact Nat.le_refl _⟩, ⟨vK A0⟩, ⟨vB HB⟩⟩
    ·rw [if_neg c12] at H
     have A2 := beq_eq_false_iff_ne.mpr c12
     have Aa := bne_iff_ne.mpr c12
     (first | rw [A2] | (simp only [i64_w, i32_w]; rw [A2]) | skip)
     have H' := Z.m H
     clear H
     go_wp2
     go_meet
     case rel => exact ⟨_, ((a0_0 == 6)), (by first | rfl | (simp; done) | (simp [*]; done)), H', ⟨by first | omega | exact Nat.le_refl _⟩, ⟨vK A0⟩, ⟨vB HB⟩⟩
   case rest =>
    clear Al
    (try clear c3); (try clear Ad); (try clear Ae); (try clear c6); (try clear Af); (try clear Ag)
    (try clear A5); (try clear A6); (try clear A7); (try clear A8)
    obtain ⟨kq, A3, rfl, HA, Av, A0, HB⟩ := hcut
    cases kq with
    | zero => exact absurd HA.o (by simp [spec_paGoes.j0])
    | succ kj8 =>
     have H := HA.o
     clear HA
     simp only [spec_paGoes.j0] at H
     by_cases c13 : A3 = true
     ·subst c13
      have H1 : (some (wrap64 ((wrap64 (2 * a0_1)) - 1))) = some r := by rw [if_pos rfl] at H; exact H
      clear H
      have H := H1
      clear H1
      obtain rfl := Option.some.inj H
      have Ah := bc0 A0
      have Ai := bc1 A0
      have Aj := qz A0.o 0
      have Ak := qz A0.o 1
      go_wp2
      go_ret
      exact ⟨by first | rfl | (simp [eN, eS] <;> rfl) | (simp [*, eN, eS] <;> rfl), vB HB⟩
     ·replace c13 := Bool.eq_false_iff.mpr c13
      subst c13
      have H1 : (if a0_0 = 4 then (some (wrap64 (-a1))) else (some 0)) = some r := by rw [if_neg (show ¬ (false = true) by decide)] at H; exact H
      clear H
      have H := H1
      clear H1
      by_cases c15 : a0_0 = 4
      ·rw [if_pos c15] at H
       have Ab := beq_iff_eq.mpr c15
       have Ac := bne_eq_false_iff_eq.mpr c15
       clear c15
       obtain rfl := Option.some.inj H
       go_wp2
       go_ret
       exact ⟨by first | rfl | (simp [eN, eS] <;> rfl) | (simp [*, eN, eS] <;> rfl), vB HB⟩
      ·rw [if_neg c15] at H
       have Ab := beq_eq_false_iff_ne.mpr c15
       have Ac := bne_iff_ne.mpr c15
       obtain rfl := Option.some.inj H
       go_wp2
       go_ret
       exact ⟨by first | rfl | (simp [eN, eS] <;> rfl) | (simp [*, eN, eS] <;> rfl), vB HB⟩

/-! ### spec_paTurn: function 89 -/
def spec_paTurn.f (a0_0 : Int) (a0_1 : Int) : Option (Int × Int) := some (a0_0, wrap64 (1 - a0_1))
set_option maxHeartbeats 8000000 in
set_option maxRecDepth 100000 in
theorem spec_paTurn.calls (a0_0 : Int) (a0_1 : Int) (r1 : Int) (r2 : Int) (w : World) (h : spec_paTurn.f a0_0 a0_1 = some (r1, r2)) :
 Calls Try.prog 89 #[.agg #[.int .i64 a0_0, .int .i64 a0_1]] w fun e w' => e = .returned (.agg #[.int .i64 r1, .int .i64 r2]) ∧ Below w.heap.size w w' := by
 have Ak := Try.underlying89
 have HB := Z.m (Below.refl w.heap.size w)
 have H : (some (a0_0, wrap64 (1 - a0_1))) = some (r1, r2) := h
 clear h
 simp only [Option.some.injEq, Prod.mk.injEq] at H
 obtain ⟨rfl, rfl⟩ := H
 go_enter Try.func89, Try.ntmps89
 go_wp2_with (first | ((with_reducible refine gq (N := 1) rfl ?_); refine be (N := 1) (cs := #[.int .i64 a0_0, .int .i64 a0_1]) (t := 89) ?_; intro Ah hg w2 hbox hb; have A0 := Z.m (hbox); have A4 := gW (w := w) HB hg; have Af := A4; replace HB := bB HB hb; clear hb hbox hg) | ((with_reducible refine gq (N := 2) rfl ?_); refine be (N := 2) (cs := #[.int .i64 0, .int .i64 0]) (t := 89) ?_; intro A6 hg w3 hbox hb; have A1 := Z.m (hbox); have A5 := gW (w := w) HB hg; have Ag := A5; have A2 := neL A0 hg; have A3 := neG A0 hg; replace A0 := kB A0 hb; replace HB := bB HB hb; clear hb hbox hg; have Ai := A2.o; have Aj := A3.o; have A7 := bc0 A0; have A8 := bc1 A0; have Ab := qz A0.o 0; have Ac := qz A0.o 1; have A9 := bc0 A1; have Aa := bc1 A1; have Ad := qz A1.o 0; have Ae := qz A1.o 1))
 refine bodyPost_ret (results_cell_row rfl _ _ A6 89 #[.int .i64 a0_0, .int .i64 (wrap64 (1 - a0_1))] (0, 0) _ rfl (by refine bK ?_; refine qp (cs := #[iV a0_0, iV 0]) ?_ 1 _ rfl; refine bK ?_; refine qp (cs := #[iV 0, iV 0]) ?_ 0 _ rfl; refine bK ?_; exact A1.o) Try.underlying89 rfl (by kernel_rfl)) rfl ?_
 exact ⟨by first | rfl | (simp [eN, eS] <;> rfl) | (simp [*, eN, eS] <;> rfl), vB HB⟩

end Go.Proofs.Ytoklfgjemfojgaa.PAll
