/- Began as a text that print.sh wrote (of the functions named below); turned and shortened by this session. -/
import Derived.Test.YteodcegmkbcjjaaG0
import Derived.Test.YteodcegmkbcjjaaG2
namespace Go.Proofs.Yteodcegmkbcjjaa.PAll
open Go.RowKit Go.Proofs.YteodcegmkbcjjaaW.PrintWords Go.Proofs.YteodcegmkbcjjaaW.PrintLast Go.Proofs.YteodcegmkbcjjaaW.PrintMore
attribute [local go_sem] max2_int min2_int max_two min_two max_three min_three max_four min_four   -- for this text's walks alone
set_option linter.unusedVariables false
set_option linter.unusedSimpArgs false

/-! ### spec_boIf: function 63 -/
def spec_boIf.f (k : Nat) (a0_0 : Int) (a0_1 : Int) (l0_2 : List (S34)) : Option (Int × Int × (List (S34)) × Bool) := (spec_boGood.f k a0_0 a0_1 l0_2).bind fun t234 => (if t234 = true then (some (a0_0, a0_1, l0_2, true)) else (some (0, 0, ([] : List (S34)), false)))
set_option maxHeartbeats 8000000 in
set_option maxRecDepth 100000 in
theorem spec_boIf.calls (k : Nat) (a0_0 : Int) (a0_1 : Int) (P0_2_ : Nat → Prop) (u9000_ : Value) (l0_2 : List (S34)) (r1 : Int) (r2 : Int) (r3 : List (S34)) (r4 : Bool) (w0 w : World) (hB : Below w0.heap.size w0 w) (ho0_2 : Kd.R k34 34 w w0.heap.size P0_2_ u9000_ l0_2) (h : spec_boIf.f k a0_0 a0_1 l0_2 = some (r1, r2, r3, r4)) :
 Calls Try.prog 63 #[.agg #[.int .i64 a0_0, .int .i64 a0_1, u9000_]] w fun e w' => ∃ v2_ : Value, e = .returned (.tuple #[.agg #[.int .i64 r1, .int .i64 r2, v2_], .bool r4]) ∧ Kd.R k34 34 w' w0.heap.size (fun k_ => (P0_2_ k_ ∨ w.heap.size ≤ k_)) v2_ r3 ∧ Below w0.heap.size w0 w' ∧ Kept w w' (fun k_ => P0_2_ k_) := by
 have AT := Try.underlying29
 have A3 := Z.m (show Kd.R k34 34 w w0.heap.size (fun k_ => (P0_2_ k_ ∨ w.heap.size ≤ k_)) u9000_ l0_2 from Kd.Rm ho0_2 (fun k_ hk => (.inl hk)))
 have HK := Z.m (Kept.refl w (fun k_ => P0_2_ k_))
 have HW0 := Z.m hB.size
 have HB := Z.m hB
 clear hB
 have H : ((spec_boGood.f k a0_0 a0_1 l0_2).bind fun A8 => (if A8 = true then (some (a0_0, a0_1, l0_2, true)) else (some (0, 0, ([] : List (S34)), false)))) = some (r1, r2, r3, r4) := h
 clear h
 replace H := Option.bind_eq_some_iff.mp H
 obtain ⟨A8, AM, H⟩ := H
 replace H : (if A8 = true then (some (a0_0, a0_1, l0_2, true)) else (some (0, 0, ([] : List (S34)), false))) = some (r1, r2, r3, r4) := H
 have A2 := Z.m AM
 clear AM
 by_cases c3 : A8 = true
 ·subst c3
  have H1 : (some (a0_0, a0_1, l0_2, true)) = some (r1, r2, r3, r4) := by rw [if_pos rfl] at H; exact H
  clear H
  have H := H1
  clear H1
  simp only [Option.some.injEq, Prod.mk.injEq] at H
  obtain ⟨rfl, rfl, rfl, rfl⟩ := H
  obtain ⟨AD, AE, AP⟩ := Kd.R_slice A3.o
  subst AP
  go_enter Try.func63, Try.ntmps63
  go_wp2_with (first | ((with_reducible refine gq (N := 1) rfl ?_); refine be (N := 1) (cs := #[.int .i64 a0_0, .int .i64 a0_1, .slice AD l0_2.length AE]) (t := 29) ?_; intro A7 hg w5 hbox hb; have A0 := Z.m (hbox); have Ac := Z.m ((by rw [hg]; exact (by first | exact HK.o.1 | exact (show Kept w _ (fun k_ => P0_2_ k_) from vT HK).1) : w.heap.size ≤ A7)); have Aa := gW (w := w0) HB hg; replace A3 := Z.m (Kd.Rb (vR A3) hb); replace HK := Z.m (Kept.below (S := (fun k_ => P0_2_ k_)) (vT HK) hb); replace HB := bB HB hb; clear hb hbox hg) | ((with_reducible refine gq (N := 2) rfl ?_); refine be (N := 2) (cs := #[.int .i64 0, .int .i64 0, .slice none 0 0]) (t := 29) ?_; intro A6 hg w6 hbox hb; have A1 := Z.m (hbox); have Ad := Z.m ((by rw [hg]; exact (by first | exact HK.o.1 | exact (show Kept w _ (fun k_ => P0_2_ k_) from vT HK).1) : w.heap.size ≤ A6)); have Ab := gW (w := w0) HB hg; have A4 := neL A0 hg; have A5 := neG A0 hg; replace A3 := Z.m (Kd.Rb (vR A3) hb); replace A0 := kB A0 hb; replace HK := Z.m (Kept.below (S := (fun k_ => P0_2_ k_)) (vT HK) hb); replace HB := bB HB hb; clear hb hbox hg; have AR := A4.o; have AS := A5.o; have AG := bc0 A0; have AH := bc1 A0; have AI := bc2 A0; have AJ := qz A0.o 0; have AK := qz A0.o 1; have AL := qz A0.o 2) | ((with_reducible refine gc (f := 53) rfl ?_); refine gA (some 5) _ #[.agg #[.int .i64 a0_0, .int .i64 a0_1, .slice AD l0_2.length AE]] ?_ Try.func53; (with_reducible refine (spec_boGood.calls k a0_0 a0_1 _ _ l0_2 true _ ?side1 ?side2 A2.o).mono ?_); (case side1 => repeat (first | exact (Kd.RrZ A3.o).2.2 | (with_reducible refine Kd.C_alloc ?_ _) | (with_reducible refine Kd.C_drewN ?_ _) | (with_reducible refine Kd.C_drew ?_))); (case side2 => exact (Kd.RrZ A3.o).2.1); rintro e w9 ⟨rfl, hb⟩; refine ⟨_, rfl, ?_⟩; replace A3 := Z.m (Kd.Rb (vR A3) hb); replace A0 := kB A0 hb; replace A1 := kB A1 hb; replace HK := Z.m (Kept.below (S := (fun k_ => P0_2_ k_)) (vT HK) hb); replace HB := bB HB hb; (try clear hb); (try clear AQ); (try clear hk); (try clear hi); have Af := bc0 A0; have Ag := bc1 A0; have Ah := bc2 A0; have Ar := qz A0.o 0; have As := qz A0.o 1; have At := qz A0.o 2; have Ai := bc0 A1; have Aj := bc1 A1; have Ak := bc2 A1; have Au := qz A1.o 0; have Av := qz A1.o 1; have Aw := qz A1.o 2))
  refine bodyPost_ret (results_ct rfl _ _ A6 29 #[.int .i64 a0_0, .int .i64 a0_1, .slice AD l0_2.length AE] (0, 0) _ rfl (by refine bK ?_; apply st3; refine bK ?_; exact A1.o) Try.underlying29 rfl (by kernel_rfl)) rfl ?_
  exact ⟨_, by first | rfl | (simp [eN, eS] <;> rfl) | (simp [*, eN, eS] <;> rfl), by refine rK ?_; exact Kd.Rm (rf (rf (rf (Kd.Ry A3.o A1.o (by decide))))) (fun _ hk => hk.1), vB HB, vT HK⟩
 ·replace c3 := Bool.eq_false_iff.mpr c3
  subst c3
  have H1 : (some (0, 0, ([] : List (S34)), false)) = some (r1, r2, r3, r4) := by rw [if_neg (show ¬ (false = true) by decide)] at H; exact H
  clear H
  have H := H1
  clear H1
  simp only [Option.some.injEq, Prod.mk.injEq] at H
  obtain ⟨rfl, rfl, rfl, rfl⟩ := H
  obtain ⟨A9, Ae, AF⟩ := Kd.R_slice A3.o
  subst AF
  go_enter Try.func63, Try.ntmps63
  go_wp2_with (first | ((with_reducible refine gq (N := 1) rfl ?_); refine be (N := 1) (cs := #[.int .i64 a0_0, .int .i64 a0_1, .slice A9 l0_2.length Ae]) (t := 29) ?_; intro A7 hg AU hbox hb; have A0 := Z.m (hbox); have Ac := Z.m ((by rw [hg]; exact (by first | exact HK.o.1 | exact (show Kept w _ (fun k_ => P0_2_ k_) from vT HK).1) : w.heap.size ≤ A7)); have Aa := gW (w := w0) HB hg; replace A3 := Z.m (Kd.Rb (vR A3) hb); replace HK := Z.m (Kept.below (S := (fun k_ => P0_2_ k_)) (vT HK) hb); replace HB := bB HB hb; clear hb hbox hg) | ((with_reducible refine gq (N := 2) rfl ?_); refine be (N := 2) (cs := #[.int .i64 0, .int .i64 0, .slice none 0 0]) (t := 29) ?_; intro A6 hg AV hbox hb; have A1 := Z.m (hbox); have Ad := Z.m ((by rw [hg]; exact (by first | exact HK.o.1 | exact (show Kept w _ (fun k_ => P0_2_ k_) from vT HK).1) : w.heap.size ≤ A6)); have Ab := gW (w := w0) HB hg; have A4 := neL A0 hg; have A5 := neG A0 hg; replace A3 := Z.m (Kd.Rb (vR A3) hb); replace A0 := kB A0 hb; replace HK := Z.m (Kept.below (S := (fun k_ => P0_2_ k_)) (vT HK) hb); replace HB := bB HB hb; clear hb hbox hg; have AN := A4.o; have AO := A5.o; have Al := bc0 A0; have Am := bc1 A0; have An := bc2 A0; have Ax := qz A0.o 0; have Ay := qz A0.o 1; have Az := qz A0.o 2) | ((with_reducible refine gc (f := 53) rfl ?_); refine gA (some 5) _ #[.agg #[.int .i64 a0_0, .int .i64 a0_1, .slice A9 l0_2.length Ae]] ?_ Try.func53; (with_reducible refine (spec_boGood.calls k a0_0 a0_1 _ _ l0_2 false _ ?side1 ?side2 A2.o).mono ?_); (case side1 => repeat (first | exact (Kd.RrZ A3.o).2.2 | (with_reducible refine Kd.C_alloc ?_ _) | (with_reducible refine Kd.C_drewN ?_ _) | (with_reducible refine Kd.C_drew ?_))); (case side2 => exact (Kd.RrZ A3.o).2.1); rintro e AW ⟨rfl, hb⟩; refine ⟨_, rfl, ?_⟩; replace A3 := Z.m (Kd.Rb (vR A3) hb); replace A0 := kB A0 hb; replace A1 := kB A1 hb; replace HK := Z.m (Kept.below (S := (fun k_ => P0_2_ k_)) (vT HK) hb); replace HB := bB HB hb; (try clear hb); (try clear AQ); (try clear hk); (try clear hi); have Ao := bc0 A1; have Ap := bc1 A1; have Aq := bc2 A1; have AA := qz A1.o 0; have AB := qz A1.o 1; have AC := qz A1.o 2))
  refine bodyPost_ret (results_ct rfl _ _ A6 29 #[.int .i64 0, .int .i64 0, .slice none 0 0] (0, 0) _ rfl (by refine bK ?_; apply st3; refine bK ?_; exact A1.o) Try.underlying29 rfl (by kernel_rfl)) rfl ?_
  exact ⟨_, by first | rfl | (simp [eN, eS] <;> rfl) | (simp [*, eN, eS] <;> rfl), by first | exact Kd.R_nil _ _ _ _ _ | exact Kd.N_nil _ _ _ _ _ | exact Kd.V_nil _ _ _ _ _ | exact Kd.Q_nil _ _ _ _ _ | exact Kd.S_nil _ _ _ _ _, vB HB, vT HK⟩

/-! ### spec_StackBoards: function 27 -/
def spec_StackBoards.f (k : Nat) (a0_0 : Int) (a0_1 : Int) (l0_2 : List (S34)) (a1_0 : Int) (a1_1 : Int) (l1_2 : List (S34)) : Option (Int × Int × (List (S34)) × Bool) := (spec_boGood.f k a0_0 a0_1 l0_2).bind fun t238 => (if t238 = true then ((spec_boGood.f k a1_0 a1_1 l1_2).bind fun t239 => (if t239 = true then (if a0_1 = a1_1 then ((some (([] : List (S34)) : List (S34))).bind fun y240 => (if y240.length + l0_2.length < 8796093022208 then ((some (y240 ++ l0_2 : List (S34))).bind fun y243 => (if y243.length + l1_2.length < 8796093022208 then ((spec_boIf.f k (wrap64 (a0_0 + a1_0)) a0_1 (y243 ++ l1_2)).bind fun bt249 => (some (bt249.1, bt249.2.1, bt249.2.2.1, bt249.2.2.2))) else (none))) else (none))) else (some (0, 0, ([] : List (S34)), false))) else (some (0, 0, ([] : List (S34)), false)))) else (some (0, 0, ([] : List (S34)), false)))
def spec_StackBoards.T3 : Bool × List (List Nat × List Nat) := (true, [([], []), ([0], [0]), ([], []), ([2], [2]), ([1, 3], [1, 3]), ([], []), ([5], [5]), ([], []), ([], []), ([8], [8]), ([7, 9], [7, 9]), ([], []), ([11], [11]), ([10, 12, 10], [10, 12]), ([4, 6, 13], [4, 6, 13]), ([14, 13], [14]), ([15], [15]), ([15], [15]), ([16, 15, 0, 1, 2, 3, 4, 5, 6, 7, 8, 9, 10, 11, 12, 13, 14, 15, 16, 17], [16]), ([17, 18, 0, 1, 2, 3, 4, 5, 6, 7, 8, 9, 10, 11, 12, 13, 14, 15, 16, 17, 18], [17])])
def spec_StackBoards.B3 : List Nat := [0, 1, 0, 4, 15, 0, 32, 0, 0, 256, 896, 0, 2048, 8064, 16383, 32767, 65535, 65535, 262143, 524287]
theorem spec_StackBoards.tab3 : rtab .any (opsOf Try.f27 3) = spec_StackBoards.T3 := by kernel_rfl
theorem spec_StackBoards.bits3 : waitsOk spec_StackBoards.T3.2 spec_StackBoards.B3 = true := by kernel_rfl
set_option maxHeartbeats 8000000 in
set_option maxRecDepth 100000 in
theorem spec_StackBoards.calls (k : Nat) (a0_0 : Int) (a0_1 : Int) (A0_2 : Option Addr) (c0_2 : Nat) (l0_2 : List (S34)) (a1_0 : Int) (a1_1 : Int) (A1_2 : Option Addr) (c1_2 : Nat) (l1_2 : List (S34)) (r1 : Int) (r2 : Int) (r3 : List (S34)) (r4 : Bool) (w : World) (hr0_2 : Kd.C k34 w A0_2 l0_2.length l0_2) (hc0_2 : l0_2.length ≤ c0_2) (hr1_2 : Kd.C k34 w A1_2 l1_2.length l1_2) (hc1_2 : l1_2.length ≤ c1_2) (h : spec_StackBoards.f k a0_0 a0_1 l0_2 a1_0 a1_1 l1_2 = some (r1, r2, r3, r4)) :
 Calls Try.prog 27 #[.agg #[.int .i64 a0_0, .int .i64 a0_1, .slice A0_2 l0_2.length c0_2], .agg #[.int .i64 a1_0, .int .i64 a1_1, .slice A1_2 l1_2.length c1_2]] w fun e w' => ∃ v2_ : Value, e = .returned (.tuple #[.agg #[.int .i64 r1, .int .i64 r2, v2_], .bool r4]) ∧ Kd.R k34 34 w' w.heap.size (fun _ => True) v2_ r3 ∧ Below w.heap.size w w' := by
 have D9 := Try.underlying29
 have Am := Z.m hr0_2
 have Au := Z.m hc0_2
 clear hr0_2 hc0_2
 have Av := Z.m hr1_2
 have Aw := Z.m hc1_2
 clear hr1_2 hc1_2
 have HB := Z.m (Below.refl w.heap.size w)
 have H : ((spec_boGood.f k a0_0 a0_1 l0_2).bind fun Az => (if Az = true then ((spec_boGood.f k a1_0 a1_1 l1_2).bind fun Aq => (if Aq = true then (if a0_1 = a1_1 then ((some (([] : List (S34)) : List (S34))).bind fun Ac => (if Ac.length + l0_2.length < 8796093022208 then ((some (Ac ++ l0_2 : List (S34))).bind fun Ab => (if Ab.length + l1_2.length < 8796093022208 then ((spec_boIf.f k (wrap64 (a0_0 + a1_0)) a0_1 (Ab ++ l1_2)).bind fun bt249 => (some (bt249.1, bt249.2.1, bt249.2.2.1, bt249.2.2.2))) else (none))) else (none))) else (some (0, 0, ([] : List (S34)), false))) else (some (0, 0, ([] : List (S34)), false)))) else (some (0, 0, ([] : List (S34)), false)))) = some (r1, r2, r3, r4) := h
 clear h
 replace H := Option.bind_eq_some_iff.mp H
 obtain ⟨Az, CE, H⟩ := H
 replace H : (if Az = true then ((spec_boGood.f k a1_0 a1_1 l1_2).bind fun Aq => (if Aq = true then (if a0_1 = a1_1 then ((some (([] : List (S34)) : List (S34))).bind fun Ac => (if Ac.length + l0_2.length < 8796093022208 then ((some (Ac ++ l0_2 : List (S34))).bind fun Ab => (if Ab.length + l1_2.length < 8796093022208 then ((spec_boIf.f k (wrap64 (a0_0 + a1_0)) a0_1 (Ab ++ l1_2)).bind fun bt249 => (some (bt249.1, bt249.2.1, bt249.2.2.1, bt249.2.2.2))) else (none))) else (none))) else (some (0, 0, ([] : List (S34)), false))) else (some (0, 0, ([] : List (S34)), false)))) else (some (0, 0, ([] : List (S34)), false))) = some (r1, r2, r3, r4) := H
 have A3 := Z.m CE
 clear CE
 by_cases c4 : Az = true
 ·subst c4
  have H1 : ((spec_boGood.f k a1_0 a1_1 l1_2).bind fun Aq => (if Aq = true then (if a0_1 = a1_1 then ((some (([] : List (S34)) : List (S34))).bind fun Ac => (if Ac.length + l0_2.length < 8796093022208 then ((some (Ac ++ l0_2 : List (S34))).bind fun Ab => (if Ab.length + l1_2.length < 8796093022208 then ((spec_boIf.f k (wrap64 (a0_0 + a1_0)) a0_1 (Ab ++ l1_2)).bind fun bt249 => (some (bt249.1, bt249.2.1, bt249.2.2.1, bt249.2.2.2))) else (none))) else (none))) else (some (0, 0, ([] : List (S34)), false))) else (some (0, 0, ([] : List (S34)), false)))) = some (r1, r2, r3, r4) := by rw [if_pos rfl] at H; exact H
  clear H
  have H := H1
  clear H1
  replace H := Option.bind_eq_some_iff.mp H
  obtain ⟨Aq, CF, H⟩ := H
  replace H : (if Aq = true then (if a0_1 = a1_1 then ((some (([] : List (S34)) : List (S34))).bind fun Ac => (if Ac.length + l0_2.length < 8796093022208 then ((some (Ac ++ l0_2 : List (S34))).bind fun Ab => (if Ab.length + l1_2.length < 8796093022208 then ((spec_boIf.f k (wrap64 (a0_0 + a1_0)) a0_1 (Ab ++ l1_2)).bind fun bt249 => (some (bt249.1, bt249.2.1, bt249.2.2.1, bt249.2.2.2))) else (none))) else (none))) else (some (0, 0, ([] : List (S34)), false))) else (some (0, 0, ([] : List (S34)), false))) = some (r1, r2, r3, r4) := H
  have A5 := Z.m CF
  clear CF
  by_cases c6 : Aq = true
  ·subst c6
   have H1 : (if a0_1 = a1_1 then ((some (([] : List (S34)) : List (S34))).bind fun Ac => (if Ac.length + l0_2.length < 8796093022208 then ((some (Ac ++ l0_2 : List (S34))).bind fun Ab => (if Ab.length + l1_2.length < 8796093022208 then ((spec_boIf.f k (wrap64 (a0_0 + a1_0)) a0_1 (Ab ++ l1_2)).bind fun bt249 => (some (bt249.1, bt249.2.1, bt249.2.2.1, bt249.2.2.2))) else (none))) else (none))) else (some (0, 0, ([] : List (S34)), false))) = some (r1, r2, r3, r4) := by rw [if_pos rfl] at H; exact H
   clear H
   have H := H1
   clear H1
   by_cases c7 : a0_1 = a1_1
   ·rw [if_pos c7] at H
    have Cy := beq_iff_eq.mpr c7
    have Cz := bne_eq_false_iff_eq.mpr c7
    clear c7
    obtain ⟨Ac, An⟩ : ∃ y_ : List (S34), y_ = (([] : List (S34))) := ⟨_, rfl⟩
    replace H : (if Ac.length + l0_2.length < 8796093022208 then ((some (Ac ++ l0_2 : List (S34))).bind fun Ab => (if Ab.length + l1_2.length < 8796093022208 then ((spec_boIf.f k (wrap64 (a0_0 + a1_0)) a0_1 (Ab ++ l1_2)).bind fun bt249 => (some (bt249.1, bt249.2.1, bt249.2.2.1, bt249.2.2.2))) else (none))) else (none)) = some (r1, r2, r3, r4) := by first | (rw [An]; with_reducible exact H) | (have H2_ := (Option.bind_some _ _).symm.trans H; rw [An]; with_reducible exact H2_) | (have H2_ := (Option.bind_some _ _).symm.trans H; with_reducible exact H2_) | with_reducible exact H | (rw [An]; exact H) | exact H
    have AB := Z.m An
    clear An
    by_cases c8 : Ac.length + l0_2.length < 8796093022208
    ·rw [if_pos c8] at H
     have Cw := Z.m c8
     clear c8
     obtain ⟨Ab, Ao⟩ : ∃ y_ : List (S34), y_ = (Ac ++ l0_2) := ⟨_, rfl⟩
     replace H : (if Ab.length + l1_2.length < 8796093022208 then ((spec_boIf.f k (wrap64 (a0_0 + a1_0)) a0_1 (Ab ++ l1_2)).bind fun bt249 => (some (bt249.1, bt249.2.1, bt249.2.2.1, bt249.2.2.2))) else (none)) = some (r1, r2, r3, r4) := by first | (rw [Ao]; with_reducible exact H) | (have H2_ := (Option.bind_some _ _).symm.trans H; rw [Ao]; with_reducible exact H2_) | (have H2_ := (Option.bind_some _ _).symm.trans H; with_reducible exact H2_) | with_reducible exact H | (rw [Ao]; exact H) | exact H
     have AJ := Z.m Ao
     clear Ao
     by_cases c9 : Ab.length + l1_2.length < 8796093022208
     ·rw [if_pos c9] at H
      have Cx := Z.m c9
      clear c9
      obtain ⟨Ay, Ap⟩ : ∃ y_ : List (S34), y_ = (Ab ++ l1_2) := ⟨_, rfl⟩
      replace H : ((spec_boIf.f k (wrap64 (a0_0 + a1_0)) a0_1 Ay).bind fun bt249 => (some (bt249.1, bt249.2.1, bt249.2.2.1, bt249.2.2.2))) = some (r1, r2, r3, r4) := by first | (rw [Ap]; with_reducible exact H) | (have H2_ := (Option.bind_some _ _).symm.trans H; rw [Ap]; with_reducible exact H2_) | (have H2_ := (Option.bind_some _ _).symm.trans H; with_reducible exact H2_) | with_reducible exact H | (rw [Ap]; exact H) | exact H
      have AK := Z.m Ap
      clear Ap
      replace H := Option.bind_eq_some_iff.mp H
      obtain ⟨⟨AE, AF, AG, AN⟩, AI, H⟩ := H
      replace H : (some (AE, AF, AG, AN)) = some (r1, r2, r3, r4) := H
      have D5 := Z.m AI
      clear AI
      simp only [Option.some.injEq, Prod.mk.injEq] at H
      obtain ⟨rfl, rfl, rfl, rfl⟩ := H
      go_enter Try.func27, Try.ntmps27
      try go_wp2_with (first | ((with_reducible refine gq (N := 2) rfl ?_); refine be (N := 2) (cs := #[.int .i64 a0_0, .int .i64 a0_1, .slice A0_2 l0_2.length c0_2]) (t := 29) ?_; intro Ae hg Dd hbox hb; have A0 := Z.m (hbox); have Ag := gW (w := w) HB hg; have Ar := Ag; replace HB := bB HB hb; clear hb hbox hg) | ((with_reducible refine gq (N := 3) rfl ?_); refine be (N := 3) (cs := #[.int .i64 a1_0, .int .i64 a1_1, .slice A1_2 l1_2.length c1_2]) (t := 29) ?_; intro Af hg De hbox hb; have A1 := Z.m (hbox); have Ah := gW (w := w) HB hg; have As := Ah; have A9 := neL A0 hg; have Aa := neG A0 hg; replace A0 := kB A0 hb; replace HB := bB HB hb; clear hb hbox hg) | ((with_reducible refine gq (N := 4) rfl ?_); refine be (N := 4) (cs := #[.int .i64 0, .int .i64 0, .slice none 0 0]) (t := 29) ?_; intro Ad hg Df hbox hb; have A2 := Z.m (hbox); have Ai := gW (w := w) HB hg; have At := Ai; have A4 := neL A0 hg; have A7 := neG A0 hg; have A6 := neL A1 hg; have A8 := neG A1 hg; replace A0 := kB A0 hb; replace A1 := kB A1 hb; replace HB := bB HB hb; clear hb hbox hg; have CG := A9.o; have CS := Aa.o; have CH := A4.o; have CT := A7.o; have AO := bc0 A0; have AP := bc1 A0; have AQ := bc2 A0; have BB := qz A0.o 0; have BC := qz A0.o 1; have BD := qz A0.o 2) | ((with_reducible refine gc (f := 53) rfl ?_); refine gA (some 7) _ #[.agg #[.int .i64 a0_0, .int .i64 a0_1, .slice A0_2 l0_2.length c0_2]] ?_ Try.func53; (with_reducible refine (spec_boGood.calls k a0_0 a0_1 _ _ l0_2 true _ ?side1 ?side2 A3.o).mono ?_); (case side1 => repeat (first | exact (Kd.C_below Am.o HB.o) | (with_reducible refine Kd.C_alloc ?_ _) | (with_reducible refine Kd.C_drewN ?_ _) | (with_reducible refine Kd.C_drew ?_))); (case side2 => exact Au.o); rintro e Dg ⟨rfl, hb⟩; refine ⟨_, rfl, ?_⟩; replace A0 := kB A0 hb; replace A1 := kB A1 hb; replace A2 := kB A2 hb; replace HB := bB HB hb; (try clear hb); (try clear AH); (try clear hk); (try clear hi); have CI := A6.o; have CU := A8.o; have AR := bc0 A1; have AS := bc1 A1; have AT := bc2 A1; have BE := qz A1.o 0; have BF := qz A1.o 1; have BG := qz A1.o 2) | (go_at_call 53; (with_reducible refine (spec_boGood.calls k a1_0 a1_1 _ _ l1_2 true _ ?side1 ?side2 A5.o).mono ?_); (case side1 => repeat (first | exact (Kd.C_below Av.o HB.o) | (with_reducible refine Kd.C_alloc ?_ _) | (with_reducible refine Kd.C_drewN ?_ _) | (with_reducible refine Kd.C_drew ?_))); (case side2 => exact Aw.o); rintro e Dc ⟨rfl, hb⟩; replace A0 := kB A0 hb; replace A1 := kB A1 hb; replace A2 := kB A2 hb; replace HB := bB HB hb; (try clear hb); (try clear AH); (try clear hk); (try clear hi); have AU := bc0 A0; have AV := bc1 A0; have AW := bc2 A0; have BH := qz A0.o 0; have BI := qz A0.o 1; have BJ := qz A0.o 2; have AX := bc0 A1; have AY := bc1 A1; have AZ := bc2 A1; have BK := qz A1.o 0; have BL := qz A1.o 1; have BM := qz A1.o 2))
      replace A0 := Z.m (blk_drew A0.o)
      replace A1 := Z.m (blk_drew A1.o)
      replace A2 := Z.m (blk_drew A2.o)
      replace HB := Z.m (qd HB.o)
      refine start_ (n := 20) (S := fun w' => w'.cell? ⟨Ae, 0, none⟩ = some (.int .i64 a0_0) ∧ w'.cell? ⟨Ae, 1, none⟩ = some (.int .i64 a0_1) ∧ w'.cell? ⟨Ae, 2, none⟩ = some (.slice A0_2 l0_2.length c0_2) ∧ w'.cell? ⟨Af, 0, none⟩ = some (.int .i64 a1_0) ∧ w'.cell? ⟨Af, 1, none⟩ = some (.int .i64 a1_1) ∧ w'.cell? ⟨Af, 2, none⟩ = some (.slice A1_2 l1_2.length c1_2)) (ds := []) #[false, false, false, false, false, false, false, false, false, false, false, false, false, false, false, false, false, false, false, false] (by kernel_rfl) rfl rfl ⟨(ql A0.o 0).trans rfl, (ql A0.o 1).trans rfl, (ql A0.o 2).trans rfl, (ql A1.o 0).trans rfl, (ql A1.o 1).trans rfl, (ql A1.o 2).trans rfl⟩ (fun hHeld => ?_); refine with_tabW spec_StackBoards.tab3 spec_StackBoards.bits3 (fun HT_ HW_ => ?_)
      generalize Dc.drew = Dh at A0 A1 A2 HB hHeld ⊢
      refine pure_ (i := 0) (N := some 22) (v := ?_) (a' := ?_) #[true, false, false, false, false, false, false, false, false, false, false, false, false, false, false, false, false, false, false, false] rfl rfl (any_of HT_.o (by kernel_rfl)) (fun _ _ _ h => h) (Or.inl ⟨by rfl, ?_⟩) ?_ ?_
      rotate_left
      ·intro w'
       go_simp
       with_reducible rfl
      rotate_left
      ·simp only [Act.put, q1, q2, q3, i64_w, i32_w]
       rfl
      refine pure_ (i := 2) (N := some 24) (v := ?_) (a' := ?_) #[true, false, true, false, false, false, false, false, false, false, false, false, false, false, false, false, false, false, false, false] rfl rfl (any_of HT_.o (by kernel_rfl)) (fun _ _ _ h => h) (Or.inl ⟨by rfl, ?_⟩) ?_ ?_
      rotate_left
      ·intro w'
       go_simp
       with_reducible rfl
      rotate_left
      ·simp only [Act.put, q1, q2, q3, i64_w, i32_w]
       rfl
      refine pure_ (i := 5) (N := some 27) (v := ?_) (a' := ?_) #[true, false, true, false, false, true, false, false, false, false, false, false, false, false, false, false, false, false, false, false] rfl rfl (any_of HT_.o (by kernel_rfl)) (fun _ _ _ h => h) (Or.inl ⟨by rfl, ?_⟩) ?_ ?_
      rotate_left
      ·intro w'
       go_simp
       with_reducible rfl
      rotate_left
      ·simp only [Act.put, q1, q2, q3, i64_w, i32_w]
       rfl
      refine pure_ (i := 8) (N := some 30) (v := ?_) (a' := ?_) #[true, false, true, false, false, true, false, false, true, false, false, false, false, false, false, false, false, false, false, false] rfl rfl (any_of HT_.o (by kernel_rfl)) (fun _ _ _ h => h) (Or.inl ⟨by rfl, ?_⟩) ?_ ?_
      rotate_left
      ·intro w'
       go_simp
       with_reducible rfl
      rotate_left
      ·simp only [Act.put, q1, q2, q3, i64_w, i32_w]
       rfl
      refine pure_ (i := 11) (N := some 33) (v := ?_) (a' := ?_) #[true, false, true, false, false, true, false, false, true, false, false, true, false, false, false, false, false, false, false, false] rfl rfl (any_of HT_.o (by kernel_rfl)) (fun _ _ _ h => h) (Or.inl ⟨by rfl, ?_⟩) ?_ ?_
      rotate_left
      ·intro w'
       go_simp
       with_reducible rfl
      rotate_left
      ·simp only [Act.put, q1, q2, q3, i64_w, i32_w]
       rfl
      refine take_ (i := 1) (N := some 23) (v := ?_) (a' := ?_) #[true, true, true, false, false, true, false, false, true, false, false, true, false, false, false, false, false, false, false, false] rfl rfl (take_ofW HT_.o HW_.o (by kernel_rfl)) (fun _ _ _ h => h) (Or.inl ⟨by rfl, ?_⟩) hHeld ?_ ?_
      rotate_left
      ·rintro w' ⟨s0, s1, s2, s3, s4, s5⟩
       go_simp
       with_reducible rfl
      rotate_left
      ·simp only [Act.put, q1, q2, q3, i64_w, i32_w]
       rfl
      refine take_ (i := 3) (N := some 25) (v := ?_) (a' := ?_) #[true, true, true, true, false, true, false, false, true, false, false, true, false, false, false, false, false, false, false, false] rfl rfl (take_ofW HT_.o HW_.o (by kernel_rfl)) (fun _ _ _ h => h) (Or.inl ⟨by rfl, ?_⟩) hHeld ?_ ?_
      rotate_left
      ·rintro w' ⟨s0, s1, s2, s3, s4, s5⟩
       go_simp
       with_reducible rfl
      rotate_left
      ·simp only [Act.put, q1, q2, q3, i64_w, i32_w]
       rfl
      refine pure_ (i := 4) (N := some 26) (v := ?_) (a' := ?_) #[true, true, true, true, true, true, false, false, true, false, false, true, false, false, false, false, false, false, false, false] rfl rfl (any_of HT_.o (by kernel_rfl)) (fun _ _ _ h => h) (Or.inl ⟨by rfl, ?_⟩) ?_ ?_
      rotate_left
      ·intro w'
       go_simp
       with_reducible rfl
      rotate_left
      ·simp only [Act.put, q1, q2, q3, i64_w, i32_w]
       rfl
      refine take_ (i := 6) (N := some 28) (v := ?_) (a' := ?_) #[true, true, true, true, true, true, true, false, true, false, false, true, false, false, false, false, false, false, false, false] rfl rfl (take_ofW HT_.o HW_.o (by kernel_rfl)) (fun _ _ _ h => h) (Or.inl ⟨by rfl, ?_⟩) hHeld ?_ ?_
      rotate_left
      ·rintro w' ⟨s0, s1, s2, s3, s4, s5⟩
       go_simp
       with_reducible rfl
      rotate_left
      ·simp only [Act.put, q1, q2, q3, i64_w, i32_w]
       rfl
      refine take_ (i := 9) (N := some 31) (v := ?_) (a' := ?_) #[true, true, true, true, true, true, true, false, true, true, false, true, false, false, false, false, false, false, false, false] rfl rfl (take_ofW HT_.o HW_.o (by kernel_rfl)) (fun _ _ _ h => h) (Or.inl ⟨by rfl, ?_⟩) hHeld ?_ ?_
      rotate_left
      ·rintro w' ⟨s0, s1, s2, s3, s4, s5⟩
       go_simp
       with_reducible rfl
      rotate_left
      ·simp only [Act.put, q1, q2, q3, i64_w, i32_w]
       rfl
      refine take_ (i := 12) (N := some 34) (v := ?_) (a' := ?_) #[true, true, true, true, true, true, true, false, true, true, false, true, true, false, false, false, false, false, false, false] rfl rfl (take_ofW HT_.o HW_.o (by kernel_rfl)) (fun _ _ _ h => h) (Or.inl ⟨by rfl, ?_⟩) hHeld ?_ ?_
      rotate_left
      ·rintro w' ⟨s0, s1, s2, s3, s4, s5⟩
       go_simp
       with_reducible rfl
      rotate_left
      ·simp only [Act.put, q1, q2, q3, i64_w, i32_w]
       rfl
      refine one_ (i := 7) (N := some 29) #[true, true, true, true, true, true, true, true, true, true, false, true, true, false, false, false, false, false, false, false] rfl rfl (one_of HT_.o (by kernel_rfl)) (by decide) (fun K hK => ?_)
      refine Kd.R_lit_step k34 _ 34 ?hg (N := 29) ?hd (xs := ([] : List (S34))) (inner := []) (ok := fun _ => True) (okp := fun _ => True) ?hr ?hp (fun _ hk => hk) trivial (Below.refl _ _) (Nat.le_refl _) (by simp) ?_; (case hd => rfl); (case hg => rfl); (case hr => first | (go_simp; done) | (go_simp; rfl)); (case hp => exact (Reps.none _ _))
      intro CB Di Ax hb hg_ hnew_
      clear hg_ hnew_
      (first | rw [← AB.o] at Ax | (simp only [Int.reduceToNat] at Ax; rw [← AB.o] at Ax))
      have Ak := Z.m (Kd.R_lower Ax (below_size (vB HB)))
      replace A0 := kB A0 hb
      replace A1 := kB A1 hb
      replace A2 := kB A2 hb
      replace HB := bB HB hb
      clear hb Ax
      refine hK.out _ _ ⟨(ql A0.o 0).trans rfl, (ql A0.o 1).trans rfl, (ql A0.o 2).trans rfl, (ql A1.o 0).trans rfl, (ql A1.o 1).trans rfl, (ql A1.o 2).trans rfl⟩ (fun hHeld => ?_)
      clear hK K
      refine norm_ (a' := ?_) ?_ ?_
      rotate_left
      ·show Act.put _ (some 29) _ = _
       simp only [Act.put, q1, q2, q3, i64_w, i32_w]
       rfl
      refine one_ (i := 10) (N := some 32) #[true, true, true, true, true, true, true, true, true, true, true, true, true, false, false, false, false, false, false, false] rfl rfl (one_of HT_.o (by kernel_rfl)) (by decide) (fun K hK => ?_)
      refine Kd.R_append_rows_step k34 (w0 := w) w.heap.size (by rfl) (.tmp 29) (.tmp 31) 27 34 (.agg #[(.int .i64 0), (.int .i64 0)]) 16 rfl Try.underlying27 info34 rfl (by decide) (by omega) CB Ac l0_2 _ _ _ (fun _ => True) (fun _ => False) rfl rfl ?aO ?aR (fun _ _ h => h) (fun _ h => h.elim) ?aF ?aB ?aS ?aL ?_
      (case aR => repeat (first | exact (Kd.C_below Am.o HB.o) | (with_reducible refine Kd.C_alloc ?_ _) | (with_reducible refine Kd.C_drewN ?_ _) | (with_reducible refine Kd.C_drew ?_)))
      (case aB => exact (vB HB))
      (case aF => exact (fun _ _ => trivial))
      (case aO => exact (vR Ak))
      (case aS => exact (below_size (vB HB)))
      (case aL => have := Cw.o; omega)
      intro CC Dj ho hb hg hat
      rw [← AJ.o] at ho
      have Al := Z.m (ho)
      replace A0 := Z.m (qg (g := Ae) (o := .cells #[.int .i64 a0_0, .int .i64 a0_1, .slice A0_2 l0_2.length c0_2] 29 (0, 0)) (vK A0) hg (Kd.R_ne Ak.o A0.o (by decide)))
      replace A1 := Z.m (qg (g := Af) (o := .cells #[.int .i64 a1_0, .int .i64 a1_1, .slice A1_2 l1_2.length c1_2] 29 (0, 0)) (vK A1) hg (Kd.R_ne Ak.o A1.o (by decide)))
      replace A2 := Z.m (qg (g := Ad) (o := .cells #[.int .i64 0, .int .i64 0, .slice none 0 0] 29 (0, 0)) (vK A2) hg (Kd.R_ne Ak.o A2.o (by decide)))
      replace HB := Z.m (hb)
      clear Ak
      clear ho hb hg hat
      refine hK.out _ _ ⟨(ql A0.o 0).trans rfl, (ql A0.o 1).trans rfl, (ql A0.o 2).trans rfl, (ql A1.o 0).trans rfl, (ql A1.o 1).trans rfl, (ql A1.o 2).trans rfl⟩ (fun hHeld => ?_)
      clear hK K
      refine norm_ (a' := ?_) ?_ ?_
      rotate_left
      ·show Act.put _ (some 32) _ = _
       simp only [Act.put, q1, q2, q3, i64_w, i32_w]
       rfl
      refine one_ (i := 13) (N := some 35) #[true, true, true, true, true, true, true, true, true, true, true, true, true, true, false, false, false, false, false, false] rfl rfl (one_of HT_.o (by kernel_rfl)) (by decide) (fun K hK => ?_)
      refine Kd.R_append_rows_step k34 (w0 := w) w.heap.size (by rfl) (.tmp 32) (.tmp 34) 27 34 (.agg #[(.int .i64 0), (.int .i64 0)]) 16 rfl Try.underlying27 info34 rfl (by decide) (by omega) CC Ab l1_2 _ _ _ (fun _ => True) (fun _ => False) rfl rfl ?aO ?aR (fun _ _ h => h) (fun _ h => h.elim) ?aF ?aB ?aS ?aL ?_
      (case aR => repeat (first | exact (Kd.C_below Av.o HB.o) | (with_reducible refine Kd.C_alloc ?_ _) | (with_reducible refine Kd.C_drewN ?_ _) | (with_reducible refine Kd.C_drew ?_)))
      (case aB => exact (vB HB))
      (case aF => exact (fun _ _ => trivial))
      (case aO => exact (vR Al))
      (case aS => exact (below_size (vB HB)))
      (case aL => have := Cx.o; omega)
      intro Da Dk ho hb hg hat
      rw [← AK.o] at ho
      have Aj := Z.m (ho)
      replace A0 := Z.m (qg (g := Ae) (o := .cells #[.int .i64 a0_0, .int .i64 a0_1, .slice A0_2 l0_2.length c0_2] 29 (0, 0)) (vK A0) hg (Kd.R_ne Al.o A0.o (by decide)))
      replace A1 := Z.m (qg (g := Af) (o := .cells #[.int .i64 a1_0, .int .i64 a1_1, .slice A1_2 l1_2.length c1_2] 29 (0, 0)) (vK A1) hg (Kd.R_ne Al.o A1.o (by decide)))
      replace A2 := Z.m (qg (g := Ad) (o := .cells #[.int .i64 0, .int .i64 0, .slice none 0 0] 29 (0, 0)) (vK A2) hg (Kd.R_ne Al.o A2.o (by decide)))
      replace HB := Z.m (hb)
      clear Al
      clear ho hb hg hat
      obtain ⟨AC, AD, AL⟩ := Kd.R_slice Aj.o
      (first | subst AL | (injection AL with f1_ f2_ f3_; have f4_ := f1_.symm; have f5_ := f3_.symm; clear f1_ f2_ f3_; subst f4_; subst f5_))
      refine hK.out _ _ ⟨(ql A0.o 0).trans rfl, (ql A0.o 1).trans rfl, (ql A0.o 2).trans rfl, (ql A1.o 0).trans rfl, (ql A1.o 1).trans rfl, (ql A1.o 2).trans rfl⟩ (fun hHeld => ?_)
      clear hK K
      refine norm_ (a' := ?_) ?_ ?_
      rotate_left
      ·show Act.put _ (some 35) _ = _
       simp only [Act.put, q1, q2, q3, i64_w, i32_w]
       rfl
      refine pure_ (i := 14) (N := some 36) (v := ?_) (a' := ?_) #[true, true, true, true, true, true, true, true, true, true, true, true, true, true, true, false, false, false, false, false] rfl rfl (any_of HT_.o (by kernel_rfl)) (fun _ _ _ h => h) (Or.inl ⟨by rfl, ?_⟩) ?_ ?_
      rotate_left
      ·intro w'
       go_simp
       with_reducible rfl
      rotate_left
      ·simp only [Act.put, q1, q2, q3, i64_w, i32_w]
       rfl
      refine one_ (i := 15) (N := some 37) #[true, true, true, true, true, true, true, true, true, true, true, true, true, true, true, true, false, false, false, false] rfl rfl (one_of HT_.o (by kernel_rfl)) (by decide) (fun K hK => ?_)
      refine goes_ Try.func63 (by kernel_rfl) rfl #[.agg #[.int .i64 (wrap64 (a0_0 + a1_0)), .int .i64 a0_1, .slice AC Ay.length AD]] (by rfl) rfl rfl (by (try simp only [List.map_toArray, List.map_cons, List.map_nil]); first | done | rfl | (simp only [List.length_drop, List.length_take]; rfl)) ?_
      with_reducible refine (spec_boIf.calls k (wrap64 (a0_0 + a1_0)) a0_1 (fun k_ => some k_ = (.slice AC Ay.length AD : Value).ownBlock) (.slice AC Ay.length AD) Ay AE AF AG AN w _ ?side1 ?side2 D5.o).mono ?_
      (case side1 => repeat (first | (with_reducible first | exact HB.o | apply qa | apply qn | apply qd | refine qx ?_ Ar.o | refine qx ?_ As.o | refine qx ?_ At.o) | exact HB.o))
      (case side2 => exact Kd.Rg rfl Aj.o)
      rintro e CD ⟨Db, rfl, D4, hb, hkp⟩
      refine ⟨_, rfl, ?_⟩
      have AA := Z.m (Kd.Rm (ok' := fun k_ => True) D4 (fun k_ hk_ => trivial))
      replace A0 := Z.m (qk (vK A0) hkp (fun hs_ => (fun e_ => (Kd.R_ne Aj.o A0.o (by decide)) e_) hs_))
      replace A1 := Z.m (qk (vK A1) hkp (fun hs_ => (fun e_ => (Kd.R_ne Aj.o A1.o (by decide)) e_) hs_))
      replace A2 := Z.m (qk (vK A2) hkp (fun hs_ => (fun e_ => (Kd.R_ne Aj.o A2.o (by decide)) e_) hs_))
      replace HB := Z.m (hb)
      clear Aj
      (try clear hb); (try clear hkp); (try clear D4)
      obtain ⟨Cv, CA, AM⟩ := Kd.R_slice AA.o
      (first | subst AM | (injection AM with f1_ f2_ f3_; have f4_ := f1_.symm; have f5_ := f3_.symm; clear f1_ f2_ f3_; subst f4_; subst f5_))
      refine hK.out _ _ ⟨(ql A0.o 0).trans rfl, (ql A0.o 1).trans rfl, (ql A0.o 2).trans rfl, (ql A1.o 0).trans rfl, (ql A1.o 1).trans rfl, (ql A1.o 2).trans rfl⟩ (fun hHeld => ?_)
      clear hK K
      refine norm_ (a' := ?_) ?_ ?_
      rotate_left
      ·show Act.put _ (some 37) _ = _
       simp only [Act.put, q1, q2, q3, i64_w, i32_w]
       rfl
      refine pure_ (i := 16) (N := some 38) (v := ?_) (a' := ?_) #[true, true, true, true, true, true, true, true, true, true, true, true, true, true, true, true, true, false, false, false] rfl rfl (any_of HT_.o (by kernel_rfl)) (fun _ _ _ h => h) (Or.inl ⟨by rfl, ?_⟩) ?_ ?_
      rotate_left
      ·intro w'
       go_simp
       with_reducible rfl
      rotate_left
      ·simp only [Act.put, q1, q2, q3, i64_w, i32_w]
       rfl
      refine pure_ (i := 17) (N := some 39) (v := ?_) (a' := ?_) #[true, true, true, true, true, true, true, true, true, true, true, true, true, true, true, true, true, true, false, false] rfl rfl (any_of HT_.o (by kernel_rfl)) (fun _ _ _ h => h) (Or.inl ⟨by rfl, ?_⟩) ?_ ?_
      rotate_left
      ·intro w'
       go_simp
       with_reducible rfl
      rotate_left
      ·simp only [Act.put, q1, q2, q3, i64_w, i32_w]
       rfl
      refine one_ (i := 18) (N := none) #[true, true, true, true, true, true, true, true, true, true, true, true, true, true, true, true, true, true, true, false] rfl rfl (one_of HT_.o (by kernel_rfl)) (by decide) (fun K hK => ?_)
      have D6 : CD.cell? ⟨Ad, 0, none⟩ = some (.int .i64 0) := (ql A2.o 0).trans rfl
      have hfs30 := qz A2.o 0
      have Cp := A4.o
      have Cq := A6.o
      have Ci := A7.o
      have Cj := A8.o
      have D7 : CD.cell? ⟨Ad, 1, none⟩ = some (.int .i64 0) := (ql A2.o 1).trans rfl
      have hfs31 := qz A2.o 1
      have Cr := A4.o
      have Cs := A6.o
      have Cl := A7.o
      have Cm := A8.o
      have D8 : CD.cell? ⟨Ad, 2, none⟩ = some (.slice none 0 0) := (ql A2.o 2).trans rfl
      have hfs33 := qz A2.o 2
      have Ct := A4.o
      have Cu := A6.o
      have Cn := A7.o
      have Co := A8.o
      refine skip_ (w1 := ?_) ?hwx ?hnx ?_ ?_; (case hwx => rfl); (case hnx => rfl)
      rotate_left
      ·go_simp
       rfl
      refine hK.out _ _ ⟨(cx A4.o ((cx A4.o ((cx A4.o (hHeld.1)))))), (cx A4.o ((cx A4.o ((cx A4.o (hHeld.2.1)))))), (cx A4.o ((cx A4.o ((cx A4.o (hHeld.2.2.1)))))), (cx A6.o ((cx A6.o ((cx A6.o (hHeld.2.2.2.1)))))), (cx A6.o ((cx A6.o ((cx A6.o (hHeld.2.2.2.2.1)))))), (cx A6.o ((cx A6.o ((cx A6.o (hHeld.2.2.2.2.2))))))⟩ (fun hHeld => ?_)
      clear hK K
      refine pure_ (i := 19) (N := some 5) (v := ?_) (a' := ?_) #[true, true, true, true, true, true, true, true, true, true, true, true, true, true, true, true, true, true, true, true] rfl rfl (any_of HT_.o (by kernel_rfl)) (fun _ _ _ h => h) (Or.inl ⟨by rfl, ?_⟩) ?_ ?_
      rotate_left
      ·intro w'
       go_simp
       with_reducible rfl
      rotate_left
      ·simp only [Act.put, q1, q2, q3, i64_w, i32_w]
       rfl
      refine done_ (done_of HT_.o (by kernel_rfl)) ?_
      try go_wp2
      refine bodyPost_ret (results_ct rfl _ _ Ad 29 #[.int .i64 AE, .int .i64 AF, .slice Cv AG.length CA] (0, 0) _ rfl (by refine bK ?_; apply st3; refine bK ?_; exact A2.o) Try.underlying29 rfl (by kernel_rfl)) rfl ?_
      exact ⟨_, by first | rfl | (simp [eN, eS] <;> rfl) | (simp [*, eN, eS] <;> rfl), by refine rK ?_; exact Kd.Rm (rf (rf (rf (Kd.Ry AA.o A2.o (by decide))))) (fun _ hk => trivial), vB HB⟩
     ·rw [if_neg c9] at H
      exact absurd H (by simp)
    ·rw [if_neg c8] at H
     exact absurd H (by simp)
   ·rw [if_neg c7] at H
    have Cy := beq_eq_false_iff_ne.mpr c7
    have Cz := bne_iff_ne.mpr c7
    simp only [Option.some.injEq, Prod.mk.injEq] at H
    obtain ⟨rfl, rfl, rfl, rfl⟩ := H
    go_enter Try.func27, Try.ntmps27
    go_wp2_with (first | ((with_reducible refine gq (N := 2) rfl ?_); refine be (N := 2) (cs := #[.int .i64 a0_0, .int .i64 a0_1, .slice A0_2 l0_2.length c0_2]) (t := 29) ?_; intro Ae hg Dl hbox hb; have A0 := Z.m (hbox); have Ag := gW (w := w) HB hg; have Ar := Ag; replace HB := bB HB hb; clear hb hbox hg) | ((with_reducible refine gq (N := 3) rfl ?_); refine be (N := 3) (cs := #[.int .i64 a1_0, .int .i64 a1_1, .slice A1_2 l1_2.length c1_2]) (t := 29) ?_; intro Af hg Dm hbox hb; have A1 := Z.m (hbox); have Ah := gW (w := w) HB hg; have As := Ah; have A9 := neL A0 hg; have Aa := neG A0 hg; replace A0 := kB A0 hb; replace HB := bB HB hb; clear hb hbox hg) | ((with_reducible refine gq (N := 4) rfl ?_); refine be (N := 4) (cs := #[.int .i64 0, .int .i64 0, .slice none 0 0]) (t := 29) ?_; intro Ad hg Dn hbox hb; have A2 := Z.m (hbox); have Ai := gW (w := w) HB hg; have At := Ai; have A4 := neL A0 hg; have A7 := neG A0 hg; have A6 := neL A1 hg; have A8 := neG A1 hg; replace A0 := kB A0 hb; replace A1 := kB A1 hb; replace HB := bB HB hb; clear hb hbox hg; have CJ := A9.o; have CV := Aa.o; have CK := A4.o; have CW := A7.o; have B0 := bc0 A0; have B2 := bc1 A0; have B9 := bc2 A0; have BN := qz A0.o 0; have BO := qz A0.o 1; have BP := qz A0.o 2) | ((with_reducible refine gc (f := 53) rfl ?_); refine gA (some 7) _ #[.agg #[.int .i64 a0_0, .int .i64 a0_1, .slice A0_2 l0_2.length c0_2]] ?_ Try.func53; (with_reducible refine (spec_boGood.calls k a0_0 a0_1 _ _ l0_2 true _ ?side1 ?side2 A3.o).mono ?_); (case side1 => repeat (first | exact (Kd.C_below Am.o HB.o) | (with_reducible refine Kd.C_alloc ?_ _) | (with_reducible refine Kd.C_drewN ?_ _) | (with_reducible refine Kd.C_drew ?_))); (case side2 => exact Au.o); rintro e Do ⟨rfl, hb⟩; refine ⟨_, rfl, ?_⟩; replace A0 := kB A0 hb; replace A1 := kB A1 hb; replace A2 := kB A2 hb; replace HB := bB HB hb; (try clear hb); (try clear AH); (try clear hk); (try clear hi); have CL := A6.o; have CX := A8.o; have Ba := bc0 A1; have Bb := bc1 A1; have Bc := bc2 A1; have BQ := qz A1.o 0; have BR := qz A1.o 1; have BS := qz A1.o 2) | (go_at_call 53; (with_reducible refine (spec_boGood.calls k a1_0 a1_1 _ _ l1_2 true _ ?side1 ?side2 A5.o).mono ?_); (case side1 => repeat (first | exact (Kd.C_below Av.o HB.o) | (with_reducible refine Kd.C_alloc ?_ _) | (with_reducible refine Kd.C_drewN ?_ _) | (with_reducible refine Kd.C_drew ?_))); (case side2 => exact Aw.o); rintro e Dp ⟨rfl, hb⟩; replace A0 := kB A0 hb; replace A1 := kB A1 hb; replace A2 := kB A2 hb; replace HB := bB HB hb; (try clear hb); (try clear AH); (try clear hk); (try clear hi); have Bd := bc0 A0; have Be := bc1 A0; have Bf := bc2 A0; have BT := qz A0.o 0; have BU := qz A0.o 1; have BV := qz A0.o 2; have Bg := bc0 A1; have Bh := bc1 A1; have Bi := bc2 A1; have BW := qz A1.o 0; have BX := qz A1.o 1; have BY := qz A1.o 2; have Bj := bc0 A2; have Bk := bc1 A2; have Bl := bc2 A2; have BZ := qz A2.o 0; have C0 := qz A2.o 1; have C1 := qz A2.o 2))
    refine bodyPost_ret (results_ct rfl _ _ Ad 29 #[.int .i64 0, .int .i64 0, .slice none 0 0] (0, 0) _ rfl (by refine bK ?_; apply st3; refine bK ?_; exact A2.o) Try.underlying29 rfl (by kernel_rfl)) rfl ?_
    exact ⟨_, by first | rfl | (simp [eN, eS] <;> rfl) | (simp [*, eN, eS] <;> rfl), by first | exact Kd.R_nil _ _ _ _ _ | exact Kd.N_nil _ _ _ _ _ | exact Kd.V_nil _ _ _ _ _ | exact Kd.Q_nil _ _ _ _ _ | exact Kd.S_nil _ _ _ _ _, vB HB⟩
  ·replace c6 := Bool.eq_false_iff.mpr c6
   subst c6
   have H1 : (some (0, 0, ([] : List (S34)), false)) = some (r1, r2, r3, r4) := by rw [if_neg (show ¬ (false = true) by decide)] at H; exact H
   clear H
   have H := H1
   clear H1
   simp only [Option.some.injEq, Prod.mk.injEq] at H
   obtain ⟨rfl, rfl, rfl, rfl⟩ := H
   go_enter Try.func27, Try.ntmps27
   go_wp2_with (first | ((with_reducible refine gq (N := 2) rfl ?_); refine be (N := 2) (cs := #[.int .i64 a0_0, .int .i64 a0_1, .slice A0_2 l0_2.length c0_2]) (t := 29) ?_; intro Ae hg Dq hbox hb; have A0 := Z.m (hbox); have Ag := gW (w := w) HB hg; have Ar := Ag; replace HB := bB HB hb; clear hb hbox hg) | ((with_reducible refine gq (N := 3) rfl ?_); refine be (N := 3) (cs := #[.int .i64 a1_0, .int .i64 a1_1, .slice A1_2 l1_2.length c1_2]) (t := 29) ?_; intro Af hg Dr hbox hb; have A1 := Z.m (hbox); have Ah := gW (w := w) HB hg; have As := Ah; have A9 := neL A0 hg; have Aa := neG A0 hg; replace A0 := kB A0 hb; replace HB := bB HB hb; clear hb hbox hg) | ((with_reducible refine gq (N := 4) rfl ?_); refine be (N := 4) (cs := #[.int .i64 0, .int .i64 0, .slice none 0 0]) (t := 29) ?_; intro Ad hg Ds hbox hb; have A2 := Z.m (hbox); have Ai := gW (w := w) HB hg; have At := Ai; have A4 := neL A0 hg; have A7 := neG A0 hg; have A6 := neL A1 hg; have A8 := neG A1 hg; replace A0 := kB A0 hb; replace A1 := kB A1 hb; replace HB := bB HB hb; clear hb hbox hg; have CM := A9.o; have CY := Aa.o; have CN := A4.o; have CZ := A7.o; have Bm := bc0 A0; have Bn := bc1 A0; have Bo := bc2 A0; have C2 := qz A0.o 0; have C3 := qz A0.o 1; have C4 := qz A0.o 2) | ((with_reducible refine gc (f := 53) rfl ?_); refine gA (some 7) _ #[.agg #[.int .i64 a0_0, .int .i64 a0_1, .slice A0_2 l0_2.length c0_2]] ?_ Try.func53; (with_reducible refine (spec_boGood.calls k a0_0 a0_1 _ _ l0_2 true _ ?side1 ?side2 A3.o).mono ?_); (case side1 => repeat (first | exact (Kd.C_below Am.o HB.o) | (with_reducible refine Kd.C_alloc ?_ _) | (with_reducible refine Kd.C_drewN ?_ _) | (with_reducible refine Kd.C_drew ?_))); (case side2 => exact Au.o); rintro e Dt ⟨rfl, hb⟩; refine ⟨_, rfl, ?_⟩; replace A0 := kB A0 hb; replace A1 := kB A1 hb; replace A2 := kB A2 hb; replace HB := bB HB hb; (try clear hb); (try clear AH); (try clear hk); (try clear hi); have CO := A6.o; have D0 := A8.o; have Bp := bc0 A1; have Bq := bc1 A1; have Br := bc2 A1; have C5 := qz A1.o 0; have C6 := qz A1.o 1; have C7 := qz A1.o 2) | (go_at_call 53; (with_reducible refine (spec_boGood.calls k a1_0 a1_1 _ _ l1_2 false _ ?side1 ?side2 A5.o).mono ?_); (case side1 => repeat (first | exact (Kd.C_below Av.o HB.o) | (with_reducible refine Kd.C_alloc ?_ _) | (with_reducible refine Kd.C_drewN ?_ _) | (with_reducible refine Kd.C_drew ?_))); (case side2 => exact Aw.o); rintro e Du ⟨rfl, hb⟩; replace A0 := kB A0 hb; replace A1 := kB A1 hb; replace A2 := kB A2 hb; replace HB := bB HB hb; (try clear hb); (try clear AH); (try clear hk); (try clear hi); have Bs := bc0 A2; have Bt := bc1 A2; have Bu := bc2 A2; have C8 := qz A2.o 0; have C9 := qz A2.o 1; have Ca := qz A2.o 2))
   refine bodyPost_ret (results_ct rfl _ _ Ad 29 #[.int .i64 0, .int .i64 0, .slice none 0 0] (0, 0) _ rfl (by refine bK ?_; apply st3; refine bK ?_; exact A2.o) Try.underlying29 rfl (by kernel_rfl)) rfl ?_
   exact ⟨_, by first | rfl | (simp [eN, eS] <;> rfl) | (simp [*, eN, eS] <;> rfl), by first | exact Kd.R_nil _ _ _ _ _ | exact Kd.N_nil _ _ _ _ _ | exact Kd.V_nil _ _ _ _ _ | exact Kd.Q_nil _ _ _ _ _ | exact Kd.S_nil _ _ _ _ _, vB HB⟩
 ·replace c4 := Bool.eq_false_iff.mpr c4
  subst c4
  have H1 : (some (0, 0, ([] : List (S34)), false)) = some (r1, r2, r3, r4) := by rw [if_neg (show ¬ (false = true) by decide)] at H; exact H
  clear H
  have H := H1
  clear H1
  simp only [Option.some.injEq, Prod.mk.injEq] at H
  obtain ⟨rfl, rfl, rfl, rfl⟩ := H
  go_enter Try.func27, Try.ntmps27
  go_wp2_with (first | ((with_reducible refine gq (N := 2) rfl ?_); refine be (N := 2) (cs := #[.int .i64 a0_0, .int .i64 a0_1, .slice A0_2 l0_2.length c0_2]) (t := 29) ?_; intro Ae hg Dv hbox hb; have A0 := Z.m (hbox); have Ag := gW (w := w) HB hg; have Ar := Ag; replace HB := bB HB hb; clear hb hbox hg) | ((with_reducible refine gq (N := 3) rfl ?_); refine be (N := 3) (cs := #[.int .i64 a1_0, .int .i64 a1_1, .slice A1_2 l1_2.length c1_2]) (t := 29) ?_; intro Af hg Dw hbox hb; have A1 := Z.m (hbox); have Ah := gW (w := w) HB hg; have As := Ah; have A9 := neL A0 hg; have Aa := neG A0 hg; replace A0 := kB A0 hb; replace HB := bB HB hb; clear hb hbox hg) | ((with_reducible refine gq (N := 4) rfl ?_); refine be (N := 4) (cs := #[.int .i64 0, .int .i64 0, .slice none 0 0]) (t := 29) ?_; intro Ad hg Dx hbox hb; have A2 := Z.m (hbox); have Ai := gW (w := w) HB hg; have At := Ai; have A4 := neL A0 hg; have A7 := neG A0 hg; have A6 := neL A1 hg; have A8 := neG A1 hg; replace A0 := kB A0 hb; replace A1 := kB A1 hb; replace HB := bB HB hb; clear hb hbox hg; have CP := A9.o; have D1 := Aa.o; have CQ := A4.o; have D2 := A7.o; have Bv := bc0 A0; have Bw := bc1 A0; have Bx := bc2 A0; have Cb := qz A0.o 0; have Cd := qz A0.o 1; have Ce := qz A0.o 2) | ((with_reducible refine gc (f := 53) rfl ?_); refine gA (some 7) _ #[.agg #[.int .i64 a0_0, .int .i64 a0_1, .slice A0_2 l0_2.length c0_2]] ?_ Try.func53; (with_reducible refine (spec_boGood.calls k a0_0 a0_1 _ _ l0_2 false _ ?side1 ?side2 A3.o).mono ?_); (case side1 => repeat (first | exact (Kd.C_below Am.o HB.o) | (with_reducible refine Kd.C_alloc ?_ _) | (with_reducible refine Kd.C_drewN ?_ _) | (with_reducible refine Kd.C_drew ?_))); (case side2 => exact Au.o); rintro e Dy ⟨rfl, hb⟩; refine ⟨_, rfl, ?_⟩; replace A0 := kB A0 hb; replace A1 := kB A1 hb; replace A2 := kB A2 hb; replace HB := bB HB hb; (try clear hb); (try clear AH); (try clear hk); (try clear hi); have CR := A8.o; have D3 := A6.o; have By := bc0 A2; have Bz := bc1 A2; have BA := bc2 A2; have Cf := qz A2.o 0; have Cg := qz A2.o 1; have Ch := qz A2.o 2))
  refine bodyPost_ret (results_ct rfl _ _ Ad 29 #[.int .i64 0, .int .i64 0, .slice none 0 0] (0, 0) _ rfl (by refine bK ?_; apply st3; refine bK ?_; exact A2.o) Try.underlying29 rfl (by kernel_rfl)) rfl ?_
  exact ⟨_, by first | rfl | (simp [eN, eS] <;> rfl) | (simp [*, eN, eS] <;> rfl), by first | exact Kd.R_nil _ _ _ _ _ | exact Kd.N_nil _ _ _ _ _ | exact Kd.V_nil _ _ _ _ _ | exact Kd.Q_nil _ _ _ _ _ | exact Kd.S_nil _ _ _ _ _, vB HB⟩

end Go.Proofs.Yteodcegmkbcjjaa.PAll
