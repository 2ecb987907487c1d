/- Began as a text that print.sh wrote (of the functions named below); turned and shortened by this session. -/
import Derived.Test.YteodcegmkbcjjaaG0
import Derived.Test.YteodcegmkbcjjaaG4
namespace Go.Proofs.Yteodcegmkbcjjaa.PAll
open Go.RowKit Go.Proofs.YteodcegmkbcjjaaW.PrintWords Go.Proofs.YteodcegmkbcjjaaW.PrintLast Go.Proofs.YteodcegmkbcjjaaW.PrintMore
attribute [local go_sem] max2_int min2_int max_two min_two max_three min_three max_four min_four   -- for this text's walks alone
set_option linter.unusedVariables false
set_option linter.unusedSimpArgs false

/-! ### impl_CutRows: function 24 -/
def impl_CutRows.f (k : Nat) (a0_0 : Int) (a0_1 : Int) (l0_2 : List (S34)) (a1 : Int) (a2 : Int) : Option (Int × Int × (List (S34)) × Bool) := (impl_IsBoard.f k a0_0 a0_1 l0_2).bind fun t160 => (if t160 = true then (if a1 < 0 then (some (0, 0, ([] : List (S34)), false)) else (if a1 ≥ a2 then (some (0, 0, ([] : List (S34)), false)) else (if a2 > a0_0 then (some (0, 0, ([] : List (S34)), false)) else (if 0 ≤ (wrap64 (a1 * a0_1)) then (if (wrap64 (a1 * a0_1)) ≤ (wrap64 (a2 * a0_1)) then (if (wrap64 (a2 * a0_1)) ≤ (l0_2.length : Int) then ((some ((l0_2.take ((wrap64 (a2 * a0_1)) : Int).toNat).drop ((wrap64 (a1 * a0_1)) : Int).toNat : List (S34))).bind fun y162 => (if ([] : List (S34)).length + y162.length < 8796093022208 then (some (wrap64 (a2 - a1), a0_1, (([] : List (S34)) ++ y162), true)) else (none))) else (none)) else (none)) else (none))))) else (some (0, 0, ([] : List (S34)), false)))
def impl_CutRows.T4 : Bool × List (List Nat × List Nat) := (true, [([], []), ([0], [0]), ([], []), ([2], [2]), ([], []), ([], []), ([5], [5]), ([4, 6], [4, 6]), ([], []), ([], []), ([9], [9]), ([8, 10], [8, 10]), ([3, 7, 11], [3, 7, 11]), ([1, 12], [1, 12]), ([0, 1, 2, 3, 4, 5, 6, 7, 8, 9, 10, 11, 12, 13], []), ([14, 13, 13, 0, 1, 2, 3, 4, 5, 6, 7, 8, 9, 10, 11, 12, 13], [13, 14])])
def impl_CutRows.B4 : List Nat := [0, 1, 0, 4, 0, 0, 32, 112, 0, 0, 512, 1792, 4092, 8191, 16383, 32767]
theorem impl_CutRows.tab4 : rtab .any (opsOf Try.f24 4) = impl_CutRows.T4 := by kernel_rfl
theorem impl_CutRows.bits4 : waitsOk impl_CutRows.T4.2 impl_CutRows.B4 = true := by kernel_rfl
set_option maxHeartbeats 8000000 in
set_option maxRecDepth 100000 in
theorem impl_CutRows.calls (k : Nat) (a0_0 : Int) (a0_1 : Int) (A0_2 : Option Addr) (c0_2 : Nat) (l0_2 : List (S34)) (a1 : Int) (a2 : Int) (r1 : Int) (r2 : Int) (r3 : List (S34)) (r4 : Bool) (w : World) (hr0_2 : Kd.C k34 w A0_2 l0_2.length l0_2) (hc0_2 : l0_2.length ≤ c0_2) (h : impl_CutRows.f k a0_0 a0_1 l0_2 a1 a2 = some (r1, r2, r3, r4)) :
 Calls Try.prog 24 #[.agg #[.int .i64 a0_0, .int .i64 a0_1, .slice A0_2 l0_2.length c0_2], .int .i64 a1, .int .i64 a2] w fun e w' => ∃ v2_ : Value, e = .returned (.tuple #[.agg #[.int .i64 r1, .int .i64 r2, v2_], .bool r4]) ∧ Kd.R k34 34 w' w.heap.size (fun _ => True) v2_ r3 ∧ Below w.heap.size w w' := by
 have CF := Try.underlying29
 have Ah := Z.m hr0_2
 have Ag := Z.m hc0_2
 clear hr0_2 hc0_2
 have HB := Z.m (Below.refl w.heap.size w)
 have H : ((impl_IsBoard.f k a0_0 a0_1 l0_2).bind fun Ar => (if Ar = true then (if a1 < 0 then (some (0, 0, ([] : List (S34)), false)) else (if a1 ≥ a2 then (some (0, 0, ([] : List (S34)), false)) else (if a2 > a0_0 then (some (0, 0, ([] : List (S34)), false)) else (if 0 ≤ (wrap64 (a1 * a0_1)) then (if (wrap64 (a1 * a0_1)) ≤ (wrap64 (a2 * a0_1)) then (if (wrap64 (a2 * a0_1)) ≤ (l0_2.length : Int) then ((some ((l0_2.take ((wrap64 (a2 * a0_1)) : Int).toNat).drop ((wrap64 (a1 * a0_1)) : Int).toNat : List (S34))).bind fun A8 => (if ([] : List (S34)).length + A8.length < 8796093022208 then (some (wrap64 (a2 - a1), a0_1, (([] : List (S34)) ++ A8), true)) else (none))) else (none)) else (none)) else (none))))) else (some (0, 0, ([] : List (S34)), false)))) = some (r1, r2, r3, r4) := h
 clear h
 replace H := Option.bind_eq_some_iff.mp H
 obtain ⟨Ar, Cf, H⟩ := H
 replace H : (if Ar = true then (if a1 < 0 then (some (0, 0, ([] : List (S34)), false)) else (if a1 ≥ a2 then (some (0, 0, ([] : List (S34)), false)) else (if a2 > a0_0 then (some (0, 0, ([] : List (S34)), false)) else (if 0 ≤ (wrap64 (a1 * a0_1)) then (if (wrap64 (a1 * a0_1)) ≤ (wrap64 (a2 * a0_1)) then (if (wrap64 (a2 * a0_1)) ≤ (l0_2.length : Int) then ((some ((l0_2.take ((wrap64 (a2 * a0_1)) : Int).toNat).drop ((wrap64 (a1 * a0_1)) : Int).toNat : List (S34))).bind fun A8 => (if ([] : List (S34)).length + A8.length < 8796093022208 then (some (wrap64 (a2 - a1), a0_1, (([] : List (S34)) ++ A8), true)) else (none))) else (none)) else (none)) else (none))))) else (some (0, 0, ([] : List (S34)), false))) = some (r1, r2, r3, r4) := H
 have A4 := Z.m Cf
 clear Cf
 by_cases c5 : Ar = true
 ·subst c5
  have H1 : (if a1 < 0 then (some (0, 0, ([] : List (S34)), false)) else (if a1 ≥ a2 then (some (0, 0, ([] : List (S34)), false)) else (if a2 > a0_0 then (some (0, 0, ([] : List (S34)), false)) else (if 0 ≤ (wrap64 (a1 * a0_1)) then (if (wrap64 (a1 * a0_1)) ≤ (wrap64 (a2 * a0_1)) then (if (wrap64 (a2 * a0_1)) ≤ (l0_2.length : Int) then ((some ((l0_2.take ((wrap64 (a2 * a0_1)) : Int).toNat).drop ((wrap64 (a1 * a0_1)) : Int).toNat : List (S34))).bind fun A8 => (if ([] : List (S34)).length + A8.length < 8796093022208 then (some (wrap64 (a2 - a1), a0_1, (([] : List (S34)) ++ A8), true)) else (none))) else (none)) else (none)) else (none))))) = some (r1, r2, r3, r4) := by rw [if_pos rfl] at H; exact H
  clear H
  have H := H1
  clear H1
  by_cases c6 : a1 < 0
  ·rw [if_pos c6] at H
   have Cd := decide_eq_true c6
   clear c6
   simp only [Option.some.injEq, Prod.mk.injEq] at H
   obtain ⟨rfl, rfl, rfl, rfl⟩ := H
   go_enter Try.func24, Try.ntmps24
   go_wp2_with (first | ((with_reducible refine gq (N := 3) rfl ?_); refine be (N := 3) (cs := #[.int .i64 a0_0, .int .i64 a0_1, .slice A0_2 l0_2.length c0_2]) (t := 29) ?_; intro Ae hg w7 hbox hb; have A0 := Z.m (hbox); have Ac := gW (w := w) HB hg; have An := Ac; replace HB := bB HB hb; clear hb hbox hg) | ((with_reducible refine gq (N := 6) rfl ?_); refine be (N := 6) (cs := #[.int .i64 0, .int .i64 0, .slice none 0 0]) (t := 29) ?_; intro A9 hg w8 hbox hb; have A2 := Z.m (hbox); have Ad := gW (w := w) HB hg; have Ao := Ad; have A5 := neL A0 hg; have A6 := neG A0 hg; replace A0 := kB A0 hb; replace HB := bB HB hb; clear hb hbox hg; have CC := A5.o; have CD := A6.o; have AE := bc0 A0; have AF := bc1 A0; have AG := bc2 A0; have Br := qz A0.o 0; have Bs := qz A0.o 1; have Bt := qz A0.o 2) | ((with_reducible refine gc (f := 18) rfl ?_); refine gA (some 10) _ #[.agg #[.int .i64 a0_0, .int .i64 a0_1, .slice A0_2 l0_2.length c0_2]] ?_ Try.func18; (with_reducible refine (impl_IsBoard.calls k a0_0 a0_1 _ _ l0_2 true _ ?side1 ?side2 A4.o).mono ?_); (case side1 => repeat (first | exact (Kd.C_below Ah.o HB.o) | (with_reducible refine Kd.C_alloc ?_ _) | (with_reducible refine Kd.C_drewN ?_ _) | (with_reducible refine Kd.C_drew ?_))); (case side2 => exact Ag.o); rintro e CJ ⟨rfl, hb⟩; refine ⟨_, rfl, ?_⟩; replace A0 := kB A0 hb; replace A2 := kB A2 hb; replace HB := bB HB hb; (try clear hb); (try clear AD); (try clear hk); (try clear hi); have AH := bc0 A2; have AI := bc1 A2; have AJ := bc2 A2; have Bu := qz A2.o 0; have Bv := qz A2.o 1; have Bw := qz A2.o 2))
   refine bodyPost_ret (results_ct rfl _ _ A9 29 #[.int .i64 0, .int .i64 0, .slice none 0 0] (0, 0) _ rfl (by refine bK ?_; apply st3; refine bK ?_; exact A2.o) Try.underlying29 rfl (by kernel_rfl)) rfl ?_
   exact ⟨_, by first | rfl | (simp [eN, eS] <;> rfl) | (simp [*, eN, eS] <;> rfl), by first | exact Kd.R_nil _ _ _ _ _ | exact Kd.N_nil _ _ _ _ _ | exact Kd.V_nil _ _ _ _ _ | exact Kd.Q_nil _ _ _ _ _ | exact Kd.S_nil _ _ _ _ _, vB HB⟩
  ·rw [if_neg c6] at H
   have Cd := decide_eq_false c6
   clear c6
   by_cases c13 : a1 ≥ a2
   ·rw [if_pos c13] at H
    have Ay := decide_eq_true c13
    clear c13
    simp only [Option.some.injEq, Prod.mk.injEq] at H
    obtain ⟨rfl, rfl, rfl, rfl⟩ := H
    go_enter Try.func24, Try.ntmps24
    go_wp2_with (first | ((with_reducible refine gq (N := 3) rfl ?_); refine be (N := 3) (cs := #[.int .i64 a0_0, .int .i64 a0_1, .slice A0_2 l0_2.length c0_2]) (t := 29) ?_; intro Ae hg CK hbox hb; have A0 := Z.m (hbox); have Ac := gW (w := w) HB hg; have An := Ac; replace HB := bB HB hb; clear hb hbox hg) | ((with_reducible refine gq (N := 6) rfl ?_); refine be (N := 6) (cs := #[.int .i64 0, .int .i64 0, .slice none 0 0]) (t := 29) ?_; intro A9 hg CL hbox hb; have A2 := Z.m (hbox); have Ad := gW (w := w) HB hg; have Ao := Ad; have A5 := neL A0 hg; have A6 := neG A0 hg; replace A0 := kB A0 hb; replace HB := bB HB hb; clear hb hbox hg; have Cp := A5.o; have Cv := A6.o; have AK := bc0 A0; have AL := bc1 A0; have AM := bc2 A0; have Bx := qz A0.o 0; have By := qz A0.o 1; have Bz := qz A0.o 2) | ((with_reducible refine gc (f := 18) rfl ?_); refine gA (some 10) _ #[.agg #[.int .i64 a0_0, .int .i64 a0_1, .slice A0_2 l0_2.length c0_2]] ?_ Try.func18; (with_reducible refine (impl_IsBoard.calls k a0_0 a0_1 _ _ l0_2 true _ ?side1 ?side2 A4.o).mono ?_); (case side1 => repeat (first | exact (Kd.C_below Ah.o HB.o) | (with_reducible refine Kd.C_alloc ?_ _) | (with_reducible refine Kd.C_drewN ?_ _) | (with_reducible refine Kd.C_drew ?_))); (case side2 => exact Ag.o); rintro e CM ⟨rfl, hb⟩; refine ⟨_, rfl, ?_⟩; replace A0 := kB A0 hb; replace A2 := kB A2 hb; replace HB := bB HB hb; (try clear hb); (try clear AD); (try clear hk); (try clear hi); have AN := bc0 A2; have AO := bc1 A2; have AP := bc2 A2; have BA := qz A2.o 0; have BB := qz A2.o 1; have BC := qz A2.o 2))
    refine bodyPost_ret (results_ct rfl _ _ A9 29 #[.int .i64 0, .int .i64 0, .slice none 0 0] (0, 0) _ rfl (by refine bK ?_; apply st3; refine bK ?_; exact A2.o) Try.underlying29 rfl (by kernel_rfl)) rfl ?_
    exact ⟨_, by first | rfl | (simp [eN, eS] <;> rfl) | (simp [*, eN, eS] <;> rfl), by first | exact Kd.R_nil _ _ _ _ _ | exact Kd.N_nil _ _ _ _ _ | exact Kd.V_nil _ _ _ _ _ | exact Kd.Q_nil _ _ _ _ _ | exact Kd.S_nil _ _ _ _ _, vB HB⟩
   ·rw [if_neg c13] at H
    have Ay := decide_eq_false c13
    clear c13
    by_cases c20 : a2 > a0_0
    ·rw [if_pos c20] at H
     have Az := decide_eq_true c20
     clear c20
     simp only [Option.some.injEq, Prod.mk.injEq] at H
     obtain ⟨rfl, rfl, rfl, rfl⟩ := H
     go_enter Try.func24, Try.ntmps24
     go_wp2_with (first | ((with_reducible refine gq (N := 3) rfl ?_); refine be (N := 3) (cs := #[.int .i64 a0_0, .int .i64 a0_1, .slice A0_2 l0_2.length c0_2]) (t := 29) ?_; intro Ae hg CN hbox hb; have A0 := Z.m (hbox); have Ac := gW (w := w) HB hg; have An := Ac; replace HB := bB HB hb; clear hb hbox hg) | ((with_reducible refine gq (N := 6) rfl ?_); refine be (N := 6) (cs := #[.int .i64 0, .int .i64 0, .slice none 0 0]) (t := 29) ?_; intro A9 hg CO hbox hb; have A2 := Z.m (hbox); have Ad := gW (w := w) HB hg; have Ao := Ad; have A5 := neL A0 hg; have A6 := neG A0 hg; replace A0 := kB A0 hb; replace HB := bB HB hb; clear hb hbox hg; have Cq := A5.o; have Cw := A6.o; have AQ := bc0 A0; have AR := bc1 A0; have AS := bc2 A0; have BD := qz A0.o 0; have BE := qz A0.o 1; have BF := qz A0.o 2) | ((with_reducible refine gc (f := 18) rfl ?_); refine gA (some 10) _ #[.agg #[.int .i64 a0_0, .int .i64 a0_1, .slice A0_2 l0_2.length c0_2]] ?_ Try.func18; (with_reducible refine (impl_IsBoard.calls k a0_0 a0_1 _ _ l0_2 true _ ?side1 ?side2 A4.o).mono ?_); (case side1 => repeat (first | exact (Kd.C_below Ah.o HB.o) | (with_reducible refine Kd.C_alloc ?_ _) | (with_reducible refine Kd.C_drewN ?_ _) | (with_reducible refine Kd.C_drew ?_))); (case side2 => exact Ag.o); rintro e CP ⟨rfl, hb⟩; refine ⟨_, rfl, ?_⟩; replace A0 := kB A0 hb; replace A2 := kB A2 hb; replace HB := bB HB hb; (try clear hb); (try clear AD); (try clear hk); (try clear hi); have AT := bc0 A0; have AU := bc1 A0; have AV := bc2 A0; have BG := qz A0.o 0; have BH := qz A0.o 1; have BI := qz A0.o 2; have AW := bc0 A2; have AX := bc1 A2; have AY := bc2 A2; have BJ := qz A2.o 0; have BK := qz A2.o 1; have BL := qz A2.o 2))
     refine bodyPost_ret (results_ct rfl _ _ A9 29 #[.int .i64 0, .int .i64 0, .slice none 0 0] (0, 0) _ rfl (by refine bK ?_; apply st3; refine bK ?_; exact A2.o) Try.underlying29 rfl (by kernel_rfl)) rfl ?_
     exact ⟨_, by first | rfl | (simp [eN, eS] <;> rfl) | (simp [*, eN, eS] <;> rfl), by first | exact Kd.R_nil _ _ _ _ _ | exact Kd.N_nil _ _ _ _ _ | exact Kd.V_nil _ _ _ _ _ | exact Kd.Q_nil _ _ _ _ _ | exact Kd.S_nil _ _ _ _ _, vB HB⟩
    ·rw [if_neg c20] at H
     have Az := decide_eq_false c20
     clear c20
     obtain ⟨Ab, Ak⟩ : ∃ j_ : Int, (wrap64 (a1 * a0_1)) = j_ := ⟨_, rfl⟩
     replace H : (if 0 ≤ (Ab) then (if (Ab) ≤ (wrap64 (a2 * a0_1)) then (if (wrap64 (a2 * a0_1)) ≤ (l0_2.length : Int) then ((some ((l0_2.take ((wrap64 (a2 * a0_1)) : Int).toNat).drop ((Ab) : Int).toNat : List (S34))).bind fun A8 => (if ([] : List (S34)).length + A8.length < 8796093022208 then (some (wrap64 (a2 - a1), a0_1, (([] : List (S34)) ++ A8), true)) else (none))) else (none)) else (none)) else (none)) = some (r1, r2, r3, r4) := by first | (rw [Ak] at H; exact H) | (simp only [Ak] at H ⊢; exact H)
     (try rw [Ak] at A4)
     have hji28w : (IntKind.i64.wrap (a1 * a0_1)) = Ab := (i64_w _).trans Ak
     by_cases c29 : 0 ≤ (Ab)
     ·rw [if_pos c29] at H
      have Ci := eq_true c29
      have Cj := decide_eq_true c29
      clear c29
      by_cases c30 : (Ab) ≤ (wrap64 (a2 * a0_1))
      ·rw [if_pos c30] at H
       have Cl := eq_true c30
       have Cm := decide_eq_true c30
       clear c30
       by_cases c31 : (wrap64 (a2 * a0_1)) ≤ (l0_2.length : Int)
       ·rw [if_pos c31] at H
        have Cn := eq_true c31
        have Co := decide_eq_true c31
        clear c31
        obtain ⟨A8, Al⟩ : ∃ y_ : List (S34), y_ = ((l0_2.take ((wrap64 (a2 * a0_1)) : Int).toNat).drop ((Ab) : Int).toNat) := ⟨_, rfl⟩
        replace H : (if ([] : List (S34)).length + A8.length < 8796093022208 then (some (wrap64 (a2 - a1), a0_1, (([] : List (S34)) ++ A8), true)) else (none)) = some (r1, r2, r3, r4) := by first | (rw [Al]; with_reducible exact H) | (have H2_ := (Option.bind_some _ _).symm.trans H; rw [Al]; with_reducible exact H2_) | (have H2_ := (Option.bind_some _ _).symm.trans H; with_reducible exact H2_) | with_reducible exact H | (rw [Al]; exact H) | exact H
        have Au := Z.m Al
        clear Al
        by_cases c32 : ([] : List (S34)).length + A8.length < 8796093022208
        ·rw [if_pos c32] at H
         have Aw := Z.m c32
         clear c32
         obtain ⟨AC, Am⟩ : ∃ y_ : List (S34), y_ = (([] : List (S34)) ++ A8) := ⟨_, rfl⟩
         replace H : (some (wrap64 (a2 - a1), a0_1, AC, true)) = some (r1, r2, r3, r4) := by first | (rw [Am]; with_reducible exact H) | (have H2_ := (Option.bind_some _ _).symm.trans H; rw [Am]; with_reducible exact H2_) | (have H2_ := (Option.bind_some _ _).symm.trans H; with_reducible exact H2_) | with_reducible exact H | (rw [Am]; exact H) | exact H
         have Ax := Z.m Am
         clear Am
         simp only [Option.some.injEq, Prod.mk.injEq] at H
         obtain ⟨rfl, rfl, rfl, rfl⟩ := H
         go_enter Try.func24, Try.ntmps24
         try go_wp2_with (first | ((with_reducible refine gq (N := 3) rfl ?_); refine be (N := 3) (cs := #[.int .i64 a0_0, .int .i64 a0_1, .slice A0_2 l0_2.length c0_2]) (t := 29) ?_; intro Ae hg CQ hbox hb; have A0 := Z.m (hbox); have Ac := gW (w := w) HB hg; have An := Ac; replace HB := bB HB hb; clear hb hbox hg) | ((with_reducible refine gq (N := 6) rfl ?_); refine be (N := 6) (cs := #[.int .i64 0, .int .i64 0, .slice none 0 0]) (t := 29) ?_; intro A9 hg CR hbox hb; have A2 := Z.m (hbox); have Ad := gW (w := w) HB hg; have Ao := Ad; have A5 := neL A0 hg; have A6 := neG A0 hg; replace A0 := kB A0 hb; replace HB := bB HB hb; clear hb hbox hg; have Cr := A5.o; have Cx := A6.o; have AZ := bc0 A0; have B0 := bc1 A0; have B2 := bc2 A0; have BM := qz A0.o 0; have BN := qz A0.o 1; have BO := qz A0.o 2) | ((with_reducible refine gc (f := 18) rfl ?_); refine gA (some 10) _ #[.agg #[.int .i64 a0_0, .int .i64 a0_1, .slice A0_2 l0_2.length c0_2]] ?_ Try.func18; (with_reducible refine (impl_IsBoard.calls k a0_0 a0_1 _ _ l0_2 true _ ?side1 ?side2 A4.o).mono ?_); (case side1 => repeat (first | exact (Kd.C_below Ah.o HB.o) | (with_reducible refine Kd.C_alloc ?_ _) | (with_reducible refine Kd.C_drewN ?_ _) | (with_reducible refine Kd.C_drew ?_))); (case side2 => exact Ag.o); rintro e CS ⟨rfl, hb⟩; refine ⟨_, rfl, ?_⟩; replace A0 := kB A0 hb; replace A2 := kB A2 hb; replace HB := bB HB hb; (try clear hb); (try clear AD); (try clear hk); (try clear hi); have B9 := bc0 A0; have Ba := bc1 A0; have Bb := bc2 A0; have BP := qz A0.o 0; have BQ := qz A0.o 1; have BR := qz A0.o 2) | ((with_reducible refine gq (N := 8) rfl ?_); refine be (N := 8) (cs := #[.int .i64 0, .int .i64 0, .slice none 0 0]) (t := 29) ?_; intro A7 hg AB hbox hb; have A3 := Z.m (hbox); have Av := gW (w := w) HB hg; have Cg := Av; have Af := neL A0 hg; have Ai := neG A0 hg; have Aa := neL A2 hg; have Aj := neG A2 hg; replace A0 := kB A0 hb; replace A2 := kB A2 hb; replace HB := bB HB hb; clear hb hbox hg; have Cs := Ai.o; have Cy := Af.o; have Ct := Aj.o; have Cz := Aa.o; have Bc := bc0 A3; have Bd := bc1 A3; have Be := bc2 A3; have BS := qz A3.o 0; have BT := qz A3.o 1; have BU := qz A3.o 2))
         have n0_ : Z ((((AB.setCell ⟨A7, 0, none⟩ (.int .i64 (wrap64 (a2 - a1)))).setCell ⟨A7, 1, none⟩ (.int .i64 a0_1)).setCell ⟨A7, 2, none⟩ (.slice none 0 0)).heap[Ae]? = some (.cells #[.int .i64 a0_0, .int .i64 a0_1, .slice A0_2 l0_2.length c0_2] 29 (0, 0))) := ⟨by refine bK ?_; (iterate 3 refine qF ?_ Af); exact A0.o⟩
         have n1_ : Z ((((AB.setCell ⟨A7, 0, none⟩ (.int .i64 (wrap64 (a2 - a1)))).setCell ⟨A7, 1, none⟩ (.int .i64 a0_1)).setCell ⟨A7, 2, none⟩ (.slice none 0 0)).heap[A9]? = some (.cells #[.int .i64 0, .int .i64 0, .slice none 0 0] 29 (0, 0))) := ⟨by refine bK ?_; (iterate 3 refine qF ?_ Aa); exact A2.o⟩
         have n2_ : Z ((((AB.setCell ⟨A7, 0, none⟩ (.int .i64 (wrap64 (a2 - a1)))).setCell ⟨A7, 1, none⟩ (.int .i64 a0_1)).setCell ⟨A7, 2, none⟩ (.slice none 0 0)).heap[A7]? = some (.cells #[.int .i64 (wrap64 (a2 - a1)), .int .i64 a0_1, .slice none 0 0] 29 (0, 0))) := ⟨by refine bK ?_; apply st3; refine bK ?_; exact A3.o⟩
         have n3_ : Z (Below w.heap.size w (((AB.setCell ⟨A7, 0, none⟩ (.int .i64 (wrap64 (a2 - a1)))).setCell ⟨A7, 1, none⟩ (.int .i64 a0_1)).setCell ⟨A7, 2, none⟩ (.slice none 0 0))) := ⟨vB HB⟩
         (try clear A0); (try clear A2); (try clear A3); (try clear HB)
         generalize (((AB.setCell ⟨A7, 0, none⟩ (.int .i64 (wrap64 (a2 - a1)))).setCell ⟨A7, 1, none⟩ (.int .i64 a0_1)).setCell ⟨A7, 2, none⟩ (.slice none 0 0)) = CH at n0_ n1_ n2_ n3_ ⊢
         have A0 := n0_
         have A2 := n1_
         have A3 := n2_
         have HB := n3_
         clear n0_ n1_ n2_ n3_
         replace A0 := Z.m (blk_drew A0.o)
         replace A2 := Z.m (blk_drew A2.o)
         replace A3 := Z.m (blk_drew A3.o)
         replace HB := Z.m (qd HB.o)
         have q45 : ((wrap64 (a2 * a0_1)) : Int) ≤ ((l0_2.length : Int) : Int) := ofD
         obtain ⟨i045, hi045, _, hsz45, _⟩ := info_parts info34
         have hroom45 : l0_2.length ≤ c0_2 := Ag.o
         have hC45 : Kd.C k34 _ A0_2 l0_2.length l0_2 := Ah.o
         have ql45 : ((Ab) : Int) ≤ ((wrap64 (a2 * a0_1)) : Int) := ofD
         have q045 : (0 : Int) ≤ ((Ab) : Int) := ofD
         have hcut45 := cut_mid (P := Try.prog) 27 34 .i64 .i64 Try.underlying27 hi045 2 hsz45 A0_2 l0_2.length c0_2 (Ab) (wrap64 (a2 * a0_1)) q045 ql45 q45 hroom45
         have Ap := Kd.C_mid (lo := ((Ab) : Int).toNat) (hi := ((wrap64 (a2 * a0_1)) : Int).toNat) (c := c0_2) hC45 (by omega) (by omega) hroom45
         obtain ⟨CB, hA45⟩ : ∃ A1, A1 = (if c0_2 = ((Ab) : Int).toNat then A0_2 else (A0_2 : Option Addr).map (·.add (((Ab) : Int).toNat * 2))) := ⟨_, rfl⟩
         obtain ⟨c45, hc45⟩ : ∃ c1, c1 = c0_2 - ((Ab) : Int).toNat := ⟨_, rfl⟩
         have Aq : A8.length = ((wrap64 (a2 * a0_1)) : Int).toNat - ((Ab) : Int).toNat := (by rw [Au.o, List.length_drop, List.length_take] <;> omega)
         rw [show ((l0_2).take ((wrap64 (a2 * a0_1)) : Int).toNat).drop ((Ab) : Int).toNat = A8 from Au.o.symm] at Ap
         replace Ap : Kd.C k34 _ CB A8.length A8 := (by rw [hA45]; exact Ap)
         rw [← Aq, ← hA45, ← hc45] at hcut45
         have At := Z.m Ap
         have Ch := Z.m (show A8.length ≤ c45 from by rw [Aq, hc45]; exact Nat.sub_le_sub_right (Nat.le_trans (by omega) hroom45) _)
         clear Ap hC45 hroom45 hi045 hsz45 hc45
         have KY45 := Z.m Aq
         have KA45 := Z.m hA45
         clear Aq hA45
         replace q45 := eq_true q45
         refine start_ (n := 16) (S := fun w' => w'.cell? ⟨A7, 0, none⟩ = some (.int .i64 (wrap64 (a2 - a1))) ∧ w'.cell? ⟨A7, 1, none⟩ = some (.int .i64 a0_1) ∧ w'.cell? ⟨A7, 2, none⟩ = some (.slice none 0 0) ∧ w'.cell? ⟨Ae, 0, none⟩ = some (.int .i64 a0_0) ∧ w'.cell? ⟨Ae, 1, none⟩ = some (.int .i64 a0_1) ∧ w'.cell? ⟨Ae, 2, none⟩ = some (.slice A0_2 l0_2.length c0_2)) (ds := [15]) #[false, false, false, false, false, false, false, false, false, false, false, false, false, false, false, false] (by kernel_rfl) rfl rfl ⟨(ql A3.o 0).trans rfl, (ql A3.o 1).trans rfl, (ql A3.o 2).trans rfl, (ql A0.o 0).trans rfl, (ql A0.o 1).trans rfl, (ql A0.o 2).trans rfl⟩ (fun hHeld => ?_); refine with_tabW impl_CutRows.tab4 impl_CutRows.bits4 (fun HT_ HW_ => ?_)
         generalize CH.drew = CT at A0 A2 A3 HB At hHeld ⊢
         refine pure_ (i := 0) (N := some 34) (v := ?_) (a' := ?_) #[true, false, false, false, false, false, false, false, false, false, false, false, false, false, false, false] rfl rfl (any_of HT_.o (by kernel_rfl)) (fun _ _ _ h => h) (Or.inl ⟨by rfl, ?_⟩) ?_ ?_
         rotate_left
         ·intro w'
          go_simp
          with_reducible rfl
         rotate_left
         ·simp only [Act.put, q1, q2, q3, i64_w, i32_w]
          rfl
         refine pure_ (i := 2) (N := some 36) (v := ?_) (a' := ?_) #[true, false, true, false, false, false, false, false, false, false, false, false, false, false, false, false] rfl rfl (any_of HT_.o (by kernel_rfl)) (fun _ _ _ h => h) (Or.inl ⟨by rfl, ?_⟩) ?_ ?_
         rotate_left
         ·intro w'
          go_simp
          with_reducible rfl
         rotate_left
         ·simp only [Act.put, q1, q2, q3, i64_w, i32_w]
          rfl
         refine pure_ (i := 4) (N := some 38) (v := ?_) (a' := ?_) #[true, false, true, false, true, false, false, false, false, false, false, false, false, false, false, false] rfl rfl (any_of HT_.o (by kernel_rfl)) (fun _ _ _ h => h) (Or.inl ⟨by rfl, ?_⟩) ?_ ?_
         rotate_left
         ·intro w'
          go_simp
          with_reducible rfl
         rotate_left
         ·simp only [Act.put, q1, q2, q3, i64_w, i32_w]
          rfl
         refine pure_ (i := 5) (N := some 39) (v := ?_) (a' := ?_) #[true, false, true, false, true, true, false, false, false, false, false, false, false, false, false, false] rfl rfl (any_of HT_.o (by kernel_rfl)) (fun _ _ _ h => h) (Or.inl ⟨by rfl, ?_⟩) ?_ ?_
         rotate_left
         ·intro w'
          go_simp
          with_reducible rfl
         rotate_left
         ·simp only [Act.put, q1, q2, q3, i64_w, i32_w]
          rfl
         refine pure_ (i := 8) (N := some 42) (v := ?_) (a' := ?_) #[true, false, true, false, true, true, false, false, true, false, false, false, false, false, false, false] rfl rfl (any_of HT_.o (by kernel_rfl)) (fun _ _ _ h => h) (Or.inl ⟨by rfl, ?_⟩) ?_ ?_
         rotate_left
         ·intro w'
          go_simp
          with_reducible rfl
         rotate_left
         ·simp only [Act.put, q1, q2, q3, i64_w, i32_w]
          rfl
         refine pure_ (i := 9) (N := some 43) (v := ?_) (a' := ?_) #[true, false, true, false, true, true, false, false, true, true, false, false, false, false, false, false] rfl rfl (any_of HT_.o (by kernel_rfl)) (fun _ _ _ h => h) (Or.inl ⟨by rfl, ?_⟩) ?_ ?_
         rotate_left
         ·intro w'
          go_simp
          with_reducible rfl
         rotate_left
         ·simp only [Act.put, q1, q2, q3, i64_w, i32_w]
          rfl
         refine take_ (i := 1) (N := some 35) (v := ?_) (a' := ?_) #[true, true, true, false, true, true, false, false, true, true, false, false, false, false, false, false] rfl rfl (take_ofW HT_.o HW_.o (by kernel_rfl)) (fun _ _ _ h => h) (Or.inl ⟨by rfl, ?_⟩) hHeld ?_ ?_
         rotate_left
         ·rintro w' ⟨s0, s1, s2, s3, s4, s5⟩
          go_simp
          with_reducible rfl
         rotate_left
         ·simp only [Act.put, q1, q2, q3, i64_w, i32_w]
          rfl
         refine take_ (i := 3) (N := some 37) (v := ?_) (a' := ?_) #[true, true, true, true, true, true, false, false, true, true, false, false, false, false, false, false] rfl rfl (take_ofW HT_.o HW_.o (by kernel_rfl)) (fun _ _ _ h => h) (Or.inl ⟨by rfl, ?_⟩) hHeld ?_ ?_
         rotate_left
         ·rintro w' ⟨s0, s1, s2, s3, s4, s5⟩
          go_simp
          with_reducible rfl
         rotate_left
         ·simp only [Act.put, q1, q2, q3, i64_w, i32_w]
          rfl
         refine take_ (i := 6) (N := some 40) (v := ?_) (a' := ?_) #[true, true, true, true, true, true, true, false, true, true, false, false, false, false, false, false] rfl rfl (take_ofW HT_.o HW_.o (by kernel_rfl)) (fun _ _ _ h => h) (Or.inl ⟨by rfl, ?_⟩) hHeld ?_ ?_
         rotate_left
         ·rintro w' ⟨s0, s1, s2, s3, s4, s5⟩
          go_simp
          with_reducible rfl
         rotate_left
         ·simp only [Act.put, q1, q2, q3, i64_w, i32_w]
          rfl
         refine pure_ (i := 7) (N := some 41) (v := ?_) (a' := ?_) #[true, true, true, true, true, true, true, true, true, true, false, false, false, false, false, false] rfl rfl (any_of HT_.o (by kernel_rfl)) (fun _ _ _ h => h) (Or.inl ⟨by rfl, ?_⟩) ?_ ?_
         rotate_left
         ·intro w'
          go_simp
          with_reducible rfl
         rotate_left
         ·simp only [Act.put, q1, q2, q3, i64_w, i32_w]
          rfl
         refine take_ (i := 10) (N := some 44) (v := ?_) (a' := ?_) #[true, true, true, true, true, true, true, true, true, true, true, false, false, false, false, false] rfl rfl (take_ofW HT_.o HW_.o (by kernel_rfl)) (fun _ _ _ h => h) (Or.inl ⟨by rfl, ?_⟩) hHeld ?_ ?_
         rotate_left
         ·rintro w' ⟨s0, s1, s2, s3, s4, s5⟩
          go_simp
          with_reducible rfl
         rotate_left
         ·simp only [Act.put, q1, q2, q3, i64_w, i32_w]
          rfl
         refine pure_ (i := 11) (N := some 45) (v := ?_) (a' := ?_) #[true, true, true, true, true, true, true, true, true, true, true, true, false, false, false, false] rfl rfl (any_of HT_.o (by kernel_rfl)) (fun _ _ _ h => h) (Or.inl ⟨by rfl, ?_⟩) ?_ ?_
         rotate_left
         ·intro w'
          go_simp
          with_reducible rfl
         rotate_left
         ·simp only [Act.put, q1, q2, q3, i64_w, i32_w]
          rfl
         refine pure_ (i := 12) (N := some 46) (v := ?_) (a' := ?_) #[true, true, true, true, true, true, true, true, true, true, true, true, true, false, false, false] rfl rfl (any_of HT_.o (by kernel_rfl)) (fun _ _ _ h => h) (Or.inl ⟨by rfl, ?_⟩) ?_ ?_
         rotate_left
         ·intro w'
          go_simp
          with_reducible rfl
         rotate_left
         ·simp only [Act.put, q1, q2, q3, i64_w, i32_w]
          rfl
         refine one_ (i := 13) (N := some 47) #[true, true, true, true, true, true, true, true, true, true, true, true, true, true, false, false] rfl rfl (one_of HT_.o (by kernel_rfl)) (by decide) (fun K hK => ?_)
         refine Kd.R_append_rows_step k34 (w0 := w) w.heap.size (by rfl) (.tmp 35) (.tmp 46) 27 34 (.agg #[(.int .i64 0), (.int .i64 0)]) 16 rfl Try.underlying27 info34 rfl (by decide) (by omega) (.slice none 0 0) ([] : List (S34)) A8 _ _ _ (fun _ => True) (fun _ => False) rfl rfl ?aO ?aR (fun _ _ h => h) (fun _ h => h.elim) ?aF ?aB ?aS ?aL ?_
         (case aR => repeat (first | exact (Kd.C_below At.o HB.o) | (with_reducible refine Kd.C_alloc ?_ _) | (with_reducible refine Kd.C_drewN ?_ _) | (with_reducible refine Kd.C_drew ?_)))
         (case aB => exact (vB HB))
         (case aF => exact (fun _ _ => trivial))
         (case aO => exact ((Kd.R_nil _ _ _ _ (fun _ => True))))
         (case aS => exact (below_size (vB HB)))
         (case aL => have := Aw.o; omega)
         intro CG CI ho hb hg hat
         rw [← Ax.o] at ho
         have As := Z.m (ho)
         replace A0 := Z.m (qg (g := Ae) (o := .cells #[.int .i64 a0_0, .int .i64 a0_1, .slice A0_2 l0_2.length c0_2] 29 (0, 0)) (vK A0) hg (by simp [Value.ownBlock]))
         replace A2 := Z.m (qg (g := A9) (o := .cells #[.int .i64 0, .int .i64 0, .slice none 0 0] 29 (0, 0)) (vK A2) hg (by simp [Value.ownBlock]))
         replace A3 := Z.m (qg (g := A7) (o := .cells #[.int .i64 (wrap64 (a2 - a1)), .int .i64 a0_1, .slice none 0 0] 29 (0, 0)) (vK A3) hg (by simp [Value.ownBlock]))
         replace HB := Z.m (hb)
         clear ho hb hg hat
         obtain ⟨Cb, Ce, AA⟩ := Kd.R_slice As.o
         (first | subst AA | (injection AA with f1_ f2_ f3_; have f4_ := f1_.symm; have f5_ := f3_.symm; clear f1_ f2_ f3_; subst f4_; subst f5_))
         refine hK.out _ _ ⟨(ql A3.o 0).trans rfl, (ql A3.o 1).trans rfl, (ql A3.o 2).trans rfl, (ql A0.o 0).trans rfl, (ql A0.o 1).trans rfl, (ql A0.o 2).trans rfl⟩ (fun hHeld => ?_)
         clear hK K
         refine norm_ (a' := ?_) ?_ ?_
         rotate_left
         ·show Act.put _ (some 47) _ = _
          simp only [Act.put, q1, q2, q3, i64_w, i32_w]
          rfl
         refine pure_ (i := 14) (N := some 48) (v := ?_) (a' := ?_) #[true, true, true, true, true, true, true, true, true, true, true, true, true, true, true, false] rfl rfl (any_of HT_.o (by kernel_rfl)) (fun _ _ _ h => h) (Or.inl ⟨by rfl, ?_⟩) ?_ ?_
         rotate_left
         ·intro w'
          go_simp
          with_reducible rfl
         rotate_left
         ·simp only [Act.put, q1, q2, q3, i64_w, i32_w]
          rfl
         refine last_ (i := 15) (N := none) #[true, true, true, true, true, true, true, true, true, true, true, true, true, true, true, true] rfl rfl (one_of HT_.o (by kernel_rfl)) (by decide) (fun K hK => ?_)
         have CE : CI.cell? ⟨A7, 2, none⟩ = some (.slice none 0 0) := (ql A3.o 2).trans rfl
         have hfs48 := qz A3.o 2
         have C9 := Af.o
         have Ca := Aa.o
         have C7 := Ai.o
         have C8 := Aj.o
         refine skip_ (w1 := ?_) ?hwx ?hnx ?_ ?_; (case hwx => rfl); (case hnx => rfl)
         rotate_left
         ·go_simp
          rfl
         refine hK.out _ _ ?_
         clear hK K
         refine done_ (done_of HT_.o (by kernel_rfl)) ?_
         have Bf := bc0 A3
         have Bg := bc1 A3
         have Bh := bc2 A3
         have BV := qz A3.o 0
         have BW := qz A3.o 1
         have BX := qz A3.o 2
         have Bi := bc0 A2
         have Bj := bc1 A2
         have Bk := bc2 A2
         have BY := qz A2.o 0
         have BZ := qz A2.o 1
         have C0 := qz A2.o 2
         try go_wp2
         refine bodyPost_ret (results_ct rfl _ _ A9 29 #[.int .i64 (wrap64 (a2 - a1)), .int .i64 a0_1, .slice Cb AC.length Ce] (0, 0) _ rfl (by refine bK ?_; apply st3; refine bK ?_; refine qF ?_ Aa; exact A2.o) Try.underlying29 rfl (by kernel_rfl)) rfl ?_
         exact ⟨_, by first | rfl | (simp [eN, eS] <;> rfl) | (simp only [← Ak]; first | rfl | (simp [eN, eS] <;> rfl)) | (simp [*, eN, eS] <;> rfl), by refine rK ?_; exact Kd.Rm (rf (rf (rf (rf1 (Kd.Ry (Kd.Ry As.o A3.o (by decide)) A2.o (by decide)))))) (fun _ hk => trivial), vB HB⟩
        ·rw [if_neg c32] at H
         exact absurd H (by simp)
       ·rw [if_neg c31] at H
        exact absurd H (by simp)
      ·rw [if_neg c30] at H
       exact absurd H (by simp)
     ·rw [if_neg c29] at H
      exact absurd H (by simp)
 ·replace c5 := Bool.eq_false_iff.mpr c5
  subst c5
  have H1 : (some (0, 0, ([] : List (S34)), false)) = some (r1, r2, r3, r4) := by rw [if_neg (show ¬ (false = true) by decide)] at H; exact H
  clear H
  have H := H1
  clear H1
  simp only [Option.some.injEq, Prod.mk.injEq] at H
  obtain ⟨rfl, rfl, rfl, rfl⟩ := H
  go_enter Try.func24, Try.ntmps24
  go_wp2_with (first | ((with_reducible refine gq (N := 3) rfl ?_); refine be (N := 3) (cs := #[.int .i64 a0_0, .int .i64 a0_1, .slice A0_2 l0_2.length c0_2]) (t := 29) ?_; intro Ae hg CU hbox hb; have A0 := Z.m (hbox); have Ac := gW (w := w) HB hg; have An := Ac; replace HB := bB HB hb; clear hb hbox hg) | ((with_reducible refine gq (N := 6) rfl ?_); refine be (N := 6) (cs := #[.int .i64 0, .int .i64 0, .slice none 0 0]) (t := 29) ?_; intro A9 hg CV hbox hb; have A2 := Z.m (hbox); have Ad := gW (w := w) HB hg; have Ao := Ad; have A5 := neL A0 hg; have A6 := neG A0 hg; replace A0 := kB A0 hb; replace HB := bB HB hb; clear hb hbox hg; have Cu := A5.o; have CA := A6.o; have Bl := bc0 A0; have Bm := bc1 A0; have Bn := bc2 A0; have C1 := qz A0.o 0; have C2 := qz A0.o 1; have C3 := qz A0.o 2) | ((with_reducible refine gc (f := 18) rfl ?_); refine gA (some 10) _ #[.agg #[.int .i64 a0_0, .int .i64 a0_1, .slice A0_2 l0_2.length c0_2]] ?_ Try.func18; (with_reducible refine (impl_IsBoard.calls k a0_0 a0_1 _ _ l0_2 false _ ?side1 ?side2 A4.o).mono ?_); (case side1 => repeat (first | exact (Kd.C_below Ah.o HB.o) | (with_reducible refine Kd.C_alloc ?_ _) | (with_reducible refine Kd.C_drewN ?_ _) | (with_reducible refine Kd.C_drew ?_))); (case side2 => exact Ag.o); rintro e CW ⟨rfl, hb⟩; refine ⟨_, rfl, ?_⟩; replace A0 := kB A0 hb; replace A2 := kB A2 hb; replace HB := bB HB hb; (try clear hb); (try clear AD); (try clear hk); (try clear hi); have Bo := bc0 A2; have Bp := bc1 A2; have Bq := bc2 A2; have C4 := qz A2.o 0; have C5 := qz A2.o 1; have C6 := qz A2.o 2))
  refine bodyPost_ret (results_ct rfl _ _ A9 29 #[.int .i64 0, .int .i64 0, .slice none 0 0] (0, 0) _ rfl (by refine bK ?_; apply st3; refine bK ?_; exact A2.o) Try.underlying29 rfl (by kernel_rfl)) rfl ?_
  exact ⟨_, by first | rfl | (simp [eN, eS] <;> rfl) | (simp [*, eN, eS] <;> rfl), by first | exact Kd.R_nil _ _ _ _ _ | exact Kd.N_nil _ _ _ _ _ | exact Kd.V_nil _ _ _ _ _ | exact Kd.Q_nil _ _ _ _ _ | exact Kd.S_nil _ _ _ _ _, vB HB⟩

end Go.Proofs.Yteodcegmkbcjjaa.PAll
