/- Began as a text that print.sh wrote (of the functions named below); turned and shortened by this session. -/
import Derived.Test.YteodcegmkbcjjaaG0
import Derived.Test.YteodcegmkbcjjaaG2
namespace Go.Proofs.Yteodcegmkbcjjaa.PAll
open Go.RowKit Go.Proofs.YteodcegmkbcjjaaW.PrintWords Go.Proofs.YteodcegmkbcjjaaW.PrintLast Go.Proofs.YteodcegmkbcjjaaW.PrintMore
attribute [local go_sem] max2_int min2_int max_two min_two max_three min_three max_four min_four   -- for this text's walks alone
set_option linter.unusedVariables false
set_option linter.unusedSimpArgs false

/-! ### impl_BesideBoards: function 32 -/
mutual
def impl_BesideBoards.j0 : Nat → Bool → Int → Int → List (S34) → Int → Int → List (S34) → Option (Int × Int × (List (S34)) × Bool)
 | 0, _, _, _, _, _, _, _ => none
 | k + 1, x30, x519000, x519001, x519002, x520000, x520001, x520002 => if x30 = true then (some (0, 0, ([] : List (S34)), false)) else (impl_BesideBoards.l0 k 0 x519000 x519001 x519002 x520000 x520001 x520002 x519000 (wrap64 (x519001 + x520001)) ([] : List (S34)))
def impl_BesideBoards.l0 : Nat → Int → Int → Int → List (S34) → Int → Int → List (S34) → Int → Int → List (S34) → Option (Int × Int × (List (S34)) × Bool)
 | 0, _, _, _, _, _, _, _, _, _, _ => none
 | k + 1, x7, x519000, x519001, x519002, x520000, x520001, x520002, x524000, x524001, x524002 => if x7 < x519000 then (if 0 ≤ (wrap64 (x7 * x519001)) then (if (wrap64 (x7 * x519001)) ≤ (wrap64 ((wrap64 (x7 + 1)) * x519001)) then (if (wrap64 ((wrap64 (x7 + 1)) * x519001)) ≤ (x519002.length : Int) then ((some ((x519002.take ((wrap64 ((wrap64 (x7 + 1)) * x519001)) : Int).toNat).drop ((wrap64 (x7 * x519001)) : Int).toNat : List (S34))).bind fun y524 => (if x524002.length + y524.length < 8796093022208 then ((some (x524002 ++ y524 : List (S34))).bind fun y528 => (if 0 ≤ (wrap64 (x7 * x520001)) then (if (wrap64 (x7 * x520001)) ≤ (wrap64 ((wrap64 (x7 + 1)) * x520001)) then (if (wrap64 ((wrap64 (x7 + 1)) * x520001)) ≤ (x520002.length : Int) then ((some ((x520002.take ((wrap64 ((wrap64 (x7 + 1)) * x520001)) : Int).toNat).drop ((wrap64 (x7 * x520001)) : Int).toNat : List (S34))).bind fun y531 => (if y528.length + y531.length < 8796093022208 then (impl_BesideBoards.l0 k (wrap64 (x7 + 1)) x519000 x519001 x519002 x520000 x520001 x520002 x524000 x524001 (y528 ++ y531)) else (none))) else (none)) else (none)) else (none))) else (none))) else (none)) else (none)) else (none)) else (some (x524000, x524001, x524002, true))
end
def impl_BesideBoards.f (k : Nat) (a0_0 : Int) (a0_1 : Int) (l0_2 : List (S34)) (a1_0 : Int) (a1_1 : Int) (l1_2 : List (S34)) : Option (Int × Int × (List (S34)) × Bool) := (impl_IsBoard.f k a0_0 a0_1 l0_2).bind fun t521 => (if t521 = true then ((impl_IsBoard.f k a1_0 a1_1 l1_2).bind fun t522 => (if t522 = true then (if a0_0 = a1_0 then (impl_BesideBoards.j0 k (decide ((wrap64 (a0_1 + a1_1)) > 9)) a0_0 a0_1 l0_2 a1_0 a1_1 l1_2) else (impl_BesideBoards.j0 k true a0_0 a0_1 l0_2 a1_0 a1_1 l1_2)) else (impl_BesideBoards.j0 k true a0_0 a0_1 l0_2 a1_0 a1_1 l1_2))) else (impl_BesideBoards.j0 k true a0_0 a0_1 l0_2 a1_0 a1_1 l1_2))
def impl_BesideBoards.T7 : Bool × List (List Nat × List Nat) := (true, [([], []), ([0], [0]), ([], []), ([2], [2]), ([], []), ([], []), ([5], [5]), ([4, 6], [4, 6]), ([], []), ([8], [8]), ([], []), ([10], [10]), ([9, 11], [9, 11]), ([3, 7, 12], [3, 7, 12]), ([1, 13], [1, 13]), ([0, 1, 2, 3, 4, 5, 6, 7, 8, 9, 10, 11, 12, 13, 14], []), ([15, 14, 14, 0, 1, 2, 3, 4, 5, 6, 7, 8, 9, 10, 11, 12, 13, 14], [14, 15])])
def impl_BesideBoards.B7 : List Nat := [0, 1, 0, 4, 0, 0, 32, 112, 0, 256, 0, 1024, 3840, 8188, 16383, 32767, 65535]
theorem impl_BesideBoards.tab7 : rtab .any (opsOf Try.f32 7) = impl_BesideBoards.T7 := by kernel_rfl
theorem impl_BesideBoards.bits7 : waitsOk impl_BesideBoards.T7.2 impl_BesideBoards.B7 = true := by kernel_rfl
def impl_BesideBoards.T8 : Bool × List (List Nat × List Nat) := (true, [([], []), ([0], [0]), ([], []), ([2], [2]), ([], []), ([], []), ([5], [5]), ([4, 6], [4, 6]), ([], []), ([8], [8]), ([], []), ([10], [10]), ([9, 11], [9, 11]), ([3, 7, 12], [3, 7, 12]), ([1, 13], [1, 13]), ([0, 1, 2, 3, 4, 5, 6, 7, 8, 9, 10, 11, 12, 13, 14], []), ([15, 14, 14, 0, 1, 2, 3, 4, 5, 6, 7, 8, 9, 10, 11, 12, 13, 14], [14, 15])])
def impl_BesideBoards.B8 : List Nat := [0, 1, 0, 4, 0, 0, 32, 112, 0, 256, 0, 1024, 3840, 8188, 16383, 32767, 65535]
theorem impl_BesideBoards.tab8 : rtab .any (opsOf Try.f32 8) = impl_BesideBoards.T8 := by kernel_rfl
theorem impl_BesideBoards.bits8 : waitsOk impl_BesideBoards.T8.2 impl_BesideBoards.B8 = true := by kernel_rfl
set_option maxHeartbeats 8000000 in
set_option maxRecDepth 100000 in
theorem impl_BesideBoards.calls (k : Nat) (a0_0 : Int) (a0_1 : Int) (A0_2 : Option Addr) (c0_2 : Nat) (l0_2 : List (S34)) (a1_0 : Int) (a1_1 : Int) (A1_2 : Option Addr) (c1_2 : Nat) (l1_2 : List (S34)) (r1 : Int) (r2 : Int) (r3 : List (S34)) (r4 : Bool) (w : World) (hr0_2 : Kd.C k34 w A0_2 l0_2.length l0_2) (hc0_2 : l0_2.length ≤ c0_2) (hr1_2 : Kd.C k34 w A1_2 l1_2.length l1_2) (hc1_2 : l1_2.length ≤ c1_2) (h : impl_BesideBoards.f k a0_0 a0_1 l0_2 a1_0 a1_1 l1_2 = some (r1, r2, r3, r4)) :
 Calls Try.prog 32 #[.agg #[.int .i64 a0_0, .int .i64 a0_1, .slice A0_2 l0_2.length c0_2], .agg #[.int .i64 a1_0, .int .i64 a1_1, .slice A1_2 l1_2.length c1_2]] w fun e w' => ∃ v2_ : Value, e = .returned (.tuple #[.agg #[.int .i64 r1, .int .i64 r2, v2_], .bool r4]) ∧ Kd.R k34 34 w' w.heap.size (fun _ => True) v2_ r3 ∧ Below w.heap.size w w' := by
 have EJ := Try.underlying29
 have Az := Z.m hr0_2
 have Ay := Z.m hc0_2
 clear hr0_2 hc0_2
 have AH := Z.m hr1_2
 have AG := Z.m hc1_2
 clear hr1_2 hc1_2
 have HB := Z.m (Below.refl w.heap.size w)
 have H : ((impl_IsBoard.f k a0_0 a0_1 l0_2).bind fun Ba => (if Ba = true then ((impl_IsBoard.f k a1_0 a1_1 l1_2).bind fun AF => (if AF = true then (if a0_0 = a1_0 then (impl_BesideBoards.j0 k (decide ((wrap64 (a0_1 + a1_1)) > 9)) a0_0 a0_1 l0_2 a1_0 a1_1 l1_2) else (impl_BesideBoards.j0 k true a0_0 a0_1 l0_2 a1_0 a1_1 l1_2)) else (impl_BesideBoards.j0 k true a0_0 a0_1 l0_2 a1_0 a1_1 l1_2))) else (impl_BesideBoards.j0 k true a0_0 a0_1 l0_2 a1_0 a1_1 l1_2))) = some (r1, r2, r3, r4) := h
 clear h
 have Dj := Z.m H
 clear H
 go_enter Try.func32, Try.ntmps32
 go_upto_region 1 with (first | ((with_reducible refine gq (N := 2) rfl ?_); refine be (N := 2) (cs := #[.int .i64 a0_0, .int .i64 a0_1, .slice A0_2 l0_2.length c0_2]) (t := 29) ?_; intro Av hg w4 hbox hb; have A0 := Z.m (hbox); have Bj := gW (w := w) HB hg; have Dp := Bj; replace HB := bB HB hb; clear hb hbox hg) | ((with_reducible refine gq (N := 3) rfl ?_); refine be (N := 3) (cs := #[.int .i64 a1_0, .int .i64 a1_1, .slice A1_2 l1_2.length c1_2]) (t := 29) ?_; intro Aw hg w5 hbox hb; have A2 := Z.m (hbox); have Bk := gW (w := w) HB hg; have Dq := Bk; have Af := neL A0 hg; have Ag := neG A0 hg; replace A0 := kB A0 hb; replace HB := bB HB hb; clear hb hbox hg) | ((with_reducible refine gq (N := 4) rfl ?_); refine be (N := 4) (cs := #[.int .i64 0, .int .i64 0, .slice none 0 0]) (t := 29) ?_; intro Ax hg w6 hbox hb; have A3 := Z.m (hbox); have Bl := gW (w := w) HB hg; have Dr := Bl; have Aa := neL A0 hg; have Ac := neG A0 hg; have Aj := neL A2 hg; have Ak := neG A2 hg; replace A0 := kB A0 hb; replace A2 := kB A2 hb; replace HB := bB HB hb; clear hb hbox hg))
 (try simp only [Act.put, q1, q2, q3])
 go_cut [30] (fun v30 wc => ∃ (kq : Nat) (AI : Bool), v30 = .bool AI ∧ Z (impl_BesideBoards.j0 kq AI a0_0 a0_1 l0_2 a1_0 a1_1 l1_2 = some (r1, r2, r3, r4)) ∧ Z (kq ≤ k) ∧ Z (wc.heap[Av]? = some (.cells #[.int .i64 a0_0, .int .i64 a0_1, (.slice A0_2 l0_2.length c0_2)] 29 (0, 0))) ∧ Z (wc.heap[Aw]? = some (.cells #[.int .i64 a1_0, .int .i64 a1_1, (.slice A1_2 l1_2.length c1_2)] 29 (0, 0))) ∧ Z (wc.heap[Ax]? = some (.cells #[.int .i64 0, .int .i64 0, (.slice none 0 0)] 29 (0, 0))) ∧ Z (Below w.heap.size w wc))
 case first =>
  have H := Dj.o
  clear Dj
  replace H := Option.bind_eq_some_iff.mp H
  obtain ⟨Ba, Dn, H⟩ := H
  replace H : (if Ba = true then ((impl_IsBoard.f k a1_0 a1_1 l1_2).bind fun AF => (if AF = true then (if a0_0 = a1_0 then (impl_BesideBoards.j0 k (decide ((wrap64 (a0_1 + a1_1)) > 9)) a0_0 a0_1 l0_2 a1_0 a1_1 l1_2) else (impl_BesideBoards.j0 k true a0_0 a0_1 l0_2 a1_0 a1_1 l1_2)) else (impl_BesideBoards.j0 k true a0_0 a0_1 l0_2 a1_0 a1_1 l1_2))) else (impl_BesideBoards.j0 k true a0_0 a0_1 l0_2 a1_0 a1_1 l1_2)) = some (r1, r2, r3, r4) := H
  have A7 := Z.m Dn
  clear Dn
  by_cases c8 : Ba = true
  ·subst c8
   have H1 : ((impl_IsBoard.f k a1_0 a1_1 l1_2).bind fun AF => (if AF = true then (if a0_0 = a1_0 then (impl_BesideBoards.j0 k (decide ((wrap64 (a0_1 + a1_1)) > 9)) a0_0 a0_1 l0_2 a1_0 a1_1 l1_2) else (impl_BesideBoards.j0 k true a0_0 a0_1 l0_2 a1_0 a1_1 l1_2)) else (impl_BesideBoards.j0 k true a0_0 a0_1 l0_2 a1_0 a1_1 l1_2))) = some (r1, r2, r3, r4) := by rw [if_pos rfl] at H; exact H
   clear H
   have H := H1
   clear H1
   replace H := Option.bind_eq_some_iff.mp H
   obtain ⟨AF, Do, H⟩ := H
   replace H : (if AF = true then (if a0_0 = a1_0 then (impl_BesideBoards.j0 k (decide ((wrap64 (a0_1 + a1_1)) > 9)) a0_0 a0_1 l0_2 a1_0 a1_1 l1_2) else (impl_BesideBoards.j0 k true a0_0 a0_1 l0_2 a1_0 a1_1 l1_2)) else (impl_BesideBoards.j0 k true a0_0 a0_1 l0_2 a1_0 a1_1 l1_2)) = some (r1, r2, r3, r4) := H
   have A9 := Z.m Do
   clear Do
   by_cases c10 : AF = true
   ·subst c10
    have H1 : (if a0_0 = a1_0 then (impl_BesideBoards.j0 k (decide ((wrap64 (a0_1 + a1_1)) > 9)) a0_0 a0_1 l0_2 a1_0 a1_1 l1_2) else (impl_BesideBoards.j0 k true a0_0 a0_1 l0_2 a1_0 a1_1 l1_2)) = some (r1, r2, r3, r4) := by rw [if_pos rfl] at H; exact H
    clear H
    have H := H1
    clear H1
    by_cases c11 : a0_0 = a1_0
    ·rw [if_pos c11] at H
     have AA := beq_iff_eq.mpr c11
     have Br := bne_eq_false_iff_eq.mpr c11
     clear c11
     (first | rw [AA] | (simp only [i64_w, i32_w]; rw [AA]) | skip)
     have H' := Z.m H
     clear H
     have DJ := Af.o
     have Eb := Ag.o
     have DK := Aa.o
     have Ec := Ac.o
     have Bv := bc0 A0
     have Bw := bc1 A0
     have Bx := bc2 A0
     have Ci := qz A0.o 0
     have Cj := qz A0.o 1
     have Cl := qz A0.o 2
     go_wp2_with (first | ((with_reducible refine gc (f := 18) rfl ?_); refine gA (some 9) _ #[.agg #[.int .i64 a0_0, .int .i64 a0_1, .slice A0_2 l0_2.length c0_2]] ?_ Try.func18; (with_reducible refine (impl_IsBoard.calls k a0_0 a0_1 _ _ l0_2 true _ ?side1 ?side2 A7.o).mono ?_); (case side1 => repeat (first | exact (Kd.C_below Az.o HB.o) | (with_reducible refine Kd.C_alloc ?_ _) | (with_reducible refine Kd.C_drewN ?_ _) | (with_reducible refine Kd.C_drew ?_))); (case side2 => exact Ay.o); rintro e EO ⟨rfl, hb⟩; refine ⟨_, rfl, ?_⟩; replace A0 := kB A0 hb; replace A2 := kB A2 hb; replace A3 := kB A3 hb; replace HB := bB HB hb; (try clear hb); (try clear Bi); (try clear hk); (try clear hi); have DL := Aj.o; have Ed := Ak.o; have By := bc0 A2; have Bz := bc1 A2; have BA := bc2 A2; have Cm := qz A2.o 0; have Cn := qz A2.o 1; have Co := qz A2.o 2) | (go_at_call 18; (with_reducible refine (impl_IsBoard.calls k a1_0 a1_1 _ _ l1_2 true _ ?side1 ?side2 A9.o).mono ?_); (case side1 => repeat (first | exact (Kd.C_below AH.o HB.o) | (with_reducible refine Kd.C_alloc ?_ _) | (with_reducible refine Kd.C_drewN ?_ _) | (with_reducible refine Kd.C_drew ?_))); (case side2 => exact AG.o); rintro e EP ⟨rfl, hb⟩; replace A0 := kB A0 hb; replace A2 := kB A2 hb; replace A3 := kB A3 hb; replace HB := bB HB hb; (try clear hb); (try clear Bi); (try clear hk); (try clear hi); have BB := bc0 A0; have BC := bc1 A0; have BD := bc2 A0; have Cp := qz A0.o 0; have Cq := qz A0.o 1; have Cr := qz A0.o 2; have BE := bc0 A2; have BF := bc1 A2; have BG := bc2 A2; have Cs := qz A2.o 0; have Ct := qz A2.o 1; have Cu := qz A2.o 2))
     go_meet
     case rel => exact ⟨_, (decide ((wrap64 (a0_1 + a1_1)) > 9)), (by first | rfl | (simp; done) | (simp [*]; done)), H', ⟨by first | omega | exact Nat.le_refl _⟩, ⟨vK A0⟩, ⟨vK A2⟩, ⟨vK A3⟩, ⟨vB HB⟩⟩
    ·rw [if_neg c11] at H
     have AA := beq_eq_false_iff_ne.mpr c11
     have Br := bne_iff_ne.mpr c11
     (first | rw [AA] | (simp only [i64_w, i32_w]; rw [AA]) | skip)
     have H' := Z.m H
     clear H
     have DM := Af.o
     have Ee := Ag.o
     have DN := Aa.o
     have Ef := Ac.o
     have BH := bc0 A0
     have BI := bc1 A0
     have BJ := bc2 A0
     have Cv := qz A0.o 0
     have Cw := qz A0.o 1
     have Cx := qz A0.o 2
     go_wp2_with (first | ((with_reducible refine gc (f := 18) rfl ?_); refine gA (some 9) _ #[.agg #[.int .i64 a0_0, .int .i64 a0_1, .slice A0_2 l0_2.length c0_2]] ?_ Try.func18; (with_reducible refine (impl_IsBoard.calls k a0_0 a0_1 _ _ l0_2 true _ ?side1 ?side2 A7.o).mono ?_); (case side1 => repeat (first | exact (Kd.C_below Az.o HB.o) | (with_reducible refine Kd.C_alloc ?_ _) | (with_reducible refine Kd.C_drewN ?_ _) | (with_reducible refine Kd.C_drew ?_))); (case side2 => exact Ay.o); rintro e EQ ⟨rfl, hb⟩; refine ⟨_, rfl, ?_⟩; replace A0 := kB A0 hb; replace A2 := kB A2 hb; replace A3 := kB A3 hb; replace HB := bB HB hb; (try clear hb); (try clear Bi); (try clear hk); (try clear hi); have DO := Aj.o; have Eg := Ak.o; have BK := bc0 A2; have BL := bc1 A2; have BM := bc2 A2; have Cy := qz A2.o 0; have Cz := qz A2.o 1; have CA := qz A2.o 2) | (go_at_call 18; (with_reducible refine (impl_IsBoard.calls k a1_0 a1_1 _ _ l1_2 true _ ?side1 ?side2 A9.o).mono ?_); (case side1 => repeat (first | exact (Kd.C_below AH.o HB.o) | (with_reducible refine Kd.C_alloc ?_ _) | (with_reducible refine Kd.C_drewN ?_ _) | (with_reducible refine Kd.C_drew ?_))); (case side2 => exact AG.o); rintro e ER ⟨rfl, hb⟩; replace A0 := kB A0 hb; replace A2 := kB A2 hb; replace A3 := kB A3 hb; replace HB := bB HB hb; (try clear hb); (try clear Bi); (try clear hk); (try clear hi); have BN := bc0 A0; have BO := bc1 A0; have BP := bc2 A0; have CB := qz A0.o 0; have CC := qz A0.o 1; have CD := qz A0.o 2; have BQ := bc0 A2; have BR := bc1 A2; have BS := bc2 A2; have CE := qz A2.o 0; have CF := qz A2.o 1; have CG := qz A2.o 2))
     go_meet
     case rel => exact ⟨_, (true), (by first | rfl | (simp; done) | (simp [*]; done)), H', ⟨by first | omega | exact Nat.le_refl _⟩, ⟨vK A0⟩, ⟨vK A2⟩, ⟨vK A3⟩, ⟨vB HB⟩⟩
   ·replace c10 := Bool.eq_false_iff.mpr c10
    subst c10
    have H1 : (impl_BesideBoards.j0 k true a0_0 a0_1 l0_2 a1_0 a1_1 l1_2) = some (r1, r2, r3, r4) := by rw [if_neg (show ¬ (false = true) by decide)] at H; exact H
    clear H
    have H := H1
    clear H1
    have H' := Z.m H
    clear H
    have DP := Af.o
    have Eh := Ag.o
    have DQ := Aa.o
    have Ei := Ac.o
    have BT := bc0 A0
    have BU := bc1 A0
    have BV := bc2 A0
    have CH := qz A0.o 0
    have CI := qz A0.o 1
    have CJ := qz A0.o 2
    go_wp2_with (first | ((with_reducible refine gc (f := 18) rfl ?_); refine gA (some 9) _ #[.agg #[.int .i64 a0_0, .int .i64 a0_1, .slice A0_2 l0_2.length c0_2]] ?_ Try.func18; (with_reducible refine (impl_IsBoard.calls k a0_0 a0_1 _ _ l0_2 true _ ?side1 ?side2 A7.o).mono ?_); (case side1 => repeat (first | exact (Kd.C_below Az.o HB.o) | (with_reducible refine Kd.C_alloc ?_ _) | (with_reducible refine Kd.C_drewN ?_ _) | (with_reducible refine Kd.C_drew ?_))); (case side2 => exact Ay.o); rintro e ES ⟨rfl, hb⟩; refine ⟨_, rfl, ?_⟩; replace A0 := kB A0 hb; replace A2 := kB A2 hb; replace A3 := kB A3 hb; replace HB := bB HB hb; (try clear hb); (try clear Bi); (try clear hk); (try clear hi); have DR := Aj.o; have Ej := Ak.o; have BW := bc0 A2; have BX := bc1 A2; have BY := bc2 A2; have CK := qz A2.o 0; have CL := qz A2.o 1; have CM := qz A2.o 2) | (go_at_call 18; (with_reducible refine (impl_IsBoard.calls k a1_0 a1_1 _ _ l1_2 false _ ?side1 ?side2 A9.o).mono ?_); (case side1 => repeat (first | exact (Kd.C_below AH.o HB.o) | (with_reducible refine Kd.C_alloc ?_ _) | (with_reducible refine Kd.C_drewN ?_ _) | (with_reducible refine Kd.C_drew ?_))); (case side2 => exact AG.o); rintro e ET ⟨rfl, hb⟩; replace A0 := kB A0 hb; replace A2 := kB A2 hb; replace A3 := kB A3 hb; replace HB := bB HB hb; (try clear hb); (try clear Bi); (try clear hk); (try clear hi)))
    go_meet
    case rel => exact ⟨_, (true), (by first | rfl | (simp; done) | (simp [*]; done)), H', ⟨by first | omega | exact Nat.le_refl _⟩, ⟨vK A0⟩, ⟨vK A2⟩, ⟨vK A3⟩, ⟨vB HB⟩⟩
  ·replace c8 := Bool.eq_false_iff.mpr c8
   subst c8
   have H1 : (impl_BesideBoards.j0 k true a0_0 a0_1 l0_2 a1_0 a1_1 l1_2) = some (r1, r2, r3, r4) := by rw [if_neg (show ¬ (false = true) by decide)] at H; exact H
   clear H
   have H := H1
   clear H1
   have H' := Z.m H
   clear H
   have DS := Af.o
   have Ek := Ag.o
   have DT := Aa.o
   have El := Ac.o
   have BZ := bc0 A0
   have C0 := bc1 A0
   have C1 := bc2 A0
   have CN := qz A0.o 0
   have CO := qz A0.o 1
   have CP := qz A0.o 2
   go_wp2_with (first | ((with_reducible refine gc (f := 18) rfl ?_); refine gA (some 9) _ #[.agg #[.int .i64 a0_0, .int .i64 a0_1, .slice A0_2 l0_2.length c0_2]] ?_ Try.func18; (with_reducible refine (impl_IsBoard.calls k a0_0 a0_1 _ _ l0_2 false _ ?side1 ?side2 A7.o).mono ?_); (case side1 => repeat (first | exact (Kd.C_below Az.o HB.o) | (with_reducible refine Kd.C_alloc ?_ _) | (with_reducible refine Kd.C_drewN ?_ _) | (with_reducible refine Kd.C_drew ?_))); (case side2 => exact Ay.o); rintro e EU ⟨rfl, hb⟩; refine ⟨_, rfl, ?_⟩; replace A0 := kB A0 hb; replace A2 := kB A2 hb; replace A3 := kB A3 hb; replace HB := bB HB hb; (try clear hb); (try clear Bi); (try clear hk); (try clear hi)))
   go_meet
   case rel => exact ⟨_, (true), (by first | rfl | (simp; done) | (simp [*]; done)), H', ⟨by first | omega | exact Nat.le_refl _⟩, ⟨vK A0⟩, ⟨vK A2⟩, ⟨vK A3⟩, ⟨vB HB⟩⟩
 case rest =>
  clear Dj
  obtain ⟨kq, AI, rfl, HA, Dv, A0, A2, A3, HB⟩ := hcut
  cases kq with
  | zero => exact absurd HA.o (by simp [impl_BesideBoards.j0])
  | succ kj2 =>
   have H := HA.o
   clear HA
   simp only [impl_BesideBoards.j0] at H
   by_cases c41 : AI = true
   ·subst c41
    have H1 : (some (0, 0, ([] : List (S34)), false)) = some (r1, r2, r3, r4) := by rw [if_pos rfl] at H; exact H
    clear H
    have H := H1
    clear H1
    simp only [Option.some.injEq, Prod.mk.injEq] at H
    obtain ⟨rfl, rfl, rfl, rfl⟩ := H
    have DU := Ac.o
    have Em := Aa.o
    have DV := Ak.o
    have En := Aj.o
    have C2 := bc0 A3
    have C3 := bc1 A3
    have C4 := bc2 A3
    have CQ := qz A3.o 0
    have CR := qz A3.o 1
    have CS := qz A3.o 2
    go_wp2
    refine bodyPost_ret (results_ct rfl _ _ Ax 29 #[.int .i64 0, .int .i64 0, .slice none 0 0] (0, 0) _ rfl (by refine bK ?_; apply st3; refine bK ?_; exact A3.o) Try.underlying29 rfl (by kernel_rfl)) rfl ?_
    exact ⟨_, by first | rfl | (simp [eN, eS] <;> rfl) | (simp [*, eN, eS] <;> rfl), by first | exact Kd.R_nil _ _ _ _ _ | exact Kd.N_nil _ _ _ _ _ | exact Kd.V_nil _ _ _ _ _ | exact Kd.Q_nil _ _ _ _ _ | exact Kd.S_nil _ _ _ _ _, vB HB⟩
   ·replace c41 := Bool.eq_false_iff.mpr c41
    subst c41
    have H1 : (impl_BesideBoards.l0 kj2 0 a0_0 a0_1 l0_2 a1_0 a1_1 l1_2 a0_0 (wrap64 (a0_1 + a1_1)) ([] : List (S34))) = some (r1, r2, r3, r4) := by rw [if_neg (show ¬ (false = true) by decide)] at H; exact H
    clear H
    have H := H1
    clear H1
    have H' := Z.m H
    clear H
    have DW := Af.o
    have Eo := Ag.o
    have DX := Aa.o
    have Ep := Ac.o
    have AN := bc0 A0
    have AO := bc1 A0
    have AP := bc2 A0
    have AW := qz A0.o 0
    have AX := qz A0.o 1
    have AY := qz A0.o 2
    have DY := Aj.o
    have Er := Ak.o
    have AQ := bc0 A2
    have AR := bc1 A2
    have AS := bc2 A2
    have AZ := qz A2.o 0
    have B0 := qz A2.o 1
    have B1 := qz A2.o 2
    go_wp2_with (first | ((with_reducible refine gq (N := 6) rfl ?_); refine be (N := 6) (cs := #[.int .i64 0, .int .i64 0, .slice none 0 0]) (t := 29) ?_; intro Ae hg EV hbox hb; have A4 := Z.m (hbox); have Bm := gW (w := w) HB hg; have Ds := Bm; have Ab := neL A0 hg; have An := neG A0 hg; have Ah := neL A2 hg; have Ao := neG A2 hg; have Ai := neL A3 hg; have Ap := neG A3 hg; replace A0 := kB A0 hb; replace A2 := kB A2 hb; replace A3 := kB A3 hb; replace HB := bB HB hb; clear hb hbox hg; have DZ := An.o; have Es := Ab.o; have E0 := Ao.o; have Et := Ah.o; have E1 := Ap.o; have Eu := Ai.o; have AT := bc0 A4; have AU := bc1 A4; have AV := bc2 A4; have B2 := qz A4.o 0; have B3 := qz A4.o 1; have B4 := qz A4.o 2))
    go_loopg [7] kj2 (fun kq v7 w' => ∃ (A5 : Int) (A8 : List (S34)) (u524002 : Value), v7 = .int .i64 A5 ∧ Z (impl_BesideBoards.l0 kq A5 a0_0 a0_1 l0_2 a1_0 a1_1 l1_2 a0_0 (wrap64 (a0_1 + a1_1)) A8 = some (r1, r2, r3, r4)) ∧ Z (kq ≤ kj2) ∧ Z (Kd.R k34 34 w' w.heap.size (fun _ => True) u524002 A8) ∧ Z (w'.heap[Av]? = some (.cells #[.int .i64 a0_0, .int .i64 a0_1, (.slice A0_2 l0_2.length c0_2)] 29 (0, 0))) ∧ Z (w'.heap[Aw]? = some (.cells #[.int .i64 a1_0, .int .i64 a1_1, (.slice A1_2 l1_2.length c1_2)] 29 (0, 0))) ∧ Z (w'.heap[Ax]? = some (.cells #[.int .i64 0, .int .i64 0, (.slice none 0 0)] 29 (0, 0))) ∧ Z (w'.heap[Ae]? = some (.cells #[.int .i64 a0_0, .int .i64 (wrap64 (a0_1 + a1_1)), u524002] 29 (0, 0))) ∧ Z (Below w.heap.size w w'))
    case atStart => exact ⟨(0), (([] : List (S34))), (.slice none 0 0), (by first | rfl | (simp; done) | (simp [*]; done)), H', ⟨Nat.le_refl _⟩, ⟨by first | exact Kd.R_nil _ _ _ _ _ | exact Kd.N_nil _ _ _ _ _ | exact Kd.V_nil _ _ _ _ _ | exact Kd.Q_nil _ _ _ _ _ | exact Kd.S_nil _ _ _ _ _⟩, ⟨by refine bK ?_; (iterate 3 refine qF ?_ Ab); exact A0.o⟩, ⟨by refine bK ?_; (iterate 3 refine qF ?_ Ah); exact A2.o⟩, ⟨by refine bK ?_; (iterate 3 refine qF ?_ Ai); exact A3.o⟩, ⟨by refine bK ?_; apply st3; refine bK ?_; exact A4.o⟩, ⟨vB HB⟩⟩
    case round =>
     clear H'
     (try clear c41)
     (try clear AN); (try clear AO); (try clear AP); (try clear AQ); (try clear AR); (try clear AS); (try clear AT); (try clear AU)
     (try clear AV); (try clear AW); (try clear AX); (try clear AY); (try clear AZ); (try clear B0); (try clear B1); (try clear B2)
     (try clear B3); (try clear B4)
     obtain ⟨A5, A8, u524002, rfl, HA, Dw, A6, A0, A2, A3, A4, HB⟩ := hrel
     cases gk with
     | zero => exact absurd HA.o (by simp [impl_BesideBoards.l0])
     | succ k2 =>
      have H := HA.o
      clear HA
      simp only [impl_BesideBoards.l0] at H
      by_cases c55 : A5 < a0_0
      ·rw [if_pos c55] at H
       have Bs := decide_eq_true c55
       clear c55
       obtain ⟨Aq, AJ⟩ : ∃ j_ : Int, (wrap64 (A5 * a0_1)) = j_ := ⟨_, rfl⟩
       replace H : (if 0 ≤ (Aq) then (if (Aq) ≤ (wrap64 ((wrap64 (A5 + 1)) * a0_1)) then (if (wrap64 ((wrap64 (A5 + 1)) * a0_1)) ≤ (l0_2.length : Int) then ((some ((l0_2.take ((wrap64 ((wrap64 (A5 + 1)) * a0_1)) : Int).toNat).drop ((Aq) : Int).toNat : List (S34))).bind fun Au => (if A8.length + Au.length < 8796093022208 then ((some (A8 ++ Au : List (S34))).bind fun Ad => (if 0 ≤ (wrap64 (A5 * a1_1)) then (if (wrap64 (A5 * a1_1)) ≤ (wrap64 ((wrap64 (A5 + 1)) * a1_1)) then (if (wrap64 ((wrap64 (A5 + 1)) * a1_1)) ≤ (l1_2.length : Int) then ((some ((l1_2.take ((wrap64 ((wrap64 (A5 + 1)) * a1_1)) : Int).toNat).drop ((wrap64 (A5 * a1_1)) : Int).toNat : List (S34))).bind fun Al => (if Ad.length + Al.length < 8796093022208 then (impl_BesideBoards.l0 k2 (wrap64 (A5 + 1)) a0_0 a0_1 l0_2 a1_0 a1_1 l1_2 a0_0 (wrap64 (a0_1 + a1_1)) (Ad ++ Al)) else (none))) else (none)) else (none)) else (none))) else (none))) else (none)) else (none)) else (none)) = some (r1, r2, r3, r4) := by first | (rw [AJ] at H; exact H) | (simp only [AJ] at H ⊢; exact H)
       have hji56w : (IntKind.i64.wrap (A5 * a0_1)) = Aq := (i64_w _).trans AJ
       by_cases c57 : 0 ≤ (Aq)
       ·rw [if_pos c57] at H
        have Dx := eq_true c57
        have Dy := decide_eq_true c57
        clear c57
        by_cases c58 : (Aq) ≤ (wrap64 ((wrap64 (A5 + 1)) * a0_1))
        ·rw [if_pos c58] at H
         have Dz := eq_true c58
         have DA := decide_eq_true c58
         by_cases c59 : (wrap64 ((wrap64 (A5 + 1)) * a0_1)) ≤ (l0_2.length : Int)
         ·rw [if_pos c59] at H
          have DB := eq_true c59
          have DC := decide_eq_true c59
          obtain ⟨Au, AB⟩ : ∃ y_ : List (S34), y_ = ((l0_2.take ((wrap64 ((wrap64 (A5 + 1)) * a0_1)) : Int).toNat).drop ((Aq) : Int).toNat) := ⟨_, rfl⟩
          replace H : (if A8.length + Au.length < 8796093022208 then ((some (A8 ++ Au : List (S34))).bind fun Ad => (if 0 ≤ (wrap64 (A5 * a1_1)) then (if (wrap64 (A5 * a1_1)) ≤ (wrap64 ((wrap64 (A5 + 1)) * a1_1)) then (if (wrap64 ((wrap64 (A5 + 1)) * a1_1)) ≤ (l1_2.length : Int) then ((some ((l1_2.take ((wrap64 ((wrap64 (A5 + 1)) * a1_1)) : Int).toNat).drop ((wrap64 (A5 * a1_1)) : Int).toNat : List (S34))).bind fun Al => (if Ad.length + Al.length < 8796093022208 then (impl_BesideBoards.l0 k2 (wrap64 (A5 + 1)) a0_0 a0_1 l0_2 a1_0 a1_1 l1_2 a0_0 (wrap64 (a0_1 + a1_1)) (Ad ++ Al)) else (none))) else (none)) else (none)) else (none))) else (none)) = some (r1, r2, r3, r4) := by first | (rw [AB]; with_reducible exact H) | (have H2_ := (Option.bind_some _ _).symm.trans H; rw [AB]; with_reducible exact H2_) | (have H2_ := (Option.bind_some _ _).symm.trans H; with_reducible exact H2_) | with_reducible exact H | (rw [AB]; exact H) | exact H
          have Be := Z.m AB
          clear AB
          by_cases c60 : A8.length + Au.length < 8796093022208
          ·rw [if_pos c60] at H
           have Bn := Z.m c60
           clear c60
           obtain ⟨Ad, AC⟩ : ∃ y_ : List (S34), y_ = (A8 ++ Au) := ⟨_, rfl⟩
           replace H : (if 0 ≤ (wrap64 (A5 * a1_1)) then (if (wrap64 (A5 * a1_1)) ≤ (wrap64 ((wrap64 (A5 + 1)) * a1_1)) then (if (wrap64 ((wrap64 (A5 + 1)) * a1_1)) ≤ (l1_2.length : Int) then ((some ((l1_2.take ((wrap64 ((wrap64 (A5 + 1)) * a1_1)) : Int).toNat).drop ((wrap64 (A5 * a1_1)) : Int).toNat : List (S34))).bind fun Al => (if Ad.length + Al.length < 8796093022208 then (impl_BesideBoards.l0 k2 (wrap64 (A5 + 1)) a0_0 a0_1 l0_2 a1_0 a1_1 l1_2 a0_0 (wrap64 (a0_1 + a1_1)) (Ad ++ Al)) else (none))) else (none)) else (none)) else (none)) = some (r1, r2, r3, r4) := by first | (rw [AC]; with_reducible exact H) | (have H2_ := (Option.bind_some _ _).symm.trans H; rw [AC]; with_reducible exact H2_) | (have H2_ := (Option.bind_some _ _).symm.trans H; with_reducible exact H2_) | with_reducible exact H | (rw [AC]; exact H) | exact H
           have Bp := Z.m AC
           clear AC
           obtain ⟨Ar, AK⟩ : ∃ j_ : Int, (wrap64 (A5 * a1_1)) = j_ := ⟨_, rfl⟩
           replace H : (if 0 ≤ (Ar) then (if (Ar) ≤ (wrap64 ((wrap64 (A5 + 1)) * a1_1)) then (if (wrap64 ((wrap64 (A5 + 1)) * a1_1)) ≤ (l1_2.length : Int) then ((some ((l1_2.take ((wrap64 ((wrap64 (A5 + 1)) * a1_1)) : Int).toNat).drop ((Ar) : Int).toNat : List (S34))).bind fun Al => (if Ad.length + Al.length < 8796093022208 then (impl_BesideBoards.l0 k2 (wrap64 (A5 + 1)) a0_0 a0_1 l0_2 a1_0 a1_1 l1_2 a0_0 (wrap64 (a0_1 + a1_1)) (Ad ++ Al)) else (none))) else (none)) else (none)) else (none)) = some (r1, r2, r3, r4) := by first | (rw [AK] at H; exact H) | (simp only [AK] at H ⊢; exact H)
           have hji61w : (IntKind.i64.wrap (A5 * a1_1)) = Ar := (i64_w _).trans AK
           by_cases c62 : 0 ≤ (Ar)
           ·rw [if_pos c62] at H
            have DD := eq_true c62
            have DE := decide_eq_true c62
            clear c62
            by_cases c63 : (Ar) ≤ (wrap64 ((wrap64 (A5 + 1)) * a1_1))
            ·rw [if_pos c63] at H
             have DF := eq_true c63
             have DG := decide_eq_true c63
             by_cases c64 : (wrap64 ((wrap64 (A5 + 1)) * a1_1)) ≤ (l1_2.length : Int)
             ·rw [if_pos c64] at H
              have DH := eq_true c64
              have DI := decide_eq_true c64
              obtain ⟨Al, AD⟩ : ∃ y_ : List (S34), y_ = ((l1_2.take ((wrap64 ((wrap64 (A5 + 1)) * a1_1)) : Int).toNat).drop ((Ar) : Int).toNat) := ⟨_, rfl⟩
              replace H : (if Ad.length + Al.length < 8796093022208 then (impl_BesideBoards.l0 k2 (wrap64 (A5 + 1)) a0_0 a0_1 l0_2 a1_0 a1_1 l1_2 a0_0 (wrap64 (a0_1 + a1_1)) (Ad ++ Al)) else (none)) = some (r1, r2, r3, r4) := by first | (rw [AD]; with_reducible exact H) | (have H2_ := (Option.bind_some _ _).symm.trans H; rw [AD]; with_reducible exact H2_) | (have H2_ := (Option.bind_some _ _).symm.trans H; with_reducible exact H2_) | with_reducible exact H | (rw [AD]; exact H) | exact H
              have Bf := Z.m AD
              clear AD
              by_cases c65 : Ad.length + Al.length < 8796093022208
              ·rw [if_pos c65] at H
               have Bo := Z.m c65
               clear c65
               obtain ⟨Bh, AE⟩ : ∃ y_ : List (S34), y_ = (Ad ++ Al) := ⟨_, rfl⟩
               replace H : (impl_BesideBoards.l0 k2 (wrap64 (A5 + 1)) a0_0 a0_1 l0_2 a1_0 a1_1 l1_2 a0_0 (wrap64 (a0_1 + a1_1)) Bh) = some (r1, r2, r3, r4) := by first | (rw [AE]; with_reducible exact H) | (have H2_ := (Option.bind_some _ _).symm.trans H; rw [AE]; with_reducible exact H2_) | (have H2_ := (Option.bind_some _ _).symm.trans H; with_reducible exact H2_) | with_reducible exact H | (rw [AE]; exact H) | exact H
               have Bq := Z.m AE
               clear AE
               have H' := Z.m H
               clear H
               have E2 := Af.o
               have Ew := Ag.o
               have E3 := Aa.o
               have Ex := Ac.o
               have E4 := Ab.o
               have Ey := An.o
               have C5 := bc0 A0
               have C6 := bc1 A0
               have C7 := bc2 A0
               have CT := qz A0.o 0
               have CU := qz A0.o 1
               have CV := qz A0.o 2
               try go_wp2
               replace A6 := Z.m (Kd.R_drew A6.o)
               replace A0 := Z.m (blk_drew A0.o)
               replace A2 := Z.m (blk_drew A2.o)
               replace A3 := Z.m (blk_drew A3.o)
               replace A4 := Z.m (blk_drew A4.o)
               replace HB := Z.m (qd HB.o)
               have q71 : ((wrap64 ((wrap64 (A5 + 1)) * a0_1)) : Int) ≤ ((l0_2.length : Int) : Int) := ofD
               obtain ⟨i071, hi071, _, hsz71, _⟩ := info_parts info34
               have hroom71 : l0_2.length ≤ c0_2 := Ay.o
               have hC71 : Kd.C k34 _ A0_2 l0_2.length l0_2 := Az.o
               have ql71 : ((Aq) : Int) ≤ ((wrap64 ((wrap64 (A5 + 1)) * a0_1)) : Int) := ofD
               have q071 : (0 : Int) ≤ ((Aq) : Int) := ofD
               have hcut71 := cut_mid (P := Try.prog) 27 34 .i64 .i64 Try.underlying27 hi071 2 hsz71 A0_2 l0_2.length c0_2 (Aq) (wrap64 ((wrap64 (A5 + 1)) * a0_1)) q071 ql71 q71 hroom71
               have AL := Kd.C_mid (lo := ((Aq) : Int).toNat) (hi := ((wrap64 ((wrap64 (A5 + 1)) * a0_1)) : Int).toNat) (c := c0_2) hC71 (by omega) (by omega) hroom71
               obtain ⟨EF, hA71⟩ : ∃ A1, A1 = (if c0_2 = ((Aq) : Int).toNat then A0_2 else (A0_2 : Option Addr).map (·.add (((Aq) : Int).toNat * 2))) := ⟨_, rfl⟩
               obtain ⟨c71, hc71⟩ : ∃ c1, c1 = c0_2 - ((Aq) : Int).toNat := ⟨_, rfl⟩
               have B5 : Au.length = ((wrap64 ((wrap64 (A5 + 1)) * a0_1)) : Int).toNat - ((Aq) : Int).toNat := (by rw [Be.o, List.length_drop, List.length_take] <;> omega)
               rw [show ((l0_2).take ((wrap64 ((wrap64 (A5 + 1)) * a0_1)) : Int).toNat).drop ((Aq) : Int).toNat = Au from Be.o.symm] at AL
               replace AL : Kd.C k34 _ EF Au.length Au := (by rw [hA71]; exact AL)
               rw [← B5, ← hA71, ← hc71] at hcut71
               have Bc := Z.m AL
               have Dt := Z.m (show Au.length ≤ c71 from by rw [B5, hc71]; exact Nat.sub_le_sub_right (Nat.le_trans (by omega) hroom71) _)
               clear AL hC71 hroom71 hi071 hsz71 hc71
               have KY71 := Z.m B5
               have KA71 := Z.m hA71
               clear B5 hA71
               replace q71 := eq_true q71
               refine start_ (n := 17) (S := fun w' => w'.cell? ⟨Ae, 0, none⟩ = some (.int .i64 a0_0) ∧ w'.cell? ⟨Ae, 1, none⟩ = some (.int .i64 (wrap64 (a0_1 + a1_1))) ∧ w'.cell? ⟨Ae, 2, none⟩ = some (u524002) ∧ w'.cell? ⟨Av, 0, none⟩ = some (.int .i64 a0_0) ∧ w'.cell? ⟨Av, 1, none⟩ = some (.int .i64 a0_1) ∧ w'.cell? ⟨Av, 2, none⟩ = some (.slice A0_2 l0_2.length c0_2)) (ds := [16]) #[false, false, false, false, false, false, false, false, false, false, false, false, false, false, false, false, false] (by kernel_rfl) rfl rfl ⟨(ql A4.o 0).trans rfl, (ql A4.o 1).trans rfl, (ql A4.o 2).trans rfl, (ql A0.o 0).trans rfl, (ql A0.o 1).trans rfl, (ql A0.o 2).trans rfl⟩ (fun hHeld => ?_); refine with_tabW impl_BesideBoards.tab7 impl_BesideBoards.bits7 (fun HT_ HW_ => ?_)
               generalize wr.drew = EW at A6 A0 A2 A3 A4 HB Bc hHeld ⊢
               refine pure_ (i := 0) (N := some 46) (v := ?_) (a' := ?_) #[true, false, false, false, false, false, false, false, false, false, false, false, false, false, false, false, false] rfl rfl (any_of HT_.o (by kernel_rfl)) (fun _ _ _ h => h) (Or.inl ⟨by rfl, ?_⟩) ?_ ?_
               rotate_left
               ·intro w'
                go_simp
                with_reducible rfl
               rotate_left
               ·simp only [Act.put, q1, q2, q3, i64_w, i32_w]
                rfl
               refine pure_ (i := 2) (N := some 48) (v := ?_) (a' := ?_) #[true, false, true, false, false, false, false, false, false, false, false, false, false, false, false, false, false] rfl rfl (any_of HT_.o (by kernel_rfl)) (fun _ _ _ h => h) (Or.inl ⟨by rfl, ?_⟩) ?_ ?_
               rotate_left
               ·intro w'
                go_simp
                with_reducible rfl
               rotate_left
               ·simp only [Act.put, q1, q2, q3, i64_w, i32_w]
                rfl
               refine pure_ (i := 4) (N := some 50) (v := ?_) (a' := ?_) #[true, false, true, false, true, false, false, false, false, false, false, false, false, false, false, false, false] rfl rfl (any_of HT_.o (by kernel_rfl)) (fun _ _ _ h => h) (Or.inl ⟨by rfl, ?_⟩) ?_ ?_
               rotate_left
               ·intro w'
                go_simp
                with_reducible rfl
               rotate_left
               ·simp only [Act.put, q1, q2, q3, i64_w, i32_w]
                rfl
               refine pure_ (i := 5) (N := some 51) (v := ?_) (a' := ?_) #[true, false, true, false, true, true, false, false, false, false, false, false, false, false, false, false, false] rfl rfl (any_of HT_.o (by kernel_rfl)) (fun _ _ _ h => h) (Or.inl ⟨by rfl, ?_⟩) ?_ ?_
               rotate_left
               ·intro w'
                go_simp
                with_reducible rfl
               rotate_left
               ·simp only [Act.put, q1, q2, q3, i64_w, i32_w]
                rfl
               refine pure_ (i := 8) (N := some 54) (v := ?_) (a' := ?_) #[true, false, true, false, true, true, false, false, true, false, false, false, false, false, false, false, false] rfl rfl (any_of HT_.o (by kernel_rfl)) (fun _ _ _ h => h) (Or.inl ⟨by rfl, ?_⟩) ?_ ?_
               rotate_left
               ·intro w'
                go_simp
                with_reducible rfl
               rotate_left
               ·simp only [Act.put, q1, q2, q3, i64_w, i32_w]
                rfl
               refine pure_ (i := 9) (N := some 55) (v := ?_) (a' := ?_) #[true, false, true, false, true, true, false, false, true, true, false, false, false, false, false, false, false] rfl rfl (any_of HT_.o (by kernel_rfl)) (fun _ _ _ h => h) (Or.inl ⟨by rfl, ?_⟩) ?_ ?_
               rotate_left
               ·intro w'
                go_simp
                with_reducible rfl
               rotate_left
               ·simp only [Act.put, q1, q2, q3, i64_w, i32_w]
                rfl
               refine pure_ (i := 10) (N := some 56) (v := ?_) (a' := ?_) #[true, false, true, false, true, true, false, false, true, true, true, false, false, false, false, false, false] rfl rfl (any_of HT_.o (by kernel_rfl)) (fun _ _ _ h => h) (Or.inl ⟨by rfl, ?_⟩) ?_ ?_
               rotate_left
               ·intro w'
                go_simp
                with_reducible rfl
               rotate_left
               ·simp only [Act.put, q1, q2, q3, i64_w, i32_w]
                rfl
               refine take_ (i := 1) (N := some 47) (v := ?_) (a' := ?_) #[true, true, true, false, true, true, false, false, true, true, true, false, false, false, false, false, false] rfl rfl (take_ofW HT_.o HW_.o (by kernel_rfl)) (fun _ _ _ h => h) (Or.inl ⟨by rfl, ?_⟩) hHeld ?_ ?_
               rotate_left
               ·rintro w' ⟨s0, s1, s2, s3, s4, s5⟩
                go_simp
                with_reducible rfl
               rotate_left
               ·simp only [Act.put, q1, q2, q3, i64_w, i32_w]
                rfl
               refine take_ (i := 3) (N := some 49) (v := ?_) (a' := ?_) #[true, true, true, true, true, true, false, false, true, true, true, false, false, false, false, false, false] rfl rfl (take_ofW HT_.o HW_.o (by kernel_rfl)) (fun _ _ _ h => h) (Or.inl ⟨by rfl, ?_⟩) hHeld ?_ ?_
               rotate_left
               ·rintro w' ⟨s0, s1, s2, s3, s4, s5⟩
                go_simp
                with_reducible rfl
               rotate_left
               ·simp only [Act.put, q1, q2, q3, i64_w, i32_w]
                rfl
               refine take_ (i := 6) (N := some 52) (v := ?_) (a' := ?_) #[true, true, true, true, true, true, true, false, true, true, true, false, false, false, false, false, false] rfl rfl (take_ofW HT_.o HW_.o (by kernel_rfl)) (fun _ _ _ h => h) (Or.inl ⟨by rfl, ?_⟩) hHeld ?_ ?_
               rotate_left
               ·rintro w' ⟨s0, s1, s2, s3, s4, s5⟩
                go_simp
                with_reducible rfl
               rotate_left
               ·simp only [Act.put, q1, q2, q3, i64_w, i32_w]
                rfl
               refine pure_ (i := 7) (N := some 53) (v := ?_) (a' := ?_) #[true, true, true, true, true, true, true, true, true, true, true, false, false, false, false, false, false] rfl rfl (any_of HT_.o (by kernel_rfl)) (fun _ _ _ h => h) (Or.inl ⟨by rfl, ?_⟩) ?_ ?_
               rotate_left
               ·intro w'
                go_simp
                with_reducible rfl
               rotate_left
               ·simp only [Act.put, q1, q2, q3, i64_w, i32_w]
                rfl
               refine take_ (i := 11) (N := some 57) (v := ?_) (a' := ?_) #[true, true, true, true, true, true, true, true, true, true, true, true, false, false, false, false, false] rfl rfl (take_ofW HT_.o HW_.o (by kernel_rfl)) (fun _ _ _ h => h) (Or.inl ⟨by rfl, ?_⟩) hHeld ?_ ?_
               rotate_left
               ·rintro w' ⟨s0, s1, s2, s3, s4, s5⟩
                go_simp
                with_reducible rfl
               rotate_left
               ·simp only [Act.put, q1, q2, q3, i64_w, i32_w]
                rfl
               refine pure_ (i := 12) (N := some 58) (v := ?_) (a' := ?_) #[true, true, true, true, true, true, true, true, true, true, true, true, true, false, false, false, false] rfl rfl (any_of HT_.o (by kernel_rfl)) (fun _ _ _ h => h) (Or.inl ⟨by rfl, ?_⟩) ?_ ?_
               rotate_left
               ·intro w'
                go_simp
                with_reducible rfl
               rotate_left
               ·simp only [Act.put, q1, q2, q3, i64_w, i32_w]
                rfl
               refine pure_ (i := 13) (N := some 59) (v := ?_) (a' := ?_) #[true, true, true, true, true, true, true, true, true, true, true, true, true, true, false, false, false] rfl rfl (any_of HT_.o (by kernel_rfl)) (fun _ _ _ h => h) (Or.inl ⟨by rfl, ?_⟩) ?_ ?_
               rotate_left
               ·intro w'
                go_simp
                with_reducible rfl
               rotate_left
               ·simp only [Act.put, q1, q2, q3, i64_w, i32_w]
                rfl
               refine one_ (i := 14) (N := some 60) #[true, true, true, true, true, true, true, true, true, true, true, true, true, true, true, false, false] rfl rfl (one_of HT_.o (by kernel_rfl)) (by decide) (fun K hK => ?_)
               refine Kd.R_append_rows_step k34 (w0 := w) w.heap.size (by rfl) (.tmp 47) (.tmp 59) 27 34 (.agg #[(.int .i64 0), (.int .i64 0)]) 16 rfl Try.underlying27 info34 rfl (by decide) (by omega) u524002 A8 Au _ _ _ (fun _ => True) (fun _ => False) rfl rfl ?aO ?aR (fun _ _ h => h) (fun _ h => h.elim) ?aF ?aB ?aS ?aL ?_
               (case aR => repeat (first | exact (Kd.C_below Bc.o HB.o) | (with_reducible refine Kd.C_alloc ?_ _) | (with_reducible refine Kd.C_drewN ?_ _) | (with_reducible refine Kd.C_drew ?_)))
               (case aB => exact (vB HB))
               (case aF => exact (fun _ _ => trivial))
               (case aO => exact (vR A6))
               (case aS => exact (below_size (vB HB)))
               (case aL => have := Bn.o; omega)
               intro EK Bg ho hb hg hat
               rw [← Bp.o] at ho
               have Am := Z.m (ho)
               replace A0 := Z.m (qg (g := Av) (o := .cells #[.int .i64 a0_0, .int .i64 a0_1, .slice A0_2 l0_2.length c0_2] 29 (0, 0)) (vK A0) hg (Kd.R_ne A6.o A0.o (by decide)))
               replace A2 := Z.m (qg (g := Aw) (o := .cells #[.int .i64 a1_0, .int .i64 a1_1, .slice A1_2 l1_2.length c1_2] 29 (0, 0)) (vK A2) hg (Kd.R_ne A6.o A2.o (by decide)))
               replace A3 := Z.m (qg (g := Ax) (o := .cells #[.int .i64 0, .int .i64 0, .slice none 0 0] 29 (0, 0)) (vK A3) hg (Kd.R_ne A6.o A3.o (by decide)))
               replace A4 := Z.m (qg (g := Ae) (o := .cells #[.int .i64 a0_0, .int .i64 (wrap64 (a0_1 + a1_1)), u524002] 29 (0, 0)) (vK A4) hg (Kd.R_ne A6.o A4.o (by decide)))
               replace HB := Z.m (hb)
               clear A6
               clear ho hb hg hat
               obtain ⟨As, At, Bt⟩ := Kd.R_slice Am.o
               (first | subst Bt | (injection Bt with f1_ f2_ f3_; have f4_ := f1_.symm; have f5_ := f3_.symm; clear f1_ f2_ f3_; subst f4_; subst f5_))
               refine hK.out _ _ ⟨(ql A4.o 0).trans rfl, (ql A4.o 1).trans rfl, (ql A4.o 2).trans rfl, (ql A0.o 0).trans rfl, (ql A0.o 1).trans rfl, (ql A0.o 2).trans rfl⟩ (fun hHeld => ?_)
               clear hK K
               refine norm_ (a' := ?_) ?_ ?_
               rotate_left
               ·show Act.put _ (some 60) _ = _
                simp only [Act.put, q1, q2, q3, i64_w, i32_w]
                rfl
               refine pure_ (i := 15) (N := some 61) (v := ?_) (a' := ?_) #[true, true, true, true, true, true, true, true, true, true, true, true, true, true, true, true, false] rfl rfl (any_of HT_.o (by kernel_rfl)) (fun _ _ _ h => h) (Or.inl ⟨by rfl, ?_⟩) ?_ ?_
               rotate_left
               ·intro w'
                go_simp
                with_reducible rfl
               rotate_left
               ·simp only [Act.put, q1, q2, q3, i64_w, i32_w]
                rfl
               refine last_ (i := 16) (N := none) #[true, true, true, true, true, true, true, true, true, true, true, true, true, true, true, true, true] rfl rfl (one_of HT_.o (by kernel_rfl)) (by decide) (fun K hK => ?_)
               have EH : Bg.cell? ⟨Ae, 2, none⟩ = some (u524002) := (ql A4.o 2).trans rfl
               have hfs74 := qz A4.o 2
               have Db := Ab.o
               have Dc := Ah.o
               have Dd := Ai.o
               have D5 := An.o
               have D6 := Ao.o
               have D7 := Ap.o
               refine skip_ (w1 := ?_) ?hwx ?hnx ?_ ?_; (case hwx => rfl); (case hnx => rfl)
               rotate_left
               ·go_simp
                rfl
               refine hK.out _ _ ?_
               clear hK K
               refine done_ (done_of HT_.o (by kernel_rfl)) ?_
               try go_wp2
               have n0_ : Z (Kd.R k34 34 (Bg.setCell ⟨Ae, 2, none⟩ (.slice As Ad.length At)) w.heap.size (fun _ => True) (.slice As Ad.length At) Ad) := ⟨by refine rK ?_; exact Kd.Rm (rf (Kd.Ry Am.o A4.o (by decide))) (fun _ hk => trivial)⟩
               have n1_ : Z ((Bg.setCell ⟨Ae, 2, none⟩ (.slice As Ad.length At)).heap[Av]? = some (.cells #[.int .i64 a0_0, .int .i64 a0_1, .slice A0_2 l0_2.length c0_2] 29 (0, 0))) := ⟨by refine bK ?_; refine qF ?_ Ab; exact A0.o⟩
               have n2_ : Z ((Bg.setCell ⟨Ae, 2, none⟩ (.slice As Ad.length At)).heap[Aw]? = some (.cells #[.int .i64 a1_0, .int .i64 a1_1, .slice A1_2 l1_2.length c1_2] 29 (0, 0))) := ⟨by refine bK ?_; refine qF ?_ Ah; exact A2.o⟩
               have n3_ : Z ((Bg.setCell ⟨Ae, 2, none⟩ (.slice As Ad.length At)).heap[Ax]? = some (.cells #[.int .i64 0, .int .i64 0, .slice none 0 0] 29 (0, 0))) := ⟨by refine bK ?_; refine qF ?_ Ai; exact A3.o⟩
               have n4_ : Z ((Bg.setCell ⟨Ae, 2, none⟩ (.slice As Ad.length At)).heap[Ae]? = some (.cells #[.int .i64 a0_0, .int .i64 (wrap64 (a0_1 + a1_1)), .slice As Ad.length At] 29 (0, 0))) := ⟨by refine bK ?_; refine qp (cs := #[iV a0_0, iV (wrap64 (a0_1 + a1_1)), u524002]) ?_ 2 _ rfl; refine bK ?_; exact A4.o⟩
               have n5_ : Z (Below w.heap.size w (Bg.setCell ⟨Ae, 2, none⟩ (.slice As Ad.length At))) := ⟨vB HB⟩
               (try clear Am); (try clear A0); (try clear A2); (try clear A3); (try clear A4); (try clear HB)
               generalize (Bg.setCell ⟨Ae, 2, none⟩ (.slice As Ad.length At)) = EM at n0_ n1_ n2_ n3_ n4_ n5_ ⊢
               have Am := n0_
               have A0 := n1_
               have A2 := n2_
               have A3 := n3_
               have A4 := n4_
               have HB := n5_
               clear n0_ n1_ n2_ n3_ n4_ n5_
               replace Am := Z.m (Kd.R_drew Am.o)
               replace A0 := Z.m (blk_drew A0.o)
               replace A2 := Z.m (blk_drew A2.o)
               replace A3 := Z.m (blk_drew A3.o)
               replace A4 := Z.m (blk_drew A4.o)
               replace HB := Z.m (qd HB.o)
               have q77 : ((wrap64 ((wrap64 (A5 + 1)) * a1_1)) : Int) ≤ ((l1_2.length : Int) : Int) := ofD
               obtain ⟨i077, hi077, _, hsz77, _⟩ := info_parts info34
               have hroom77 : l1_2.length ≤ c1_2 := AG.o
               have hC77 : Kd.C k34 _ A1_2 l1_2.length l1_2 := AH.o
               have ql77 : ((Ar) : Int) ≤ ((wrap64 ((wrap64 (A5 + 1)) * a1_1)) : Int) := ofD
               have q077 : (0 : Int) ≤ ((Ar) : Int) := ofD
               have hcut77 := cut_mid (P := Try.prog) 27 34 .i64 .i64 Try.underlying27 hi077 2 hsz77 A1_2 l1_2.length c1_2 (Ar) (wrap64 ((wrap64 (A5 + 1)) * a1_1)) q077 ql77 q77 hroom77
               have AM := Kd.C_mid (lo := ((Ar) : Int).toNat) (hi := ((wrap64 ((wrap64 (A5 + 1)) * a1_1)) : Int).toNat) (c := c1_2) hC77 (by omega) (by omega) hroom77
               obtain ⟨EG, hA77⟩ : ∃ A1, A1 = (if c1_2 = ((Ar) : Int).toNat then A1_2 else (A1_2 : Option Addr).map (·.add (((Ar) : Int).toNat * 2))) := ⟨_, rfl⟩
               obtain ⟨c77, hc77⟩ : ∃ c1, c1 = c1_2 - ((Ar) : Int).toNat := ⟨_, rfl⟩
               have B9 : Al.length = ((wrap64 ((wrap64 (A5 + 1)) * a1_1)) : Int).toNat - ((Ar) : Int).toNat := (by rw [Bf.o, List.length_drop, List.length_take] <;> omega)
               rw [show ((l1_2).take ((wrap64 ((wrap64 (A5 + 1)) * a1_1)) : Int).toNat).drop ((Ar) : Int).toNat = Al from Bf.o.symm] at AM
               replace AM : Kd.C k34 _ EG Al.length Al := (by rw [hA77]; exact AM)
               rw [← B9, ← hA77, ← hc77] at hcut77
               have Bd := Z.m AM
               have Du := Z.m (show Al.length ≤ c77 from by rw [B9, hc77]; exact Nat.sub_le_sub_right (Nat.le_trans (by omega) hroom77) _)
               clear AM hC77 hroom77 hi077 hsz77 hc77
               have KY77 := Z.m B9
               have KA77 := Z.m hA77
               clear B9 hA77
               replace q77 := eq_true q77
               refine start_ (n := 17) (S := fun w' => w'.cell? ⟨Ae, 0, none⟩ = some (.int .i64 a0_0) ∧ w'.cell? ⟨Ae, 1, none⟩ = some (.int .i64 (wrap64 (a0_1 + a1_1))) ∧ w'.cell? ⟨Ae, 2, none⟩ = some (.slice As Ad.length At) ∧ w'.cell? ⟨Aw, 0, none⟩ = some (.int .i64 a1_0) ∧ w'.cell? ⟨Aw, 1, none⟩ = some (.int .i64 a1_1) ∧ w'.cell? ⟨Aw, 2, none⟩ = some (.slice A1_2 l1_2.length c1_2)) (ds := [16]) #[false, false, false, false, false, false, false, false, false, false, false, false, false, false, false, false, false] (by kernel_rfl) rfl rfl ⟨(ql A4.o 0).trans rfl, (ql A4.o 1).trans rfl, (ql A4.o 2).trans rfl, (ql A2.o 0).trans rfl, (ql A2.o 1).trans rfl, (ql A2.o 2).trans rfl⟩ (fun hHeld => ?_); refine with_tabW impl_BesideBoards.tab8 impl_BesideBoards.bits8 (fun HT_ HW_ => ?_)
               generalize EM.drew = EX at Am A0 A2 A3 A4 HB Bd hHeld ⊢
               refine pure_ (i := 0) (N := some 62) (v := ?_) (a' := ?_) #[true, false, false, false, false, false, false, false, false, false, false, false, false, false, false, false, false] rfl rfl (any_of HT_.o (by kernel_rfl)) (fun _ _ _ h => h) (Or.inl ⟨by rfl, ?_⟩) ?_ ?_
               rotate_left
               ·intro w'
                go_simp
                with_reducible rfl
               rotate_left
               ·simp only [Act.put, q1, q2, q3, i64_w, i32_w]
                rfl
               refine pure_ (i := 2) (N := some 64) (v := ?_) (a' := ?_) #[true, false, true, false, false, false, false, false, false, false, false, false, false, false, false, false, false] rfl rfl (any_of HT_.o (by kernel_rfl)) (fun _ _ _ h => h) (Or.inl ⟨by rfl, ?_⟩) ?_ ?_
               rotate_left
               ·intro w'
                go_simp
                with_reducible rfl
               rotate_left
               ·simp only [Act.put, q1, q2, q3, i64_w, i32_w]
                rfl
               refine pure_ (i := 4) (N := some 66) (v := ?_) (a' := ?_) #[true, false, true, false, true, false, false, false, false, false, false, false, false, false, false, false, false] rfl rfl (any_of HT_.o (by kernel_rfl)) (fun _ _ _ h => h) (Or.inl ⟨by rfl, ?_⟩) ?_ ?_
               rotate_left
               ·intro w'
                go_simp
                with_reducible rfl
               rotate_left
               ·simp only [Act.put, q1, q2, q3, i64_w, i32_w]
                rfl
               refine pure_ (i := 5) (N := some 67) (v := ?_) (a' := ?_) #[true, false, true, false, true, true, false, false, false, false, false, false, false, false, false, false, false] rfl rfl (any_of HT_.o (by kernel_rfl)) (fun _ _ _ h => h) (Or.inl ⟨by rfl, ?_⟩) ?_ ?_
               rotate_left
               ·intro w'
                go_simp
                with_reducible rfl
               rotate_left
               ·simp only [Act.put, q1, q2, q3, i64_w, i32_w]
                rfl
               refine pure_ (i := 8) (N := some 70) (v := ?_) (a' := ?_) #[true, false, true, false, true, true, false, false, true, false, false, false, false, false, false, false, false] rfl rfl (any_of HT_.o (by kernel_rfl)) (fun _ _ _ h => h) (Or.inl ⟨by rfl, ?_⟩) ?_ ?_
               rotate_left
               ·intro w'
                go_simp
                with_reducible rfl
               rotate_left
               ·simp only [Act.put, q1, q2, q3, i64_w, i32_w]
                rfl
               refine pure_ (i := 9) (N := some 71) (v := ?_) (a' := ?_) #[true, false, true, false, true, true, false, false, true, true, false, false, false, false, false, false, false] rfl rfl (any_of HT_.o (by kernel_rfl)) (fun _ _ _ h => h) (Or.inl ⟨by rfl, ?_⟩) ?_ ?_
               rotate_left
               ·intro w'
                go_simp
                with_reducible rfl
               rotate_left
               ·simp only [Act.put, q1, q2, q3, i64_w, i32_w]
                rfl
               refine pure_ (i := 10) (N := some 72) (v := ?_) (a' := ?_) #[true, false, true, false, true, true, false, false, true, true, true, false, false, false, false, false, false] rfl rfl (any_of HT_.o (by kernel_rfl)) (fun _ _ _ h => h) (Or.inl ⟨by rfl, ?_⟩) ?_ ?_
               rotate_left
               ·intro w'
                go_simp
                with_reducible rfl
               rotate_left
               ·simp only [Act.put, q1, q2, q3, i64_w, i32_w]
                rfl
               refine take_ (i := 1) (N := some 63) (v := ?_) (a' := ?_) #[true, true, true, false, true, true, false, false, true, true, true, false, false, false, false, false, false] rfl rfl (take_ofW HT_.o HW_.o (by kernel_rfl)) (fun _ _ _ h => h) (Or.inl ⟨by rfl, ?_⟩) hHeld ?_ ?_
               rotate_left
               ·rintro w' ⟨s0, s1, s2, s3, s4, s5⟩
                go_simp
                with_reducible rfl
               rotate_left
               ·simp only [Act.put, q1, q2, q3, i64_w, i32_w]
                rfl
               refine take_ (i := 3) (N := some 65) (v := ?_) (a' := ?_) #[true, true, true, true, true, true, false, false, true, true, true, false, false, false, false, false, false] rfl rfl (take_ofW HT_.o HW_.o (by kernel_rfl)) (fun _ _ _ h => h) (Or.inl ⟨by rfl, ?_⟩) hHeld ?_ ?_
               rotate_left
               ·rintro w' ⟨s0, s1, s2, s3, s4, s5⟩
                go_simp
                with_reducible rfl
               rotate_left
               ·simp only [Act.put, q1, q2, q3, i64_w, i32_w]
                rfl
               refine take_ (i := 6) (N := some 68) (v := ?_) (a' := ?_) #[true, true, true, true, true, true, true, false, true, true, true, false, false, false, false, false, false] rfl rfl (take_ofW HT_.o HW_.o (by kernel_rfl)) (fun _ _ _ h => h) (Or.inl ⟨by rfl, ?_⟩) hHeld ?_ ?_
               rotate_left
               ·rintro w' ⟨s0, s1, s2, s3, s4, s5⟩
                go_simp
                with_reducible rfl
               rotate_left
               ·simp only [Act.put, q1, q2, q3, i64_w, i32_w]
                rfl
               refine pure_ (i := 7) (N := some 69) (v := ?_) (a' := ?_) #[true, true, true, true, true, true, true, true, true, true, true, false, false, false, false, false, false] rfl rfl (any_of HT_.o (by kernel_rfl)) (fun _ _ _ h => h) (Or.inl ⟨by rfl, ?_⟩) ?_ ?_
               rotate_left
               ·intro w'
                go_simp
                with_reducible rfl
               rotate_left
               ·simp only [Act.put, q1, q2, q3, i64_w, i32_w]
                rfl
               refine take_ (i := 11) (N := some 73) (v := ?_) (a' := ?_) #[true, true, true, true, true, true, true, true, true, true, true, true, false, false, false, false, false] rfl rfl (take_ofW HT_.o HW_.o (by kernel_rfl)) (fun _ _ _ h => h) (Or.inl ⟨by rfl, ?_⟩) hHeld ?_ ?_
               rotate_left
               ·rintro w' ⟨s0, s1, s2, s3, s4, s5⟩
                go_simp
                with_reducible rfl
               rotate_left
               ·simp only [Act.put, q1, q2, q3, i64_w, i32_w]
                rfl
               refine pure_ (i := 12) (N := some 74) (v := ?_) (a' := ?_) #[true, true, true, true, true, true, true, true, true, true, true, true, true, false, false, false, false] rfl rfl (any_of HT_.o (by kernel_rfl)) (fun _ _ _ h => h) (Or.inl ⟨by rfl, ?_⟩) ?_ ?_
               rotate_left
               ·intro w'
                go_simp
                with_reducible rfl
               rotate_left
               ·simp only [Act.put, q1, q2, q3, i64_w, i32_w]
                rfl
               refine pure_ (i := 13) (N := some 75) (v := ?_) (a' := ?_) #[true, true, true, true, true, true, true, true, true, true, true, true, true, true, false, false, false] rfl rfl (any_of HT_.o (by kernel_rfl)) (fun _ _ _ h => h) (Or.inl ⟨by rfl, ?_⟩) ?_ ?_
               rotate_left
               ·intro w'
                go_simp
                with_reducible rfl
               rotate_left
               ·simp only [Act.put, q1, q2, q3, i64_w, i32_w]
                rfl
               refine one_ (i := 14) (N := some 76) #[true, true, true, true, true, true, true, true, true, true, true, true, true, true, true, false, false] rfl rfl (one_of HT_.o (by kernel_rfl)) (by decide) (fun K hK => ?_)
               refine Kd.R_append_rows_step k34 (w0 := w) w.heap.size (by rfl) (.tmp 63) (.tmp 75) 27 34 (.agg #[(.int .i64 0), (.int .i64 0)]) 16 rfl Try.underlying27 info34 rfl (by decide) (by omega) (.slice As Ad.length At) Ad Al _ _ _ (fun _ => True) (fun _ => False) rfl rfl ?aO ?aR (fun _ _ h => h) (fun _ h => h.elim) ?aF ?aB ?aS ?aL ?_
               (case aR => repeat (first | exact (Kd.C_below Bd.o HB.o) | (with_reducible refine Kd.C_alloc ?_ _) | (with_reducible refine Kd.C_drewN ?_ _) | (with_reducible refine Kd.C_drew ?_)))
               (case aB => exact (vB HB))
               (case aF => exact (fun _ _ => trivial))
               (case aO => exact (vR Am))
               (case aS => exact (below_size (vB HB)))
               (case aL => have := Bo.o; omega)
               intro EL EN ho hb hg hat
               rw [← Bq.o] at ho
               have Bb := Z.m (ho)
               replace A0 := Z.m (qg (g := Av) (o := .cells #[.int .i64 a0_0, .int .i64 a0_1, .slice A0_2 l0_2.length c0_2] 29 (0, 0)) (vK A0) hg (Kd.R_ne Am.o A0.o (by decide)))
               replace A2 := Z.m (qg (g := Aw) (o := .cells #[.int .i64 a1_0, .int .i64 a1_1, .slice A1_2 l1_2.length c1_2] 29 (0, 0)) (vK A2) hg (Kd.R_ne Am.o A2.o (by decide)))
               replace A3 := Z.m (qg (g := Ax) (o := .cells #[.int .i64 0, .int .i64 0, .slice none 0 0] 29 (0, 0)) (vK A3) hg (Kd.R_ne Am.o A3.o (by decide)))
               replace A4 := Z.m (qg (g := Ae) (o := .cells #[.int .i64 a0_0, .int .i64 (wrap64 (a0_1 + a1_1)), .slice As Ad.length At] 29 (0, 0)) (vK A4) hg (Kd.R_ne Am.o A4.o (by decide)))
               replace HB := Z.m (hb)
               clear Am
               clear ho hb hg hat
               obtain ⟨Dh, Dk, Bu⟩ := Kd.R_slice Bb.o
               (first | subst Bu | (injection Bu with f1_ f2_ f3_; have f4_ := f1_.symm; have f5_ := f3_.symm; clear f1_ f2_ f3_; subst f4_; subst f5_))
               refine hK.out _ _ ⟨(ql A4.o 0).trans rfl, (ql A4.o 1).trans rfl, (ql A4.o 2).trans rfl, (ql A2.o 0).trans rfl, (ql A2.o 1).trans rfl, (ql A2.o 2).trans rfl⟩ (fun hHeld => ?_)
               clear hK K
               refine norm_ (a' := ?_) ?_ ?_
               rotate_left
               ·show Act.put _ (some 76) _ = _
                simp only [Act.put, q1, q2, q3, i64_w, i32_w]
                rfl
               refine pure_ (i := 15) (N := some 77) (v := ?_) (a' := ?_) #[true, true, true, true, true, true, true, true, true, true, true, true, true, true, true, true, false] rfl rfl (any_of HT_.o (by kernel_rfl)) (fun _ _ _ h => h) (Or.inl ⟨by rfl, ?_⟩) ?_ ?_
               rotate_left
               ·intro w'
                go_simp
                with_reducible rfl
               rotate_left
               ·simp only [Act.put, q1, q2, q3, i64_w, i32_w]
                rfl
               refine last_ (i := 16) (N := none) #[true, true, true, true, true, true, true, true, true, true, true, true, true, true, true, true, true] rfl rfl (one_of HT_.o (by kernel_rfl)) (by decide) (fun K hK => ?_)
               have EI : EN.cell? ⟨Ae, 2, none⟩ = some (.slice As Ad.length At) := (ql A4.o 2).trans rfl
               have hfs80 := qz A4.o 2
               have De := Ab.o
               have Df := Ah.o
               have Dg := Ai.o
               have D8 := An.o
               have D9 := Ao.o
               have Da := Ap.o
               refine skip_ (w1 := ?_) ?hwx ?hnx ?_ ?_; (case hwx => rfl); (case hnx => rfl)
               rotate_left
               ·go_simp
                rfl
               refine hK.out _ _ ?_
               clear hK K
               refine done_ (done_of HT_.o (by kernel_rfl)) ?_
               try go_wp2
               go_roundg k2
               case measure => have := Dv.o; have := Dw.o; omega
               case rel => exact ⟨(wrap64 (A5 + 1)), (Bh), (.slice Dh Bh.length Dk), (by first | rfl | (simp; done) | (simp [*]; done)), H', ⟨by have := Dv.o; have := Dw.o; omega⟩, ⟨by refine rK ?_; exact Kd.Rm (rf (Kd.Ry Bb.o A4.o (by decide))) (fun _ hk => trivial)⟩, ⟨by refine bK ?_; refine qF ?_ Ab; exact A0.o⟩, ⟨by refine bK ?_; refine qF ?_ Ah; exact A2.o⟩, ⟨by refine bK ?_; refine qF ?_ Ai; exact A3.o⟩, ⟨by refine bK ?_; refine qp (cs := #[iV a0_0, iV (wrap64 (a0_1 + a1_1)), .slice As Ad.length At]) ?_ 2 _ rfl; refine bK ?_; exact A4.o⟩, ⟨vB HB⟩⟩
              ·rw [if_neg c65] at H
               exact absurd H (by simp)
             ·rw [if_neg c64] at H
              exact absurd H (by simp)
            ·rw [if_neg c63] at H
             exact absurd H (by simp)
           ·rw [if_neg c62] at H
            exact absurd H (by simp)
          ·rw [if_neg c60] at H
           exact absurd H (by simp)
         ·rw [if_neg c59] at H
          exact absurd H (by simp)
        ·rw [if_neg c58] at H
         exact absurd H (by simp)
       ·rw [if_neg c57] at H
        exact absurd H (by simp)
      ·rw [if_neg c55] at H
       have Bs := decide_eq_false c55
       clear c55
       simp only [Option.some.injEq, Prod.mk.injEq] at H
       obtain ⟨rfl, rfl, rfl, rfl⟩ := H
       have E5 := Af.o
       have Ez := Ag.o
       have E6 := Aa.o
       have EA := Ac.o
       have E7 := Ab.o
       have EB := An.o
       have C8 := bc0 A0
       have C9 := bc1 A0
       have Ca := bc2 A0
       have CW := qz A0.o 0
       have CX := qz A0.o 1
       have CY := qz A0.o 2
       have E8 := Ao.o
       have EC := Ah.o
       have E9 := Ap.o
       have ED := Ai.o
       have Cb := bc0 A4
       have Cd := bc1 A4
       have Ce := bc2 A4
       have CZ := qz A4.o 0
       have D0 := qz A4.o 1
       have D1 := qz A4.o 2
       have Ea := Ak.o
       have EE := Aj.o
       have Cf := bc0 A3
       have Cg := bc1 A3
       have Ch := bc2 A3
       have D2 := qz A3.o 0
       have D3 := qz A3.o 1
       have D4 := qz A3.o 2
       obtain ⟨Di, Dl, Dm⟩ := Kd.R_slice A6.o
       subst Dm
       go_wp2
       refine bodyPost_ret (results_ct rfl _ _ Ax 29 #[.int .i64 a0_0, .int .i64 (wrap64 (a0_1 + a1_1)), .slice Di A8.length Dl] (0, 0) _ rfl (by refine bK ?_; apply st3; refine bK ?_; exact A3.o) Try.underlying29 rfl (by kernel_rfl)) rfl ?_
       exact ⟨_, by first | rfl | (simp [eN, eS] <;> rfl) | (simp [*, eN, eS] <;> rfl), by refine rK ?_; exact Kd.Rm (rf (rf (rf (Kd.Ry A6.o A3.o (by decide))))) (fun _ hk => trivial), vB HB⟩

end Go.Proofs.Yteodcegmkbcjjaa.PAll
