/- Began as a text that print.sh wrote (of the functions named below); turned and shortened by this session. -/
import Derived.Test.YteodcegmkbcjjaaG0
import Derived.Test.YteodcegmkbcjjaaG1
import Derived.Test.YteodcegmkbcjjaaG2
import Derived.Test.YteodcegmkbcjjaaG3
import Derived.Test.YteodcegmkbcjjaaG4
namespace Go.Proofs.Yteodcegmkbcjjaa.PAll
open Go.RowKit Go.Proofs.YteodcegmkbcjjaaW.PrintWords Go.Proofs.YteodcegmkbcjjaaW.PrintLast Go.Proofs.YteodcegmkbcjjaaW.PrintMore
attribute [local go_sem] max2_int min2_int max_two min_two max_three min_three max_four min_four   -- for this text's walks alone
set_option linter.unusedVariables false
set_option linter.unusedSimpArgs false

/-! ### laws_FnExactBesideBoards: function 8 -/
mutual
def laws_FnExactBesideBoards.j0 : Nat → Bool → Bool → Bool → Int → Int → List (S46) → Int → Int → List (S46) → Int → Int → List (S34) → Int → Int → List (S34) → Int → Int → List (S34) → Int → Int → List (S34) → Option (Bool)
 | 0, _, _, _, _, _, _, _, _, _, _, _, _, _, _, _, _, _, _, _, _, _ => none
 | k + 1, x7, x11, x53, x539000, x539001, x539002, x540000, x540001, x540002, x559000, x559001, x559002, x565000, x565001, x565002, x571000, x571001, x571002, x578000, x578001, x578002 => if x53 = true then (some false) else ((laws_toBoard.f k x539000 x539001 x539002).bind fun bt579 => ((laws_eqBoard.f k x565000 x565001 x565002 bt579.1 bt579.2.1 bt579.2.2).bind fun t584 => (if t584 = true then ((laws_toBoard.f k x540000 x540001 x540002).bind fun bt585 => ((laws_eqBoard.f k x571000 x571001 x571002 bt585.1 bt585.2.1 bt585.2.2).bind fun t590 => (if t590 = true then ((laws_markBoard.f k x565000 x565001 x565002 1).bind fun bt591 => ((laws_markBoard.f k x571000 x571001 x571002 bt591.1).bind fun bt593 => (if bt593.1 < 0 then (laws_FnExactBesideBoards.j1 k x7 true x539000 x539001 x539002 x540000 x540001 x540002 x559000 x559001 x559002 x578000 x578001 x578002) else ((laws_eqBoard.f k x578000 x578001 x578002 x559000 x559001 x559002).bind fun t595 => (if t595 = true then (laws_FnExactBesideBoards.j1 k x7 (x11 != x7) x539000 x539001 x539002 x540000 x540001 x540002 x559000 x559001 x559002 x578000 x578001 x578002) else (laws_FnExactBesideBoards.j1 k x7 true x539000 x539001 x539002 x540000 x540001 x540002 x559000 x559001 x559002 x578000 x578001 x578002)))))) else (some false)))) else (some false))))
def laws_FnExactBesideBoards.j1 : Nat → Bool → Bool → Int → Int → List (S46) → Int → Int → List (S46) → Int → Int → List (S34) → Int → Int → List (S34) → Option (Bool)
 | 0, _, _, _, _, _, _, _, _, _, _, _, _, _, _ => none
 | k + 1, x7, x82, x539000, x539001, x539002, x540000, x540001, x540002, x559000, x559001, x559002, x578000, x578001, x578002 => if x82 = true then (some false) else ((laws_markBoard.f k x578000 x578001 x578002 1).bind fun bt596 => ((laws_heldBoard.f k x578000 x578001 bt596.2 1).bind fun t598 => (if t598 < 0 then (some false) else (if t598 = bt596.1 then ((laws_toBoard.f k x539000 x539001 x539002).bind fun bt599 => ((laws_toBoard.f k x540000 x540001 x540002).bind fun bt604 => ((impl_BesideBoards.f k bt599.1 bt599.2.1 bt599.2.2 bt604.1 bt604.2.1 bt604.2.2).bind fun bt609 => ((laws_eqBoard.f k bt609.1 bt609.2.1 bt609.2.2.1 x559000 x559001 x559002).bind fun t616 => (if t616 = true then (laws_FnExactBesideBoards.j2 k bt596.1 (bt609.2.2.2 != x7) x578000 x578001 bt596.2) else (laws_FnExactBesideBoards.j2 k bt596.1 true x578000 x578001 bt596.2)))))) else (some false)))))
def laws_FnExactBesideBoards.j2 : Nat → Int → Bool → Int → Int → List (S34) → Option (Bool)
 | 0, _, _, _, _, _ => none
 | k + 1, x13, x110, x578000, x578001, x578002 => if x110 = true then (some false) else ((laws_heldBoard.f k x578000 x578001 x578002 1).bind fun t617 => (if t617 < 0 then (some false) else (if t617 = x13 then (some true) else (some false))))
end
def laws_FnExactBesideBoards.f (k : Nat) (a0_0 : Int) (a0_1 : Int) (l0_2 : List (S46)) (a1_0 : Int) (a1_1 : Int) (l1_2 : List (S46)) : Option (Bool) := (laws_szBoard.f a0_0 a0_1 l0_2 1048576).bind fun t540 => (if t540 < 0 then (some true) else ((laws_szBoard.f a1_0 a1_1 l1_2 t540).bind fun t541 => (if t541 < 0 then (some true) else ((laws_toBoard.f k a0_0 a0_1 l0_2).bind fun bt542 => ((laws_toBoard.f k a1_0 a1_1 l1_2).bind fun bt547 => ((spec_BesideBoards.f k bt542.1 bt542.2.1 bt542.2.2 bt547.1 bt547.2.1 bt547.2.2).bind fun bt552 => ((laws_toBoard.f k a0_0 a0_1 l0_2).bind fun bt559 => ((laws_toBoard.f k a1_0 a1_1 l1_2).bind fun bt565 => ((impl_BesideBoards.f k bt559.1 bt559.2.1 bt559.2.2 bt565.1 bt565.2.1 bt565.2.2).bind fun bt571 => ((laws_eqBoard.f k bt571.1 bt571.2.1 bt571.2.2.1 bt552.1 bt552.2.1 bt552.2.2.1).bind fun t578 => (if t578 = true then (laws_FnExactBesideBoards.j0 k bt552.2.2.2 bt571.2.2.2 (bt571.2.2.2 != bt552.2.2.2) a0_0 a0_1 l0_2 a1_0 a1_1 l1_2 bt552.1 bt552.2.1 bt552.2.2.1 bt559.1 bt559.2.1 bt559.2.2 bt565.1 bt565.2.1 bt565.2.2 bt571.1 bt571.2.1 bt571.2.2.1) else (laws_FnExactBesideBoards.j0 k bt552.2.2.2 bt571.2.2.2 true a0_0 a0_1 l0_2 a1_0 a1_1 l1_2 bt552.1 bt552.2.1 bt552.2.2.1 bt559.1 bt559.2.1 bt559.2.2 bt565.1 bt565.2.1 bt565.2.2 bt571.1 bt571.2.1 bt571.2.2.1))))))))))))
def laws_FnExactBesideBoards.T8 : Bool × List (List Nat × List Nat) := (true, [([], []), ([0], [0]), ([], []), ([2, 1], [2]), ([1, 3, 3], [1, 3]), ([4], [4]), ([5], [5]), ([5], [5]), ([], []), ([8, 6, 4, 0, 1, 2, 3, 4, 5, 6, 8], [6, 8]), ([7, 9, 0, 1, 2, 3, 4, 5, 6, 7, 8, 9], [7])])
def laws_FnExactBesideBoards.B8 : List Nat := [0, 1, 0, 7, 15, 31, 63, 63, 0, 383, 1023]
theorem laws_FnExactBesideBoards.tab8 : rtab .any (opsOf Try.f8 8) = laws_FnExactBesideBoards.T8 := by kernel_rfl
theorem laws_FnExactBesideBoards.bits8 : waitsOk laws_FnExactBesideBoards.T8.2 laws_FnExactBesideBoards.B8 = true := by kernel_rfl
def laws_FnExactBesideBoards.T31 : Bool × List (List Nat × List Nat) := (true, [([], []), ([0], [0]), ([], []), ([2, 1], [2]), ([1, 3, 3], [1, 3]), ([4], [4]), ([5], [5]), ([5], [5]), ([], []), ([8, 6, 4, 0, 1, 2, 3, 4, 5, 6, 8], [6, 8]), ([7, 9, 0, 1, 2, 3, 4, 5, 6, 7, 8, 9], [7])])
def laws_FnExactBesideBoards.B31 : List Nat := [0, 1, 0, 7, 15, 31, 63, 63, 0, 383, 1023]
theorem laws_FnExactBesideBoards.tab31 : rtab .any (opsOf Try.f8 31) = laws_FnExactBesideBoards.T31 := by kernel_rfl
theorem laws_FnExactBesideBoards.bits31 : waitsOk laws_FnExactBesideBoards.T31.2 laws_FnExactBesideBoards.B31 = true := by kernel_rfl
theorem laws_FnExactBesideBoards.bad_j0 (k : Nat) (y0 : Bool) (y1 : Bool) (y3 : Int) (y4 : Int) (y5 : List (S46)) (y6 : Int) (y7 : Int) (y8 : List (S46)) (y9 : Int) (y10 : Int) (y11 : List (S34)) (y12 : Int) (y13 : Int) (y14 : List (S34)) (y15 : Int) (y16 : Int) (y17 : List (S34)) (y18 : Int) (y19 : Int) (y20 : List (S34)) : ¬ laws_FnExactBesideBoards.j0 k y0 y1 true y3 y4 y5 y6 y7 y8 y9 y10 y11 y12 y13 y14 y15 y16 y17 y18 y19 y20 = some true := by
 cases k <;> simp [laws_FnExactBesideBoards.j0]
theorem laws_FnExactBesideBoards.bad_j1 (k : Nat) (y0 : Bool) (y2 : Int) (y3 : Int) (y4 : List (S46)) (y5 : Int) (y6 : Int) (y7 : List (S46)) (y8 : Int) (y9 : Int) (y10 : List (S34)) (y11 : Int) (y12 : Int) (y13 : List (S34)) : ¬ laws_FnExactBesideBoards.j1 k y0 true y2 y3 y4 y5 y6 y7 y8 y9 y10 y11 y12 y13 = some true := by
 cases k <;> simp [laws_FnExactBesideBoards.j1]
theorem laws_FnExactBesideBoards.bad_j2 (k : Nat) (y0 : Int) (y2 : Int) (y3 : Int) (y4 : List (S34)) : ¬ laws_FnExactBesideBoards.j2 k y0 true y2 y3 y4 = some true := by
 cases k <;> simp [laws_FnExactBesideBoards.j2]
set_option maxHeartbeats 8000000 in
set_option maxRecDepth 100000 in
theorem laws_FnExactBesideBoards.calls (k : Nat) (a0_0 : Int) (a0_1 : Int) (A0_2 : Option Addr) (c0_2 : Nat) (l0_2 : List (S46)) (a1_0 : Int) (a1_1 : Int) (A1_2 : Option Addr) (c1_2 : Nat) (l1_2 : List (S46)) (w : World) (hr0_2 : Kd.C k46 w A0_2 l0_2.length l0_2) (hc0_2 : l0_2.length ≤ c0_2) (hr1_2 : Kd.C k46 w A1_2 l1_2.length l1_2) (hc1_2 : l1_2.length ≤ c1_2) (h : laws_FnExactBesideBoards.f k a0_0 a0_1 l0_2 a1_0 a1_1 l1_2 = some true) :
 Calls Try.prog 8 #[.agg #[.int .i64 a0_0, .int .i64 a0_1, .slice A0_2 l0_2.length c0_2], .agg #[.int .i64 a1_0, .int .i64 a1_1, .slice A1_2 l1_2.length c1_2]] w fun e w' => e = .returned (.bool true) ∧ Below w.heap.size w w' := by
 have KD := Try.underlying24
 have KE := Try.underlying29
 have BQ := Z.m hr0_2
 have BP := Z.m hc0_2
 clear hr0_2 hc0_2
 have BJ := Z.m hr1_2
 have BI := Z.m hc1_2
 clear hr1_2 hc1_2
 have HB := Z.m (Below.refl w.heap.size w)
 have H : ((laws_szBoard.f a0_0 a0_1 l0_2 1048576).bind fun C1 => (if C1 < 0 then (some true) else ((laws_szBoard.f a1_0 a1_1 l1_2 C1).bind fun CN => (if CN < 0 then (some true) else ((laws_toBoard.f k a0_0 a0_1 l0_2).bind fun bt542 => ((laws_toBoard.f k a1_0 a1_1 l1_2).bind fun bt547 => ((spec_BesideBoards.f k bt542.1 bt542.2.1 bt542.2.2 bt547.1 bt547.2.1 bt547.2.2).bind fun bt552 => ((laws_toBoard.f k a0_0 a0_1 l0_2).bind fun bt559 => ((laws_toBoard.f k a1_0 a1_1 l1_2).bind fun bt565 => ((impl_BesideBoards.f k bt559.1 bt559.2.1 bt559.2.2 bt565.1 bt565.2.1 bt565.2.2).bind fun bt571 => ((laws_eqBoard.f k bt571.1 bt571.2.1 bt571.2.2.1 bt552.1 bt552.2.1 bt552.2.2.1).bind fun Bv => (if Bv = true then (laws_FnExactBesideBoards.j0 k bt552.2.2.2 bt571.2.2.2 (bt571.2.2.2 != bt552.2.2.2) a0_0 a0_1 l0_2 a1_0 a1_1 l1_2 bt552.1 bt552.2.1 bt552.2.2.1 bt559.1 bt559.2.1 bt559.2.2 bt565.1 bt565.2.1 bt565.2.2 bt571.1 bt571.2.1 bt571.2.2.1) else (laws_FnExactBesideBoards.j0 k bt552.2.2.2 bt571.2.2.2 true a0_0 a0_1 l0_2 a1_0 a1_1 l1_2 bt552.1 bt552.2.1 bt552.2.2.1 bt559.1 bt559.2.1 bt559.2.2 bt565.1 bt565.2.1 bt565.2.2 bt571.1 bt571.2.1 bt571.2.2.1))))))))))))) = some true := h
 clear h
 replace H := Option.bind_eq_some_iff.mp H
 obtain ⟨C1, Jy, H⟩ := H
 replace H : (if C1 < 0 then (some true) else ((laws_szBoard.f a1_0 a1_1 l1_2 C1).bind fun CN => (if CN < 0 then (some true) else ((laws_toBoard.f k a0_0 a0_1 l0_2).bind fun bt542 => ((laws_toBoard.f k a1_0 a1_1 l1_2).bind fun bt547 => ((spec_BesideBoards.f k bt542.1 bt542.2.1 bt542.2.2 bt547.1 bt547.2.1 bt547.2.2).bind fun bt552 => ((laws_toBoard.f k a0_0 a0_1 l0_2).bind fun bt559 => ((laws_toBoard.f k a1_0 a1_1 l1_2).bind fun bt565 => ((impl_BesideBoards.f k bt559.1 bt559.2.1 bt559.2.2 bt565.1 bt565.2.1 bt565.2.2).bind fun bt571 => ((laws_eqBoard.f k bt571.1 bt571.2.1 bt571.2.2.1 bt552.1 bt552.2.1 bt552.2.2.1).bind fun Bv => (if Bv = true then (laws_FnExactBesideBoards.j0 k bt552.2.2.2 bt571.2.2.2 (bt571.2.2.2 != bt552.2.2.2) a0_0 a0_1 l0_2 a1_0 a1_1 l1_2 bt552.1 bt552.2.1 bt552.2.2.1 bt559.1 bt559.2.1 bt559.2.2 bt565.1 bt565.2.1 bt565.2.2 bt571.1 bt571.2.1 bt571.2.2.1) else (laws_FnExactBesideBoards.j0 k bt552.2.2.2 bt571.2.2.2 true a0_0 a0_1 l0_2 a1_0 a1_1 l1_2 bt552.1 bt552.2.1 bt552.2.2.1 bt559.1 bt559.2.1 bt559.2.2 bt565.1 bt565.2.1 bt565.2.2 bt571.1 bt571.2.1 bt571.2.2.1)))))))))))) = some true := H
 have A3 := Z.m Jy
 clear Jy
 by_cases c4 : C1 < 0
 ·rw [if_pos c4] at H
  have GX := decide_eq_true c4
  clear c4
  clear H
  go_enter Try.func8, Try.ntmps8
  go_wp2_with (first | ((with_reducible refine gq (N := 2) rfl ?_); refine be (N := 2) (cs := #[.int .i64 a0_0, .int .i64 a0_1, .slice A0_2 l0_2.length c0_2]) (t := 24) ?_; intro Au hg w5 hbox hb; have A0 := Z.m (hbox); have CJ := gW (w := w) HB hg; have CH := CJ; replace HB := bB HB hb; clear hb hbox hg) | ((with_reducible refine gq (N := 3) rfl ?_); refine be (N := 3) (cs := #[.int .i64 a1_0, .int .i64 a1_1, .slice A1_2 l1_2.length c1_2]) (t := 24) ?_; intro Av hg w6 hbox hb; have A1 := Z.m (hbox); have CK := gW (w := w) HB hg; have CI := CK; have Bp := neL A0 hg; have Bq := neG A0 hg; replace A0 := kB A0 hb; replace HB := bB HB hb; clear hb hbox hg; have Ky := Bp.o; have Kz := Bq.o; have H2 := bc0 A0; have H3 := bc1 A0; have H4 := bc2 A0; have H5 := qz A0.o 0; have H6 := qz A0.o 1; have H7 := qz A0.o 2) | ((with_reducible refine gc (f := 15) rfl ?_); refine gA (some 19) _ #[.agg #[.int .i64 a0_0, .int .i64 a0_1, .slice A0_2 l0_2.length c0_2], .int .i64 1048576] ?_ Try.func15; (with_reducible refine (laws_szBoard.calls a0_0 a0_1 _ _ l0_2 1048576 C1 _ ?side1 ?side2 A3.o).mono ?_); (case side1 => repeat (first | exact (Kd.C_below BQ.o HB.o) | (with_reducible refine Kd.C_alloc ?_ _) | (with_reducible refine Kd.C_drewN ?_ _) | (with_reducible refine Kd.C_drew ?_))); (case side2 => exact BP.o); rintro e w9 ⟨rfl, hb⟩; refine ⟨_, rfl, ?_⟩; replace A0 := kB A0 hb; replace A1 := kB A1 hb; replace HB := bB HB hb; (try clear hb); (try clear CS); (try clear hk); (try clear hi)))
  go_ret
  exact ⟨by first | rfl | (simp [eN, eS] <;> rfl) | (simp [*, eN, eS] <;> rfl), vB HB⟩
 ·rw [if_neg c4] at H
  have GX := decide_eq_false c4
  clear c4
  replace H := Option.bind_eq_some_iff.mp H
  obtain ⟨CN, Eh, H⟩ := H
  replace H : (if CN < 0 then (some true) else ((laws_toBoard.f k a0_0 a0_1 l0_2).bind fun bt542 => ((laws_toBoard.f k a1_0 a1_1 l1_2).bind fun bt547 => ((spec_BesideBoards.f k bt542.1 bt542.2.1 bt542.2.2 bt547.1 bt547.2.1 bt547.2.2).bind fun bt552 => ((laws_toBoard.f k a0_0 a0_1 l0_2).bind fun bt559 => ((laws_toBoard.f k a1_0 a1_1 l1_2).bind fun bt565 => ((impl_BesideBoards.f k bt559.1 bt559.2.1 bt559.2.2 bt565.1 bt565.2.1 bt565.2.2).bind fun bt571 => ((laws_eqBoard.f k bt571.1 bt571.2.1 bt571.2.2.1 bt552.1 bt552.2.1 bt552.2.2.1).bind fun Bv => (if Bv = true then (laws_FnExactBesideBoards.j0 k bt552.2.2.2 bt571.2.2.2 (bt571.2.2.2 != bt552.2.2.2) a0_0 a0_1 l0_2 a1_0 a1_1 l1_2 bt552.1 bt552.2.1 bt552.2.2.1 bt559.1 bt559.2.1 bt559.2.2 bt565.1 bt565.2.1 bt565.2.2 bt571.1 bt571.2.1 bt571.2.2.1) else (laws_FnExactBesideBoards.j0 k bt552.2.2.2 bt571.2.2.2 true a0_0 a0_1 l0_2 a1_0 a1_1 l1_2 bt552.1 bt552.2.1 bt552.2.2.1 bt559.1 bt559.2.1 bt559.2.2 bt565.1 bt565.2.1 bt565.2.2 bt571.1 bt571.2.1 bt571.2.2.1)))))))))) = some true := H
  have Jw := Z.m Eh
  clear Eh
  by_cases c11 : CN < 0
  ·rw [if_pos c11] at H
   have Ex := decide_eq_true c11
   clear c11
   clear H
   go_enter Try.func8, Try.ntmps8
   go_wp2_with (first | ((with_reducible refine gq (N := 2) rfl ?_); refine be (N := 2) (cs := #[.int .i64 a0_0, .int .i64 a0_1, .slice A0_2 l0_2.length c0_2]) (t := 24) ?_; intro Au hg KZ hbox hb; have A0 := Z.m (hbox); have CJ := gW (w := w) HB hg; have CH := CJ; replace HB := bB HB hb; clear hb hbox hg) | ((with_reducible refine gq (N := 3) rfl ?_); refine be (N := 3) (cs := #[.int .i64 a1_0, .int .i64 a1_1, .slice A1_2 l1_2.length c1_2]) (t := 24) ?_; intro Av hg L0 hbox hb; have A1 := Z.m (hbox); have CK := gW (w := w) HB hg; have CI := CK; have Bp := neL A0 hg; have Bq := neG A0 hg; replace A0 := kB A0 hb; replace HB := bB HB hb; clear hb hbox hg; have JA := Bp.o; have JZ := Bq.o; have FV := bc0 A0; have FW := bc1 A0; have FX := bc2 A0; have Gd := qz A0.o 0; have Ge := qz A0.o 1; have Gf := qz A0.o 2) | ((with_reducible refine gc (f := 15) rfl ?_); refine gA (some 19) _ #[.agg #[.int .i64 a0_0, .int .i64 a0_1, .slice A0_2 l0_2.length c0_2], .int .i64 1048576] ?_ Try.func15; (with_reducible refine (laws_szBoard.calls a0_0 a0_1 _ _ l0_2 1048576 C1 _ ?side1 ?side2 A3.o).mono ?_); (case side1 => repeat (first | exact (Kd.C_below BQ.o HB.o) | (with_reducible refine Kd.C_alloc ?_ _) | (with_reducible refine Kd.C_drewN ?_ _) | (with_reducible refine Kd.C_drew ?_))); (case side2 => exact BP.o); rintro e L1 ⟨rfl, hb⟩; refine ⟨_, rfl, ?_⟩; replace A0 := kB A0 hb; replace A1 := kB A1 hb; replace HB := bB HB hb; (try clear hb); (try clear CS); (try clear hk); (try clear hi); have FY := bc0 A1; have FZ := bc1 A1; have G0 := bc2 A1; have Gg := qz A1.o 0; have Gh := qz A1.o 1; have Gi := qz A1.o 2) | ((with_reducible refine gc (f := 15) rfl ?_); refine gA (some 24) _ #[.agg #[.int .i64 a1_0, .int .i64 a1_1, .slice A1_2 l1_2.length c1_2], .int .i64 C1] ?_ Try.func15; (with_reducible refine (laws_szBoard.calls a1_0 a1_1 _ _ l1_2 C1 CN _ ?side1 ?side2 Jw.o).mono ?_); (case side1 => repeat (first | exact (Kd.C_below BJ.o HB.o) | (with_reducible refine Kd.C_alloc ?_ _) | (with_reducible refine Kd.C_drewN ?_ _) | (with_reducible refine Kd.C_drew ?_))); (case side2 => exact BI.o); rintro e L2 ⟨rfl, hb⟩; refine ⟨_, rfl, ?_⟩; replace A0 := kB A0 hb; replace A1 := kB A1 hb; replace HB := bB HB hb; (try clear hb); (try clear CS); (try clear hk); (try clear hi)))
   go_ret
   exact ⟨by first | rfl | (simp [eN, eS] <;> rfl) | (simp [*, eN, eS] <;> rfl), vB HB⟩
  ·rw [if_neg c11] at H
   have Ex := decide_eq_false c11
   clear c11
   replace H := Option.bind_eq_some_iff.mp H
   obtain ⟨⟨C2, C3, By⟩, Ej, H⟩ := H
   replace H : ((laws_toBoard.f k a1_0 a1_1 l1_2).bind fun bt547 => ((spec_BesideBoards.f k C2 C3 By bt547.1 bt547.2.1 bt547.2.2).bind fun bt552 => ((laws_toBoard.f k a0_0 a0_1 l0_2).bind fun bt559 => ((laws_toBoard.f k a1_0 a1_1 l1_2).bind fun bt565 => ((impl_BesideBoards.f k bt559.1 bt559.2.1 bt559.2.2 bt565.1 bt565.2.1 bt565.2.2).bind fun bt571 => ((laws_eqBoard.f k bt571.1 bt571.2.1 bt571.2.2.1 bt552.1 bt552.2.1 bt552.2.2.1).bind fun Bv => (if Bv = true then (laws_FnExactBesideBoards.j0 k bt552.2.2.2 bt571.2.2.2 (bt571.2.2.2 != bt552.2.2.2) a0_0 a0_1 l0_2 a1_0 a1_1 l1_2 bt552.1 bt552.2.1 bt552.2.2.1 bt559.1 bt559.2.1 bt559.2.2 bt565.1 bt565.2.1 bt565.2.2 bt571.1 bt571.2.1 bt571.2.2.1) else (laws_FnExactBesideBoards.j0 k bt552.2.2.2 bt571.2.2.2 true a0_0 a0_1 l0_2 a1_0 a1_1 l1_2 bt552.1 bt552.2.1 bt552.2.2.1 bt559.1 bt559.2.1 bt559.2.2 bt565.1 bt565.2.1 bt565.2.2 bt571.1 bt571.2.1 bt571.2.2.1)))))))) = some true := H
   have Jx := Z.m Ej
   clear Ej
   replace H := Option.bind_eq_some_iff.mp H
   obtain ⟨⟨C4, C5, Bz⟩, Ek, H⟩ := H
   replace H : ((spec_BesideBoards.f k C2 C3 By C4 C5 Bz).bind fun bt552 => ((laws_toBoard.f k a0_0 a0_1 l0_2).bind fun bt559 => ((laws_toBoard.f k a1_0 a1_1 l1_2).bind fun bt565 => ((impl_BesideBoards.f k bt559.1 bt559.2.1 bt559.2.2 bt565.1 bt565.2.1 bt565.2.2).bind fun bt571 => ((laws_eqBoard.f k bt571.1 bt571.2.1 bt571.2.2.1 bt552.1 bt552.2.1 bt552.2.2.1).bind fun Bv => (if Bv = true then (laws_FnExactBesideBoards.j0 k bt552.2.2.2 bt571.2.2.2 (bt571.2.2.2 != bt552.2.2.2) a0_0 a0_1 l0_2 a1_0 a1_1 l1_2 bt552.1 bt552.2.1 bt552.2.2.1 bt559.1 bt559.2.1 bt559.2.2 bt565.1 bt565.2.1 bt565.2.2 bt571.1 bt571.2.1 bt571.2.2.1) else (laws_FnExactBesideBoards.j0 k bt552.2.2.2 bt571.2.2.2 true a0_0 a0_1 l0_2 a1_0 a1_1 l1_2 bt552.1 bt552.2.1 bt552.2.2.1 bt559.1 bt559.2.1 bt559.2.2 bt565.1 bt565.2.1 bt565.2.2 bt571.1 bt571.2.1 bt571.2.2.1))))))) = some true := H
   have GR := Z.m Ek
   clear Ek
   replace H := Option.bind_eq_some_iff.mp H
   obtain ⟨⟨Ai, Aj, Ab, Ap⟩, El, H⟩ := H
   replace H : ((laws_toBoard.f k a0_0 a0_1 l0_2).bind fun bt559 => ((laws_toBoard.f k a1_0 a1_1 l1_2).bind fun bt565 => ((impl_BesideBoards.f k bt559.1 bt559.2.1 bt559.2.2 bt565.1 bt565.2.1 bt565.2.2).bind fun bt571 => ((laws_eqBoard.f k bt571.1 bt571.2.1 bt571.2.2.1 Ai Aj Ab).bind fun Bv => (if Bv = true then (laws_FnExactBesideBoards.j0 k Ap bt571.2.2.2 (bt571.2.2.2 != Ap) a0_0 a0_1 l0_2 a1_0 a1_1 l1_2 Ai Aj Ab bt559.1 bt559.2.1 bt559.2.2 bt565.1 bt565.2.1 bt565.2.2 bt571.1 bt571.2.1 bt571.2.2.1) else (laws_FnExactBesideBoards.j0 k Ap bt571.2.2.2 true a0_0 a0_1 l0_2 a1_0 a1_1 l1_2 Ai Aj Ab bt559.1 bt559.2.1 bt559.2.2 bt565.1 bt565.2.1 bt565.2.2 bt571.1 bt571.2.1 bt571.2.2.1)))))) = some true := H
   have FU := Z.m El
   clear El
   replace H := Option.bind_eq_some_iff.mp H
   obtain ⟨⟨AW, AX, Az⟩, Em, H⟩ := H
   replace H : ((laws_toBoard.f k a1_0 a1_1 l1_2).bind fun bt565 => ((impl_BesideBoards.f k AW AX Az bt565.1 bt565.2.1 bt565.2.2).bind fun bt571 => ((laws_eqBoard.f k bt571.1 bt571.2.1 bt571.2.2.1 Ai Aj Ab).bind fun Bv => (if Bv = true then (laws_FnExactBesideBoards.j0 k Ap bt571.2.2.2 (bt571.2.2.2 != Ap) a0_0 a0_1 l0_2 a1_0 a1_1 l1_2 Ai Aj Ab AW AX Az bt565.1 bt565.2.1 bt565.2.2 bt571.1 bt571.2.1 bt571.2.2.1) else (laws_FnExactBesideBoards.j0 k Ap bt571.2.2.2 true a0_0 a0_1 l0_2 a1_0 a1_1 l1_2 Ai Aj Ab AW AX Az bt565.1 bt565.2.1 bt565.2.2 bt571.1 bt571.2.1 bt571.2.2.1))))) = some true := H
   have Ku := Z.m Em
   clear Em
   replace H := Option.bind_eq_some_iff.mp H
   obtain ⟨⟨AY, AZ, AA⟩, En, H⟩ := H
   replace H : ((impl_BesideBoards.f k AW AX Az AY AZ AA).bind fun bt571 => ((laws_eqBoard.f k bt571.1 bt571.2.1 bt571.2.2.1 Ai Aj Ab).bind fun Bv => (if Bv = true then (laws_FnExactBesideBoards.j0 k Ap bt571.2.2.2 (bt571.2.2.2 != Ap) a0_0 a0_1 l0_2 a1_0 a1_1 l1_2 Ai Aj Ab AW AX Az AY AZ AA bt571.1 bt571.2.1 bt571.2.2.1) else (laws_FnExactBesideBoards.j0 k Ap bt571.2.2.2 true a0_0 a0_1 l0_2 a1_0 a1_1 l1_2 Ai Aj Ab AW AX Az AY AZ AA bt571.1 bt571.2.1 bt571.2.2.1)))) = some true := H
   have Kv := Z.m En
   clear En
   replace H := Option.bind_eq_some_iff.mp H
   obtain ⟨⟨Ak, Al, Ae, Bm⟩, Eo, H⟩ := H
   replace H : ((laws_eqBoard.f k Ak Al Ae Ai Aj Ab).bind fun Bv => (if Bv = true then (laws_FnExactBesideBoards.j0 k Ap Bm (Bm != Ap) a0_0 a0_1 l0_2 a1_0 a1_1 l1_2 Ai Aj Ab AW AX Az AY AZ AA Ak Al Ae) else (laws_FnExactBesideBoards.j0 k Ap Bm true a0_0 a0_1 l0_2 a1_0 a1_1 l1_2 Ai Aj Ab AW AX Az AY AZ AA Ak Al Ae))) = some true := H
   have Kw := Z.m Eo
   clear Eo
   have Ed := Z.m H
   clear H
   go_enter Try.func8, Try.ntmps8
   try go_wp2_with (first | ((with_reducible refine gq (N := 2) rfl ?_); refine be (N := 2) (cs := #[.int .i64 a0_0, .int .i64 a0_1, .slice A0_2 l0_2.length c0_2]) (t := 24) ?_; intro Au hg L3 hbox hb; have A0 := Z.m (hbox); have CJ := gW (w := w) HB hg; have CH := CJ; replace HB := bB HB hb; clear hb hbox hg) | ((with_reducible refine gq (N := 3) rfl ?_); refine be (N := 3) (cs := #[.int .i64 a1_0, .int .i64 a1_1, .slice A1_2 l1_2.length c1_2]) (t := 24) ?_; intro Av hg L4 hbox hb; have A1 := Z.m (hbox); have CK := gW (w := w) HB hg; have CI := CK; have Bp := neL A0 hg; have Bq := neG A0 hg; replace A0 := kB A0 hb; replace HB := bB HB hb; clear hb hbox hg; have JB := Bp.o; have K0 := Bq.o; have G1 := bc0 A0; have G2 := bc1 A0; have G3 := bc2 A0; have Gj := qz A0.o 0; have Gk := qz A0.o 1; have Gl := qz A0.o 2) | ((with_reducible refine gc (f := 15) rfl ?_); refine gA (some 19) _ #[.agg #[.int .i64 a0_0, .int .i64 a0_1, .slice A0_2 l0_2.length c0_2], .int .i64 1048576] ?_ Try.func15; (with_reducible refine (laws_szBoard.calls a0_0 a0_1 _ _ l0_2 1048576 C1 _ ?side1 ?side2 A3.o).mono ?_); (case side1 => repeat (first | exact (Kd.C_below BQ.o HB.o) | (with_reducible refine Kd.C_alloc ?_ _) | (with_reducible refine Kd.C_drewN ?_ _) | (with_reducible refine Kd.C_drew ?_))); (case side2 => exact BP.o); rintro e L5 ⟨rfl, hb⟩; refine ⟨_, rfl, ?_⟩; replace A0 := kB A0 hb; replace A1 := kB A1 hb; replace HB := bB HB hb; (try clear hb); (try clear CS); (try clear hk); (try clear hi); have G4 := bc0 A1; have G5 := bc1 A1; have G6 := bc2 A1; have Gm := qz A1.o 0; have Gn := qz A1.o 1; have Go := qz A1.o 2) | ((with_reducible refine gc (f := 15) rfl ?_); refine gA (some 24) _ #[.agg #[.int .i64 a1_0, .int .i64 a1_1, .slice A1_2 l1_2.length c1_2], .int .i64 C1] ?_ Try.func15; (with_reducible refine (laws_szBoard.calls a1_0 a1_1 _ _ l1_2 C1 CN _ ?side1 ?side2 Jw.o).mono ?_); (case side1 => repeat (first | exact (Kd.C_below BJ.o HB.o) | (with_reducible refine Kd.C_alloc ?_ _) | (with_reducible refine Kd.C_drewN ?_ _) | (with_reducible refine Kd.C_drew ?_))); (case side2 => exact BI.o); rintro e KX ⟨rfl, hb⟩; refine ⟨_, rfl, ?_⟩; replace A0 := kB A0 hb; replace A1 := kB A1 hb; replace HB := bB HB hb; (try clear hb); (try clear CS); (try clear hk); (try clear hi)))
   replace A0 := Z.m (blk_drew A0.o)
   replace A1 := Z.m (blk_drew A1.o)
   replace HB := Z.m (qd HB.o)
   refine start_ (n := 11) (S := fun w' => w'.cell? ⟨Au, 0, none⟩ = some (.int .i64 a0_0) ∧ w'.cell? ⟨Au, 1, none⟩ = some (.int .i64 a0_1) ∧ w'.cell? ⟨Au, 2, none⟩ = some (.slice A0_2 l0_2.length c0_2) ∧ w'.cell? ⟨Av, 0, none⟩ = some (.int .i64 a1_0) ∧ w'.cell? ⟨Av, 1, none⟩ = some (.int .i64 a1_1) ∧ w'.cell? ⟨Av, 2, none⟩ = some (.slice A1_2 l1_2.length c1_2)) (ds := []) #[false, false, false, false, false, false, false, false, false, false, false] (by kernel_rfl) rfl rfl ⟨(ql A0.o 0).trans rfl, (ql A0.o 1).trans rfl, (ql A0.o 2).trans rfl, (ql A1.o 0).trans rfl, (ql A1.o 1).trans rfl, (ql A1.o 2).trans rfl⟩ (fun hHeld => ?_); refine with_tabW laws_FnExactBesideBoards.tab8 laws_FnExactBesideBoards.bits8 (fun HT_ HW_ => ?_)
   generalize KX.drew = L6 at A0 A1 HB hHeld ⊢
   refine take_ (i := 0) (N := some 28) (v := ?_) (a' := ?_) #[true, false, false, false, false, false, false, false, false, false, false] rfl rfl (take_ofW HT_.o HW_.o (by kernel_rfl)) (fun _ _ _ h => h) (Or.inl ⟨by rfl, ?_⟩) hHeld ?_ ?_
   rotate_left
   ·rintro w' ⟨s0, s1, s2, s3, s4, s5⟩
    go_simp
    with_reducible rfl
   rotate_left
   ·simp only [Act.put, q1, q2, q3, i64_w, i32_w]
    rfl
   refine take_ (i := 2) (N := some 30) (v := ?_) (a' := ?_) #[true, false, true, false, false, false, false, false, false, false, false] rfl rfl (take_ofW HT_.o HW_.o (by kernel_rfl)) (fun _ _ _ h => h) (Or.inl ⟨by rfl, ?_⟩) hHeld ?_ ?_
   rotate_left
   ·rintro w' ⟨s0, s1, s2, s3, s4, s5⟩
    go_simp
    with_reducible rfl
   rotate_left
   ·simp only [Act.put, q1, q2, q3, i64_w, i32_w]
    rfl
   refine join_ (σ := Value × Value × Value × Nat) 2 #[true, true, true, true, true, true, true, true, true, false, false] (fun s_ => [(29, .agg #[.int .i64 C2, .int .i64 C3, s_.1]), (31, .agg #[.int .i64 C4, .int .i64 C5, s_.2.1]), (32, .tuple #[.agg #[.int .i64 Ai, .int .i64 Aj, s_.2.2.1], .bool Ap]), (6, .pointer (some ⟨s_.2.2.2, 0, none⟩)), (27, .tuple #[.agg #[.int .i64 Ai, .int .i64 Aj, s_.2.2.1], .bool Ap]), (33, .agg #[.int .i64 Ai, .int .i64 Aj, s_.2.2.1]), (34, .bool Ap)]) (fun s_ w' => (w'.cell? ⟨Au, 0, none⟩ = some (.int .i64 a0_0) ∧ w'.cell? ⟨Au, 1, none⟩ = some (.int .i64 a0_1) ∧ w'.cell? ⟨Au, 2, none⟩ = some (.slice A0_2 l0_2.length c0_2) ∧ w'.cell? ⟨Av, 0, none⟩ = some (.int .i64 a1_0) ∧ w'.cell? ⟨Av, 1, none⟩ = some (.int .i64 a1_1) ∧ w'.cell? ⟨Av, 2, none⟩ = some (.slice A1_2 l1_2.length c1_2)) ∧ (Kd.R k34 34 w' w.heap.size (fun k_ => some k_ ≠ (s_.2.1 : Value).ownBlock ∧ some k_ ≠ (s_.2.2.1 : Value).ownBlock) s_.1 By) ∧ (Kd.R k34 34 w' w.heap.size (fun k_ => some k_ ≠ (s_.1 : Value).ownBlock ∧ some k_ ≠ (s_.2.2.1 : Value).ownBlock) s_.2.1 Bz) ∧ (Kd.R k34 34 w' w.heap.size (fun k_ => some k_ ≠ (s_.1 : Value).ownBlock ∧ some k_ ≠ (s_.2.1 : Value).ownBlock) s_.2.2.1 Ab) ∧ (w'.heap[Au]? = some (.cells #[.int .i64 a0_0, .int .i64 a0_1, .slice A0_2 l0_2.length c0_2] 24 (0, 0))) ∧ (w'.heap[Av]? = some (.cells #[.int .i64 a1_0, .int .i64 a1_1, .slice A1_2 l1_2.length c1_2] 24 (0, 0))) ∧ (w'.heap[s_.2.2.2]? = some (.cells #[.int .i64 0, .int .i64 0, .slice none 0 0] 29 (0, 0))) ∧ (w.heap.size ≤ s_.2.2.2) ∧ (w.heap.size ≤ s_.2.2.2) ∧ (Au ≠ s_.2.2.2) ∧ (s_.2.2.2 ≠ Au) ∧ (Av ≠ s_.2.2.2) ∧ (s_.2.2.2 ≠ Av) ∧ (Below w.heap.size w w')) ?_ ?_
   rotate_left
   ·intro hCont
    refine two_ (i := 1) (j := 8) (Ni := some 29) (Nj := some 6) #[true, true, true, false, false, false, false, false, false, false, false] #[true, false, true, false, false, false, false, false, true, false, false] rfl rfl rfl rfl (two_of HT_.o (by kernel_rfl)) (by decide) (by decide) (fun K hK => ?_) (fun K hK => ?_)
    ·skip
     refine goes_ Try.func17 (by kernel_rfl) rfl #[.agg #[.int .i64 a0_0, .int .i64 a0_1, .slice A0_2 l0_2.length c0_2]] (by rfl) rfl rfl (by (try simp only [List.map_toArray, List.map_cons, List.map_nil]); first | done | rfl | (simp only [List.length_drop, List.length_take]; rfl)) ?_
     with_reducible refine (laws_toBoard.calls k a0_0 a0_1 _ _ l0_2 C2 C3 By _ ?side1 ?side2 Jx.o).mono ?_
     (case side1 => repeat (first | exact (Kd.C_below BQ.o HB.o) | (with_reducible refine Kd.C_alloc ?_ _) | (with_reducible refine Kd.C_drewN ?_ _) | (with_reducible refine Kd.C_drew ?_)))
     (case side2 => exact BP.o)
     rintro e KY ⟨CE, rfl, Ar, hb⟩
     refine ⟨_, rfl, ?_⟩
     have Af := Z.m (Kd.R_lower Ar (below_size (vB HB)))
     replace A0 := kB A0 hb
     replace A1 := kB A1 hb
     replace HB := bB HB hb
     (try clear hb); (try clear Ar)
     refine hK.out _ _ ⟨(ql A0.o 0).trans rfl, (ql A0.o 1).trans rfl, (ql A0.o 2).trans rfl, (ql A1.o 0).trans rfl, (ql A1.o 1).trans rfl, (ql A1.o 2).trans rfl⟩ (fun hHeld => ?_)
     clear hK K
     refine norm_ (a' := ?_) ?_ ?_
     rotate_left
     ·show Act.put _ (some 29) _ = _
      simp only [Act.put, q1, q2, q3, i64_w, i32_w]
      rfl
     refine two_ (i := 3) (j := 8) (Ni := some 31) (Nj := some 6) #[true, true, true, true, false, false, false, false, false, false, false] #[true, true, true, false, false, false, false, false, true, false, false] rfl rfl rfl rfl (two_of HT_.o (by kernel_rfl)) (by decide) (by decide) (fun K hK => ?_) (fun K hK => ?_)
     ·skip
      refine goes_ Try.func17 (by kernel_rfl) rfl #[.agg #[.int .i64 a1_0, .int .i64 a1_1, .slice A1_2 l1_2.length c1_2]] (by rfl) rfl rfl (by (try simp only [List.map_toArray, List.map_cons, List.map_nil]); first | done | rfl | (simp only [List.length_drop, List.length_take]; rfl)) ?_
      with_reducible refine (laws_toBoard.calls k a1_0 a1_1 _ _ l1_2 C4 C5 Bz _ ?side1 ?side2 GR.o).mono ?_
      (case side1 => repeat (first | exact (Kd.C_below BJ.o HB.o) | (with_reducible refine Kd.C_alloc ?_ _) | (with_reducible refine Kd.C_drewN ?_ _) | (with_reducible refine Kd.C_drew ?_)))
      (case side2 => exact BI.o)
      rintro e Ks ⟨Cy, rfl, Ar, hb⟩
      refine ⟨_, rfl, ?_⟩
      have Ao := Z.m (Kd.R_lower (Kd.R_new' Ar (Kd.R_lt (vR Af))) (below_size (vB HB)))
      replace Af := Z.m (Kd.R_elder' (vR Af) (Kd.R_base Ar) hb)
      replace A0 := kB A0 hb
      replace A1 := kB A1 hb
      replace HB := bB HB hb
      (try clear hb); (try clear Ar)
      obtain ⟨Er, Ey, Ez⟩ := Kd.R_slice Af.o
      (first | subst Ez | (injection Ez with f1_ f2_ f3_; have f4_ := f1_.symm; have f5_ := f3_.symm; clear f1_ f2_ f3_; subst f4_; subst f5_))
      obtain ⟨Cq, Cs, Ct⟩ := Kd.R_slice Ao.o
      (first | subst Ct | (injection Ct with f1_ f2_ f3_; have f4_ := f1_.symm; have f5_ := f3_.symm; clear f1_ f2_ f3_; subst f4_; subst f5_))
      refine hK.out _ _ ⟨(ql A0.o 0).trans rfl, (ql A0.o 1).trans rfl, (ql A0.o 2).trans rfl, (ql A1.o 0).trans rfl, (ql A1.o 1).trans rfl, (ql A1.o 2).trans rfl⟩ (fun hHeld => ?_)
      clear hK K
      refine norm_ (a' := ?_) ?_ ?_
      rotate_left
      ·show Act.put _ (some 31) _ = _
       simp only [Act.put, q1, q2, q3, i64_w, i32_w]
       rfl
      refine two_ (i := 4) (j := 8) (Ni := some 32) (Nj := some 6) #[true, true, true, true, true, false, false, false, false, false, false] #[true, true, true, true, false, false, false, false, true, false, false] rfl rfl rfl rfl (two_of HT_.o (by kernel_rfl)) (by decide) (by decide) (fun K hK => ?_) (fun K hK => ?_)
      ·skip
       refine goes_ Try.func31 (by kernel_rfl) rfl #[.agg #[.int .i64 C2, .int .i64 C3, .slice Er By.length Ey], .agg #[.int .i64 C4, .int .i64 C5, .slice Cq Bz.length Cs]] (by rfl) rfl rfl (by (try simp only [List.map_toArray, List.map_cons, List.map_nil]); first | done | rfl | (simp only [List.length_drop, List.length_take]; rfl)) ?_
       with_reducible refine (spec_BesideBoards.calls k C2 C3 _ _ By C4 C5 _ _ Bz Ai Aj Ab Ap _ ?side1 ?side2 ?side3 ?side4 FU.o).mono ?_
       (case side1 => repeat (first | exact (Kd.RrZ Af.o).2.2 | (with_reducible refine Kd.C_alloc ?_ _) | (with_reducible refine Kd.C_drewN ?_ _) | (with_reducible refine Kd.C_drew ?_)))
       (case side2 => exact (Kd.RrZ Af.o).2.1)
       (case side3 => repeat (first | exact (Kd.RrZ Ao.o).2.2 | (with_reducible refine Kd.C_alloc ?_ _) | (with_reducible refine Kd.C_drewN ?_ _) | (with_reducible refine Kd.C_drew ?_)))
       (case side4 => exact (Kd.RrZ Ao.o).2.1)
       rintro e L7 ⟨Cw, rfl, Ar, hb⟩
       refine ⟨_, rfl, ?_⟩
       have AP := Z.m (Kd.R_lower (Kd.R_new' (Kd.R_new' Ar (Kd.R_lt (vR Af))) (Kd.R_lt (vR Ao))) (below_size (vB HB)))
       replace Af := Z.m (Kd.R_elder' (vR Af) (Kd.R_base Ar) hb)
       replace Ao := Z.m (Kd.R_elder' (vR Ao) (Kd.R_base Ar) hb)
       replace A0 := kB A0 hb
       replace A1 := kB A1 hb
       replace HB := bB HB hb
       (try clear hb); (try clear Ar)
       refine hK.out _ _ ⟨(ql A0.o 0).trans rfl, (ql A0.o 1).trans rfl, (ql A0.o 2).trans rfl, (ql A1.o 0).trans rfl, (ql A1.o 1).trans rfl, (ql A1.o 2).trans rfl⟩ (fun hHeld => ?_)
       clear hK K
       refine norm_ (a' := ?_) ?_ ?_
       rotate_left
       ·show Act.put _ (some 32) _ = _
        simp only [Act.put, q1, q2, q3, i64_w, i32_w]
        rfl
       refine pure_ (i := 5) (N := some 27) (v := ?_) (a' := ?_) #[true, true, true, true, true, true, false, false, false, false, false] rfl rfl (any_of HT_.o (by kernel_rfl)) (fun _ _ _ h => h) (Or.inl ⟨by rfl, ?_⟩) ?_ ?_
       rotate_left
       ·intro w'
        go_simp
        with_reducible rfl
       rotate_left
       ·simp only [Act.put, q1, q2, q3, i64_w, i32_w]
        rfl
       refine pure_ (i := 6) (N := some 33) (v := ?_) (a' := ?_) #[true, true, true, true, true, true, true, false, false, false, false] rfl rfl (any_of HT_.o (by kernel_rfl)) (fun _ _ _ h => h) (Or.inl ⟨by rfl, ?_⟩) ?_ ?_
       rotate_left
       ·intro w'
        go_simp
        with_reducible rfl
       rotate_left
       ·simp only [Act.put, q1, q2, q3, i64_w, i32_w]
        rfl
       refine pure_ (i := 7) (N := some 34) (v := ?_) (a' := ?_) #[true, true, true, true, true, true, true, true, false, false, false] rfl rfl (any_of HT_.o (by kernel_rfl)) (fun _ _ _ h => h) (Or.inl ⟨by rfl, ?_⟩) ?_ ?_
       rotate_left
       ·intro w'
        go_simp
        with_reducible rfl
       rotate_left
       ·simp only [Act.put, q1, q2, q3, i64_w, i32_w]
        rfl
       refine one_ (i := 8) (N := some 6) #[true, true, true, true, true, true, true, true, true, false, false] rfl rfl (one_of HT_.o (by kernel_rfl)) (by decide) (fun K hK => ?_)
       refine box_step ?hg (N := 6) ?hd (cs := #[.int .i64 0, .int .i64 0, .slice none 0 0]) (t := 29) ?hr ?_; (case hd => rfl); (case hg => rfl); (case hr => first | (go_simp; done) | (go_simp; rfl))
       intro AK hg Jv hbox hb
       have A7 := Z.m (hbox)
       have Cd := gW (w := w) HB hg
       have BD := gW (w := w) HB hg
       have Ag := neL A0 hg
       have AD := neG A0 hg
       have Ah := neL A1 hg
       have AE := neG A1 hg
       replace Af := Z.m (Kd.Rb (vR Af) hb)
       replace Ao := Z.m (Kd.Rb (vR Ao) hb)
       replace AP := Z.m (Kd.Rb (vR AP) hb)
       replace A0 := kB A0 hb
       replace A1 := kB A1 hb
       replace HB := bB HB hb
       clear hb hbox hg
       refine hK.out _ _ ⟨(ql A0.o 0).trans rfl, (ql A0.o 1).trans rfl, (ql A0.o 2).trans rfl, (ql A1.o 0).trans rfl, (ql A1.o 1).trans rfl, (ql A1.o 2).trans rfl⟩ (fun hHeld => ?_)
       clear hK K
       refine norm_ (a' := ?_) ?_ ?_
       rotate_left
       ·show Act.put _ (some 6) _ = _
        simp only [Act.put, q1, q2, q3, i64_w, i32_w]
        rfl
       exact norm_ (by simp only [putAll, Act.put, q1, q2, q3]) (hCont (.slice Er By.length Ey, .slice Cq Bz.length Cs, Cw, AK) _ ⟨hHeld, (by refine rK ?_; exact Kd.Rm Af.o (fun _ hk => ⟨hk.1.2, hk.2⟩)), (by refine rK ?_; exact Kd.Rm Ao.o (fun _ hk => ⟨hk.1.2, hk.2⟩)), (by refine rK ?_; exact Kd.Rm AP.o (fun _ hk => ⟨hk.1.2, hk.2⟩)), (vK A0), (vK A1), (vK A7), Cd.o, BD.o, Ag.o, AD.o, Ah.o, AE.o, (vB HB)⟩)
      ·skip
       refine box_step ?hg (N := 6) ?hd (cs := #[.int .i64 0, .int .i64 0, .slice none 0 0]) (t := 29) ?hr ?_; (case hd => rfl); (case hg => rfl); (case hr => first | (go_simp; done) | (go_simp; rfl))
       intro AK hg Kt hbox hb
       have A7 := Z.m (hbox)
       have Cd := gW (w := w) HB hg
       have BD := gW (w := w) HB hg
       have Ag := neL A0 hg
       have AD := neG A0 hg
       have Ah := neL A1 hg
       have AE := neG A1 hg
       replace Af := Z.m (Kd.Rb (vR Af) hb)
       replace Ao := Z.m (Kd.Rb (vR Ao) hb)
       replace A0 := kB A0 hb
       replace A1 := kB A1 hb
       replace HB := bB HB hb
       clear hb hbox hg
       obtain ⟨Cq, Cs, Ct⟩ := Kd.R_slice Af.o
       (first | subst Ct | (injection Ct with f1_ f2_ f3_; have f4_ := f1_.symm; have f5_ := f3_.symm; clear f1_ f2_ f3_; subst f4_; subst f5_))
       obtain ⟨CG, CL, CM⟩ := Kd.R_slice Ao.o
       (first | subst CM | (injection CM with f1_ f2_ f3_; have f4_ := f1_.symm; have f5_ := f3_.symm; clear f1_ f2_ f3_; subst f4_; subst f5_))
       refine hK.out _ _ ⟨(ql A0.o 0).trans rfl, (ql A0.o 1).trans rfl, (ql A0.o 2).trans rfl, (ql A1.o 0).trans rfl, (ql A1.o 1).trans rfl, (ql A1.o 2).trans rfl⟩ (fun hHeld => ?_)
       clear hK K
       refine norm_ (a' := ?_) ?_ ?_
       rotate_left
       ·show Act.put _ (some 6) _ = _
        simp only [Act.put, q1, q2, q3, i64_w, i32_w]
        rfl
       refine one_ (i := 4) (N := some 32) #[true, true, true, true, true, false, false, false, true, false, false] rfl rfl (one_of HT_.o (by kernel_rfl)) (by decide) (fun K hK => ?_)
       refine goes_ Try.func31 (by kernel_rfl) rfl #[.agg #[.int .i64 C2, .int .i64 C3, .slice Cq By.length Cs], .agg #[.int .i64 C4, .int .i64 C5, .slice CG Bz.length CL]] (by rfl) rfl rfl (by (try simp only [List.map_toArray, List.map_cons, List.map_nil]); first | done | rfl | (simp only [List.length_drop, List.length_take]; rfl)) ?_
       with_reducible refine (spec_BesideBoards.calls k C2 C3 _ _ By C4 C5 _ _ Bz Ai Aj Ab Ap _ ?side1 ?side2 ?side3 ?side4 FU.o).mono ?_
       (case side1 => repeat (first | exact (Kd.RrZ Af.o).2.2 | (with_reducible refine Kd.C_alloc ?_ _) | (with_reducible refine Kd.C_drewN ?_ _) | (with_reducible refine Kd.C_drew ?_)))
       (case side2 => exact (Kd.RrZ Af.o).2.1)
       (case side3 => repeat (first | exact (Kd.RrZ Ao.o).2.2 | (with_reducible refine Kd.C_alloc ?_ _) | (with_reducible refine Kd.C_drewN ?_ _) | (with_reducible refine Kd.C_drew ?_)))
       (case side4 => exact (Kd.RrZ Ao.o).2.1)
       rintro e Jv ⟨Cw, rfl, Ar, hb⟩
       refine ⟨_, rfl, ?_⟩
       have AP := Z.m (Kd.R_lower (Kd.R_new' (Kd.R_new' Ar (Kd.R_lt (vR Af))) (Kd.R_lt (vR Ao))) (below_size (vB HB)))
       replace Af := Z.m (Kd.R_elder' (vR Af) (Kd.R_base Ar) hb)
       replace Ao := Z.m (Kd.R_elder' (vR Ao) (Kd.R_base Ar) hb)
       replace A0 := kB A0 hb
       replace A1 := kB A1 hb
       replace A7 := kB A7 hb
       replace HB := bB HB hb
       (try clear hb); (try clear Ar)
       refine hK.out _ _ ⟨(ql A0.o 0).trans rfl, (ql A0.o 1).trans rfl, (ql A0.o 2).trans rfl, (ql A1.o 0).trans rfl, (ql A1.o 1).trans rfl, (ql A1.o 2).trans rfl⟩ (fun hHeld => ?_)
       clear hK K
       refine norm_ (a' := ?_) ?_ ?_
       rotate_left
       ·show Act.put _ (some 32) _ = _
        simp only [Act.put, q1, q2, q3, i64_w, i32_w]
        rfl
       refine pure_ (i := 5) (N := some 27) (v := ?_) (a' := ?_) #[true, true, true, true, true, true, false, false, true, false, false] rfl rfl (any_of HT_.o (by kernel_rfl)) (fun _ _ _ h => h) (Or.inl ⟨by rfl, ?_⟩) ?_ ?_
       rotate_left
       ·intro w'
        go_simp
        with_reducible rfl
       rotate_left
       ·simp only [Act.put, q1, q2, q3, i64_w, i32_w]
        rfl
       refine pure_ (i := 6) (N := some 33) (v := ?_) (a' := ?_) #[true, true, true, true, true, true, true, false, true, false, false] rfl rfl (any_of HT_.o (by kernel_rfl)) (fun _ _ _ h => h) (Or.inl ⟨by rfl, ?_⟩) ?_ ?_
       rotate_left
       ·intro w'
        go_simp
        with_reducible rfl
       rotate_left
       ·simp only [Act.put, q1, q2, q3, i64_w, i32_w]
        rfl
       refine pure_ (i := 7) (N := some 34) (v := ?_) (a' := ?_) #[true, true, true, true, true, true, true, true, true, false, false] rfl rfl (any_of HT_.o (by kernel_rfl)) (fun _ _ _ h => h) (Or.inl ⟨by rfl, ?_⟩) ?_ ?_
       rotate_left
       ·intro w'
        go_simp
        with_reducible rfl
       rotate_left
       ·simp only [Act.put, q1, q2, q3, i64_w, i32_w]
        rfl
       exact norm_ (by simp only [putAll, Act.put, q1, q2, q3]) (hCont (.slice Cq By.length Cs, .slice CG Bz.length CL, Cw, AK) _ ⟨hHeld, (by refine rK ?_; exact Kd.Rm Af.o (fun _ hk => ⟨hk.1.2, hk.2⟩)), (by refine rK ?_; exact Kd.Rm Ao.o (fun _ hk => ⟨hk.1.2, hk.2⟩)), (by refine rK ?_; exact Kd.Rm AP.o (fun _ hk => ⟨hk.1.2, hk.2⟩)), (vK A0), (vK A1), (vK A7), Cd.o, BD.o, Ag.o, AD.o, Ah.o, AE.o, (vB HB)⟩)
     ·skip
      refine box_step ?hg (N := 6) ?hd (cs := #[.int .i64 0, .int .i64 0, .slice none 0 0]) (t := 29) ?hr ?_; (case hd => rfl); (case hg => rfl); (case hr => first | (go_simp; done) | (go_simp; rfl))
      intro AK hg Ks hbox hb
      have A7 := Z.m (hbox)
      have Cd := gW (w := w) HB hg
      have BD := gW (w := w) HB hg
      have Ag := neL A0 hg
      have AD := neG A0 hg
      have Ah := neL A1 hg
      have AE := neG A1 hg
      replace Af := Z.m (Kd.Rb (vR Af) hb)
      replace A0 := kB A0 hb
      replace A1 := kB A1 hb
      replace HB := bB HB hb
      clear hb hbox hg
      refine hK.out _ _ ⟨(ql A0.o 0).trans rfl, (ql A0.o 1).trans rfl, (ql A0.o 2).trans rfl, (ql A1.o 0).trans rfl, (ql A1.o 1).trans rfl, (ql A1.o 2).trans rfl⟩ (fun hHeld => ?_)
      clear hK K
      refine norm_ (a' := ?_) ?_ ?_
      rotate_left
      ·show Act.put _ (some 6) _ = _
       simp only [Act.put, q1, q2, q3, i64_w, i32_w]
       rfl
      refine one_ (i := 3) (N := some 31) #[true, true, true, true, false, false, false, false, true, false, false] rfl rfl (one_of HT_.o (by kernel_rfl)) (by decide) (fun K hK => ?_)
      refine goes_ Try.func17 (by kernel_rfl) rfl #[.agg #[.int .i64 a1_0, .int .i64 a1_1, .slice A1_2 l1_2.length c1_2]] (by rfl) rfl rfl (by (try simp only [List.map_toArray, List.map_cons, List.map_nil]); first | done | rfl | (simp only [List.length_drop, List.length_take]; rfl)) ?_
      with_reducible refine (laws_toBoard.calls k a1_0 a1_1 _ _ l1_2 C4 C5 Bz _ ?side1 ?side2 GR.o).mono ?_
      (case side1 => repeat (first | exact (Kd.C_below BJ.o HB.o) | (with_reducible refine Kd.C_alloc ?_ _) | (with_reducible refine Kd.C_drewN ?_ _) | (with_reducible refine Kd.C_drew ?_)))
      (case side2 => exact BI.o)
      rintro e Kt ⟨Cy, rfl, Ar, hb⟩
      refine ⟨_, rfl, ?_⟩
      have Ao := Z.m (Kd.R_lower (Kd.R_new' Ar (Kd.R_lt (vR Af))) (below_size (vB HB)))
      replace Af := Z.m (Kd.R_elder' (vR Af) (Kd.R_base Ar) hb)
      replace A0 := kB A0 hb
      replace A1 := kB A1 hb
      replace A7 := kB A7 hb
      replace HB := bB HB hb
      (try clear hb); (try clear Ar)
      obtain ⟨Cq, Cs, Ct⟩ := Kd.R_slice Af.o
      (first | subst Ct | (injection Ct with f1_ f2_ f3_; have f4_ := f1_.symm; have f5_ := f3_.symm; clear f1_ f2_ f3_; subst f4_; subst f5_))
      obtain ⟨CG, CL, CM⟩ := Kd.R_slice Ao.o
      (first | subst CM | (injection CM with f1_ f2_ f3_; have f4_ := f1_.symm; have f5_ := f3_.symm; clear f1_ f2_ f3_; subst f4_; subst f5_))
      refine hK.out _ _ ⟨(ql A0.o 0).trans rfl, (ql A0.o 1).trans rfl, (ql A0.o 2).trans rfl, (ql A1.o 0).trans rfl, (ql A1.o 1).trans rfl, (ql A1.o 2).trans rfl⟩ (fun hHeld => ?_)
      clear hK K
      refine norm_ (a' := ?_) ?_ ?_
      rotate_left
      ·show Act.put _ (some 31) _ = _
       simp only [Act.put, q1, q2, q3, i64_w, i32_w]
       rfl
      refine one_ (i := 4) (N := some 32) #[true, true, true, true, true, false, false, false, true, false, false] rfl rfl (one_of HT_.o (by kernel_rfl)) (by decide) (fun K hK => ?_)
      refine goes_ Try.func31 (by kernel_rfl) rfl #[.agg #[.int .i64 C2, .int .i64 C3, .slice Cq By.length Cs], .agg #[.int .i64 C4, .int .i64 C5, .slice CG Bz.length CL]] (by rfl) rfl rfl (by (try simp only [List.map_toArray, List.map_cons, List.map_nil]); first | done | rfl | (simp only [List.length_drop, List.length_take]; rfl)) ?_
      with_reducible refine (spec_BesideBoards.calls k C2 C3 _ _ By C4 C5 _ _ Bz Ai Aj Ab Ap _ ?side1 ?side2 ?side3 ?side4 FU.o).mono ?_
      (case side1 => repeat (first | exact (Kd.RrZ Af.o).2.2 | (with_reducible refine Kd.C_alloc ?_ _) | (with_reducible refine Kd.C_drewN ?_ _) | (with_reducible refine Kd.C_drew ?_)))
      (case side2 => exact (Kd.RrZ Af.o).2.1)
      (case side3 => repeat (first | exact (Kd.RrZ Ao.o).2.2 | (with_reducible refine Kd.C_alloc ?_ _) | (with_reducible refine Kd.C_drewN ?_ _) | (with_reducible refine Kd.C_drew ?_)))
      (case side4 => exact (Kd.RrZ Ao.o).2.1)
      rintro e Jv ⟨Cw, rfl, Ar, hb⟩
      refine ⟨_, rfl, ?_⟩
      have AP := Z.m (Kd.R_lower (Kd.R_new' (Kd.R_new' Ar (Kd.R_lt (vR Af))) (Kd.R_lt (vR Ao))) (below_size (vB HB)))
      replace Af := Z.m (Kd.R_elder' (vR Af) (Kd.R_base Ar) hb)
      replace Ao := Z.m (Kd.R_elder' (vR Ao) (Kd.R_base Ar) hb)
      replace A0 := kB A0 hb
      replace A1 := kB A1 hb
      replace A7 := kB A7 hb
      replace HB := bB HB hb
      (try clear hb); (try clear Ar)
      refine hK.out _ _ ⟨(ql A0.o 0).trans rfl, (ql A0.o 1).trans rfl, (ql A0.o 2).trans rfl, (ql A1.o 0).trans rfl, (ql A1.o 1).trans rfl, (ql A1.o 2).trans rfl⟩ (fun hHeld => ?_)
      clear hK K
      refine norm_ (a' := ?_) ?_ ?_
      rotate_left
      ·show Act.put _ (some 32) _ = _
       simp only [Act.put, q1, q2, q3, i64_w, i32_w]
       rfl
      refine pure_ (i := 5) (N := some 27) (v := ?_) (a' := ?_) #[true, true, true, true, true, true, false, false, true, false, false] rfl rfl (any_of HT_.o (by kernel_rfl)) (fun _ _ _ h => h) (Or.inl ⟨by rfl, ?_⟩) ?_ ?_
      rotate_left
      ·intro w'
       go_simp
       with_reducible rfl
      rotate_left
      ·simp only [Act.put, q1, q2, q3, i64_w, i32_w]
       rfl
      refine pure_ (i := 6) (N := some 33) (v := ?_) (a' := ?_) #[true, true, true, true, true, true, true, false, true, false, false] rfl rfl (any_of HT_.o (by kernel_rfl)) (fun _ _ _ h => h) (Or.inl ⟨by rfl, ?_⟩) ?_ ?_
      rotate_left
      ·intro w'
       go_simp
       with_reducible rfl
      rotate_left
      ·simp only [Act.put, q1, q2, q3, i64_w, i32_w]
       rfl
      refine pure_ (i := 7) (N := some 34) (v := ?_) (a' := ?_) #[true, true, true, true, true, true, true, true, true, false, false] rfl rfl (any_of HT_.o (by kernel_rfl)) (fun _ _ _ h => h) (Or.inl ⟨by rfl, ?_⟩) ?_ ?_
      rotate_left
      ·intro w'
       go_simp
       with_reducible rfl
      rotate_left
      ·simp only [Act.put, q1, q2, q3, i64_w, i32_w]
       rfl
      exact norm_ (by simp only [putAll, Act.put, q1, q2, q3]) (hCont (.slice Cq By.length Cs, .slice CG Bz.length CL, Cw, AK) _ ⟨hHeld, (by refine rK ?_; exact Kd.Rm Af.o (fun _ hk => ⟨hk.1.2, hk.2⟩)), (by refine rK ?_; exact Kd.Rm Ao.o (fun _ hk => ⟨hk.1.2, hk.2⟩)), (by refine rK ?_; exact Kd.Rm AP.o (fun _ hk => ⟨hk.1.2, hk.2⟩)), (vK A0), (vK A1), (vK A7), Cd.o, BD.o, Ag.o, AD.o, Ah.o, AE.o, (vB HB)⟩)
    ·skip
     refine box_step ?hg (N := 6) ?hd (cs := #[.int .i64 0, .int .i64 0, .slice none 0 0]) (t := 29) ?hr ?_; (case hd => rfl); (case hg => rfl); (case hr => first | (go_simp; done) | (go_simp; rfl))
     intro AK hg KY hbox hb
     have A7 := Z.m (hbox)
     have Cd := gW (w := w) HB hg
     have BD := gW (w := w) HB hg
     have Ag := neL A0 hg
     have AD := neG A0 hg
     have Ah := neL A1 hg
     have AE := neG A1 hg
     replace A0 := kB A0 hb
     replace A1 := kB A1 hb
     replace HB := bB HB hb
     clear hb hbox hg
     refine hK.out _ _ ⟨(ql A0.o 0).trans rfl, (ql A0.o 1).trans rfl, (ql A0.o 2).trans rfl, (ql A1.o 0).trans rfl, (ql A1.o 1).trans rfl, (ql A1.o 2).trans rfl⟩ (fun hHeld => ?_)
     clear hK K
     refine norm_ (a' := ?_) ?_ ?_
     rotate_left
     ·show Act.put _ (some 6) _ = _
      simp only [Act.put, q1, q2, q3, i64_w, i32_w]
      rfl
     refine one_ (i := 1) (N := some 29) #[true, true, true, false, false, false, false, false, true, false, false] rfl rfl (one_of HT_.o (by kernel_rfl)) (by decide) (fun K hK => ?_)
     refine goes_ Try.func17 (by kernel_rfl) rfl #[.agg #[.int .i64 a0_0, .int .i64 a0_1, .slice A0_2 l0_2.length c0_2]] (by rfl) rfl rfl (by (try simp only [List.map_toArray, List.map_cons, List.map_nil]); first | done | rfl | (simp only [List.length_drop, List.length_take]; rfl)) ?_
     with_reducible refine (laws_toBoard.calls k a0_0 a0_1 _ _ l0_2 C2 C3 By _ ?side1 ?side2 Jx.o).mono ?_
     (case side1 => repeat (first | exact (Kd.C_below BQ.o HB.o) | (with_reducible refine Kd.C_alloc ?_ _) | (with_reducible refine Kd.C_drewN ?_ _) | (with_reducible refine Kd.C_drew ?_)))
     (case side2 => exact BP.o)
     rintro e Ks ⟨CE, rfl, Ar, hb⟩
     refine ⟨_, rfl, ?_⟩
     have Af := Z.m (Kd.R_lower Ar (below_size (vB HB)))
     replace A0 := kB A0 hb
     replace A1 := kB A1 hb
     replace A7 := kB A7 hb
     replace HB := bB HB hb
     (try clear hb); (try clear Ar)
     refine hK.out _ _ ⟨(ql A0.o 0).trans rfl, (ql A0.o 1).trans rfl, (ql A0.o 2).trans rfl, (ql A1.o 0).trans rfl, (ql A1.o 1).trans rfl, (ql A1.o 2).trans rfl⟩ (fun hHeld => ?_)
     clear hK K
     refine norm_ (a' := ?_) ?_ ?_
     rotate_left
     ·show Act.put _ (some 29) _ = _
      simp only [Act.put, q1, q2, q3, i64_w, i32_w]
      rfl
     refine one_ (i := 3) (N := some 31) #[true, true, true, true, false, false, false, false, true, false, false] rfl rfl (one_of HT_.o (by kernel_rfl)) (by decide) (fun K hK => ?_)
     refine goes_ Try.func17 (by kernel_rfl) rfl #[.agg #[.int .i64 a1_0, .int .i64 a1_1, .slice A1_2 l1_2.length c1_2]] (by rfl) rfl rfl (by (try simp only [List.map_toArray, List.map_cons, List.map_nil]); first | done | rfl | (simp only [List.length_drop, List.length_take]; rfl)) ?_
     with_reducible refine (laws_toBoard.calls k a1_0 a1_1 _ _ l1_2 C4 C5 Bz _ ?side1 ?side2 GR.o).mono ?_
     (case side1 => repeat (first | exact (Kd.C_below BJ.o HB.o) | (with_reducible refine Kd.C_alloc ?_ _) | (with_reducible refine Kd.C_drewN ?_ _) | (with_reducible refine Kd.C_drew ?_)))
     (case side2 => exact BI.o)
     rintro e Kt ⟨Cy, rfl, Ar, hb⟩
     refine ⟨_, rfl, ?_⟩
     have Ao := Z.m (Kd.R_lower (Kd.R_new' Ar (Kd.R_lt (vR Af))) (below_size (vB HB)))
     replace Af := Z.m (Kd.R_elder' (vR Af) (Kd.R_base Ar) hb)
     replace A0 := kB A0 hb
     replace A1 := kB A1 hb
     replace A7 := kB A7 hb
     replace HB := bB HB hb
     (try clear hb); (try clear Ar)
     obtain ⟨Cq, Cs, Ct⟩ := Kd.R_slice Af.o
     (first | subst Ct | (injection Ct with f1_ f2_ f3_; have f4_ := f1_.symm; have f5_ := f3_.symm; clear f1_ f2_ f3_; subst f4_; subst f5_))
     obtain ⟨CG, CL, CM⟩ := Kd.R_slice Ao.o
     (first | subst CM | (injection CM with f1_ f2_ f3_; have f4_ := f1_.symm; have f5_ := f3_.symm; clear f1_ f2_ f3_; subst f4_; subst f5_))
     refine hK.out _ _ ⟨(ql A0.o 0).trans rfl, (ql A0.o 1).trans rfl, (ql A0.o 2).trans rfl, (ql A1.o 0).trans rfl, (ql A1.o 1).trans rfl, (ql A1.o 2).trans rfl⟩ (fun hHeld => ?_)
     clear hK K
     refine norm_ (a' := ?_) ?_ ?_
     rotate_left
     ·show Act.put _ (some 31) _ = _
      simp only [Act.put, q1, q2, q3, i64_w, i32_w]
      rfl
     refine one_ (i := 4) (N := some 32) #[true, true, true, true, true, false, false, false, true, false, false] rfl rfl (one_of HT_.o (by kernel_rfl)) (by decide) (fun K hK => ?_)
     refine goes_ Try.func31 (by kernel_rfl) rfl #[.agg #[.int .i64 C2, .int .i64 C3, .slice Cq By.length Cs], .agg #[.int .i64 C4, .int .i64 C5, .slice CG Bz.length CL]] (by rfl) rfl rfl (by (try simp only [List.map_toArray, List.map_cons, List.map_nil]); first | done | rfl | (simp only [List.length_drop, List.length_take]; rfl)) ?_
     with_reducible refine (spec_BesideBoards.calls k C2 C3 _ _ By C4 C5 _ _ Bz Ai Aj Ab Ap _ ?side1 ?side2 ?side3 ?side4 FU.o).mono ?_
     (case side1 => repeat (first | exact (Kd.RrZ Af.o).2.2 | (with_reducible refine Kd.C_alloc ?_ _) | (with_reducible refine Kd.C_drewN ?_ _) | (with_reducible refine Kd.C_drew ?_)))
     (case side2 => exact (Kd.RrZ Af.o).2.1)
     (case side3 => repeat (first | exact (Kd.RrZ Ao.o).2.2 | (with_reducible refine Kd.C_alloc ?_ _) | (with_reducible refine Kd.C_drewN ?_ _) | (with_reducible refine Kd.C_drew ?_)))
     (case side4 => exact (Kd.RrZ Ao.o).2.1)
     rintro e Jv ⟨Cw, rfl, Ar, hb⟩
     refine ⟨_, rfl, ?_⟩
     have AP := Z.m (Kd.R_lower (Kd.R_new' (Kd.R_new' Ar (Kd.R_lt (vR Af))) (Kd.R_lt (vR Ao))) (below_size (vB HB)))
     replace Af := Z.m (Kd.R_elder' (vR Af) (Kd.R_base Ar) hb)
     replace Ao := Z.m (Kd.R_elder' (vR Ao) (Kd.R_base Ar) hb)
     replace A0 := kB A0 hb
     replace A1 := kB A1 hb
     replace A7 := kB A7 hb
     replace HB := bB HB hb
     (try clear hb); (try clear Ar)
     refine hK.out _ _ ⟨(ql A0.o 0).trans rfl, (ql A0.o 1).trans rfl, (ql A0.o 2).trans rfl, (ql A1.o 0).trans rfl, (ql A1.o 1).trans rfl, (ql A1.o 2).trans rfl⟩ (fun hHeld => ?_)
     clear hK K
     refine norm_ (a' := ?_) ?_ ?_
     rotate_left
     ·show Act.put _ (some 32) _ = _
      simp only [Act.put, q1, q2, q3, i64_w, i32_w]
      rfl
     refine pure_ (i := 5) (N := some 27) (v := ?_) (a' := ?_) #[true, true, true, true, true, true, false, false, true, false, false] rfl rfl (any_of HT_.o (by kernel_rfl)) (fun _ _ _ h => h) (Or.inl ⟨by rfl, ?_⟩) ?_ ?_
     rotate_left
     ·intro w'
      go_simp
      with_reducible rfl
     rotate_left
     ·simp only [Act.put, q1, q2, q3, i64_w, i32_w]
      rfl
     refine pure_ (i := 6) (N := some 33) (v := ?_) (a' := ?_) #[true, true, true, true, true, true, true, false, true, false, false] rfl rfl (any_of HT_.o (by kernel_rfl)) (fun _ _ _ h => h) (Or.inl ⟨by rfl, ?_⟩) ?_ ?_
     rotate_left
     ·intro w'
      go_simp
      with_reducible rfl
     rotate_left
     ·simp only [Act.put, q1, q2, q3, i64_w, i32_w]
      rfl
     refine pure_ (i := 7) (N := some 34) (v := ?_) (a' := ?_) #[true, true, true, true, true, true, true, true, true, false, false] rfl rfl (any_of HT_.o (by kernel_rfl)) (fun _ _ _ h => h) (Or.inl ⟨by rfl, ?_⟩) ?_ ?_
     rotate_left
     ·intro w'
      go_simp
      with_reducible rfl
     rotate_left
     ·simp only [Act.put, q1, q2, q3, i64_w, i32_w]
      rfl
     exact norm_ (by simp only [putAll, Act.put, q1, q2, q3]) (hCont (.slice Cq By.length Cs, .slice CG Bz.length CL, Cw, AK) _ ⟨hHeld, (by refine rK ?_; exact Kd.Rm Af.o (fun _ hk => ⟨hk.1.2, hk.2⟩)), (by refine rK ?_; exact Kd.Rm Ao.o (fun _ hk => ⟨hk.1.2, hk.2⟩)), (by refine rK ?_; exact Kd.Rm AP.o (fun _ hk => ⟨hk.1.2, hk.2⟩)), (vK A0), (vK A1), (vK A7), Cd.o, BD.o, Ag.o, AD.o, Ah.o, AE.o, (vB HB)⟩)
   rintro ⟨CE, Cy, Cw, AK⟩ CP ⟨hS_, h0_, h1_, h2_, h3_, h4_, h5_, h6_, h7_, h8_, h9_, h10_, h11_, h12_⟩
   have Af : Z (Kd.R k34 34 CP w.heap.size (fun k_ => some k_ ≠ (Cy : Value).ownBlock ∧ some k_ ≠ (Cw : Value).ownBlock) CE By) := ⟨h0_⟩
   have Ao : Z (Kd.R k34 34 CP w.heap.size (fun k_ => some k_ ≠ (CE : Value).ownBlock ∧ some k_ ≠ (Cw : Value).ownBlock) Cy Bz) := ⟨h1_⟩
   have AP : Z (Kd.R k34 34 CP w.heap.size (fun k_ => some k_ ≠ (CE : Value).ownBlock ∧ some k_ ≠ (Cy : Value).ownBlock) Cw Ab) := ⟨h2_⟩
   have A7 : Z (CP.heap[AK]? = some (.cells #[.int .i64 0, .int .i64 0, .slice none 0 0] 29 (0, 0))) := ⟨h5_⟩
   have Cd : Z (w.heap.size ≤ AK) := ⟨h6_⟩
   have BD : Z (w.heap.size ≤ AK) := ⟨h7_⟩
   have Ag : Z (Au ≠ AK) := ⟨h8_⟩
   have AD : Z (AK ≠ Au) := ⟨h9_⟩
   have Ah : Z (Av ≠ AK) := ⟨h10_⟩
   have AE : Z (AK ≠ Av) := ⟨h11_⟩
   replace A0 : Z (CP.heap[Au]? = some (.cells #[.int .i64 a0_0, .int .i64 a0_1, .slice A0_2 l0_2.length c0_2] 24 (0, 0))) := ⟨h3_⟩
   replace A1 : Z (CP.heap[Av]? = some (.cells #[.int .i64 a1_0, .int .i64 a1_1, .slice A1_2 l1_2.length c1_2] 24 (0, 0))) := ⟨h4_⟩
   replace HB : Z (Below w.heap.size w CP) := ⟨h12_⟩
   clear h0_ h1_ h2_ h3_ h4_ h5_ h6_ h7_ h8_ h9_ h10_ h11_ h12_
   have hHeld : CP.cell? ⟨Au, 0, none⟩ = some (.int .i64 a0_0) ∧ CP.cell? ⟨Au, 1, none⟩ = some (.int .i64 a0_1) ∧ CP.cell? ⟨Au, 2, none⟩ = some (.slice A0_2 l0_2.length c0_2) ∧ CP.cell? ⟨Av, 0, none⟩ = some (.int .i64 a1_0) ∧ CP.cell? ⟨Av, 1, none⟩ = some (.int .i64 a1_1) ∧ CP.cell? ⟨Av, 2, none⟩ = some (.slice A1_2 l1_2.length c1_2) := hS_
   obtain ⟨AI, AF, EA⟩ := Kd.R_slice AP.o
   (first | subst EA | (injection EA with f1_ f2_ f3_; have f4_ := f1_.symm; have f5_ := f3_.symm; clear f1_ f2_ f3_; subst f4_; subst f5_))
   refine norm_ (a' := ?_) ?_ ?_
   rotate_left
   ·simp only [putAll, Act.put, q1, q2, q3]
    rfl
   refine one_ (i := 9) (N := none) #[true, true, true, true, true, true, true, true, true, true, false] rfl rfl (one_of HT_.o (by kernel_rfl)) (by decide) (fun K hK => ?_)
   have KA : CP.cell? ⟨AK, 0, none⟩ = some (.int .i64 0) := (ql A7.o 0).trans rfl
   have hfs41 := qz A7.o 0
   have GB := Ag.o
   have GC := Ah.o
   have Gv := AD.o
   have Gw := AE.o
   have KB : CP.cell? ⟨AK, 1, none⟩ = some (.int .i64 0) := (ql A7.o 1).trans rfl
   have hfs42 := qz A7.o 1
   have GD := Ag.o
   have GE := Ah.o
   have Gx := AD.o
   have Gy := AE.o
   have KC : CP.cell? ⟨AK, 2, none⟩ = some (.slice none 0 0) := (ql A7.o 2).trans rfl
   have hfs44 := qz A7.o 2
   have GF := Ag.o
   have GG := Ah.o
   have Gz := AD.o
   have GA := AE.o
   refine skip_ (w1 := ?_) ?hwx ?hnx ?_ ?_; (case hwx => rfl); (case hnx => rfl)
   rotate_left
   ·go_simp
    rfl
   refine hK.out _ _ ⟨(cx Ag.o ((cx Ag.o ((cx Ag.o (hHeld.1)))))), (cx Ag.o ((cx Ag.o ((cx Ag.o (hHeld.2.1)))))), (cx Ag.o ((cx Ag.o ((cx Ag.o (hHeld.2.2.1)))))), (cx Ah.o ((cx Ah.o ((cx Ah.o (hHeld.2.2.2.1)))))), (cx Ah.o ((cx Ah.o ((cx Ah.o (hHeld.2.2.2.2.1)))))), (cx Ah.o ((cx Ah.o ((cx Ah.o (hHeld.2.2.2.2.2))))))⟩ (fun hHeld => ?_)
   clear hK K
   refine pure_ (i := 10) (N := some 7) (v := ?_) (a' := ?_) #[true, true, true, true, true, true, true, true, true, true, true] rfl rfl (any_of HT_.o (by kernel_rfl)) (fun _ _ _ h => h) (Or.inl ⟨by rfl, ?_⟩) ?_ ?_
   rotate_left
   ·intro w'
    go_simp
    with_reducible rfl
   rotate_left
   ·simp only [Act.put, q1, q2, q3, i64_w, i32_w]
    rfl
   refine done_ (done_of HT_.o (by kernel_rfl)) ?_
   have JC := Ag.o
   have K1 := AD.o
   have Dc := bc0 A0
   have Dd := bc1 A0
   have De := bc2 A0
   have Du := qz A0.o 0
   have Dv := qz A0.o 1
   have Dw := qz A0.o 2
   go_upto_region 12 with (first | ((with_reducible refine gc (f := 17) rfl ?_); refine gA (some 36) _ #[.agg #[.int .i64 a0_0, .int .i64 a0_1, .slice A0_2 l0_2.length c0_2]] ?_ Try.func17; (with_reducible refine (laws_toBoard.calls k a0_0 a0_1 _ _ l0_2 AW AX Az _ ?side1 ?side2 Ku.o).mono ?_); (case side1 => exact Kd.C_below BQ.o (vB HB)); (case side2 => exact BP.o); rintro e L8 ⟨KF, rfl, Ar, hb⟩; refine ⟨_, rfl, ?_⟩; have B3 := Z.m (Kd.R_lower (Kd.R_new' (Kd.R_new' (Kd.R_new' Ar (Kd.R_lt (by refine rK ?_; exact (Kd.Rm (rf (rf (rf (Kd.Ry Af.o A7.o (by decide))))) (fun _ h_ => h_.1))))) (Kd.R_lt (by refine rK ?_; exact (Kd.Rm (rf (rf (rf (Kd.Ry Ao.o A7.o (by decide))))) (fun _ h_ => h_.1))))) (Kd.R_lt (by refine rK ?_; exact (Kd.Rm (rf (rf (rf (Kd.Ry AP.o A7.o (by decide))))) (fun _ h_ => h_.1))))) (below_size (vB HB))); replace Af := Z.m (Kd.R_elder' (by refine rK ?_; exact (Kd.Rm (rf (rf (rf (Kd.Ry Af.o A7.o (by decide))))) (fun _ h_ => h_.1))) (Kd.R_base Ar) hb); replace Ao := Z.m (Kd.R_elder' (by refine rK ?_; exact (Kd.Rm (rf (rf (rf (Kd.Ry Ao.o A7.o (by decide))))) (fun _ h_ => h_.1))) (Kd.R_base Ar) hb); replace AP := Z.m (Kd.R_elder' (by refine rK ?_; exact (Kd.Rm (rf (rf (rf (Kd.Ry AP.o A7.o (by decide))))) (fun _ h_ => h_.1))) (Kd.R_base Ar) hb); replace A0 := Z.m (qb (g := Au) (o := .cells #[.int .i64 a0_0, .int .i64 a0_1, .slice A0_2 l0_2.length c0_2] 24 (0, 0)) (by refine bK ?_; (iterate 3 refine qF ?_ Ag); exact A0.o) hb); replace A1 := Z.m (qb (g := Av) (o := .cells #[.int .i64 a1_0, .int .i64 a1_1, .slice A1_2 l1_2.length c1_2] 24 (0, 0)) (by refine bK ?_; (iterate 3 refine qF ?_ Ah); exact A1.o) hb); replace A7 := Z.m (qb (g := AK) (o := .cells #[.int .i64 Ai, .int .i64 Aj, .slice AI Ab.length AF] 29 (0, 0)) (by refine bK ?_; apply st3; refine bK ?_; exact A7.o) hb); replace HB := bB HB hb; (try clear hb); (try clear CS); (try clear hk); (try clear hi); (try clear Ar)) | ((with_reducible refine gq (N := 8) rfl ?_); refine be (N := 8) (cs := #[.int .i64 0, .int .i64 0, .slice none 0 0]) (t := 29) ?_; intro Bc hg L9 hbox hb; have A8 := Z.m (hbox); have Es := gW (w := w) HB hg; have CT := Es; have BW := neL A0 hg; have Cz := neG A0 hg; have BY := neL A1 hg; have CA := neG A1 hg; have Bg := neL A7 hg; have Br := neG A7 hg; replace Af := Z.m (Kd.Rb (vR Af) hb); replace Ao := Z.m (Kd.Rb (vR Ao) hb); replace AP := Z.m (Kd.Rb (vR AP) hb); replace B3 := Z.m (Kd.Rb (vR B3) hb); replace A0 := kB A0 hb; replace A1 := kB A1 hb; replace A7 := kB A7 hb; replace HB := bB HB hb; clear hb hbox hg; have JD := Cz.o; have K2 := BW.o; have JE := CA.o; have K3 := BY.o; have JF := Br.o; have K4 := Bg.o; have Df := bc0 A8; have Dg := bc1 A8; have Dh := bc2 A8; have Dx := qz A8.o 0; have Dy := qz A8.o 1; have Dz := qz A8.o 2; obtain ⟨Ax, Aw, GY⟩ := Kd.R_slice B3.o; subst GY; have JG := Ah.o; have K5 := AE.o; have Di := bc0 A1; have Dj := bc1 A1; have Dk := bc2 A1; have DA := qz A1.o 0; have DB := qz A1.o 1; have DC := qz A1.o 2) | ((with_reducible refine gc (f := 17) rfl ?_); refine gA (some 38) _ #[.agg #[.int .i64 a1_0, .int .i64 a1_1, .slice A1_2 l1_2.length c1_2]] ?_ Try.func17; (with_reducible refine (laws_toBoard.calls k a1_0 a1_1 _ _ l1_2 AY AZ AA _ ?side1 ?side2 Kv.o).mono ?_); (case side1 => exact Kd.C_below BJ.o (vB HB)); (case side2 => exact BI.o); rintro e La ⟨KG, rfl, Ar, hb⟩; refine ⟨_, rfl, ?_⟩; have Bo := Z.m (Kd.R_lower (Kd.R_new' (Kd.R_new' (Kd.R_new' (Kd.R_new' Ar (Kd.R_lt (by refine rK ?_; exact (Kd.Rm (rf (rf (rf (Kd.Ry Af.o A8.o (by decide))))) (fun _ h_ => h_.1))))) (Kd.R_lt (by refine rK ?_; exact (Kd.Rm (rf (rf (rf (Kd.Ry Ao.o A8.o (by decide))))) (fun _ h_ => h_.1))))) (Kd.R_lt (by refine rK ?_; exact (Kd.Rm (rf (rf (rf (Kd.Ry AP.o A8.o (by decide))))) (fun _ h_ => h_.1))))) (Kd.R_lt (by refine rK ?_; exact (Kd.Rm (rf (rf (rf (Kd.Ry B3.o A8.o (by decide))))) (fun _ h_ => h_.1))))) (below_size (vB HB))); replace Af := Z.m (Kd.R_elder' (by refine rK ?_; exact (Kd.Rm (rf (rf (rf (Kd.Ry Af.o A8.o (by decide))))) (fun _ h_ => h_.1))) (Kd.R_base Ar) hb); replace Ao := Z.m (Kd.R_elder' (by refine rK ?_; exact (Kd.Rm (rf (rf (rf (Kd.Ry Ao.o A8.o (by decide))))) (fun _ h_ => h_.1))) (Kd.R_base Ar) hb); replace AP := Z.m (Kd.R_elder' (by refine rK ?_; exact (Kd.Rm (rf (rf (rf (Kd.Ry AP.o A8.o (by decide))))) (fun _ h_ => h_.1))) (Kd.R_base Ar) hb); replace B3 := Z.m (Kd.R_elder' (by refine rK ?_; exact (Kd.Rm (rf (rf (rf (Kd.Ry B3.o A8.o (by decide))))) (fun _ h_ => h_.1))) (Kd.R_base Ar) hb); replace A0 := Z.m (qb (g := Au) (o := .cells #[.int .i64 a0_0, .int .i64 a0_1, .slice A0_2 l0_2.length c0_2] 24 (0, 0)) (by refine bK ?_; (iterate 3 refine qF ?_ BW); exact A0.o) hb); replace A1 := Z.m (qb (g := Av) (o := .cells #[.int .i64 a1_0, .int .i64 a1_1, .slice A1_2 l1_2.length c1_2] 24 (0, 0)) (by refine bK ?_; (iterate 3 refine qF ?_ BY); exact A1.o) hb); replace A7 := Z.m (qb (g := AK) (o := .cells #[.int .i64 Ai, .int .i64 Aj, .slice AI Ab.length AF] 29 (0, 0)) (by refine bK ?_; (iterate 3 refine qF ?_ Bg); exact A7.o) hb); replace A8 := Z.m (qb (g := Bc) (o := .cells #[.int .i64 AW, .int .i64 AX, .slice Ax Az.length Aw] 29 (0, 0)) (by refine bK ?_; apply st3; refine bK ?_; exact A8.o) hb); replace HB := bB HB hb; (try clear hb); (try clear CS); (try clear hk); (try clear hi); (try clear Ar)) | ((with_reducible refine gq (N := 9) rfl ?_); refine be (N := 9) (cs := #[.int .i64 0, .int .i64 0, .slice none 0 0]) (t := 29) ?_; intro Bl hg Lb hbox hb; have Aa := Z.m (hbox); have Et := gW (w := w) HB hg; have CU := Et; have BX := neL A0 hg; have CB := neG A0 hg; have BZ := neL A1 hg; have CC := neG A1 hg; have Bh := neL A7 hg; have Bs := neG A7 hg; have C0 := neL A8 hg; have CD := neG A8 hg; replace Af := Z.m (Kd.Rb (vR Af) hb); replace Ao := Z.m (Kd.Rb (vR Ao) hb); replace AP := Z.m (Kd.Rb (vR AP) hb); replace B3 := Z.m (Kd.Rb (vR B3) hb); replace Bo := Z.m (Kd.Rb (vR Bo) hb); replace A0 := kB A0 hb; replace A1 := kB A1 hb; replace A7 := kB A7 hb; replace A8 := kB A8 hb; replace HB := bB HB hb; clear hb hbox hg; have JH := CB.o; have K6 := BX.o; have JI := CC.o; have K7 := BZ.o; have JJ := Bs.o; have K8 := Bh.o; have JK := CD.o; have K9 := C0.o; have Dl := bc0 Aa; have Dm := bc1 Aa; have Dn := bc2 Aa; have DD := qz Aa.o 0; have DE := qz Aa.o 1; have DF := qz Aa.o 2; obtain ⟨AB, Ay, GZ⟩ := Kd.R_slice Bo.o; subst GZ; have Do := bc0 A8; have Dp := bc1 A8; have Dq := bc2 A8; have DG := qz A8.o 0; have DH := qz A8.o 1; have DI := qz A8.o 2) | ((with_reducible refine gc (f := 32) rfl ?_); refine gA (some 42) _ #[.agg #[.int .i64 AW, .int .i64 AX, .slice Ax Az.length Aw], .agg #[.int .i64 AY, .int .i64 AZ, .slice AB AA.length Ay]] ?_ Try.func32; (with_reducible refine (impl_BesideBoards.calls k AW AX _ _ Az AY AZ _ _ AA Ak Al Ae Bm _ ?side1 ?side2 ?side3 ?side4 Kw.o).mono ?_); (case side1 => refine (Kd.RrZ (e := 34) (base := w.heap.size) (ok := fun k_ => ((((True ∧ some k_ ≠ (CE : Value).ownBlock) ∧ some k_ ≠ (Cy : Value).ownBlock) ∧ some k_ ≠ (.slice AI Ab.length AF : Value).ownBlock) ∧ some k_ ≠ (.slice AB AA.length Ay : Value).ownBlock)) (n := Az.length) (c := Aw) ?_).2.2; exact (by refine rK ?_; exact (Kd.Rm (rf (rf (rf (Kd.Ry B3.o Aa.o (by decide))))) (fun _ h_ => h_.1)))); (case side2 => exact (Kd.RrZ B3.o).2.1); (case side3 => refine (Kd.RrZ (e := 34) (base := w.heap.size) (ok := fun k_ => ((((True ∧ some k_ ≠ (CE : Value).ownBlock) ∧ some k_ ≠ (Cy : Value).ownBlock) ∧ some k_ ≠ (.slice AI Ab.length AF : Value).ownBlock) ∧ some k_ ≠ (.slice Ax Az.length Aw : Value).ownBlock)) (n := AA.length) (c := Ay) ?_).2.2; exact (by refine rK ?_; exact (Kd.Rm (rf (rf (rf (Kd.Ry Bo.o Aa.o (by decide))))) (fun _ h_ => h_.1)))); (case side4 => exact (Kd.RrZ Bo.o).2.1); rintro e Lc ⟨KH, rfl, Ar, hb⟩; refine ⟨_, rfl, ?_⟩; have Cf := Z.m (Kd.R_lower (Kd.R_new' (Kd.R_new' (Kd.R_new' (Kd.R_new' (Kd.R_new' Ar (Kd.R_lt (by refine rK ?_; exact (Kd.Rm (rf (rf (rf (Kd.Ry Af.o Aa.o (by decide))))) (fun _ h_ => h_.1))))) (Kd.R_lt (by refine rK ?_; exact (Kd.Rm (rf (rf (rf (Kd.Ry Ao.o Aa.o (by decide))))) (fun _ h_ => h_.1))))) (Kd.R_lt (by refine rK ?_; exact (Kd.Rm (rf (rf (rf (Kd.Ry AP.o Aa.o (by decide))))) (fun _ h_ => h_.1))))) (Kd.R_lt (by refine rK ?_; exact (Kd.Rm (rf (rf (rf (Kd.Ry B3.o Aa.o (by decide))))) (fun _ h_ => h_.1))))) (Kd.R_lt (by refine rK ?_; exact (Kd.Rm (rf (rf (rf (Kd.Ry Bo.o Aa.o (by decide))))) (fun _ h_ => h_.1))))) (below_size (vB HB))); replace Af := Z.m (Kd.R_elder' (by refine rK ?_; exact (Kd.Rm (rf (rf (rf (Kd.Ry Af.o Aa.o (by decide))))) (fun _ h_ => h_.1))) (Kd.R_base Ar) hb); replace Ao := Z.m (Kd.R_elder' (by refine rK ?_; exact (Kd.Rm (rf (rf (rf (Kd.Ry Ao.o Aa.o (by decide))))) (fun _ h_ => h_.1))) (Kd.R_base Ar) hb); replace AP := Z.m (Kd.R_elder' (by refine rK ?_; exact (Kd.Rm (rf (rf (rf (Kd.Ry AP.o Aa.o (by decide))))) (fun _ h_ => h_.1))) (Kd.R_base Ar) hb); replace B3 := Z.m (Kd.R_elder' (by refine rK ?_; exact (Kd.Rm (rf (rf (rf (Kd.Ry B3.o Aa.o (by decide))))) (fun _ h_ => h_.1))) (Kd.R_base Ar) hb); replace Bo := Z.m (Kd.R_elder' (by refine rK ?_; exact (Kd.Rm (rf (rf (rf (Kd.Ry Bo.o Aa.o (by decide))))) (fun _ h_ => h_.1))) (Kd.R_base Ar) hb); replace A0 := Z.m (qb (g := Au) (o := .cells #[.int .i64 a0_0, .int .i64 a0_1, .slice A0_2 l0_2.length c0_2] 24 (0, 0)) (by refine bK ?_; (iterate 3 refine qF ?_ BX); exact A0.o) hb); replace A1 := Z.m (qb (g := Av) (o := .cells #[.int .i64 a1_0, .int .i64 a1_1, .slice A1_2 l1_2.length c1_2] 24 (0, 0)) (by refine bK ?_; (iterate 3 refine qF ?_ BZ); exact A1.o) hb); replace A7 := Z.m (qb (g := AK) (o := .cells #[.int .i64 Ai, .int .i64 Aj, .slice AI Ab.length AF] 29 (0, 0)) (by refine bK ?_; (iterate 3 refine qF ?_ Bh); exact A7.o) hb); replace A8 := Z.m (qb (g := Bc) (o := .cells #[.int .i64 AW, .int .i64 AX, .slice Ax Az.length Aw] 29 (0, 0)) (by refine bK ?_; (iterate 3 refine qF ?_ C0); exact A8.o) hb); replace Aa := Z.m (qb (g := Bl) (o := .cells #[.int .i64 AY, .int .i64 AZ, .slice AB AA.length Ay] 29 (0, 0)) (by refine bK ?_; apply st3; refine bK ?_; exact Aa.o) hb); replace HB := bB HB hb; (try clear hb); (try clear CS); (try clear hk); (try clear hi); (try clear Ar)) | ((with_reducible refine gq (N := 10) rfl ?_); refine be (N := 10) (cs := #[.int .i64 0, .int .i64 0, .slice none 0 0]) (t := 29) ?_; intro BH hg Ld hbox hb; have A9 := Z.m (hbox); have Eu := gW (w := w) HB hg; have CV := Eu; have Be := neL A0 hg; have Bt := neG A0 hg; have Bf := neL A1 hg; have Bu := neG A1 hg; have B4 := neL A7 hg; have Bi := neG A7 hg; have B5 := neL A8 hg; have Bj := neG A8 hg; have B9 := neL Aa hg; have Bk := neG Aa hg; replace Af := Z.m (Kd.Rb (vR Af) hb); replace Ao := Z.m (Kd.Rb (vR Ao) hb); replace AP := Z.m (Kd.Rb (vR AP) hb); replace B3 := Z.m (Kd.Rb (vR B3) hb); replace Bo := Z.m (Kd.Rb (vR Bo) hb); replace Cf := Z.m (Kd.Rb (vR Cf) hb); replace A0 := kB A0 hb; replace A1 := kB A1 hb; replace A7 := kB A7 hb; replace A8 := kB A8 hb; replace Aa := kB Aa hb; replace HB := bB HB hb; clear hb hbox hg; have JL := Bt.o; have Ka := Be.o; have JM := Bu.o; have Kb := Bf.o; have JN := Bi.o; have Kc := B4.o; have JO := Bj.o; have Ke := B5.o; have JP := Bk.o; have Kf := B9.o; have Dr := bc0 A9; have Ds := bc1 A9; have Dt := bc2 A9; have DJ := qz A9.o 0; have DK := qz A9.o 1; have DL := qz A9.o 2; obtain ⟨AH, AG, H0⟩ := Kd.R_slice Cf.o; subst H0))
   (try simp only [Act.put, q1, q2, q3])
   go_cut [53] (fun v53 wc => ∃ (kq : Nat) (CF : Bool), v53 = .bool CF ∧ Z (laws_FnExactBesideBoards.j0 kq Ap Bm CF a0_0 a0_1 l0_2 a1_0 a1_1 l1_2 Ai Aj Ab AW AX Az AY AZ AA Ak Al Ae = some true) ∧ Z (kq ≤ k) ∧ Z (Kd.R k34 34 wc w.heap.size (fun k_ => some k_ ≠ ((.slice Ax Az.length Aw) : Value).ownBlock ∧ some k_ ≠ ((.slice AB AA.length Ay) : Value).ownBlock ∧ some k_ ≠ ((.slice AH Ae.length AG) : Value).ownBlock) (.slice AI Ab.length AF) Ab) ∧ Z (Kd.R k34 34 wc w.heap.size (fun k_ => some k_ ≠ ((.slice AI Ab.length AF) : Value).ownBlock ∧ some k_ ≠ ((.slice AB AA.length Ay) : Value).ownBlock ∧ some k_ ≠ ((.slice AH Ae.length AG) : Value).ownBlock) (.slice Ax Az.length Aw) Az) ∧ Z (Kd.R k34 34 wc w.heap.size (fun k_ => some k_ ≠ ((.slice AI Ab.length AF) : Value).ownBlock ∧ some k_ ≠ ((.slice Ax Az.length Aw) : Value).ownBlock ∧ some k_ ≠ ((.slice AH Ae.length AG) : Value).ownBlock) (.slice AB AA.length Ay) AA) ∧ Z (Kd.R k34 34 wc w.heap.size (fun k_ => some k_ ≠ ((.slice AI Ab.length AF) : Value).ownBlock ∧ some k_ ≠ ((.slice Ax Az.length Aw) : Value).ownBlock ∧ some k_ ≠ ((.slice AB AA.length Ay) : Value).ownBlock) (.slice AH Ae.length AG) Ae) ∧ Z (wc.heap[Au]? = some (.cells #[.int .i64 a0_0, .int .i64 a0_1, (.slice A0_2 l0_2.length c0_2)] 24 (0, 0))) ∧ Z (wc.heap[Av]? = some (.cells #[.int .i64 a1_0, .int .i64 a1_1, (.slice A1_2 l1_2.length c1_2)] 24 (0, 0))) ∧ Z (wc.heap[AK]? = some (.cells #[.int .i64 Ai, .int .i64 Aj, (.slice AI Ab.length AF)] 29 (0, 0))) ∧ Z (wc.heap[Bc]? = some (.cells #[.int .i64 AW, .int .i64 AX, (.slice Ax Az.length Aw)] 29 (0, 0))) ∧ Z (wc.heap[Bl]? = some (.cells #[.int .i64 AY, .int .i64 AZ, (.slice AB AA.length Ay)] 29 (0, 0))) ∧ Z (wc.heap[BH]? = some (.cells #[.int .i64 Ak, .int .i64 Al, (.slice AH Ae.length AG)] 29 (0, 0))) ∧ Z (Below w.heap.size w wc))
   case first =>
    have H := Ed.o
    clear Ed
    replace H := Option.bind_eq_some_iff.mp H
    obtain ⟨Bv, Ep, H⟩ := H
    replace H : (if Bv = true then (laws_FnExactBesideBoards.j0 k Ap Bm (Bm != Ap) a0_0 a0_1 l0_2 a1_0 a1_1 l1_2 Ai Aj Ab AW AX Az AY AZ AA Ak Al Ae) else (laws_FnExactBesideBoards.j0 k Ap Bm true a0_0 a0_1 l0_2 a1_0 a1_1 l1_2 Ai Aj Ab AW AX Az AY AZ AA Ak Al Ae)) = some true := H
    have Kx := Z.m Ep
    clear Ep
    by_cases c75 : Bv = true
    ·subst c75
     have H1 : (laws_FnExactBesideBoards.j0 k Ap Bm (Bm != Ap) a0_0 a0_1 l0_2 a1_0 a1_1 l1_2 Ai Aj Ab AW AX Az AY AZ AA Ak Al Ae) = some true := by rw [if_pos rfl] at H; exact H
     clear H
     have H := H1
     clear H1
     have H' := Z.m H
     clear H
     have JQ := Bt.o
     have Kg := Be.o
     have JR := Bu.o
     have Kh := Bf.o
     have JS := Bi.o
     have Ki := B4.o
     have JT := Bj.o
     have Kj := B5.o
     have JU := Bk.o
     have Kk := B9.o
     have G7 := bc0 A9
     have G8 := bc1 A9
     have G9 := bc2 A9
     have Gp := qz A9.o 0
     have Gq := qz A9.o 1
     have Gr := qz A9.o 2
     have JV := AD.o
     have Kl := Ag.o
     have JW := AE.o
     have Km := Ah.o
     have JX := Bg.o
     have Kn := Br.o
     have JY := Bh.o
     have Ko := Bs.o
     have Ga := bc0 A7
     have Gb := bc1 A7
     have Gc := bc2 A7
     have Gs := qz A7.o 0
     have Gt := qz A7.o 1
     have Gu := qz A7.o 2
     go_wp2_with (first | ((with_reducible refine gc (f := 19) rfl ?_); refine gA (some 47) _ #[.agg #[.int .i64 Ak, .int .i64 Al, .slice AH Ae.length AG], .agg #[.int .i64 Ai, .int .i64 Aj, .slice AI Ab.length AF]] ?_ Try.func19; (with_reducible refine (laws_eqBoard.calls k Ak Al _ _ Ae Ai Aj _ _ Ab true _ ?side1 ?side2 ?side3 ?side4 Kx.o).mono ?_); (case side1 => refine (Kd.RrZ (e := 34) (base := w.heap.size) (ok := fun k_ => (((((True ∧ some k_ ≠ (CE : Value).ownBlock) ∧ some k_ ≠ (Cy : Value).ownBlock) ∧ some k_ ≠ (.slice AI Ab.length AF : Value).ownBlock) ∧ some k_ ≠ (.slice Ax Az.length Aw : Value).ownBlock) ∧ some k_ ≠ (.slice AB AA.length Ay : Value).ownBlock)) (n := Ae.length) (c := AG) ?_).2.2; exact (by refine rK ?_; exact (Kd.Rm (rf (rf (rf (Kd.Ry Cf.o A9.o (by decide))))) (fun _ h_ => h_.1)))); (case side2 => exact (Kd.RrZ Cf.o).2.1); (case side3 => refine (Kd.RrZ (e := 34) (base := w.heap.size) (ok := fun k_ => ((((some k_ ≠ (CE : Value).ownBlock ∧ some k_ ≠ (Cy : Value).ownBlock) ∧ some k_ ≠ (.slice Ax Az.length Aw : Value).ownBlock) ∧ some k_ ≠ (.slice AB AA.length Ay : Value).ownBlock) ∧ some k_ ≠ (.slice AH Ae.length AG : Value).ownBlock)) (n := Ab.length) (c := AF) ?_).2.2; exact (by refine rK ?_; exact (Kd.Rm (rf (rf (rf (Kd.Ry AP.o A9.o (by decide))))) (fun _ h_ => h_.1)))); (case side4 => exact (Kd.RrZ AP.o).2.1); rintro e Le ⟨rfl, hb⟩; refine ⟨_, rfl, ?_⟩; replace Af := Z.m (Kd.Rb (by refine rK ?_; exact (Kd.Rm (rf (rf (rf (Kd.Ry Af.o A9.o (by decide))))) (fun _ h_ => h_.1))) hb); replace Ao := Z.m (Kd.Rb (by refine rK ?_; exact (Kd.Rm (rf (rf (rf (Kd.Ry Ao.o A9.o (by decide))))) (fun _ h_ => h_.1))) hb); replace AP := Z.m (Kd.Rb (by refine rK ?_; exact (Kd.Rm (rf (rf (rf (Kd.Ry AP.o A9.o (by decide))))) (fun _ h_ => h_.1))) hb); replace B3 := Z.m (Kd.Rb (by refine rK ?_; exact (Kd.Rm (rf (rf (rf (Kd.Ry B3.o A9.o (by decide))))) (fun _ h_ => h_.1))) hb); replace Bo := Z.m (Kd.Rb (by refine rK ?_; exact (Kd.Rm (rf (rf (rf (Kd.Ry Bo.o A9.o (by decide))))) (fun _ h_ => h_.1))) hb); replace Cf := Z.m (Kd.Rb (by refine rK ?_; exact (Kd.Rm (rf (rf (rf (Kd.Ry Cf.o A9.o (by decide))))) (fun _ h_ => h_.1))) hb); replace A0 := Z.m (qb (g := Au) (o := .cells #[.int .i64 a0_0, .int .i64 a0_1, .slice A0_2 l0_2.length c0_2] 24 (0, 0)) (by refine bK ?_; (iterate 3 refine qF ?_ Be); exact A0.o) hb); replace A1 := Z.m (qb (g := Av) (o := .cells #[.int .i64 a1_0, .int .i64 a1_1, .slice A1_2 l1_2.length c1_2] 24 (0, 0)) (by refine bK ?_; (iterate 3 refine qF ?_ Bf); exact A1.o) hb); replace A7 := Z.m (qb (g := AK) (o := .cells #[.int .i64 Ai, .int .i64 Aj, .slice AI Ab.length AF] 29 (0, 0)) (by refine bK ?_; (iterate 3 refine qF ?_ B4); exact A7.o) hb); replace A8 := Z.m (qb (g := Bc) (o := .cells #[.int .i64 AW, .int .i64 AX, .slice Ax Az.length Aw] 29 (0, 0)) (by refine bK ?_; (iterate 3 refine qF ?_ B5); exact A8.o) hb); replace Aa := Z.m (qb (g := Bl) (o := .cells #[.int .i64 AY, .int .i64 AZ, .slice AB AA.length Ay] 29 (0, 0)) (by refine bK ?_; (iterate 3 refine qF ?_ B9); exact Aa.o) hb); replace A9 := Z.m (qb (g := BH) (o := .cells #[.int .i64 Ak, .int .i64 Al, .slice AH Ae.length AG] 29 (0, 0)) (by refine bK ?_; apply st3; refine bK ?_; exact A9.o) hb); replace HB := bB HB hb; (try clear hb); (try clear CS); (try clear hk); (try clear hi)))
     go_meet
     case rel => exact ⟨_, ((Bm != Ap)), (by first | rfl | (simp; done) | (simp [*]; done)), H', ⟨by first | omega | exact Nat.le_refl _⟩, ⟨by refine rK ?_; exact Kd.Rm AP.o (fun _ hk => ⟨hk.1.1.2, ⟨hk.1.2, hk.2⟩⟩)⟩, ⟨by refine rK ?_; exact Kd.Rm B3.o (fun _ hk => ⟨hk.1.1.2, ⟨hk.1.2, hk.2⟩⟩)⟩, ⟨by refine rK ?_; exact Kd.Rm Bo.o (fun _ hk => ⟨hk.1.1.2, ⟨hk.1.2, hk.2⟩⟩)⟩, ⟨by refine rK ?_; exact Kd.Rm Cf.o (fun _ hk => ⟨hk.1.1.2, ⟨hk.1.2, hk.2⟩⟩)⟩, ⟨vK A0⟩, ⟨vK A1⟩, ⟨vK A7⟩, ⟨vK A8⟩, ⟨vK Aa⟩, ⟨vK A9⟩, ⟨vB HB⟩⟩
    ·(rw [if_neg c75] at H; exact absurd H (laws_FnExactBesideBoards.bad_j0 _ _ _ _ _ _ _ _ _ _ _ _ _ _ _ _ _ _ _ _ _))
   case rest =>
    clear Ed
    (try clear Dc); (try clear Dd); (try clear De); (try clear Df); (try clear Dg); (try clear Dh); (try clear Di); (try clear Dj)
    (try clear Dk); (try clear Dl); (try clear Dm); (try clear Dn); (try clear Do); (try clear Dp); (try clear Dq); (try clear Dr)
    (try clear Ds); (try clear Dt); (try clear Du); (try clear Dv); (try clear Dw); (try clear Dx); (try clear Dy); (try clear Dz)
    (try clear DA); (try clear DB); (try clear DC); (try clear DD); (try clear DE); (try clear DF); (try clear DG); (try clear DH)
    (try clear DI); (try clear DJ); (try clear DK); (try clear DL)
    obtain ⟨kq, CF, rfl, HA, Ee, A6, A4, A5, A2, A0, A1, A7, A8, Aa, A9, HB⟩ := hcut
    cases kq with
    | zero => exact absurd HA.o (by simp [laws_FnExactBesideBoards.j0])
    | succ kj24 =>
     have H := HA.o
     clear HA
     simp only [laws_FnExactBesideBoards.j0] at H
     by_cases c100 : CF = true
     ·(rw [if_pos c100] at H; exact absurd H (by decide))
     ·replace c100 := Bool.eq_false_iff.mpr c100
      subst c100
      have H1 : ((laws_toBoard.f kj24 a0_0 a0_1 l0_2).bind fun bt579 => ((laws_eqBoard.f kj24 AW AX Az bt579.1 bt579.2.1 bt579.2.2).bind fun CR => (if CR = true then ((laws_toBoard.f kj24 a1_0 a1_1 l1_2).bind fun bt585 => ((laws_eqBoard.f kj24 AY AZ AA bt585.1 bt585.2.1 bt585.2.2).bind fun Cl => (if Cl = true then ((laws_markBoard.f kj24 AW AX Az 1).bind fun bt591 => ((laws_markBoard.f kj24 AY AZ AA bt591.1).bind fun bt593 => (if bt593.1 < 0 then (laws_FnExactBesideBoards.j1 kj24 Ap true a0_0 a0_1 l0_2 a1_0 a1_1 l1_2 Ai Aj Ab Ak Al Ae) else ((laws_eqBoard.f kj24 Ak Al Ae Ai Aj Ab).bind fun Bw => (if Bw = true then (laws_FnExactBesideBoards.j1 kj24 Ap (Bm != Ap) a0_0 a0_1 l0_2 a1_0 a1_1 l1_2 Ai Aj Ab Ak Al Ae) else (laws_FnExactBesideBoards.j1 kj24 Ap true a0_0 a0_1 l0_2 a1_0 a1_1 l1_2 Ai Aj Ab Ak Al Ae)))))) else (some false)))) else (some false)))) = some true := by rw [if_neg (show ¬ (false = true) by decide)] at H; exact H
      clear H
      have H := H1
      clear H1
      replace H := Option.bind_eq_some_iff.mp H
      obtain ⟨⟨DM, DN, Ci⟩, DR, H⟩ := H
      replace H : ((laws_eqBoard.f kj24 AW AX Az DM DN Ci).bind fun CR => (if CR = true then ((laws_toBoard.f kj24 a1_0 a1_1 l1_2).bind fun bt585 => ((laws_eqBoard.f kj24 AY AZ AA bt585.1 bt585.2.1 bt585.2.2).bind fun Cl => (if Cl = true then ((laws_markBoard.f kj24 AW AX Az 1).bind fun bt591 => ((laws_markBoard.f kj24 AY AZ AA bt591.1).bind fun bt593 => (if bt593.1 < 0 then (laws_FnExactBesideBoards.j1 kj24 Ap true a0_0 a0_1 l0_2 a1_0 a1_1 l1_2 Ai Aj Ab Ak Al Ae) else ((laws_eqBoard.f kj24 Ak Al Ae Ai Aj Ab).bind fun Bw => (if Bw = true then (laws_FnExactBesideBoards.j1 kj24 Ap (Bm != Ap) a0_0 a0_1 l0_2 a1_0 a1_1 l1_2 Ai Aj Ab Ak Al Ae) else (laws_FnExactBesideBoards.j1 kj24 Ap true a0_0 a0_1 l0_2 a1_0 a1_1 l1_2 Ai Aj Ab Ak Al Ae)))))) else (some false)))) else (some false))) = some true := H
      have GH := Z.m DR
      clear DR
      replace H := Option.bind_eq_some_iff.mp H
      obtain ⟨CR, DS, H⟩ := H
      replace H : (if CR = true then ((laws_toBoard.f kj24 a1_0 a1_1 l1_2).bind fun bt585 => ((laws_eqBoard.f kj24 AY AZ AA bt585.1 bt585.2.1 bt585.2.2).bind fun Cl => (if Cl = true then ((laws_markBoard.f kj24 AW AX Az 1).bind fun bt591 => ((laws_markBoard.f kj24 AY AZ AA bt591.1).bind fun bt593 => (if bt593.1 < 0 then (laws_FnExactBesideBoards.j1 kj24 Ap true a0_0 a0_1 l0_2 a1_0 a1_1 l1_2 Ai Aj Ab Ak Al Ae) else ((laws_eqBoard.f kj24 Ak Al Ae Ai Aj Ab).bind fun Bw => (if Bw = true then (laws_FnExactBesideBoards.j1 kj24 Ap (Bm != Ap) a0_0 a0_1 l0_2 a1_0 a1_1 l1_2 Ai Aj Ab Ak Al Ae) else (laws_FnExactBesideBoards.j1 kj24 Ap true a0_0 a0_1 l0_2 a1_0 a1_1 l1_2 Ai Aj Ab Ak Al Ae)))))) else (some false)))) else (some false)) = some true := H
      have GI := Z.m DS
      clear DS
      by_cases c103 : CR = true
      ·subst c103
       have H1 : ((laws_toBoard.f kj24 a1_0 a1_1 l1_2).bind fun bt585 => ((laws_eqBoard.f kj24 AY AZ AA bt585.1 bt585.2.1 bt585.2.2).bind fun Cl => (if Cl = true then ((laws_markBoard.f kj24 AW AX Az 1).bind fun bt591 => ((laws_markBoard.f kj24 AY AZ AA bt591.1).bind fun bt593 => (if bt593.1 < 0 then (laws_FnExactBesideBoards.j1 kj24 Ap true a0_0 a0_1 l0_2 a1_0 a1_1 l1_2 Ai Aj Ab Ak Al Ae) else ((laws_eqBoard.f kj24 Ak Al Ae Ai Aj Ab).bind fun Bw => (if Bw = true then (laws_FnExactBesideBoards.j1 kj24 Ap (Bm != Ap) a0_0 a0_1 l0_2 a1_0 a1_1 l1_2 Ai Aj Ab Ak Al Ae) else (laws_FnExactBesideBoards.j1 kj24 Ap true a0_0 a0_1 l0_2 a1_0 a1_1 l1_2 Ai Aj Ab Ak Al Ae)))))) else (some false)))) = some true := by rw [if_pos rfl] at H; exact H
       clear H
       have H := H1
       clear H1
       replace H := Option.bind_eq_some_iff.mp H
       obtain ⟨⟨DO, DP, Cj⟩, DT, H⟩ := H
       replace H : ((laws_eqBoard.f kj24 AY AZ AA DO DP Cj).bind fun Cl => (if Cl = true then ((laws_markBoard.f kj24 AW AX Az 1).bind fun bt591 => ((laws_markBoard.f kj24 AY AZ AA bt591.1).bind fun bt593 => (if bt593.1 < 0 then (laws_FnExactBesideBoards.j1 kj24 Ap true a0_0 a0_1 l0_2 a1_0 a1_1 l1_2 Ai Aj Ab Ak Al Ae) else ((laws_eqBoard.f kj24 Ak Al Ae Ai Aj Ab).bind fun Bw => (if Bw = true then (laws_FnExactBesideBoards.j1 kj24 Ap (Bm != Ap) a0_0 a0_1 l0_2 a1_0 a1_1 l1_2 Ai Aj Ab Ak Al Ae) else (laws_FnExactBesideBoards.j1 kj24 Ap true a0_0 a0_1 l0_2 a1_0 a1_1 l1_2 Ai Aj Ab Ak Al Ae)))))) else (some false))) = some true := H
       have GJ := Z.m DT
       clear DT
       replace H := Option.bind_eq_some_iff.mp H
       obtain ⟨Cl, DU, H⟩ := H
       replace H : (if Cl = true then ((laws_markBoard.f kj24 AW AX Az 1).bind fun bt591 => ((laws_markBoard.f kj24 AY AZ AA bt591.1).bind fun bt593 => (if bt593.1 < 0 then (laws_FnExactBesideBoards.j1 kj24 Ap true a0_0 a0_1 l0_2 a1_0 a1_1 l1_2 Ai Aj Ab Ak Al Ae) else ((laws_eqBoard.f kj24 Ak Al Ae Ai Aj Ab).bind fun Bw => (if Bw = true then (laws_FnExactBesideBoards.j1 kj24 Ap (Bm != Ap) a0_0 a0_1 l0_2 a1_0 a1_1 l1_2 Ai Aj Ab Ak Al Ae) else (laws_FnExactBesideBoards.j1 kj24 Ap true a0_0 a0_1 l0_2 a1_0 a1_1 l1_2 Ai Aj Ab Ak Al Ae)))))) else (some false)) = some true := H
       have GK := Z.m DU
       clear DU
       by_cases c106 : Cl = true
       ·subst c106
        have H1 : ((laws_markBoard.f kj24 AW AX Az 1).bind fun bt591 => ((laws_markBoard.f kj24 AY AZ AA bt591.1).bind fun bt593 => (if bt593.1 < 0 then (laws_FnExactBesideBoards.j1 kj24 Ap true a0_0 a0_1 l0_2 a1_0 a1_1 l1_2 Ai Aj Ab Ak Al Ae) else ((laws_eqBoard.f kj24 Ak Al Ae Ai Aj Ab).bind fun Bw => (if Bw = true then (laws_FnExactBesideBoards.j1 kj24 Ap (Bm != Ap) a0_0 a0_1 l0_2 a1_0 a1_1 l1_2 Ai Aj Ab Ak Al Ae) else (laws_FnExactBesideBoards.j1 kj24 Ap true a0_0 a0_1 l0_2 a1_0 a1_1 l1_2 Ai Aj Ab Ak Al Ae)))))) = some true := by rw [if_pos rfl] at H; exact H
        clear H
        have H := H1
        clear H1
        replace H := Option.bind_eq_some_iff.mp H
        obtain ⟨⟨DQ, B0⟩, DV, H⟩ := H
        replace H : ((laws_markBoard.f kj24 AY AZ AA DQ).bind fun bt593 => (if bt593.1 < 0 then (laws_FnExactBesideBoards.j1 kj24 Ap true a0_0 a0_1 l0_2 a1_0 a1_1 l1_2 Ai Aj Ab Ak Al Ae) else ((laws_eqBoard.f kj24 Ak Al Ae Ai Aj Ab).bind fun Bw => (if Bw = true then (laws_FnExactBesideBoards.j1 kj24 Ap (Bm != Ap) a0_0 a0_1 l0_2 a1_0 a1_1 l1_2 Ai Aj Ab Ak Al Ae) else (laws_FnExactBesideBoards.j1 kj24 Ap true a0_0 a0_1 l0_2 a1_0 a1_1 l1_2 Ai Aj Ab Ak Al Ae))))) = some true := H
        have GL := Z.m DV
        clear DV
        replace H := Option.bind_eq_some_iff.mp H
        obtain ⟨⟨Ef, B1⟩, DW, H⟩ := H
        replace H : (if Ef < 0 then (laws_FnExactBesideBoards.j1 kj24 Ap true a0_0 a0_1 l0_2 a1_0 a1_1 l1_2 Ai Aj Ab Ak Al Ae) else ((laws_eqBoard.f kj24 Ak Al Ae Ai Aj Ab).bind fun Bw => (if Bw = true then (laws_FnExactBesideBoards.j1 kj24 Ap (Bm != Ap) a0_0 a0_1 l0_2 a1_0 a1_1 l1_2 Ai Aj Ab Ak Al Ae) else (laws_FnExactBesideBoards.j1 kj24 Ap true a0_0 a0_1 l0_2 a1_0 a1_1 l1_2 Ai Aj Ab Ak Al Ae)))) = some true := H
        have GM := Z.m DW
        clear DW
        have CW := Z.m H
        clear H
        try go_wp2
        replace A6 := Z.m (Kd.R_drew A6.o)
        replace A4 := Z.m (Kd.R_drew A4.o)
        replace A5 := Z.m (Kd.R_drew A5.o)
        replace A2 := Z.m (Kd.R_drew A2.o)
        replace A0 := Z.m (blk_drew A0.o)
        replace A1 := Z.m (blk_drew A1.o)
        replace A7 := Z.m (blk_drew A7.o)
        replace A8 := Z.m (blk_drew A8.o)
        replace Aa := Z.m (blk_drew Aa.o)
        replace A9 := Z.m (blk_drew A9.o)
        replace HB := Z.m (qd HB.o)
        refine start_ (n := 5) (S := fun w' => w'.cell? ⟨Bc, 0, none⟩ = some (.int .i64 AW) ∧ w'.cell? ⟨Bc, 1, none⟩ = some (.int .i64 AX) ∧ w'.cell? ⟨Bc, 2, none⟩ = some (.slice Ax Az.length Aw) ∧ w'.cell? ⟨Au, 0, none⟩ = some (.int .i64 a0_0) ∧ w'.cell? ⟨Au, 1, none⟩ = some (.int .i64 a0_1) ∧ w'.cell? ⟨Au, 2, none⟩ = some (.slice A0_2 l0_2.length c0_2)) (ds := []) #[false, false, false, false, false] (by kernel_rfl) rfl rfl ⟨(ql A8.o 0).trans rfl, (ql A8.o 1).trans rfl, (ql A8.o 2).trans rfl, (ql A0.o 0).trans rfl, (ql A0.o 1).trans rfl, (ql A0.o 2).trans rfl⟩ (fun hHeld => ?_)
        generalize wc.drew = KK at A6 A4 A5 A2 A0 A1 A7 A8 Aa A9 HB hHeld ⊢
        refine take_ (i := 0) (N := some 54) (v := ?_) (a' := ?_) #[true, false, false, false, false] rfl rfl (by kernel_rfl) (fun _ _ _ h => h) (Or.inl ⟨by rfl, ?_⟩) hHeld ?_ ?_
        rotate_left
        ·rintro w' ⟨s0, s1, s2, s3, s4, s5⟩
         go_simp
         with_reducible rfl
        rotate_left
        ·simp only [Act.put, q1, q2, q3, i64_w, i32_w]
         rfl
        refine take_ (i := 1) (N := some 55) (v := ?_) (a' := ?_) #[true, true, false, false, false] rfl rfl (by kernel_rfl) (fun _ _ _ h => h) (Or.inl ⟨by rfl, ?_⟩) hHeld ?_ ?_
        rotate_left
        ·rintro w' ⟨s0, s1, s2, s3, s4, s5⟩
         go_simp
         with_reducible rfl
        rotate_left
        ·simp only [Act.put, q1, q2, q3, i64_w, i32_w]
         rfl
        refine one_ (i := 2) (N := some 56) #[true, true, true, false, false] rfl rfl (by kernel_rfl) (by decide) (fun K hK => ?_)
        refine goes_ Try.func17 (by kernel_rfl) rfl #[.agg #[.int .i64 a0_0, .int .i64 a0_1, .slice A0_2 l0_2.length c0_2]] (by rfl) rfl rfl (by (try simp only [List.map_toArray, List.map_cons, List.map_nil]); first | done | rfl | (simp only [List.length_drop, List.length_take]; rfl)) ?_
        with_reducible refine (laws_toBoard.calls kj24 a0_0 a0_1 _ _ l0_2 DM DN Ci _ ?side1 ?side2 GH.o).mono ?_
        (case side1 => repeat (first | exact (Kd.C_below BQ.o HB.o) | (with_reducible refine Kd.C_alloc ?_ _) | (with_reducible refine Kd.C_drewN ?_ _) | (with_reducible refine Kd.C_drew ?_)))
        (case side2 => exact BP.o)
        rintro e KL ⟨KI, rfl, Ar, hb⟩
        refine ⟨_, rfl, ?_⟩
        have B2 := Z.m (Kd.R_lower (Kd.R_new' (Kd.R_new' (Kd.R_new' (Kd.R_new' Ar (Kd.R_lt (vR A6))) (Kd.R_lt (vR A4))) (Kd.R_lt (vR A5))) (Kd.R_lt (vR A2))) (below_size (vB HB)))
        replace A6 := Z.m (Kd.R_elder' (vR A6) (Kd.R_base Ar) hb)
        replace A4 := Z.m (Kd.R_elder' (vR A4) (Kd.R_base Ar) hb)
        replace A5 := Z.m (Kd.R_elder' (vR A5) (Kd.R_base Ar) hb)
        replace A2 := Z.m (Kd.R_elder' (vR A2) (Kd.R_base Ar) hb)
        replace A0 := kB A0 hb
        replace A1 := kB A1 hb
        replace A7 := kB A7 hb
        replace A8 := kB A8 hb
        replace Aa := kB Aa hb
        replace A9 := kB A9 hb
        replace HB := bB HB hb
        (try clear hb); (try clear Ar)
        obtain ⟨BM, BR, E7⟩ := Kd.R_slice B2.o
        (first | subst E7 | (injection E7 with f1_ f2_ f3_; have f4_ := f1_.symm; have f5_ := f3_.symm; clear f1_ f2_ f3_; subst f4_; subst f5_))
        refine hK.out _ _ ⟨(ql A8.o 0).trans rfl, (ql A8.o 1).trans rfl, (ql A8.o 2).trans rfl, (ql A0.o 0).trans rfl, (ql A0.o 1).trans rfl, (ql A0.o 2).trans rfl⟩ (fun hHeld => ?_)
        clear hK K
        refine norm_ (a' := ?_) ?_ ?_
        rotate_left
        ·show Act.put _ (some 56) _ = _
         simp only [Act.put, q1, q2, q3, i64_w, i32_w]
         rfl
        refine one_ (i := 3) (N := some 57) #[true, true, true, true, false] rfl rfl (by kernel_rfl) (by decide) (fun K hK => ?_)
        refine goes_ Try.func19 (by kernel_rfl) rfl #[.agg #[.int .i64 AW, .int .i64 AX, .slice Ax Az.length Aw], .agg #[.int .i64 DM, .int .i64 DN, .slice BM Ci.length BR]] (by rfl) rfl rfl (by (try simp only [List.map_toArray, List.map_cons, List.map_nil]); first | done | rfl | (simp only [List.length_drop, List.length_take]; rfl)) ?_
        with_reducible refine (laws_eqBoard.calls kj24 AW AX _ _ Az DM DN _ _ Ci true _ ?side1 ?side2 ?side3 ?side4 GI.o).mono ?_
        (case side1 => repeat (first | exact (Kd.RrZ A4.o).2.2 | (with_reducible refine Kd.C_alloc ?_ _) | (with_reducible refine Kd.C_drewN ?_ _) | (with_reducible refine Kd.C_drew ?_)))
        (case side2 => exact (Kd.RrZ A4.o).2.1)
        (case side3 => repeat (first | exact (Kd.RrZ B2.o).2.2 | (with_reducible refine Kd.C_alloc ?_ _) | (with_reducible refine Kd.C_drewN ?_ _) | (with_reducible refine Kd.C_drew ?_)))
        (case side4 => exact (Kd.RrZ B2.o).2.1)
        rintro e Js ⟨rfl, hb⟩
        refine ⟨_, rfl, ?_⟩
        replace A6 := Z.m (Kd.Rb (vR A6) hb)
        replace A4 := Z.m (Kd.Rb (vR A4) hb)
        replace A5 := Z.m (Kd.Rb (vR A5) hb)
        replace A2 := Z.m (Kd.Rb (vR A2) hb)
        replace B2 := Z.m (Kd.Rb (vR B2) hb)
        replace A0 := kB A0 hb
        replace A1 := kB A1 hb
        replace A7 := kB A7 hb
        replace A8 := kB A8 hb
        replace Aa := kB Aa hb
        replace A9 := kB A9 hb
        replace HB := bB HB hb
        (try clear hb)
        refine hK.out _ _ ⟨(ql A8.o 0).trans rfl, (ql A8.o 1).trans rfl, (ql A8.o 2).trans rfl, (ql A0.o 0).trans rfl, (ql A0.o 1).trans rfl, (ql A0.o 2).trans rfl⟩ (fun hHeld => ?_)
        clear hK K
        refine norm_ (a' := ?_) ?_ ?_
        rotate_left
        ·show Act.put _ (some 57) _ = _
         simp only [Act.put, q1, q2, q3, i64_w, i32_w]
         rfl
        refine pure_ (i := 4) (N := some 58) (v := ?_) (a' := ?_) #[true, true, true, true, true] rfl rfl (by kernel_rfl) (fun _ _ _ h => h) (Or.inl ⟨by rfl, ?_⟩) ?_ ?_
        rotate_left
        ·intro w'
         go_simp
         with_reducible rfl
        rotate_left
        ·simp only [Act.put, q1, q2, q3, i64_w, i32_w]
         rfl
        refine done_ (by kernel_rfl) ?_
        try go_wp2
        replace A6 := Z.m (Kd.R_drew A6.o)
        replace A4 := Z.m (Kd.R_drew A4.o)
        replace A5 := Z.m (Kd.R_drew A5.o)
        replace A2 := Z.m (Kd.R_drew A2.o)
        replace B2 := Z.m (Kd.R_drew B2.o)
        replace A0 := Z.m (blk_drew A0.o)
        replace A1 := Z.m (blk_drew A1.o)
        replace A7 := Z.m (blk_drew A7.o)
        replace A8 := Z.m (blk_drew A8.o)
        replace Aa := Z.m (blk_drew Aa.o)
        replace A9 := Z.m (blk_drew A9.o)
        replace HB := Z.m (qd HB.o)
        refine start_ (n := 5) (S := fun w' => w'.cell? ⟨Bl, 0, none⟩ = some (.int .i64 AY) ∧ w'.cell? ⟨Bl, 1, none⟩ = some (.int .i64 AZ) ∧ w'.cell? ⟨Bl, 2, none⟩ = some (.slice AB AA.length Ay) ∧ w'.cell? ⟨Av, 0, none⟩ = some (.int .i64 a1_0) ∧ w'.cell? ⟨Av, 1, none⟩ = some (.int .i64 a1_1) ∧ w'.cell? ⟨Av, 2, none⟩ = some (.slice A1_2 l1_2.length c1_2)) (ds := []) #[false, false, false, false, false] (by kernel_rfl) rfl rfl ⟨(ql Aa.o 0).trans rfl, (ql Aa.o 1).trans rfl, (ql Aa.o 2).trans rfl, (ql A1.o 0).trans rfl, (ql A1.o 1).trans rfl, (ql A1.o 2).trans rfl⟩ (fun hHeld => ?_)
        generalize Js.drew = KM at A6 A4 A5 A2 B2 A0 A1 A7 A8 Aa A9 HB hHeld ⊢
        refine take_ (i := 0) (N := some 59) (v := ?_) (a' := ?_) #[true, false, false, false, false] rfl rfl (by kernel_rfl) (fun _ _ _ h => h) (Or.inl ⟨by rfl, ?_⟩) hHeld ?_ ?_
        rotate_left
        ·rintro w' ⟨s0, s1, s2, s3, s4, s5⟩
         go_simp
         with_reducible rfl
        rotate_left
        ·simp only [Act.put, q1, q2, q3, i64_w, i32_w]
         rfl
        refine take_ (i := 1) (N := some 60) (v := ?_) (a' := ?_) #[true, true, false, false, false] rfl rfl (by kernel_rfl) (fun _ _ _ h => h) (Or.inl ⟨by rfl, ?_⟩) hHeld ?_ ?_
        rotate_left
        ·rintro w' ⟨s0, s1, s2, s3, s4, s5⟩
         go_simp
         with_reducible rfl
        rotate_left
        ·simp only [Act.put, q1, q2, q3, i64_w, i32_w]
         rfl
        refine one_ (i := 2) (N := some 61) #[true, true, true, false, false] rfl rfl (by kernel_rfl) (by decide) (fun K hK => ?_)
        refine goes_ Try.func17 (by kernel_rfl) rfl #[.agg #[.int .i64 a1_0, .int .i64 a1_1, .slice A1_2 l1_2.length c1_2]] (by rfl) rfl rfl (by (try simp only [List.map_toArray, List.map_cons, List.map_nil]); first | done | rfl | (simp only [List.length_drop, List.length_take]; rfl)) ?_
        with_reducible refine (laws_toBoard.calls kj24 a1_0 a1_1 _ _ l1_2 DO DP Cj _ ?side1 ?side2 GJ.o).mono ?_
        (case side1 => repeat (first | exact (Kd.C_below BJ.o HB.o) | (with_reducible refine Kd.C_alloc ?_ _) | (with_reducible refine Kd.C_drewN ?_ _) | (with_reducible refine Kd.C_drew ?_)))
        (case side2 => exact BI.o)
        rintro e KN ⟨KJ, rfl, Ar, hb⟩
        refine ⟨_, rfl, ?_⟩
        have BE := Z.m (Kd.R_lower (Kd.R_new' (Kd.R_new' (Kd.R_new' (Kd.R_new' (Kd.R_new' Ar (Kd.R_lt (vR A6))) (Kd.R_lt (vR A4))) (Kd.R_lt (vR A5))) (Kd.R_lt (vR A2))) (Kd.R_lt (vR B2))) (below_size (vB HB)))
        replace A6 := Z.m (Kd.R_elder' (vR A6) (Kd.R_base Ar) hb)
        replace A4 := Z.m (Kd.R_elder' (vR A4) (Kd.R_base Ar) hb)
        replace A5 := Z.m (Kd.R_elder' (vR A5) (Kd.R_base Ar) hb)
        replace A2 := Z.m (Kd.R_elder' (vR A2) (Kd.R_base Ar) hb)
        replace B2 := Z.m (Kd.R_elder' (vR B2) (Kd.R_base Ar) hb)
        replace A0 := kB A0 hb
        replace A1 := kB A1 hb
        replace A7 := kB A7 hb
        replace A8 := kB A8 hb
        replace Aa := kB Aa hb
        replace A9 := kB A9 hb
        replace HB := bB HB hb
        (try clear hb); (try clear Ar)
        obtain ⟨BN, BS, E8⟩ := Kd.R_slice BE.o
        (first | subst E8 | (injection E8 with f1_ f2_ f3_; have f4_ := f1_.symm; have f5_ := f3_.symm; clear f1_ f2_ f3_; subst f4_; subst f5_))
        refine hK.out _ _ ⟨(ql Aa.o 0).trans rfl, (ql Aa.o 1).trans rfl, (ql Aa.o 2).trans rfl, (ql A1.o 0).trans rfl, (ql A1.o 1).trans rfl, (ql A1.o 2).trans rfl⟩ (fun hHeld => ?_)
        clear hK K
        refine norm_ (a' := ?_) ?_ ?_
        rotate_left
        ·show Act.put _ (some 61) _ = _
         simp only [Act.put, q1, q2, q3, i64_w, i32_w]
         rfl
        refine one_ (i := 3) (N := some 62) #[true, true, true, true, false] rfl rfl (by kernel_rfl) (by decide) (fun K hK => ?_)
        refine goes_ Try.func19 (by kernel_rfl) rfl #[.agg #[.int .i64 AY, .int .i64 AZ, .slice AB AA.length Ay], .agg #[.int .i64 DO, .int .i64 DP, .slice BN Cj.length BS]] (by rfl) rfl rfl (by (try simp only [List.map_toArray, List.map_cons, List.map_nil]); first | done | rfl | (simp only [List.length_drop, List.length_take]; rfl)) ?_
        with_reducible refine (laws_eqBoard.calls kj24 AY AZ _ _ AA DO DP _ _ Cj true _ ?side1 ?side2 ?side3 ?side4 GK.o).mono ?_
        (case side1 => repeat (first | exact (Kd.RrZ A5.o).2.2 | (with_reducible refine Kd.C_alloc ?_ _) | (with_reducible refine Kd.C_drewN ?_ _) | (with_reducible refine Kd.C_drew ?_)))
        (case side2 => exact (Kd.RrZ A5.o).2.1)
        (case side3 => repeat (first | exact (Kd.RrZ BE.o).2.2 | (with_reducible refine Kd.C_alloc ?_ _) | (with_reducible refine Kd.C_drewN ?_ _) | (with_reducible refine Kd.C_drew ?_)))
        (case side4 => exact (Kd.RrZ BE.o).2.1)
        rintro e KO ⟨rfl, hb⟩
        refine ⟨_, rfl, ?_⟩
        replace A6 := Z.m (Kd.Rb (vR A6) hb)
        replace A4 := Z.m (Kd.Rb (vR A4) hb)
        replace A5 := Z.m (Kd.Rb (vR A5) hb)
        replace A2 := Z.m (Kd.Rb (vR A2) hb)
        replace B2 := Z.m (Kd.Rb (vR B2) hb)
        replace BE := Z.m (Kd.Rb (vR BE) hb)
        replace A0 := kB A0 hb
        replace A1 := kB A1 hb
        replace A7 := kB A7 hb
        replace A8 := kB A8 hb
        replace Aa := kB Aa hb
        replace A9 := kB A9 hb
        replace HB := bB HB hb
        (try clear hb)
        refine hK.out _ _ ⟨(ql Aa.o 0).trans rfl, (ql Aa.o 1).trans rfl, (ql Aa.o 2).trans rfl, (ql A1.o 0).trans rfl, (ql A1.o 1).trans rfl, (ql A1.o 2).trans rfl⟩ (fun hHeld => ?_)
        clear hK K
        refine norm_ (a' := ?_) ?_ ?_
        rotate_left
        ·show Act.put _ (some 62) _ = _
         simp only [Act.put, q1, q2, q3, i64_w, i32_w]
         rfl
        refine pure_ (i := 4) (N := some 63) (v := ?_) (a' := ?_) #[true, true, true, true, true] rfl rfl (by kernel_rfl) (fun _ _ _ h => h) (Or.inl ⟨by rfl, ?_⟩) ?_ ?_
        rotate_left
        ·intro w'
         go_simp
         with_reducible rfl
        rotate_left
        ·simp only [Act.put, q1, q2, q3, i64_w, i32_w]
         rfl
        refine done_ (by kernel_rfl) ?_
        have H8 := Cz.o
        have HO := BW.o
        have H9 := CA.o
        have HP := BY.o
        have Ha := Br.o
        have HQ := Bg.o
        have Hb := C0.o
        have HR := CD.o
        have Hc := B5.o
        have HS := Bj.o
        have CZ := bc0 A8
        have D0 := bc1 A8
        have D1 := bc2 A8
        have D5 := qz A8.o 0
        have D6 := qz A8.o 1
        have D7 := qz A8.o 2
        go_upto_region 21 with (first | ((with_reducible refine gc (f := 25) rfl ?_); refine gA (some 66) _ #[.agg #[.int .i64 AW, .int .i64 AX, .slice Ax Az.length Aw], .int .i64 1] ?_ Try.func25; (with_reducible refine (laws_markBoard.calls kj24 AW AX (fun k_ => some k_ = (.slice Ax Az.length Aw : Value).ownBlock) (.slice Ax Az.length Aw) Az 1 DQ B0 w _ ?side1 ?side2 GL.o).mono ?_); (case side1 => repeat (first | (with_reducible first | exact HB.o | apply qa | apply qn | apply qd | refine qx ?_ CH.o | refine qx ?_ CI.o | refine qx ?_ BD.o | refine qx ?_ CT.o | refine qx ?_ CU.o | refine qx ?_ CV.o) | exact HB.o)); (case side2 => exact Kd.Rg rfl A4.o); rintro e KP ⟨rfl, Eb, hb, hkp⟩; refine ⟨_, rfl, ?_⟩; replace A6 := Z.m (Kd.Rm (ok' := fun k_ => some k_ ≠ (.slice Ax Az.length Aw : Value).ownBlock ∧ some k_ ≠ (.slice AB AA.length Ay : Value).ownBlock ∧ some k_ ≠ (.slice AH Ae.length AG : Value).ownBlock ∧ some k_ ≠ (.slice BM Ci.length BR : Value).ownBlock ∧ some k_ ≠ (.slice BN Cj.length BS : Value).ownBlock) (Kd.Rk (A6.o) hkp (fun k_ hk_ hs_ => (hk_.1.1.1) hs_)) (fun k_ hk_ => ⟨hk_.1.1.1.1, hk_.1.1.1.2.1, hk_.1.1.1.2.2, hk_.1.1.2, hk_.1.2⟩)); replace A5 := Z.m (Kd.Rm (ok' := fun k_ => some k_ ≠ (.slice AI Ab.length AF : Value).ownBlock ∧ some k_ ≠ (.slice Ax Az.length Aw : Value).ownBlock ∧ some k_ ≠ (.slice AH Ae.length AG : Value).ownBlock ∧ some k_ ≠ (.slice BM Ci.length BR : Value).ownBlock ∧ some k_ ≠ (.slice BN Cj.length BS : Value).ownBlock) (Kd.Rk (A5.o) hkp (fun k_ hk_ hs_ => (hk_.1.1.2.1) hs_)) (fun k_ hk_ => ⟨hk_.1.1.1.1, hk_.1.1.1.2.1, hk_.1.1.1.2.2, hk_.1.1.2, hk_.1.2⟩)); replace A2 := Z.m (Kd.Rm (ok' := fun k_ => some k_ ≠ (.slice AI Ab.length AF : Value).ownBlock ∧ some k_ ≠ (.slice Ax Az.length Aw : Value).ownBlock ∧ some k_ ≠ (.slice AB AA.length Ay : Value).ownBlock ∧ some k_ ≠ (.slice BM Ci.length BR : Value).ownBlock ∧ some k_ ≠ (.slice BN Cj.length BS : Value).ownBlock) (Kd.Rk (A2.o) hkp (fun k_ hk_ hs_ => (hk_.1.1.2.1) hs_)) (fun k_ hk_ => ⟨hk_.1.1.1.1, hk_.1.1.1.2.1, hk_.1.1.1.2.2, hk_.1.1.2, hk_.1.2⟩)); replace A0 := Z.m (qk (vK A0) hkp (fun hs_ => (fun e_ => (Kd.R_ne A4.o A0.o (by decide)) e_) hs_)); replace A1 := Z.m (qk (vK A1) hkp (fun hs_ => (fun e_ => (Kd.R_ne A4.o A1.o (by decide)) e_) hs_)); replace A7 := Z.m (qk (vK A7) hkp (fun hs_ => (fun e_ => (Kd.R_ne A4.o A7.o (by decide)) e_) hs_)); replace A8 := Z.m (qk (vK A8) hkp (fun hs_ => (fun e_ => (Kd.R_ne A4.o A8.o (by decide)) e_) hs_)); replace Aa := Z.m (qk (vK Aa) hkp (fun hs_ => (fun e_ => (Kd.R_ne A4.o Aa.o (by decide)) e_) hs_)); replace A9 := Z.m (qk (vK A9) hkp (fun hs_ => (fun e_ => (Kd.R_ne A4.o A9.o (by decide)) e_) hs_)); replace A4 := Z.m (Kd.Re rfl Eb (fun k_ e_ => A4.o.1 k_ e_)); replace B2 := Z.m (Kd.Rm (ok' := fun k_ => some k_ ≠ (.slice AI Ab.length AF : Value).ownBlock ∧ some k_ ≠ (.slice Ax Az.length Aw : Value).ownBlock ∧ some k_ ≠ (.slice AB AA.length Ay : Value).ownBlock ∧ some k_ ≠ (.slice AH Ae.length AG : Value).ownBlock ∧ some k_ ≠ (.slice BN Cj.length BS : Value).ownBlock) (Kd.Rk (B2.o) hkp (fun k_ hk_ hs_ => (hk_.1.1.1.2) hs_)) (fun k_ hk_ => ⟨hk_.1.1.1.1.1.2, hk_.1.1.1.1.2, hk_.1.1.1.2, hk_.1.1.2, hk_.1.2⟩)); replace BE := Z.m (Kd.Rm (ok' := fun k_ => some k_ ≠ (.slice AI Ab.length AF : Value).ownBlock ∧ some k_ ≠ (.slice Ax Az.length Aw : Value).ownBlock ∧ some k_ ≠ (.slice AB AA.length Ay : Value).ownBlock ∧ some k_ ≠ (.slice AH Ae.length AG : Value).ownBlock ∧ some k_ ≠ (.slice BM Ci.length BR : Value).ownBlock) (Kd.Rk (BE.o) hkp (fun k_ hk_ hs_ => (hk_.1.1.1.2) hs_)) (fun k_ hk_ => ⟨hk_.1.1.1.1.1.2, hk_.1.1.1.1.2, hk_.1.1.1.2, hk_.1.1.2, hk_.1.2⟩)); replace HB := Z.m (hb); (try clear hb); (try clear hkp); (try clear Eb); have Hd := CB.o; have HT := BX.o; have He := CC.o; have HU := BZ.o; have Hf := Bs.o; have HV := Bh.o; have Hg := B9.o; have HW := Bk.o; have D2 := bc0 Aa; have D3 := bc1 Aa; have D4 := bc2 Aa; have D8 := qz Aa.o 0; have D9 := qz Aa.o 1; have Da := qz Aa.o 2) | ((with_reducible refine gc (f := 25) rfl ?_); refine gA (some 69) _ #[.agg #[.int .i64 AY, .int .i64 AZ, .slice AB AA.length Ay], .int .i64 DQ] ?_ Try.func25; (with_reducible refine (laws_markBoard.calls kj24 AY AZ (fun k_ => some k_ = (.slice AB AA.length Ay : Value).ownBlock) (.slice AB AA.length Ay) AA DQ Ef B1 w _ ?side1 ?side2 GM.o).mono ?_); (case side1 => repeat (first | (with_reducible first | exact HB.o | apply qa | apply qn | apply qd | refine qx ?_ CH.o | refine qx ?_ CI.o | refine qx ?_ BD.o | refine qx ?_ CT.o | refine qx ?_ CU.o | refine qx ?_ CV.o) | exact HB.o)); (case side2 => exact Kd.Rg rfl A5.o); rintro e KQ ⟨rfl, Eb, hb, hkp⟩; refine ⟨_, rfl, ?_⟩; replace A6 := Z.m (Kd.Rm (ok' := fun k_ => some k_ ≠ (.slice Ax Az.length Aw : Value).ownBlock ∧ some k_ ≠ (.slice AB AA.length Ay : Value).ownBlock ∧ some k_ ≠ (.slice AH Ae.length AG : Value).ownBlock ∧ some k_ ≠ (.slice BM Ci.length BR : Value).ownBlock ∧ some k_ ≠ (.slice BN Cj.length BS : Value).ownBlock) (Kd.Rk (A6.o) hkp (fun k_ hk_ hs_ => (hk_.2.1) hs_)) (fun k_ hk_ => ⟨hk_.1.1, hk_.1.2.1, hk_.1.2.2.1, hk_.1.2.2.2.1, hk_.1.2.2.2.2⟩)); replace A4 := Z.m (Kd.Rm (ok' := fun k_ => some k_ ≠ (.slice AI Ab.length AF : Value).ownBlock ∧ some k_ ≠ (.slice AB AA.length Ay : Value).ownBlock ∧ some k_ ≠ (.slice AH Ae.length AG : Value).ownBlock ∧ some k_ ≠ (.slice BM Ci.length BR : Value).ownBlock ∧ some k_ ≠ (.slice BN Cj.length BS : Value).ownBlock) (Kd.Rk (A4.o) hkp (fun k_ hk_ hs_ => (hk_.1.1.2.1) hs_)) (fun k_ hk_ => ⟨hk_.1.1.1.1, hk_.1.1.1.2.1, hk_.1.1.1.2.2, hk_.1.1.2, hk_.1.2⟩)); replace A2 := Z.m (Kd.Rm (ok' := fun k_ => some k_ ≠ (.slice AI Ab.length AF : Value).ownBlock ∧ some k_ ≠ (.slice Ax Az.length Aw : Value).ownBlock ∧ some k_ ≠ (.slice AB AA.length Ay : Value).ownBlock ∧ some k_ ≠ (.slice BM Ci.length BR : Value).ownBlock ∧ some k_ ≠ (.slice BN Cj.length BS : Value).ownBlock) (Kd.Rk (A2.o) hkp (fun k_ hk_ hs_ => (hk_.2.2.1) hs_)) (fun k_ hk_ => ⟨hk_.1.1, hk_.1.2.1, hk_.1.2.2.1, hk_.1.2.2.2.1, hk_.1.2.2.2.2⟩)); replace A0 := Z.m (qk (vK A0) hkp (fun hs_ => (fun e_ => (Kd.R_ne A5.o A0.o (by decide)) e_) hs_)); replace A1 := Z.m (qk (vK A1) hkp (fun hs_ => (fun e_ => (Kd.R_ne A5.o A1.o (by decide)) e_) hs_)); replace A7 := Z.m (qk (vK A7) hkp (fun hs_ => (fun e_ => (Kd.R_ne A5.o A7.o (by decide)) e_) hs_)); replace A8 := Z.m (qk (vK A8) hkp (fun hs_ => (fun e_ => (Kd.R_ne A5.o A8.o (by decide)) e_) hs_)); replace Aa := Z.m (qk (vK Aa) hkp (fun hs_ => (fun e_ => (Kd.R_ne A5.o Aa.o (by decide)) e_) hs_)); replace A9 := Z.m (qk (vK A9) hkp (fun hs_ => (fun e_ => (Kd.R_ne A5.o A9.o (by decide)) e_) hs_)); replace A5 := Z.m (Kd.Re rfl Eb (fun k_ e_ => A5.o.1 k_ e_)); replace B2 := Z.m (Kd.Rm (ok' := fun k_ => some k_ ≠ (.slice AI Ab.length AF : Value).ownBlock ∧ some k_ ≠ (.slice Ax Az.length Aw : Value).ownBlock ∧ some k_ ≠ (.slice AB AA.length Ay : Value).ownBlock ∧ some k_ ≠ (.slice AH Ae.length AG : Value).ownBlock ∧ some k_ ≠ (.slice BN Cj.length BS : Value).ownBlock) (Kd.Rk (B2.o) hkp (fun k_ hk_ hs_ => (hk_.2.2.1) hs_)) (fun k_ hk_ => ⟨hk_.1.1, hk_.1.2.1, hk_.1.2.2.1, hk_.1.2.2.2.1, hk_.1.2.2.2.2⟩)); replace BE := Z.m (Kd.Rm (ok' := fun k_ => some k_ ≠ (.slice AI Ab.length AF : Value).ownBlock ∧ some k_ ≠ (.slice Ax Az.length Aw : Value).ownBlock ∧ some k_ ≠ (.slice AB AA.length Ay : Value).ownBlock ∧ some k_ ≠ (.slice AH Ae.length AG : Value).ownBlock ∧ some k_ ≠ (.slice BM Ci.length BR : Value).ownBlock) (Kd.Rk (BE.o) hkp (fun k_ hk_ hs_ => (hk_.2.2.1) hs_)) (fun k_ hk_ => ⟨hk_.1.1, hk_.1.2.1, hk_.1.2.2.1, hk_.1.2.2.2.1, hk_.1.2.2.2.2⟩)); replace HB := Z.m (hb); (try clear hb); (try clear hkp); (try clear Eb)))
        (try simp only [Act.put, q1, q2, q3])
        go_cut [82] (fun v82 wc => ∃ (kq : Nat) (Cp : Bool), v82 = .bool Cp ∧ Z (laws_FnExactBesideBoards.j1 kq Ap Cp a0_0 a0_1 l0_2 a1_0 a1_1 l1_2 Ai Aj Ab Ak Al Ae = some true) ∧ Z (kq ≤ kj24) ∧ Z (Kd.R k34 34 wc w.heap.size (fun k_ => some k_ ≠ ((.slice Ax Az.length Aw) : Value).ownBlock ∧ some k_ ≠ ((.slice AB AA.length Ay) : Value).ownBlock ∧ some k_ ≠ ((.slice AH Ae.length AG) : Value).ownBlock) (.slice AI Ab.length AF) Ab) ∧ Z (Kd.R k34 34 wc w.heap.size (fun k_ => some k_ ≠ ((.slice AI Ab.length AF) : Value).ownBlock ∧ some k_ ≠ ((.slice AB AA.length Ay) : Value).ownBlock ∧ some k_ ≠ ((.slice AH Ae.length AG) : Value).ownBlock) (.slice Ax Az.length Aw) B0) ∧ Z (Kd.R k34 34 wc w.heap.size (fun k_ => some k_ ≠ ((.slice AI Ab.length AF) : Value).ownBlock ∧ some k_ ≠ ((.slice Ax Az.length Aw) : Value).ownBlock ∧ some k_ ≠ ((.slice AH Ae.length AG) : Value).ownBlock) (.slice AB AA.length Ay) B1) ∧ Z (Kd.R k34 34 wc w.heap.size (fun k_ => some k_ ≠ ((.slice AI Ab.length AF) : Value).ownBlock ∧ some k_ ≠ ((.slice Ax Az.length Aw) : Value).ownBlock ∧ some k_ ≠ ((.slice AB AA.length Ay) : Value).ownBlock) (.slice AH Ae.length AG) Ae) ∧ Z (wc.heap[Au]? = some (.cells #[.int .i64 a0_0, .int .i64 a0_1, (.slice A0_2 l0_2.length c0_2)] 24 (0, 0))) ∧ Z (wc.heap[Av]? = some (.cells #[.int .i64 a1_0, .int .i64 a1_1, (.slice A1_2 l1_2.length c1_2)] 24 (0, 0))) ∧ Z (wc.heap[AK]? = some (.cells #[.int .i64 Ai, .int .i64 Aj, (.slice AI Ab.length AF)] 29 (0, 0))) ∧ Z (wc.heap[Bc]? = some (.cells #[.int .i64 AW, .int .i64 AX, (.slice Ax Az.length Aw)] 29 (0, 0))) ∧ Z (wc.heap[Bl]? = some (.cells #[.int .i64 AY, .int .i64 AZ, (.slice AB AA.length Ay)] 29 (0, 0))) ∧ Z (wc.heap[BH]? = some (.cells #[.int .i64 Ak, .int .i64 Al, (.slice AH Ae.length AG)] 29 (0, 0))) ∧ Z (Below w.heap.size w wc))
        case first =>
         have H := CW.o
         clear CW
         by_cases c131 : Ef < 0
         ·rw [if_pos c131] at H
          have Cr := decide_eq_true c131
          clear c131
          (first | rw [Cr] | (simp only [i64_w, i32_w]; rw [Cr]) | skip)
          have H' := Z.m H
          clear H
          go_wp2
          go_meet
          case rel => exact ⟨_, (true), (by first | rfl | (simp; done) | (simp [*]; done)), H', ⟨by have := Ee.o; first | omega | exact Nat.le_refl _⟩, ⟨by refine rK ?_; exact Kd.Rm A6.o (fun _ hk => ⟨hk.1, ⟨hk.2.1, hk.2.2.1⟩⟩)⟩, ⟨by refine rK ?_; exact Kd.Rm A4.o (fun _ hk => ⟨hk.1, ⟨hk.2.1, hk.2.2.1⟩⟩)⟩, ⟨by refine rK ?_; exact Kd.Rm A5.o (fun _ hk => ⟨hk.1, ⟨hk.2.1, hk.2.2.1⟩⟩)⟩, ⟨by refine rK ?_; exact Kd.Rm A2.o (fun _ hk => ⟨hk.1, ⟨hk.2.1, hk.2.2.1⟩⟩)⟩, ⟨vK A0⟩, ⟨vK A1⟩, ⟨vK A7⟩, ⟨vK A8⟩, ⟨vK Aa⟩, ⟨vK A9⟩, ⟨vB HB⟩⟩
         ·rw [if_neg c131] at H
          have Cr := decide_eq_false c131
          clear c131
          (first | rw [Cr] | (simp only [i64_w, i32_w]; rw [Cr]) | skip)
          replace H := Option.bind_eq_some_iff.mp H
          obtain ⟨Bw, DX, H⟩ := H
          replace H : (if Bw = true then (laws_FnExactBesideBoards.j1 kj24 Ap (Bm != Ap) a0_0 a0_1 l0_2 a1_0 a1_1 l1_2 Ai Aj Ab Ak Al Ae) else (laws_FnExactBesideBoards.j1 kj24 Ap true a0_0 a0_1 l0_2 a1_0 a1_1 l1_2 Ai Aj Ab Ak Al Ae)) = some true := H
          have GN := Z.m DX
          clear DX
          by_cases c133 : Bw = true
          ·subst c133
           have H1 : (laws_FnExactBesideBoards.j1 kj24 Ap (Bm != Ap) a0_0 a0_1 l0_2 a1_0 a1_1 l1_2 Ai Aj Ab Ak Al Ae) = some true := by rw [if_pos rfl] at H; exact H
           clear H
           have H := H1
           clear H1
           have H' := Z.m H
           clear H
           have Hh := Bt.o
           have HX := Be.o
           have Hi := Bu.o
           have HY := Bf.o
           have Hj := Bi.o
           have HZ := B4.o
           have Hk := Bj.o
           have J0 := B5.o
           have Hl := Bk.o
           have J1 := B9.o
           have EB := bc0 A9
           have EC := bc1 A9
           have ED := bc2 A9
           have EW := qz A9.o 0
           have EX := qz A9.o 1
           have EY := qz A9.o 2
           have Hm := AD.o
           have J2 := Ag.o
           have Hn := AE.o
           have J3 := Ah.o
           have Ho := Bg.o
           have J4 := Br.o
           have Hp := Bh.o
           have J5 := Bs.o
           have EE := bc0 A7
           have EF := bc1 A7
           have EG := bc2 A7
           have EZ := qz A7.o 0
           have F0 := qz A7.o 1
           have F1 := qz A7.o 2
           go_wp2_with (first | (go_at_call 19; (with_reducible refine (laws_eqBoard.calls kj24 Ak Al _ _ Ae Ai Aj _ _ Ab true _ ?side1 ?side2 ?side3 ?side4 GN.o).mono ?_); (case side1 => repeat (first | exact (Kd.RrZ A2.o).2.2 | (with_reducible refine Kd.C_alloc ?_ _) | (with_reducible refine Kd.C_drewN ?_ _) | (with_reducible refine Kd.C_drew ?_))); (case side2 => exact (Kd.RrZ A2.o).2.1); (case side3 => repeat (first | exact (Kd.RrZ A6.o).2.2 | (with_reducible refine Kd.C_alloc ?_ _) | (with_reducible refine Kd.C_drewN ?_ _) | (with_reducible refine Kd.C_drew ?_))); (case side4 => exact (Kd.RrZ A6.o).2.1); rintro e KR ⟨rfl, hb⟩; replace A6 := Z.m (Kd.Rb (vR A6) hb); replace A4 := Z.m (Kd.Rb (vR A4) hb); replace A5 := Z.m (Kd.Rb (vR A5) hb); replace A2 := Z.m (Kd.Rb (vR A2) hb); replace B2 := Z.m (Kd.Rb (vR B2) hb); replace BE := Z.m (Kd.Rb (vR BE) hb); replace A0 := kB A0 hb; replace A1 := kB A1 hb; replace A7 := kB A7 hb; replace A8 := kB A8 hb; replace Aa := kB Aa hb; replace A9 := kB A9 hb; replace HB := bB HB hb; (try clear hb); (try clear CS); (try clear hk); (try clear hi)))
           go_meet
           case rel => exact ⟨_, ((Bm != Ap)), (by first | rfl | (simp; done) | (simp [*]; done)), H', ⟨by have := Ee.o; first | omega | exact Nat.le_refl _⟩, ⟨by refine rK ?_; exact Kd.Rm A6.o (fun _ hk => ⟨hk.1, ⟨hk.2.1, hk.2.2.1⟩⟩)⟩, ⟨by refine rK ?_; exact Kd.Rm A4.o (fun _ hk => ⟨hk.1, ⟨hk.2.1, hk.2.2.1⟩⟩)⟩, ⟨by refine rK ?_; exact Kd.Rm A5.o (fun _ hk => ⟨hk.1, ⟨hk.2.1, hk.2.2.1⟩⟩)⟩, ⟨by refine rK ?_; exact Kd.Rm A2.o (fun _ hk => ⟨hk.1, ⟨hk.2.1, hk.2.2.1⟩⟩)⟩, ⟨vK A0⟩, ⟨vK A1⟩, ⟨vK A7⟩, ⟨vK A8⟩, ⟨vK Aa⟩, ⟨vK A9⟩, ⟨vB HB⟩⟩
          ·(rw [if_neg c133] at H; exact absurd H (laws_FnExactBesideBoards.bad_j1 _ _ _ _ _ _ _ _ _ _ _ _ _ _))
        case rest =>
         clear CW
         (try clear c100); (try clear c103); (try clear c106)
         (try clear CZ); (try clear D0); (try clear D1); (try clear D2); (try clear D3); (try clear D4); (try clear D5); (try clear D6)
         (try clear D7); (try clear D8); (try clear D9); (try clear Da)
         obtain ⟨kq, Cp, rfl, HA, Ew, A6, A4, A5, A2, A0, A1, A7, A8, Aa, A9, HB⟩ := hcut
         have Ac := (Kd.RrZ A4.o).1
         rw [Ac] at A4
         (try simp only [Ac])
         (try simp only [Ac] at A0)
         (try simp only [Ac] at A1)
         (try simp only [Ac] at A7)
         (try simp only [Ac] at A8)
         (try simp only [Ac] at Aa)
         (try simp only [Ac] at A9)
         (try simp only [Ac] at A6)
         (try simp only [Ac] at A5)
         (try simp only [Ac] at A2)
         have Ad := (Kd.RrZ A5.o).1
         rw [Ad] at A5
         (try simp only [Ad])
         (try simp only [Ad] at A0)
         (try simp only [Ad] at A1)
         (try simp only [Ad] at A7)
         (try simp only [Ad] at A8)
         (try simp only [Ad] at Aa)
         (try simp only [Ad] at A9)
         (try simp only [Ad] at A6)
         (try simp only [Ad] at A4)
         (try simp only [Ad] at A2)
         cases kq with
         | zero => exact absurd HA.o (by simp [laws_FnExactBesideBoards.j1])
         | succ kj108 =>
          have H := HA.o
          clear HA
          simp only [laws_FnExactBesideBoards.j1] at H
          by_cases c158 : Cp = true
          ·(rw [if_pos c158] at H; exact absurd H (by decide))
          ·replace c158 := Bool.eq_false_iff.mpr c158
           subst c158
           have H1 : ((laws_markBoard.f kj108 Ak Al Ae 1).bind fun bt596 => ((laws_heldBoard.f kj108 Ak Al bt596.2 1).bind fun Cu => (if Cu < 0 then (some false) else (if Cu = bt596.1 then ((laws_toBoard.f kj108 a0_0 a0_1 l0_2).bind fun bt599 => ((laws_toBoard.f kj108 a1_0 a1_1 l1_2).bind fun bt604 => ((impl_BesideBoards.f kj108 bt599.1 bt599.2.1 bt599.2.2 bt604.1 bt604.2.1 bt604.2.2).bind fun bt609 => ((laws_eqBoard.f kj108 bt609.1 bt609.2.1 bt609.2.2.1 Ai Aj Ab).bind fun BT => (if BT = true then (laws_FnExactBesideBoards.j2 kj108 bt596.1 (bt609.2.2.2 != Ap) Ak Al bt596.2) else (laws_FnExactBesideBoards.j2 kj108 bt596.1 true Ak Al bt596.2)))))) else (some false))))) = some true := by rw [if_neg (show ¬ (false = true) by decide)] at H; exact H
           clear H
           have H := H1
           clear H1
           replace H := Option.bind_eq_some_iff.mp H
           obtain ⟨⟨Bn, Ba⟩, DY, H⟩ := H
           replace H : ((laws_heldBoard.f kj108 Ak Al Ba 1).bind fun Cu => (if Cu < 0 then (some false) else (if Cu = Bn then ((laws_toBoard.f kj108 a0_0 a0_1 l0_2).bind fun bt599 => ((laws_toBoard.f kj108 a1_0 a1_1 l1_2).bind fun bt604 => ((impl_BesideBoards.f kj108 bt599.1 bt599.2.1 bt599.2.2 bt604.1 bt604.2.1 bt604.2.2).bind fun bt609 => ((laws_eqBoard.f kj108 bt609.1 bt609.2.1 bt609.2.2.1 Ai Aj Ab).bind fun BT => (if BT = true then (laws_FnExactBesideBoards.j2 kj108 Bn (bt609.2.2.2 != Ap) Ak Al Ba) else (laws_FnExactBesideBoards.j2 kj108 Bn true Ak Al Ba)))))) else (some false)))) = some true := H
           have GO := Z.m DY
           clear DY
           replace H := Option.bind_eq_some_iff.mp H
           obtain ⟨Cu, DZ, H⟩ := H
           replace H : (if Cu < 0 then (some false) else (if Cu = Bn then ((laws_toBoard.f kj108 a0_0 a0_1 l0_2).bind fun bt599 => ((laws_toBoard.f kj108 a1_0 a1_1 l1_2).bind fun bt604 => ((impl_BesideBoards.f kj108 bt599.1 bt599.2.1 bt599.2.2 bt604.1 bt604.2.1 bt604.2.2).bind fun bt609 => ((laws_eqBoard.f kj108 bt609.1 bt609.2.1 bt609.2.2.1 Ai Aj Ab).bind fun BT => (if BT = true then (laws_FnExactBesideBoards.j2 kj108 Bn (bt609.2.2.2 != Ap) Ak Al Ba) else (laws_FnExactBesideBoards.j2 kj108 Bn true Ak Al Ba)))))) else (some false))) = some true := H
           have GP := Z.m DZ
           clear DZ
           by_cases c161 : Cu < 0
           ·(rw [if_pos c161] at H; exact absurd H (by decide))
           ·rw [if_neg c161] at H
            have CY := decide_eq_false c161
            (try simp only [Ac] at CY)
            (try simp only [Ad] at CY)
            clear c161
            by_cases c171 : Cu = Bn
            ·rw [if_pos c171] at H
             have GT := beq_iff_eq.mpr c171
             have GU := bne_eq_false_iff_eq.mpr c171
             clear c171
             replace H := Option.bind_eq_some_iff.mp H
             obtain ⟨⟨C6, C7, BA⟩, E0, H⟩ := H
             replace H : ((laws_toBoard.f kj108 a1_0 a1_1 l1_2).bind fun bt604 => ((impl_BesideBoards.f kj108 C6 C7 BA bt604.1 bt604.2.1 bt604.2.2).bind fun bt609 => ((laws_eqBoard.f kj108 bt609.1 bt609.2.1 bt609.2.2.1 Ai Aj Ab).bind fun BT => (if BT = true then (laws_FnExactBesideBoards.j2 kj108 Bn (bt609.2.2.2 != Ap) Ak Al Ba) else (laws_FnExactBesideBoards.j2 kj108 Bn true Ak Al Ba))))) = some true := H
             have Ei := Z.m E0
             clear E0
             replace H := Option.bind_eq_some_iff.mp H
             obtain ⟨⟨C8, C9, BB⟩, E1, H⟩ := H
             replace H : ((impl_BesideBoards.f kj108 C6 C7 BA C8 C9 BB).bind fun bt609 => ((laws_eqBoard.f kj108 bt609.1 bt609.2.1 bt609.2.2.1 Ai Aj Ab).bind fun BT => (if BT = true then (laws_FnExactBesideBoards.j2 kj108 Bn (bt609.2.2.2 != Ap) Ak Al Ba) else (laws_FnExactBesideBoards.j2 kj108 Bn true Ak Al Ba)))) = some true := H
             have Ec := Z.m E1
             clear E1
             replace H := Option.bind_eq_some_iff.mp H
             obtain ⟨⟨Cm, Cn, Bx, Cv⟩, E2, H⟩ := H
             replace H : ((laws_eqBoard.f kj108 Cm Cn Bx Ai Aj Ab).bind fun BT => (if BT = true then (laws_FnExactBesideBoards.j2 kj108 Bn (Cv != Ap) Ak Al Ba) else (laws_FnExactBesideBoards.j2 kj108 Bn true Ak Al Ba))) = some true := H
             have Db := Z.m E2
             clear E2
             have CX := Z.m H
             clear H
             have Hq := Bt.o
             have J6 := Be.o
             have Hr := Bu.o
             have J7 := Bf.o
             have Hs := Bi.o
             have J8 := B4.o
             have Ht := Bj.o
             have J9 := B5.o
             have Hu := Bk.o
             have Ja := B9.o
             have EH := bc0 A9
             have EI := bc1 A9
             have EJ := bc2 A9
             have F2 := qz A9.o 0
             have F3 := qz A9.o 1
             have F4 := qz A9.o 2
             try go_wp2_with (first | ((with_reducible refine gc (f := 25) rfl ?_); refine gA (some 85) _ #[.agg #[.int .i64 Ak, .int .i64 Al, .slice AH Ae.length AG], .int .i64 1] ?_ Try.func25; (with_reducible refine (laws_markBoard.calls kj108 Ak Al (fun k_ => some k_ = (.slice AH Ae.length AG : Value).ownBlock) (.slice AH Ae.length AG) Ae 1 Bn Ba w _ ?side1 ?side2 GO.o).mono ?_); (case side1 => repeat (first | (with_reducible first | exact HB.o | apply qa | apply qn | apply qd | refine qx ?_ CH.o | refine qx ?_ CI.o | refine qx ?_ BD.o | refine qx ?_ CT.o | refine qx ?_ CU.o | refine qx ?_ CV.o) | exact HB.o)); (case side2 => exact Kd.Rg rfl A2.o); rintro e KS ⟨rfl, Eb, hb, hkp⟩; refine ⟨_, rfl, ?_⟩; replace A6 := Z.m (Kd.Rm (ok' := fun k_ => some k_ ≠ (.slice Ax B0.length Aw : Value).ownBlock ∧ some k_ ≠ (.slice AB B1.length Ay : Value).ownBlock ∧ some k_ ≠ (.slice AH Ae.length AG : Value).ownBlock) (Kd.Rk (A6.o) hkp (fun k_ hk_ hs_ => (hk_.2.2) hs_)) (fun k_ hk_ => ⟨hk_.1.1, hk_.1.2.1, hk_.1.2.2⟩)); replace A4 := Z.m (Kd.Rm (ok' := fun k_ => some k_ ≠ (.slice AI Ab.length AF : Value).ownBlock ∧ some k_ ≠ (.slice AB B1.length Ay : Value).ownBlock ∧ some k_ ≠ (.slice AH Ae.length AG : Value).ownBlock) (Kd.Rk (A4.o) hkp (fun k_ hk_ hs_ => (hk_.2.2) hs_)) (fun k_ hk_ => ⟨hk_.1.1, hk_.1.2.1, hk_.1.2.2⟩)); replace A5 := Z.m (Kd.Rm (ok' := fun k_ => some k_ ≠ (.slice AI Ab.length AF : Value).ownBlock ∧ some k_ ≠ (.slice Ax B0.length Aw : Value).ownBlock ∧ some k_ ≠ (.slice AH Ae.length AG : Value).ownBlock) (Kd.Rk (A5.o) hkp (fun k_ hk_ hs_ => (hk_.2.2) hs_)) (fun k_ hk_ => ⟨hk_.1.1, hk_.1.2.1, hk_.1.2.2⟩)); replace A0 := Z.m (qk (vK A0) hkp (fun hs_ => (fun e_ => (Kd.R_ne A2.o A0.o (by decide)) e_) hs_)); replace A1 := Z.m (qk (vK A1) hkp (fun hs_ => (fun e_ => (Kd.R_ne A2.o A1.o (by decide)) e_) hs_)); replace A7 := Z.m (qk (vK A7) hkp (fun hs_ => (fun e_ => (Kd.R_ne A2.o A7.o (by decide)) e_) hs_)); replace A8 := Z.m (qk (vK A8) hkp (fun hs_ => (fun e_ => (Kd.R_ne A2.o A8.o (by decide)) e_) hs_)); replace Aa := Z.m (qk (vK Aa) hkp (fun hs_ => (fun e_ => (Kd.R_ne A2.o Aa.o (by decide)) e_) hs_)); replace A9 := Z.m (qk (vK A9) hkp (fun hs_ => (fun e_ => (Kd.R_ne A2.o A9.o (by decide)) e_) hs_)); replace A2 := Z.m (Kd.Re rfl Eb (fun k_ e_ => A2.o.1 k_ e_)); replace HB := Z.m (hb); (try clear hb); (try clear hkp); (try clear Eb); have EK := bc0 A9; have EL := bc1 A9; have EM := bc2 A9; have F5 := qz A9.o 0; have F6 := qz A9.o 1; have F7 := qz A9.o 2) | ((with_reducible refine gc (f := 26) rfl ?_); refine goesL_ (some 88) rfl rfl Try.func26 (by kernel_rfl) rfl #[.agg #[.int .i64 Ak, .int .i64 Al, .slice AH Ba.length AG], .int .i64 1] rfl (by (try simp only [List.map_toArray, List.map_cons, List.map_nil]); first | done | (rw [show Ba.length = Ae.length from (Kd.RrZ A2.o).1.symm] <;> rfl) | rfl | (simp only [List.length_drop, List.length_take]; rfl)) ?_; (with_reducible refine (laws_heldBoard.calls kj108 Ak Al _ _ Ba 1 Cu _ ?side1 ?side2 GP.o).mono ?_); (case side1 => repeat (first | exact (Kd.RrZ A2.o).2.2 | (with_reducible refine Kd.C_alloc ?_ _) | (with_reducible refine Kd.C_drewN ?_ _) | (with_reducible refine Kd.C_drew ?_))); (case side2 => rw [show Ba.length = Ae.length from (Kd.RrZ A2.o).1.symm]; exact (Kd.RrZ A2.o).2.1); rintro e Jt ⟨rfl, hb⟩; refine ⟨_, rfl, ?_⟩; replace A6 := Z.m (Kd.Rb (vR A6) hb); replace A4 := Z.m (Kd.Rb (vR A4) hb); replace A5 := Z.m (Kd.Rb (vR A5) hb); replace A2 := Z.m (Kd.Rb (vR A2) hb); replace A0 := kB A0 hb; replace A1 := kB A1 hb; replace A7 := kB A7 hb; replace A8 := kB A8 hb; replace Aa := kB Aa hb; replace A9 := kB A9 hb; replace HB := bB HB hb; (try clear hb); (try clear CS); (try clear hk); (try clear hi)))
             replace A6 := Z.m (Kd.R_drew A6.o)
             replace A4 := Z.m (Kd.R_drew A4.o)
             replace A5 := Z.m (Kd.R_drew A5.o)
             replace A2 := Z.m (Kd.R_drew A2.o)
             replace A0 := Z.m (blk_drew A0.o)
             replace A1 := Z.m (blk_drew A1.o)
             replace A7 := Z.m (blk_drew A7.o)
             replace A8 := Z.m (blk_drew A8.o)
             replace Aa := Z.m (blk_drew Aa.o)
             replace A9 := Z.m (blk_drew A9.o)
             replace HB := Z.m (qd HB.o)
             refine start_ (n := 11) (S := fun w' => w'.cell? ⟨Au, 0, none⟩ = some (.int .i64 a0_0) ∧ w'.cell? ⟨Au, 1, none⟩ = some (.int .i64 a0_1) ∧ w'.cell? ⟨Au, 2, none⟩ = some (.slice A0_2 l0_2.length c0_2) ∧ w'.cell? ⟨Av, 0, none⟩ = some (.int .i64 a1_0) ∧ w'.cell? ⟨Av, 1, none⟩ = some (.int .i64 a1_1) ∧ w'.cell? ⟨Av, 2, none⟩ = some (.slice A1_2 l1_2.length c1_2)) (ds := []) #[false, false, false, false, false, false, false, false, false, false, false] (by kernel_rfl) rfl rfl ⟨(ql A0.o 0).trans rfl, (ql A0.o 1).trans rfl, (ql A0.o 2).trans rfl, (ql A1.o 0).trans rfl, (ql A1.o 1).trans rfl, (ql A1.o 2).trans rfl⟩ (fun hHeld => ?_); refine with_tabW laws_FnExactBesideBoards.tab31 laws_FnExactBesideBoards.bits31 (fun HT_ HW_ => ?_)
             generalize Jt.drew = KT at A6 A4 A5 A2 A0 A1 A7 A8 Aa A9 HB hHeld ⊢
             refine take_ (i := 0) (N := some 95) (v := ?_) (a' := ?_) #[true, false, false, false, false, false, false, false, false, false, false] rfl rfl (take_ofW HT_.o HW_.o (by kernel_rfl)) (fun _ _ _ h => h) (Or.inl ⟨by rfl, ?_⟩) hHeld ?_ ?_
             rotate_left
             ·rintro w' ⟨s0, s1, s2, s3, s4, s5⟩
              go_simp
              with_reducible rfl
             rotate_left
             ·simp only [Act.put, q1, q2, q3, i64_w, i32_w]
              rfl
             refine take_ (i := 2) (N := some 97) (v := ?_) (a' := ?_) #[true, false, true, false, false, false, false, false, false, false, false] rfl rfl (take_ofW HT_.o HW_.o (by kernel_rfl)) (fun _ _ _ h => h) (Or.inl ⟨by rfl, ?_⟩) hHeld ?_ ?_
             rotate_left
             ·rintro w' ⟨s0, s1, s2, s3, s4, s5⟩
              go_simp
              with_reducible rfl
             rotate_left
             ·simp only [Act.put, q1, q2, q3, i64_w, i32_w]
              rfl
             refine join_ (σ := Value × Value × Value × Nat) 2 #[true, true, true, true, true, true, true, true, true, false, false] (fun s_ => [(96, .agg #[.int .i64 C6, .int .i64 C7, s_.1]), (98, .agg #[.int .i64 C8, .int .i64 C9, s_.2.1]), (99, .tuple #[.agg #[.int .i64 Cm, .int .i64 Cn, s_.2.2.1], .bool Cv]), (15, .pointer (some ⟨s_.2.2.2, 0, none⟩)), (94, .tuple #[.agg #[.int .i64 Cm, .int .i64 Cn, s_.2.2.1], .bool Cv]), (100, .agg #[.int .i64 Cm, .int .i64 Cn, s_.2.2.1]), (101, .bool Cv)]) (fun s_ w' => (w'.cell? ⟨Au, 0, none⟩ = some (.int .i64 a0_0) ∧ w'.cell? ⟨Au, 1, none⟩ = some (.int .i64 a0_1) ∧ w'.cell? ⟨Au, 2, none⟩ = some (.slice A0_2 l0_2.length c0_2) ∧ w'.cell? ⟨Av, 0, none⟩ = some (.int .i64 a1_0) ∧ w'.cell? ⟨Av, 1, none⟩ = some (.int .i64 a1_1) ∧ w'.cell? ⟨Av, 2, none⟩ = some (.slice A1_2 l1_2.length c1_2)) ∧ (Kd.R k34 34 w' w.heap.size (fun k_ => some k_ ≠ (s_.2.1 : Value).ownBlock ∧ some k_ ≠ (s_.2.2.1 : Value).ownBlock ∧ some k_ ≠ (.slice AI Ab.length AF : Value).ownBlock ∧ some k_ ≠ (.slice Ax B0.length Aw : Value).ownBlock ∧ some k_ ≠ (.slice AB B1.length Ay : Value).ownBlock ∧ some k_ ≠ (.slice AH Ae.length AG : Value).ownBlock) s_.1 BA) ∧ (Kd.R k34 34 w' w.heap.size (fun k_ => some k_ ≠ (s_.1 : Value).ownBlock ∧ some k_ ≠ (s_.2.2.1 : Value).ownBlock ∧ some k_ ≠ (.slice AI Ab.length AF : Value).ownBlock ∧ some k_ ≠ (.slice Ax B0.length Aw : Value).ownBlock ∧ some k_ ≠ (.slice AB B1.length Ay : Value).ownBlock ∧ some k_ ≠ (.slice AH Ae.length AG : Value).ownBlock) s_.2.1 BB) ∧ (Kd.R k34 34 w' w.heap.size (fun k_ => some k_ ≠ (s_.1 : Value).ownBlock ∧ some k_ ≠ (s_.2.1 : Value).ownBlock ∧ some k_ ≠ (.slice AI Ab.length AF : Value).ownBlock ∧ some k_ ≠ (.slice Ax B0.length Aw : Value).ownBlock ∧ some k_ ≠ (.slice AB B1.length Ay : Value).ownBlock ∧ some k_ ≠ (.slice AH Ae.length AG : Value).ownBlock) s_.2.2.1 Bx) ∧ (Kd.R k34 34 w' w.heap.size (fun k_ => some k_ ≠ (s_.1 : Value).ownBlock ∧ some k_ ≠ (s_.2.1 : Value).ownBlock ∧ some k_ ≠ (s_.2.2.1 : Value).ownBlock ∧ some k_ ≠ (.slice Ax B0.length Aw : Value).ownBlock ∧ some k_ ≠ (.slice AB B1.length Ay : Value).ownBlock ∧ some k_ ≠ (.slice AH Ae.length AG : Value).ownBlock) (.slice AI Ab.length AF) Ab) ∧ (Kd.R k34 34 w' w.heap.size (fun k_ => some k_ ≠ (s_.1 : Value).ownBlock ∧ some k_ ≠ (s_.2.1 : Value).ownBlock ∧ some k_ ≠ (s_.2.2.1 : Value).ownBlock ∧ some k_ ≠ (.slice AI Ab.length AF : Value).ownBlock ∧ some k_ ≠ (.slice AB B1.length Ay : Value).ownBlock ∧ some k_ ≠ (.slice AH Ae.length AG : Value).ownBlock) (.slice Ax B0.length Aw) B0) ∧ (Kd.R k34 34 w' w.heap.size (fun k_ => some k_ ≠ (s_.1 : Value).ownBlock ∧ some k_ ≠ (s_.2.1 : Value).ownBlock ∧ some k_ ≠ (s_.2.2.1 : Value).ownBlock ∧ some k_ ≠ (.slice AI Ab.length AF : Value).ownBlock ∧ some k_ ≠ (.slice Ax B0.length Aw : Value).ownBlock ∧ some k_ ≠ (.slice AH Ae.length AG : Value).ownBlock) (.slice AB B1.length Ay) B1) ∧ (Kd.R k34 34 w' w.heap.size (fun k_ => some k_ ≠ (s_.1 : Value).ownBlock ∧ some k_ ≠ (s_.2.1 : Value).ownBlock ∧ some k_ ≠ (s_.2.2.1 : Value).ownBlock ∧ some k_ ≠ (.slice AI Ab.length AF : Value).ownBlock ∧ some k_ ≠ (.slice Ax B0.length Aw : Value).ownBlock ∧ some k_ ≠ (.slice AB B1.length Ay : Value).ownBlock) (.slice AH Ae.length AG) Ba) ∧ (w'.heap[Au]? = some (.cells #[.int .i64 a0_0, .int .i64 a0_1, .slice A0_2 l0_2.length c0_2] 24 (0, 0))) ∧ (w'.heap[Av]? = some (.cells #[.int .i64 a1_0, .int .i64 a1_1, .slice A1_2 l1_2.length c1_2] 24 (0, 0))) ∧ (w'.heap[AK]? = some (.cells #[.int .i64 Ai, .int .i64 Aj, .slice AI Ab.length AF] 29 (0, 0))) ∧ (w'.heap[Bc]? = some (.cells #[.int .i64 AW, .int .i64 AX, .slice Ax B0.length Aw] 29 (0, 0))) ∧ (w'.heap[Bl]? = some (.cells #[.int .i64 AY, .int .i64 AZ, .slice AB B1.length Ay] 29 (0, 0))) ∧ (w'.heap[BH]? = some (.cells #[.int .i64 Ak, .int .i64 Al, .slice AH Ae.length AG] 29 (0, 0))) ∧ (w'.heap[s_.2.2.2]? = some (.cells #[.int .i64 0, .int .i64 0, .slice none 0 0] 29 (0, 0))) ∧ (w.heap.size ≤ s_.2.2.2) ∧ (w.heap.size ≤ s_.2.2.2) ∧ (Au ≠ s_.2.2.2) ∧ (s_.2.2.2 ≠ Au) ∧ (Av ≠ s_.2.2.2) ∧ (s_.2.2.2 ≠ Av) ∧ (AK ≠ s_.2.2.2) ∧ (s_.2.2.2 ≠ AK) ∧ (Bc ≠ s_.2.2.2) ∧ (s_.2.2.2 ≠ Bc) ∧ (Bl ≠ s_.2.2.2) ∧ (s_.2.2.2 ≠ Bl) ∧ (BH ≠ s_.2.2.2) ∧ (s_.2.2.2 ≠ BH) ∧ (Below w.heap.size w w')) ?_ ?_
             rotate_left
             ·intro hCont
              refine two_ (i := 1) (j := 8) (Ni := some 96) (Nj := some 15) #[true, true, true, false, false, false, false, false, false, false, false] #[true, false, true, false, false, false, false, false, true, false, false] rfl rfl rfl rfl (two_of HT_.o (by kernel_rfl)) (by decide) (by decide) (fun K hK => ?_) (fun K hK => ?_)
              ·skip
               refine goes_ Try.func17 (by kernel_rfl) rfl #[.agg #[.int .i64 a0_0, .int .i64 a0_1, .slice A0_2 l0_2.length c0_2]] (by rfl) rfl rfl (by (try simp only [List.map_toArray, List.map_cons, List.map_nil]); first | done | rfl | (simp only [List.length_drop, List.length_take]; rfl)) ?_
               with_reducible refine (laws_toBoard.calls kj108 a0_0 a0_1 _ _ l0_2 C6 C7 BA _ ?side1 ?side2 Ei.o).mono ?_
               (case side1 => repeat (first | exact (Kd.C_below BQ.o HB.o) | (with_reducible refine Kd.C_alloc ?_ _) | (with_reducible refine Kd.C_drewN ?_ _) | (with_reducible refine Kd.C_drew ?_)))
               (case side2 => exact BP.o)
               rintro e Ju ⟨Cx, rfl, Ar, hb⟩
               refine ⟨_, rfl, ?_⟩
               have At := Z.m (Kd.R_lower (Kd.R_new' (Kd.R_new' (Kd.R_new' (Kd.R_new' Ar (Kd.R_lt (vR A6))) (Kd.R_lt (vR A4))) (Kd.R_lt (vR A5))) (Kd.R_lt (vR A2))) (below_size (vB HB)))
               replace A6 := Z.m (Kd.R_elder' (vR A6) (Kd.R_base Ar) hb)
               replace A4 := Z.m (Kd.R_elder' (vR A4) (Kd.R_base Ar) hb)
               replace A5 := Z.m (Kd.R_elder' (vR A5) (Kd.R_base Ar) hb)
               replace A2 := Z.m (Kd.R_elder' (vR A2) (Kd.R_base Ar) hb)
               replace A0 := kB A0 hb
               replace A1 := kB A1 hb
               replace A7 := kB A7 hb
               replace A8 := kB A8 hb
               replace Aa := kB Aa hb
               replace A9 := kB A9 hb
               replace HB := bB HB hb
               (try clear hb); (try clear Ar)
               refine hK.out _ _ ⟨(ql A0.o 0).trans rfl, (ql A0.o 1).trans rfl, (ql A0.o 2).trans rfl, (ql A1.o 0).trans rfl, (ql A1.o 1).trans rfl, (ql A1.o 2).trans rfl⟩ (fun hHeld => ?_)
               clear hK K
               refine norm_ (a' := ?_) ?_ ?_
               rotate_left
               ·show Act.put _ (some 96) _ = _
                simp only [Act.put, q1, q2, q3, i64_w, i32_w]
                rfl
               refine two_ (i := 3) (j := 8) (Ni := some 98) (Nj := some 15) #[true, true, true, true, false, false, false, false, false, false, false] #[true, true, true, false, false, false, false, false, true, false, false] rfl rfl rfl rfl (two_of HT_.o (by kernel_rfl)) (by decide) (by decide) (fun K hK => ?_) (fun K hK => ?_)
               ·skip
                refine goes_ Try.func17 (by kernel_rfl) rfl #[.agg #[.int .i64 a1_0, .int .i64 a1_1, .slice A1_2 l1_2.length c1_2]] (by rfl) rfl rfl (by (try simp only [List.map_toArray, List.map_cons, List.map_nil]); first | done | rfl | (simp only [List.length_drop, List.length_take]; rfl)) ?_
                with_reducible refine (laws_toBoard.calls kj108 a1_0 a1_1 _ _ l1_2 C8 C9 BB _ ?side1 ?side2 Ec.o).mono ?_
                (case side1 => repeat (first | exact (Kd.C_below BJ.o HB.o) | (with_reducible refine Kd.C_alloc ?_ _) | (with_reducible refine Kd.C_drewN ?_ _) | (with_reducible refine Kd.C_drew ?_)))
                (case side2 => exact BI.o)
                rintro e FS ⟨Co, rfl, Ar, hb⟩
                refine ⟨_, rfl, ?_⟩
                have AC := Z.m (Kd.R_lower (Kd.R_new' (Kd.R_new' (Kd.R_new' (Kd.R_new' (Kd.R_new' Ar (Kd.R_lt (vR A6))) (Kd.R_lt (vR A4))) (Kd.R_lt (vR A5))) (Kd.R_lt (vR A2))) (Kd.R_lt (vR At))) (below_size (vB HB)))
                replace A6 := Z.m (Kd.R_elder' (vR A6) (Kd.R_base Ar) hb)
                replace A4 := Z.m (Kd.R_elder' (vR A4) (Kd.R_base Ar) hb)
                replace A5 := Z.m (Kd.R_elder' (vR A5) (Kd.R_base Ar) hb)
                replace A2 := Z.m (Kd.R_elder' (vR A2) (Kd.R_base Ar) hb)
                replace At := Z.m (Kd.R_elder' (vR At) (Kd.R_base Ar) hb)
                replace A0 := kB A0 hb
                replace A1 := kB A1 hb
                replace A7 := kB A7 hb
                replace A8 := kB A8 hb
                replace Aa := kB Aa hb
                replace A9 := kB A9 hb
                replace HB := bB HB hb
                (try clear hb); (try clear Ar)
                obtain ⟨E5, E6, E9⟩ := Kd.R_slice At.o
                (first | subst E9 | (injection E9 with f1_ f2_ f3_; have f4_ := f1_.symm; have f5_ := f3_.symm; clear f1_ f2_ f3_; subst f4_; subst f5_))
                obtain ⟨BC, BF, BG⟩ := Kd.R_slice AC.o
                (first | subst BG | (injection BG with f1_ f2_ f3_; have f4_ := f1_.symm; have f5_ := f3_.symm; clear f1_ f2_ f3_; subst f4_; subst f5_))
                refine hK.out _ _ ⟨(ql A0.o 0).trans rfl, (ql A0.o 1).trans rfl, (ql A0.o 2).trans rfl, (ql A1.o 0).trans rfl, (ql A1.o 1).trans rfl, (ql A1.o 2).trans rfl⟩ (fun hHeld => ?_)
                clear hK K
                refine norm_ (a' := ?_) ?_ ?_
                rotate_left
                ·show Act.put _ (some 98) _ = _
                 simp only [Act.put, q1, q2, q3, i64_w, i32_w]
                 rfl
                refine two_ (i := 4) (j := 8) (Ni := some 99) (Nj := some 15) #[true, true, true, true, true, false, false, false, false, false, false] #[true, true, true, true, false, false, false, false, true, false, false] rfl rfl rfl rfl (two_of HT_.o (by kernel_rfl)) (by decide) (by decide) (fun K hK => ?_) (fun K hK => ?_)
                ·skip
                 refine goes_ Try.func32 (by kernel_rfl) rfl #[.agg #[.int .i64 C6, .int .i64 C7, .slice E5 BA.length E6], .agg #[.int .i64 C8, .int .i64 C9, .slice BC BB.length BF]] (by rfl) rfl rfl (by (try simp only [List.map_toArray, List.map_cons, List.map_nil]); first | done | rfl | (simp only [List.length_drop, List.length_take]; rfl)) ?_
                 with_reducible refine (impl_BesideBoards.calls kj108 C6 C7 _ _ BA C8 C9 _ _ BB Cm Cn Bx Cv _ ?side1 ?side2 ?side3 ?side4 Db.o).mono ?_
                 (case side1 => repeat (first | exact (Kd.RrZ At.o).2.2 | (with_reducible refine Kd.C_alloc ?_ _) | (with_reducible refine Kd.C_drewN ?_ _) | (with_reducible refine Kd.C_drew ?_)))
                 (case side2 => exact (Kd.RrZ At.o).2.1)
                 (case side3 => repeat (first | exact (Kd.RrZ AC.o).2.2 | (with_reducible refine Kd.C_alloc ?_ _) | (with_reducible refine Kd.C_drewN ?_ _) | (with_reducible refine Kd.C_drew ?_)))
                 (case side4 => exact (Kd.RrZ AC.o).2.1)
                 rintro e KU ⟨BL, rfl, Ar, hb⟩
                 refine ⟨_, rfl, ?_⟩
                 have Bb := Z.m (Kd.R_lower (Kd.R_new' (Kd.R_new' (Kd.R_new' (Kd.R_new' (Kd.R_new' (Kd.R_new' Ar (Kd.R_lt (vR A6))) (Kd.R_lt (vR A4))) (Kd.R_lt (vR A5))) (Kd.R_lt (vR A2))) (Kd.R_lt (vR At))) (Kd.R_lt (vR AC))) (below_size (vB HB)))
                 replace A6 := Z.m (Kd.R_elder' (vR A6) (Kd.R_base Ar) hb)
                 replace A4 := Z.m (Kd.R_elder' (vR A4) (Kd.R_base Ar) hb)
                 replace A5 := Z.m (Kd.R_elder' (vR A5) (Kd.R_base Ar) hb)
                 replace A2 := Z.m (Kd.R_elder' (vR A2) (Kd.R_base Ar) hb)
                 replace At := Z.m (Kd.R_elder' (vR At) (Kd.R_base Ar) hb)
                 replace AC := Z.m (Kd.R_elder' (vR AC) (Kd.R_base Ar) hb)
                 replace A0 := kB A0 hb
                 replace A1 := kB A1 hb
                 replace A7 := kB A7 hb
                 replace A8 := kB A8 hb
                 replace Aa := kB Aa hb
                 replace A9 := kB A9 hb
                 replace HB := bB HB hb
                 (try clear hb); (try clear Ar)
                 refine hK.out _ _ ⟨(ql A0.o 0).trans rfl, (ql A0.o 1).trans rfl, (ql A0.o 2).trans rfl, (ql A1.o 0).trans rfl, (ql A1.o 1).trans rfl, (ql A1.o 2).trans rfl⟩ (fun hHeld => ?_)
                 clear hK K
                 refine norm_ (a' := ?_) ?_ ?_
                 rotate_left
                 ·show Act.put _ (some 99) _ = _
                  simp only [Act.put, q1, q2, q3, i64_w, i32_w]
                  rfl
                 refine pure_ (i := 5) (N := some 94) (v := ?_) (a' := ?_) #[true, true, true, true, true, true, false, false, false, false, false] rfl rfl (any_of HT_.o (by kernel_rfl)) (fun _ _ _ h => h) (Or.inl ⟨by rfl, ?_⟩) ?_ ?_
                 rotate_left
                 ·intro w'
                  go_simp
                  with_reducible rfl
                 rotate_left
                 ·simp only [Act.put, q1, q2, q3, i64_w, i32_w]
                  rfl
                 refine pure_ (i := 6) (N := some 100) (v := ?_) (a' := ?_) #[true, true, true, true, true, true, true, false, false, false, false] rfl rfl (any_of HT_.o (by kernel_rfl)) (fun _ _ _ h => h) (Or.inl ⟨by rfl, ?_⟩) ?_ ?_
                 rotate_left
                 ·intro w'
                  go_simp
                  with_reducible rfl
                 rotate_left
                 ·simp only [Act.put, q1, q2, q3, i64_w, i32_w]
                  rfl
                 refine pure_ (i := 7) (N := some 101) (v := ?_) (a' := ?_) #[true, true, true, true, true, true, true, true, false, false, false] rfl rfl (any_of HT_.o (by kernel_rfl)) (fun _ _ _ h => h) (Or.inl ⟨by rfl, ?_⟩) ?_ ?_
                 rotate_left
                 ·intro w'
                  go_simp
                  with_reducible rfl
                 rotate_left
                 ·simp only [Act.put, q1, q2, q3, i64_w, i32_w]
                  rfl
                 refine one_ (i := 8) (N := some 15) #[true, true, true, true, true, true, true, true, true, false, false] rfl rfl (one_of HT_.o (by kernel_rfl)) (by decide) (fun K hK => ?_)
                 refine box_step ?hg (N := 15) ?hd (cs := #[.int .i64 0, .int .i64 0, .slice none 0 0]) (t := 29) ?hr ?_; (case hd => rfl); (case hg => rfl); (case hr => first | (go_simp; done) | (go_simp; rfl))
                 intro AV hg Eg hbox hb
                 have As := Z.m (hbox)
                 have Ce := gW (w := w) HB hg
                 have Cb := gW (w := w) HB hg
                 have Am := neL A0 hg
                 have AQ := neG A0 hg
                 have An := neL A1 hg
                 have AR := neG A1 hg
                 have AL := neL A7 hg
                 have AS := neG A7 hg
                 have AM := neL A8 hg
                 have AT := neG A8 hg
                 have AN := neL Aa hg
                 have AU := neG Aa hg
                 have AJ := neL A9 hg
                 have AO := neG A9 hg
                 replace A6 := Z.m (Kd.Rb (vR A6) hb)
                 replace A4 := Z.m (Kd.Rb (vR A4) hb)
                 replace A5 := Z.m (Kd.Rb (vR A5) hb)
                 replace A2 := Z.m (Kd.Rb (vR A2) hb)
                 replace At := Z.m (Kd.Rb (vR At) hb)
                 replace AC := Z.m (Kd.Rb (vR AC) hb)
                 replace Bb := Z.m (Kd.Rb (vR Bb) hb)
                 replace A0 := kB A0 hb
                 replace A1 := kB A1 hb
                 replace A7 := kB A7 hb
                 replace A8 := kB A8 hb
                 replace Aa := kB Aa hb
                 replace A9 := kB A9 hb
                 replace HB := bB HB hb
                 clear hb hbox hg
                 refine hK.out _ _ ⟨(ql A0.o 0).trans rfl, (ql A0.o 1).trans rfl, (ql A0.o 2).trans rfl, (ql A1.o 0).trans rfl, (ql A1.o 1).trans rfl, (ql A1.o 2).trans rfl⟩ (fun hHeld => ?_)
                 clear hK K
                 refine norm_ (a' := ?_) ?_ ?_
                 rotate_left
                 ·show Act.put _ (some 15) _ = _
                  simp only [Act.put, q1, q2, q3, i64_w, i32_w]
                  rfl
                 exact norm_ (by simp only [putAll, Act.put, q1, q2, q3]) (hCont (.slice E5 BA.length E6, .slice BC BB.length BF, BL, AV) _ ⟨hHeld, (by refine rK ?_; exact Kd.Rm At.o (fun _ hk => ⟨hk.1.2, ⟨hk.2, ⟨hk.1.1.1.1.1.2, ⟨hk.1.1.1.1.2, ⟨hk.1.1.1.2, hk.1.1.2⟩⟩⟩⟩⟩)), (by refine rK ?_; exact Kd.Rm AC.o (fun _ hk => ⟨hk.1.2, ⟨hk.2, ⟨hk.1.1.1.1.1.2, ⟨hk.1.1.1.1.2, ⟨hk.1.1.1.2, hk.1.1.2⟩⟩⟩⟩⟩)), (by refine rK ?_; exact Kd.Rm Bb.o (fun _ hk => ⟨hk.1.2, ⟨hk.2, ⟨hk.1.1.1.1.1.2, ⟨hk.1.1.1.1.2, ⟨hk.1.1.1.2, hk.1.1.2⟩⟩⟩⟩⟩)), (by refine rK ?_; exact Kd.Rm A6.o (fun _ hk => ⟨hk.1.1.2, ⟨hk.1.2, ⟨hk.2, ⟨hk.1.1.1.1, ⟨hk.1.1.1.2.1, hk.1.1.1.2.2⟩⟩⟩⟩⟩)), (by refine rK ?_; exact Kd.Rm A4.o (fun _ hk => ⟨hk.1.1.2, ⟨hk.1.2, ⟨hk.2, ⟨hk.1.1.1.1, ⟨hk.1.1.1.2.1, hk.1.1.1.2.2⟩⟩⟩⟩⟩)), (by refine rK ?_; exact Kd.Rm A5.o (fun _ hk => ⟨hk.1.1.2, ⟨hk.1.2, ⟨hk.2, ⟨hk.1.1.1.1, ⟨hk.1.1.1.2.1, hk.1.1.1.2.2⟩⟩⟩⟩⟩)), (by refine rK ?_; exact Kd.Rm A2.o (fun _ hk => ⟨hk.1.1.2, ⟨hk.1.2, ⟨hk.2, ⟨hk.1.1.1.1, ⟨hk.1.1.1.2.1, hk.1.1.1.2.2⟩⟩⟩⟩⟩)), (vK A0), (vK A1), (vK A7), (vK A8), (vK Aa), (vK A9), (vK As), Ce.o, Cb.o, Am.o, AQ.o, An.o, AR.o, AL.o, AS.o, AM.o, AT.o, AN.o, AU.o, AJ.o, AO.o, (vB HB)⟩)
                ·skip
                 refine box_step ?hg (N := 15) ?hd (cs := #[.int .i64 0, .int .i64 0, .slice none 0 0]) (t := 29) ?hr ?_; (case hd => rfl); (case hg => rfl); (case hr => first | (go_simp; done) | (go_simp; rfl))
                 intro AV hg FT hbox hb
                 have As := Z.m (hbox)
                 have Ce := gW (w := w) HB hg
                 have Cb := gW (w := w) HB hg
                 have Am := neL A0 hg
                 have AQ := neG A0 hg
                 have An := neL A1 hg
                 have AR := neG A1 hg
                 have AL := neL A7 hg
                 have AS := neG A7 hg
                 have AM := neL A8 hg
                 have AT := neG A8 hg
                 have AN := neL Aa hg
                 have AU := neG Aa hg
                 have AJ := neL A9 hg
                 have AO := neG A9 hg
                 replace A6 := Z.m (Kd.Rb (vR A6) hb)
                 replace A4 := Z.m (Kd.Rb (vR A4) hb)
                 replace A5 := Z.m (Kd.Rb (vR A5) hb)
                 replace A2 := Z.m (Kd.Rb (vR A2) hb)
                 replace At := Z.m (Kd.Rb (vR At) hb)
                 replace AC := Z.m (Kd.Rb (vR AC) hb)
                 replace A0 := kB A0 hb
                 replace A1 := kB A1 hb
                 replace A7 := kB A7 hb
                 replace A8 := kB A8 hb
                 replace Aa := kB Aa hb
                 replace A9 := kB A9 hb
                 replace HB := bB HB hb
                 clear hb hbox hg
                 obtain ⟨BC, BF, BG⟩ := Kd.R_slice At.o
                 (first | subst BG | (injection BG with f1_ f2_ f3_; have f4_ := f1_.symm; have f5_ := f3_.symm; clear f1_ f2_ f3_; subst f4_; subst f5_))
                 obtain ⟨Ca, Cg, Ch⟩ := Kd.R_slice AC.o
                 (first | subst Ch | (injection Ch with f1_ f2_ f3_; have f4_ := f1_.symm; have f5_ := f3_.symm; clear f1_ f2_ f3_; subst f4_; subst f5_))
                 refine hK.out _ _ ⟨(ql A0.o 0).trans rfl, (ql A0.o 1).trans rfl, (ql A0.o 2).trans rfl, (ql A1.o 0).trans rfl, (ql A1.o 1).trans rfl, (ql A1.o 2).trans rfl⟩ (fun hHeld => ?_)
                 clear hK K
                 refine norm_ (a' := ?_) ?_ ?_
                 rotate_left
                 ·show Act.put _ (some 15) _ = _
                  simp only [Act.put, q1, q2, q3, i64_w, i32_w]
                  rfl
                 refine one_ (i := 4) (N := some 99) #[true, true, true, true, true, false, false, false, true, false, false] rfl rfl (one_of HT_.o (by kernel_rfl)) (by decide) (fun K hK => ?_)
                 refine goes_ Try.func32 (by kernel_rfl) rfl #[.agg #[.int .i64 C6, .int .i64 C7, .slice BC BA.length BF], .agg #[.int .i64 C8, .int .i64 C9, .slice Ca BB.length Cg]] (by rfl) rfl rfl (by (try simp only [List.map_toArray, List.map_cons, List.map_nil]); first | done | rfl | (simp only [List.length_drop, List.length_take]; rfl)) ?_
                 with_reducible refine (impl_BesideBoards.calls kj108 C6 C7 _ _ BA C8 C9 _ _ BB Cm Cn Bx Cv _ ?side1 ?side2 ?side3 ?side4 Db.o).mono ?_
                 (case side1 => repeat (first | exact (Kd.RrZ At.o).2.2 | (with_reducible refine Kd.C_alloc ?_ _) | (with_reducible refine Kd.C_drewN ?_ _) | (with_reducible refine Kd.C_drew ?_)))
                 (case side2 => exact (Kd.RrZ At.o).2.1)
                 (case side3 => repeat (first | exact (Kd.RrZ AC.o).2.2 | (with_reducible refine Kd.C_alloc ?_ _) | (with_reducible refine Kd.C_drewN ?_ _) | (with_reducible refine Kd.C_drew ?_)))
                 (case side4 => exact (Kd.RrZ AC.o).2.1)
                 rintro e Eg ⟨BL, rfl, Ar, hb⟩
                 refine ⟨_, rfl, ?_⟩
                 have Bb := Z.m (Kd.R_lower (Kd.R_new' (Kd.R_new' (Kd.R_new' (Kd.R_new' (Kd.R_new' (Kd.R_new' Ar (Kd.R_lt (vR A6))) (Kd.R_lt (vR A4))) (Kd.R_lt (vR A5))) (Kd.R_lt (vR A2))) (Kd.R_lt (vR At))) (Kd.R_lt (vR AC))) (below_size (vB HB)))
                 replace A6 := Z.m (Kd.R_elder' (vR A6) (Kd.R_base Ar) hb)
                 replace A4 := Z.m (Kd.R_elder' (vR A4) (Kd.R_base Ar) hb)
                 replace A5 := Z.m (Kd.R_elder' (vR A5) (Kd.R_base Ar) hb)
                 replace A2 := Z.m (Kd.R_elder' (vR A2) (Kd.R_base Ar) hb)
                 replace At := Z.m (Kd.R_elder' (vR At) (Kd.R_base Ar) hb)
                 replace AC := Z.m (Kd.R_elder' (vR AC) (Kd.R_base Ar) hb)
                 replace A0 := kB A0 hb
                 replace A1 := kB A1 hb
                 replace A7 := kB A7 hb
                 replace A8 := kB A8 hb
                 replace Aa := kB Aa hb
                 replace A9 := kB A9 hb
                 replace As := kB As hb
                 replace HB := bB HB hb
                 (try clear hb); (try clear Ar)
                 refine hK.out _ _ ⟨(ql A0.o 0).trans rfl, (ql A0.o 1).trans rfl, (ql A0.o 2).trans rfl, (ql A1.o 0).trans rfl, (ql A1.o 1).trans rfl, (ql A1.o 2).trans rfl⟩ (fun hHeld => ?_)
                 clear hK K
                 refine norm_ (a' := ?_) ?_ ?_
                 rotate_left
                 ·show Act.put _ (some 99) _ = _
                  simp only [Act.put, q1, q2, q3, i64_w, i32_w]
                  rfl
                 refine pure_ (i := 5) (N := some 94) (v := ?_) (a' := ?_) #[true, true, true, true, true, true, false, false, true, false, false] rfl rfl (any_of HT_.o (by kernel_rfl)) (fun _ _ _ h => h) (Or.inl ⟨by rfl, ?_⟩) ?_ ?_
                 rotate_left
                 ·intro w'
                  go_simp
                  with_reducible rfl
                 rotate_left
                 ·simp only [Act.put, q1, q2, q3, i64_w, i32_w]
                  rfl
                 refine pure_ (i := 6) (N := some 100) (v := ?_) (a' := ?_) #[true, true, true, true, true, true, true, false, true, false, false] rfl rfl (any_of HT_.o (by kernel_rfl)) (fun _ _ _ h => h) (Or.inl ⟨by rfl, ?_⟩) ?_ ?_
                 rotate_left
                 ·intro w'
                  go_simp
                  with_reducible rfl
                 rotate_left
                 ·simp only [Act.put, q1, q2, q3, i64_w, i32_w]
                  rfl
                 refine pure_ (i := 7) (N := some 101) (v := ?_) (a' := ?_) #[true, true, true, true, true, true, true, true, true, false, false] rfl rfl (any_of HT_.o (by kernel_rfl)) (fun _ _ _ h => h) (Or.inl ⟨by rfl, ?_⟩) ?_ ?_
                 rotate_left
                 ·intro w'
                  go_simp
                  with_reducible rfl
                 rotate_left
                 ·simp only [Act.put, q1, q2, q3, i64_w, i32_w]
                  rfl
                 exact norm_ (by simp only [putAll, Act.put, q1, q2, q3]) (hCont (.slice BC BA.length BF, .slice Ca BB.length Cg, BL, AV) _ ⟨hHeld, (by refine rK ?_; exact Kd.Rm At.o (fun _ hk => ⟨hk.1.2, ⟨hk.2, ⟨hk.1.1.1.1.1.2, ⟨hk.1.1.1.1.2, ⟨hk.1.1.1.2, hk.1.1.2⟩⟩⟩⟩⟩)), (by refine rK ?_; exact Kd.Rm AC.o (fun _ hk => ⟨hk.1.2, ⟨hk.2, ⟨hk.1.1.1.1.1.2, ⟨hk.1.1.1.1.2, ⟨hk.1.1.1.2, hk.1.1.2⟩⟩⟩⟩⟩)), (by refine rK ?_; exact Kd.Rm Bb.o (fun _ hk => ⟨hk.1.2, ⟨hk.2, ⟨hk.1.1.1.1.1.2, ⟨hk.1.1.1.1.2, ⟨hk.1.1.1.2, hk.1.1.2⟩⟩⟩⟩⟩)), (by refine rK ?_; exact Kd.Rm A6.o (fun _ hk => ⟨hk.1.1.2, ⟨hk.1.2, ⟨hk.2, ⟨hk.1.1.1.1, ⟨hk.1.1.1.2.1, hk.1.1.1.2.2⟩⟩⟩⟩⟩)), (by refine rK ?_; exact Kd.Rm A4.o (fun _ hk => ⟨hk.1.1.2, ⟨hk.1.2, ⟨hk.2, ⟨hk.1.1.1.1, ⟨hk.1.1.1.2.1, hk.1.1.1.2.2⟩⟩⟩⟩⟩)), (by refine rK ?_; exact Kd.Rm A5.o (fun _ hk => ⟨hk.1.1.2, ⟨hk.1.2, ⟨hk.2, ⟨hk.1.1.1.1, ⟨hk.1.1.1.2.1, hk.1.1.1.2.2⟩⟩⟩⟩⟩)), (by refine rK ?_; exact Kd.Rm A2.o (fun _ hk => ⟨hk.1.1.2, ⟨hk.1.2, ⟨hk.2, ⟨hk.1.1.1.1, ⟨hk.1.1.1.2.1, hk.1.1.1.2.2⟩⟩⟩⟩⟩)), (vK A0), (vK A1), (vK A7), (vK A8), (vK Aa), (vK A9), (vK As), Ce.o, Cb.o, Am.o, AQ.o, An.o, AR.o, AL.o, AS.o, AM.o, AT.o, AN.o, AU.o, AJ.o, AO.o, (vB HB)⟩)
               ·skip
                refine box_step ?hg (N := 15) ?hd (cs := #[.int .i64 0, .int .i64 0, .slice none 0 0]) (t := 29) ?hr ?_; (case hd => rfl); (case hg => rfl); (case hr => first | (go_simp; done) | (go_simp; rfl))
                intro AV hg FS hbox hb
                have As := Z.m (hbox)
                have Ce := gW (w := w) HB hg
                have Cb := gW (w := w) HB hg
                have Am := neL A0 hg
                have AQ := neG A0 hg
                have An := neL A1 hg
                have AR := neG A1 hg
                have AL := neL A7 hg
                have AS := neG A7 hg
                have AM := neL A8 hg
                have AT := neG A8 hg
                have AN := neL Aa hg
                have AU := neG Aa hg
                have AJ := neL A9 hg
                have AO := neG A9 hg
                replace A6 := Z.m (Kd.Rb (vR A6) hb)
                replace A4 := Z.m (Kd.Rb (vR A4) hb)
                replace A5 := Z.m (Kd.Rb (vR A5) hb)
                replace A2 := Z.m (Kd.Rb (vR A2) hb)
                replace At := Z.m (Kd.Rb (vR At) hb)
                replace A0 := kB A0 hb
                replace A1 := kB A1 hb
                replace A7 := kB A7 hb
                replace A8 := kB A8 hb
                replace Aa := kB Aa hb
                replace A9 := kB A9 hb
                replace HB := bB HB hb
                clear hb hbox hg
                refine hK.out _ _ ⟨(ql A0.o 0).trans rfl, (ql A0.o 1).trans rfl, (ql A0.o 2).trans rfl, (ql A1.o 0).trans rfl, (ql A1.o 1).trans rfl, (ql A1.o 2).trans rfl⟩ (fun hHeld => ?_)
                clear hK K
                refine norm_ (a' := ?_) ?_ ?_
                rotate_left
                ·show Act.put _ (some 15) _ = _
                 simp only [Act.put, q1, q2, q3, i64_w, i32_w]
                 rfl
                refine one_ (i := 3) (N := some 98) #[true, true, true, true, false, false, false, false, true, false, false] rfl rfl (one_of HT_.o (by kernel_rfl)) (by decide) (fun K hK => ?_)
                refine goes_ Try.func17 (by kernel_rfl) rfl #[.agg #[.int .i64 a1_0, .int .i64 a1_1, .slice A1_2 l1_2.length c1_2]] (by rfl) rfl rfl (by (try simp only [List.map_toArray, List.map_cons, List.map_nil]); first | done | rfl | (simp only [List.length_drop, List.length_take]; rfl)) ?_
                with_reducible refine (laws_toBoard.calls kj108 a1_0 a1_1 _ _ l1_2 C8 C9 BB _ ?side1 ?side2 Ec.o).mono ?_
                (case side1 => repeat (first | exact (Kd.C_below BJ.o HB.o) | (with_reducible refine Kd.C_alloc ?_ _) | (with_reducible refine Kd.C_drewN ?_ _) | (with_reducible refine Kd.C_drew ?_)))
                (case side2 => exact BI.o)
                rintro e FT ⟨Co, rfl, Ar, hb⟩
                refine ⟨_, rfl, ?_⟩
                have AC := Z.m (Kd.R_lower (Kd.R_new' (Kd.R_new' (Kd.R_new' (Kd.R_new' (Kd.R_new' Ar (Kd.R_lt (vR A6))) (Kd.R_lt (vR A4))) (Kd.R_lt (vR A5))) (Kd.R_lt (vR A2))) (Kd.R_lt (vR At))) (below_size (vB HB)))
                replace A6 := Z.m (Kd.R_elder' (vR A6) (Kd.R_base Ar) hb)
                replace A4 := Z.m (Kd.R_elder' (vR A4) (Kd.R_base Ar) hb)
                replace A5 := Z.m (Kd.R_elder' (vR A5) (Kd.R_base Ar) hb)
                replace A2 := Z.m (Kd.R_elder' (vR A2) (Kd.R_base Ar) hb)
                replace At := Z.m (Kd.R_elder' (vR At) (Kd.R_base Ar) hb)
                replace A0 := kB A0 hb
                replace A1 := kB A1 hb
                replace A7 := kB A7 hb
                replace A8 := kB A8 hb
                replace Aa := kB Aa hb
                replace A9 := kB A9 hb
                replace As := kB As hb
                replace HB := bB HB hb
                (try clear hb); (try clear Ar)
                obtain ⟨BC, BF, BG⟩ := Kd.R_slice At.o
                (first | subst BG | (injection BG with f1_ f2_ f3_; have f4_ := f1_.symm; have f5_ := f3_.symm; clear f1_ f2_ f3_; subst f4_; subst f5_))
                obtain ⟨Ca, Cg, Ch⟩ := Kd.R_slice AC.o
                (first | subst Ch | (injection Ch with f1_ f2_ f3_; have f4_ := f1_.symm; have f5_ := f3_.symm; clear f1_ f2_ f3_; subst f4_; subst f5_))
                refine hK.out _ _ ⟨(ql A0.o 0).trans rfl, (ql A0.o 1).trans rfl, (ql A0.o 2).trans rfl, (ql A1.o 0).trans rfl, (ql A1.o 1).trans rfl, (ql A1.o 2).trans rfl⟩ (fun hHeld => ?_)
                clear hK K
                refine norm_ (a' := ?_) ?_ ?_
                rotate_left
                ·show Act.put _ (some 98) _ = _
                 simp only [Act.put, q1, q2, q3, i64_w, i32_w]
                 rfl
                refine one_ (i := 4) (N := some 99) #[true, true, true, true, true, false, false, false, true, false, false] rfl rfl (one_of HT_.o (by kernel_rfl)) (by decide) (fun K hK => ?_)
                refine goes_ Try.func32 (by kernel_rfl) rfl #[.agg #[.int .i64 C6, .int .i64 C7, .slice BC BA.length BF], .agg #[.int .i64 C8, .int .i64 C9, .slice Ca BB.length Cg]] (by rfl) rfl rfl (by (try simp only [List.map_toArray, List.map_cons, List.map_nil]); first | done | rfl | (simp only [List.length_drop, List.length_take]; rfl)) ?_
                with_reducible refine (impl_BesideBoards.calls kj108 C6 C7 _ _ BA C8 C9 _ _ BB Cm Cn Bx Cv _ ?side1 ?side2 ?side3 ?side4 Db.o).mono ?_
                (case side1 => repeat (first | exact (Kd.RrZ At.o).2.2 | (with_reducible refine Kd.C_alloc ?_ _) | (with_reducible refine Kd.C_drewN ?_ _) | (with_reducible refine Kd.C_drew ?_)))
                (case side2 => exact (Kd.RrZ At.o).2.1)
                (case side3 => repeat (first | exact (Kd.RrZ AC.o).2.2 | (with_reducible refine Kd.C_alloc ?_ _) | (with_reducible refine Kd.C_drewN ?_ _) | (with_reducible refine Kd.C_drew ?_)))
                (case side4 => exact (Kd.RrZ AC.o).2.1)
                rintro e Eg ⟨BL, rfl, Ar, hb⟩
                refine ⟨_, rfl, ?_⟩
                have Bb := Z.m (Kd.R_lower (Kd.R_new' (Kd.R_new' (Kd.R_new' (Kd.R_new' (Kd.R_new' (Kd.R_new' Ar (Kd.R_lt (vR A6))) (Kd.R_lt (vR A4))) (Kd.R_lt (vR A5))) (Kd.R_lt (vR A2))) (Kd.R_lt (vR At))) (Kd.R_lt (vR AC))) (below_size (vB HB)))
                replace A6 := Z.m (Kd.R_elder' (vR A6) (Kd.R_base Ar) hb)
                replace A4 := Z.m (Kd.R_elder' (vR A4) (Kd.R_base Ar) hb)
                replace A5 := Z.m (Kd.R_elder' (vR A5) (Kd.R_base Ar) hb)
                replace A2 := Z.m (Kd.R_elder' (vR A2) (Kd.R_base Ar) hb)
                replace At := Z.m (Kd.R_elder' (vR At) (Kd.R_base Ar) hb)
                replace AC := Z.m (Kd.R_elder' (vR AC) (Kd.R_base Ar) hb)
                replace A0 := kB A0 hb
                replace A1 := kB A1 hb
                replace A7 := kB A7 hb
                replace A8 := kB A8 hb
                replace Aa := kB Aa hb
                replace A9 := kB A9 hb
                replace As := kB As hb
                replace HB := bB HB hb
                (try clear hb); (try clear Ar)
                refine hK.out _ _ ⟨(ql A0.o 0).trans rfl, (ql A0.o 1).trans rfl, (ql A0.o 2).trans rfl, (ql A1.o 0).trans rfl, (ql A1.o 1).trans rfl, (ql A1.o 2).trans rfl⟩ (fun hHeld => ?_)
                clear hK K
                refine norm_ (a' := ?_) ?_ ?_
                rotate_left
                ·show Act.put _ (some 99) _ = _
                 simp only [Act.put, q1, q2, q3, i64_w, i32_w]
                 rfl
                refine pure_ (i := 5) (N := some 94) (v := ?_) (a' := ?_) #[true, true, true, true, true, true, false, false, true, false, false] rfl rfl (any_of HT_.o (by kernel_rfl)) (fun _ _ _ h => h) (Or.inl ⟨by rfl, ?_⟩) ?_ ?_
                rotate_left
                ·intro w'
                 go_simp
                 with_reducible rfl
                rotate_left
                ·simp only [Act.put, q1, q2, q3, i64_w, i32_w]
                 rfl
                refine pure_ (i := 6) (N := some 100) (v := ?_) (a' := ?_) #[true, true, true, true, true, true, true, false, true, false, false] rfl rfl (any_of HT_.o (by kernel_rfl)) (fun _ _ _ h => h) (Or.inl ⟨by rfl, ?_⟩) ?_ ?_
                rotate_left
                ·intro w'
                 go_simp
                 with_reducible rfl
                rotate_left
                ·simp only [Act.put, q1, q2, q3, i64_w, i32_w]
                 rfl
                refine pure_ (i := 7) (N := some 101) (v := ?_) (a' := ?_) #[true, true, true, true, true, true, true, true, true, false, false] rfl rfl (any_of HT_.o (by kernel_rfl)) (fun _ _ _ h => h) (Or.inl ⟨by rfl, ?_⟩) ?_ ?_
                rotate_left
                ·intro w'
                 go_simp
                 with_reducible rfl
                rotate_left
                ·simp only [Act.put, q1, q2, q3, i64_w, i32_w]
                 rfl
                exact norm_ (by simp only [putAll, Act.put, q1, q2, q3]) (hCont (.slice BC BA.length BF, .slice Ca BB.length Cg, BL, AV) _ ⟨hHeld, (by refine rK ?_; exact Kd.Rm At.o (fun _ hk => ⟨hk.1.2, ⟨hk.2, ⟨hk.1.1.1.1.1.2, ⟨hk.1.1.1.1.2, ⟨hk.1.1.1.2, hk.1.1.2⟩⟩⟩⟩⟩)), (by refine rK ?_; exact Kd.Rm AC.o (fun _ hk => ⟨hk.1.2, ⟨hk.2, ⟨hk.1.1.1.1.1.2, ⟨hk.1.1.1.1.2, ⟨hk.1.1.1.2, hk.1.1.2⟩⟩⟩⟩⟩)), (by refine rK ?_; exact Kd.Rm Bb.o (fun _ hk => ⟨hk.1.2, ⟨hk.2, ⟨hk.1.1.1.1.1.2, ⟨hk.1.1.1.1.2, ⟨hk.1.1.1.2, hk.1.1.2⟩⟩⟩⟩⟩)), (by refine rK ?_; exact Kd.Rm A6.o (fun _ hk => ⟨hk.1.1.2, ⟨hk.1.2, ⟨hk.2, ⟨hk.1.1.1.1, ⟨hk.1.1.1.2.1, hk.1.1.1.2.2⟩⟩⟩⟩⟩)), (by refine rK ?_; exact Kd.Rm A4.o (fun _ hk => ⟨hk.1.1.2, ⟨hk.1.2, ⟨hk.2, ⟨hk.1.1.1.1, ⟨hk.1.1.1.2.1, hk.1.1.1.2.2⟩⟩⟩⟩⟩)), (by refine rK ?_; exact Kd.Rm A5.o (fun _ hk => ⟨hk.1.1.2, ⟨hk.1.2, ⟨hk.2, ⟨hk.1.1.1.1, ⟨hk.1.1.1.2.1, hk.1.1.1.2.2⟩⟩⟩⟩⟩)), (by refine rK ?_; exact Kd.Rm A2.o (fun _ hk => ⟨hk.1.1.2, ⟨hk.1.2, ⟨hk.2, ⟨hk.1.1.1.1, ⟨hk.1.1.1.2.1, hk.1.1.1.2.2⟩⟩⟩⟩⟩)), (vK A0), (vK A1), (vK A7), (vK A8), (vK Aa), (vK A9), (vK As), Ce.o, Cb.o, Am.o, AQ.o, An.o, AR.o, AL.o, AS.o, AM.o, AT.o, AN.o, AU.o, AJ.o, AO.o, (vB HB)⟩)
              ·skip
               refine box_step ?hg (N := 15) ?hd (cs := #[.int .i64 0, .int .i64 0, .slice none 0 0]) (t := 29) ?hr ?_; (case hd => rfl); (case hg => rfl); (case hr => first | (go_simp; done) | (go_simp; rfl))
               intro AV hg Ju hbox hb
               have As := Z.m (hbox)
               have Ce := gW (w := w) HB hg
               have Cb := gW (w := w) HB hg
               have Am := neL A0 hg
               have AQ := neG A0 hg
               have An := neL A1 hg
               have AR := neG A1 hg
               have AL := neL A7 hg
               have AS := neG A7 hg
               have AM := neL A8 hg
               have AT := neG A8 hg
               have AN := neL Aa hg
               have AU := neG Aa hg
               have AJ := neL A9 hg
               have AO := neG A9 hg
               replace A6 := Z.m (Kd.Rb (vR A6) hb)
               replace A4 := Z.m (Kd.Rb (vR A4) hb)
               replace A5 := Z.m (Kd.Rb (vR A5) hb)
               replace A2 := Z.m (Kd.Rb (vR A2) hb)
               replace A0 := kB A0 hb
               replace A1 := kB A1 hb
               replace A7 := kB A7 hb
               replace A8 := kB A8 hb
               replace Aa := kB Aa hb
               replace A9 := kB A9 hb
               replace HB := bB HB hb
               clear hb hbox hg
               refine hK.out _ _ ⟨(ql A0.o 0).trans rfl, (ql A0.o 1).trans rfl, (ql A0.o 2).trans rfl, (ql A1.o 0).trans rfl, (ql A1.o 1).trans rfl, (ql A1.o 2).trans rfl⟩ (fun hHeld => ?_)
               clear hK K
               refine norm_ (a' := ?_) ?_ ?_
               rotate_left
               ·show Act.put _ (some 15) _ = _
                simp only [Act.put, q1, q2, q3, i64_w, i32_w]
                rfl
               refine one_ (i := 1) (N := some 96) #[true, true, true, false, false, false, false, false, true, false, false] rfl rfl (one_of HT_.o (by kernel_rfl)) (by decide) (fun K hK => ?_)
               refine goes_ Try.func17 (by kernel_rfl) rfl #[.agg #[.int .i64 a0_0, .int .i64 a0_1, .slice A0_2 l0_2.length c0_2]] (by rfl) rfl rfl (by (try simp only [List.map_toArray, List.map_cons, List.map_nil]); first | done | rfl | (simp only [List.length_drop, List.length_take]; rfl)) ?_
               with_reducible refine (laws_toBoard.calls kj108 a0_0 a0_1 _ _ l0_2 C6 C7 BA _ ?side1 ?side2 Ei.o).mono ?_
               (case side1 => repeat (first | exact (Kd.C_below BQ.o HB.o) | (with_reducible refine Kd.C_alloc ?_ _) | (with_reducible refine Kd.C_drewN ?_ _) | (with_reducible refine Kd.C_drew ?_)))
               (case side2 => exact BP.o)
               rintro e FS ⟨Cx, rfl, Ar, hb⟩
               refine ⟨_, rfl, ?_⟩
               have At := Z.m (Kd.R_lower (Kd.R_new' (Kd.R_new' (Kd.R_new' (Kd.R_new' Ar (Kd.R_lt (vR A6))) (Kd.R_lt (vR A4))) (Kd.R_lt (vR A5))) (Kd.R_lt (vR A2))) (below_size (vB HB)))
               replace A6 := Z.m (Kd.R_elder' (vR A6) (Kd.R_base Ar) hb)
               replace A4 := Z.m (Kd.R_elder' (vR A4) (Kd.R_base Ar) hb)
               replace A5 := Z.m (Kd.R_elder' (vR A5) (Kd.R_base Ar) hb)
               replace A2 := Z.m (Kd.R_elder' (vR A2) (Kd.R_base Ar) hb)
               replace A0 := kB A0 hb
               replace A1 := kB A1 hb
               replace A7 := kB A7 hb
               replace A8 := kB A8 hb
               replace Aa := kB Aa hb
               replace A9 := kB A9 hb
               replace As := kB As hb
               replace HB := bB HB hb
               (try clear hb); (try clear Ar)
               refine hK.out _ _ ⟨(ql A0.o 0).trans rfl, (ql A0.o 1).trans rfl, (ql A0.o 2).trans rfl, (ql A1.o 0).trans rfl, (ql A1.o 1).trans rfl, (ql A1.o 2).trans rfl⟩ (fun hHeld => ?_)
               clear hK K
               refine norm_ (a' := ?_) ?_ ?_
               rotate_left
               ·show Act.put _ (some 96) _ = _
                simp only [Act.put, q1, q2, q3, i64_w, i32_w]
                rfl
               refine one_ (i := 3) (N := some 98) #[true, true, true, true, false, false, false, false, true, false, false] rfl rfl (one_of HT_.o (by kernel_rfl)) (by decide) (fun K hK => ?_)
               refine goes_ Try.func17 (by kernel_rfl) rfl #[.agg #[.int .i64 a1_0, .int .i64 a1_1, .slice A1_2 l1_2.length c1_2]] (by rfl) rfl rfl (by (try simp only [List.map_toArray, List.map_cons, List.map_nil]); first | done | rfl | (simp only [List.length_drop, List.length_take]; rfl)) ?_
               with_reducible refine (laws_toBoard.calls kj108 a1_0 a1_1 _ _ l1_2 C8 C9 BB _ ?side1 ?side2 Ec.o).mono ?_
               (case side1 => repeat (first | exact (Kd.C_below BJ.o HB.o) | (with_reducible refine Kd.C_alloc ?_ _) | (with_reducible refine Kd.C_drewN ?_ _) | (with_reducible refine Kd.C_drew ?_)))
               (case side2 => exact BI.o)
               rintro e FT ⟨Co, rfl, Ar, hb⟩
               refine ⟨_, rfl, ?_⟩
               have AC := Z.m (Kd.R_lower (Kd.R_new' (Kd.R_new' (Kd.R_new' (Kd.R_new' (Kd.R_new' Ar (Kd.R_lt (vR A6))) (Kd.R_lt (vR A4))) (Kd.R_lt (vR A5))) (Kd.R_lt (vR A2))) (Kd.R_lt (vR At))) (below_size (vB HB)))
               replace A6 := Z.m (Kd.R_elder' (vR A6) (Kd.R_base Ar) hb)
               replace A4 := Z.m (Kd.R_elder' (vR A4) (Kd.R_base Ar) hb)
               replace A5 := Z.m (Kd.R_elder' (vR A5) (Kd.R_base Ar) hb)
               replace A2 := Z.m (Kd.R_elder' (vR A2) (Kd.R_base Ar) hb)
               replace At := Z.m (Kd.R_elder' (vR At) (Kd.R_base Ar) hb)
               replace A0 := kB A0 hb
               replace A1 := kB A1 hb
               replace A7 := kB A7 hb
               replace A8 := kB A8 hb
               replace Aa := kB Aa hb
               replace A9 := kB A9 hb
               replace As := kB As hb
               replace HB := bB HB hb
               (try clear hb); (try clear Ar)
               obtain ⟨BC, BF, BG⟩ := Kd.R_slice At.o
               (first | subst BG | (injection BG with f1_ f2_ f3_; have f4_ := f1_.symm; have f5_ := f3_.symm; clear f1_ f2_ f3_; subst f4_; subst f5_))
               obtain ⟨Ca, Cg, Ch⟩ := Kd.R_slice AC.o
               (first | subst Ch | (injection Ch with f1_ f2_ f3_; have f4_ := f1_.symm; have f5_ := f3_.symm; clear f1_ f2_ f3_; subst f4_; subst f5_))
               refine hK.out _ _ ⟨(ql A0.o 0).trans rfl, (ql A0.o 1).trans rfl, (ql A0.o 2).trans rfl, (ql A1.o 0).trans rfl, (ql A1.o 1).trans rfl, (ql A1.o 2).trans rfl⟩ (fun hHeld => ?_)
               clear hK K
               refine norm_ (a' := ?_) ?_ ?_
               rotate_left
               ·show Act.put _ (some 98) _ = _
                simp only [Act.put, q1, q2, q3, i64_w, i32_w]
                rfl
               refine one_ (i := 4) (N := some 99) #[true, true, true, true, true, false, false, false, true, false, false] rfl rfl (one_of HT_.o (by kernel_rfl)) (by decide) (fun K hK => ?_)
               refine goes_ Try.func32 (by kernel_rfl) rfl #[.agg #[.int .i64 C6, .int .i64 C7, .slice BC BA.length BF], .agg #[.int .i64 C8, .int .i64 C9, .slice Ca BB.length Cg]] (by rfl) rfl rfl (by (try simp only [List.map_toArray, List.map_cons, List.map_nil]); first | done | rfl | (simp only [List.length_drop, List.length_take]; rfl)) ?_
               with_reducible refine (impl_BesideBoards.calls kj108 C6 C7 _ _ BA C8 C9 _ _ BB Cm Cn Bx Cv _ ?side1 ?side2 ?side3 ?side4 Db.o).mono ?_
               (case side1 => repeat (first | exact (Kd.RrZ At.o).2.2 | (with_reducible refine Kd.C_alloc ?_ _) | (with_reducible refine Kd.C_drewN ?_ _) | (with_reducible refine Kd.C_drew ?_)))
               (case side2 => exact (Kd.RrZ At.o).2.1)
               (case side3 => repeat (first | exact (Kd.RrZ AC.o).2.2 | (with_reducible refine Kd.C_alloc ?_ _) | (with_reducible refine Kd.C_drewN ?_ _) | (with_reducible refine Kd.C_drew ?_)))
               (case side4 => exact (Kd.RrZ AC.o).2.1)
               rintro e Eg ⟨BL, rfl, Ar, hb⟩
               refine ⟨_, rfl, ?_⟩
               have Bb := Z.m (Kd.R_lower (Kd.R_new' (Kd.R_new' (Kd.R_new' (Kd.R_new' (Kd.R_new' (Kd.R_new' Ar (Kd.R_lt (vR A6))) (Kd.R_lt (vR A4))) (Kd.R_lt (vR A5))) (Kd.R_lt (vR A2))) (Kd.R_lt (vR At))) (Kd.R_lt (vR AC))) (below_size (vB HB)))
               replace A6 := Z.m (Kd.R_elder' (vR A6) (Kd.R_base Ar) hb)
               replace A4 := Z.m (Kd.R_elder' (vR A4) (Kd.R_base Ar) hb)
               replace A5 := Z.m (Kd.R_elder' (vR A5) (Kd.R_base Ar) hb)
               replace A2 := Z.m (Kd.R_elder' (vR A2) (Kd.R_base Ar) hb)
               replace At := Z.m (Kd.R_elder' (vR At) (Kd.R_base Ar) hb)
               replace AC := Z.m (Kd.R_elder' (vR AC) (Kd.R_base Ar) hb)
               replace A0 := kB A0 hb
               replace A1 := kB A1 hb
               replace A7 := kB A7 hb
               replace A8 := kB A8 hb
               replace Aa := kB Aa hb
               replace A9 := kB A9 hb
               replace As := kB As hb
               replace HB := bB HB hb
               (try clear hb); (try clear Ar)
               refine hK.out _ _ ⟨(ql A0.o 0).trans rfl, (ql A0.o 1).trans rfl, (ql A0.o 2).trans rfl, (ql A1.o 0).trans rfl, (ql A1.o 1).trans rfl, (ql A1.o 2).trans rfl⟩ (fun hHeld => ?_)
               clear hK K
               refine norm_ (a' := ?_) ?_ ?_
               rotate_left
               ·show Act.put _ (some 99) _ = _
                simp only [Act.put, q1, q2, q3, i64_w, i32_w]
                rfl
               refine pure_ (i := 5) (N := some 94) (v := ?_) (a' := ?_) #[true, true, true, true, true, true, false, false, true, false, false] rfl rfl (any_of HT_.o (by kernel_rfl)) (fun _ _ _ h => h) (Or.inl ⟨by rfl, ?_⟩) ?_ ?_
               rotate_left
               ·intro w'
                go_simp
                with_reducible rfl
               rotate_left
               ·simp only [Act.put, q1, q2, q3, i64_w, i32_w]
                rfl
               refine pure_ (i := 6) (N := some 100) (v := ?_) (a' := ?_) #[true, true, true, true, true, true, true, false, true, false, false] rfl rfl (any_of HT_.o (by kernel_rfl)) (fun _ _ _ h => h) (Or.inl ⟨by rfl, ?_⟩) ?_ ?_
               rotate_left
               ·intro w'
                go_simp
                with_reducible rfl
               rotate_left
               ·simp only [Act.put, q1, q2, q3, i64_w, i32_w]
                rfl
               refine pure_ (i := 7) (N := some 101) (v := ?_) (a' := ?_) #[true, true, true, true, true, true, true, true, true, false, false] rfl rfl (any_of HT_.o (by kernel_rfl)) (fun _ _ _ h => h) (Or.inl ⟨by rfl, ?_⟩) ?_ ?_
               rotate_left
               ·intro w'
                go_simp
                with_reducible rfl
               rotate_left
               ·simp only [Act.put, q1, q2, q3, i64_w, i32_w]
                rfl
               exact norm_ (by simp only [putAll, Act.put, q1, q2, q3]) (hCont (.slice BC BA.length BF, .slice Ca BB.length Cg, BL, AV) _ ⟨hHeld, (by refine rK ?_; exact Kd.Rm At.o (fun _ hk => ⟨hk.1.2, ⟨hk.2, ⟨hk.1.1.1.1.1.2, ⟨hk.1.1.1.1.2, ⟨hk.1.1.1.2, hk.1.1.2⟩⟩⟩⟩⟩)), (by refine rK ?_; exact Kd.Rm AC.o (fun _ hk => ⟨hk.1.2, ⟨hk.2, ⟨hk.1.1.1.1.1.2, ⟨hk.1.1.1.1.2, ⟨hk.1.1.1.2, hk.1.1.2⟩⟩⟩⟩⟩)), (by refine rK ?_; exact Kd.Rm Bb.o (fun _ hk => ⟨hk.1.2, ⟨hk.2, ⟨hk.1.1.1.1.1.2, ⟨hk.1.1.1.1.2, ⟨hk.1.1.1.2, hk.1.1.2⟩⟩⟩⟩⟩)), (by refine rK ?_; exact Kd.Rm A6.o (fun _ hk => ⟨hk.1.1.2, ⟨hk.1.2, ⟨hk.2, ⟨hk.1.1.1.1, ⟨hk.1.1.1.2.1, hk.1.1.1.2.2⟩⟩⟩⟩⟩)), (by refine rK ?_; exact Kd.Rm A4.o (fun _ hk => ⟨hk.1.1.2, ⟨hk.1.2, ⟨hk.2, ⟨hk.1.1.1.1, ⟨hk.1.1.1.2.1, hk.1.1.1.2.2⟩⟩⟩⟩⟩)), (by refine rK ?_; exact Kd.Rm A5.o (fun _ hk => ⟨hk.1.1.2, ⟨hk.1.2, ⟨hk.2, ⟨hk.1.1.1.1, ⟨hk.1.1.1.2.1, hk.1.1.1.2.2⟩⟩⟩⟩⟩)), (by refine rK ?_; exact Kd.Rm A2.o (fun _ hk => ⟨hk.1.1.2, ⟨hk.1.2, ⟨hk.2, ⟨hk.1.1.1.1, ⟨hk.1.1.1.2.1, hk.1.1.1.2.2⟩⟩⟩⟩⟩)), (vK A0), (vK A1), (vK A7), (vK A8), (vK Aa), (vK A9), (vK As), Ce.o, Cb.o, Am.o, AQ.o, An.o, AR.o, AL.o, AS.o, AM.o, AT.o, AN.o, AU.o, AJ.o, AO.o, (vB HB)⟩)
             rintro ⟨Cx, Co, BL, AV⟩ Bd ⟨hS_, h0_, h1_, h2_, h3_, h4_, h5_, h6_, h7_, h8_, h9_, h10_, h11_, h12_, h13_, h14_, h15_, h16_, h17_, h18_, h19_, h20_, h21_, h22_, h23_, h24_, h25_, h26_, h27_, h28_⟩
             have At : Z (Kd.R k34 34 Bd w.heap.size (fun k_ => some k_ ≠ (Co : Value).ownBlock ∧ some k_ ≠ (BL : Value).ownBlock ∧ some k_ ≠ (.slice AI Ab.length AF : Value).ownBlock ∧ some k_ ≠ (.slice Ax B0.length Aw : Value).ownBlock ∧ some k_ ≠ (.slice AB B1.length Ay : Value).ownBlock ∧ some k_ ≠ (.slice AH Ae.length AG : Value).ownBlock) Cx BA) := ⟨h0_⟩
             have AC : Z (Kd.R k34 34 Bd w.heap.size (fun k_ => some k_ ≠ (Cx : Value).ownBlock ∧ some k_ ≠ (BL : Value).ownBlock ∧ some k_ ≠ (.slice AI Ab.length AF : Value).ownBlock ∧ some k_ ≠ (.slice Ax B0.length Aw : Value).ownBlock ∧ some k_ ≠ (.slice AB B1.length Ay : Value).ownBlock ∧ some k_ ≠ (.slice AH Ae.length AG : Value).ownBlock) Co BB) := ⟨h1_⟩
             have Bb : Z (Kd.R k34 34 Bd w.heap.size (fun k_ => some k_ ≠ (Cx : Value).ownBlock ∧ some k_ ≠ (Co : Value).ownBlock ∧ some k_ ≠ (.slice AI Ab.length AF : Value).ownBlock ∧ some k_ ≠ (.slice Ax B0.length Aw : Value).ownBlock ∧ some k_ ≠ (.slice AB B1.length Ay : Value).ownBlock ∧ some k_ ≠ (.slice AH Ae.length AG : Value).ownBlock) BL Bx) := ⟨h2_⟩
             have As : Z (Bd.heap[AV]? = some (.cells #[.int .i64 0, .int .i64 0, .slice none 0 0] 29 (0, 0))) := ⟨h13_⟩
             have Ce : Z (w.heap.size ≤ AV) := ⟨h14_⟩
             have Cb : Z (w.heap.size ≤ AV) := ⟨h15_⟩
             have Am : Z (Au ≠ AV) := ⟨h16_⟩
             have AQ : Z (AV ≠ Au) := ⟨h17_⟩
             have An : Z (Av ≠ AV) := ⟨h18_⟩
             have AR : Z (AV ≠ Av) := ⟨h19_⟩
             have AL : Z (AK ≠ AV) := ⟨h20_⟩
             have AS : Z (AV ≠ AK) := ⟨h21_⟩
             have AM : Z (Bc ≠ AV) := ⟨h22_⟩
             have AT : Z (AV ≠ Bc) := ⟨h23_⟩
             have AN : Z (Bl ≠ AV) := ⟨h24_⟩
             have AU : Z (AV ≠ Bl) := ⟨h25_⟩
             have AJ : Z (BH ≠ AV) := ⟨h26_⟩
             have AO : Z (AV ≠ BH) := ⟨h27_⟩
             replace A6 : Z (Kd.R k34 34 Bd w.heap.size (fun k_ => some k_ ≠ (Cx : Value).ownBlock ∧ some k_ ≠ (Co : Value).ownBlock ∧ some k_ ≠ (BL : Value).ownBlock ∧ some k_ ≠ (.slice Ax B0.length Aw : Value).ownBlock ∧ some k_ ≠ (.slice AB B1.length Ay : Value).ownBlock ∧ some k_ ≠ (.slice AH Ae.length AG : Value).ownBlock) (.slice AI Ab.length AF) Ab) := ⟨h3_⟩
             replace A4 : Z (Kd.R k34 34 Bd w.heap.size (fun k_ => some k_ ≠ (Cx : Value).ownBlock ∧ some k_ ≠ (Co : Value).ownBlock ∧ some k_ ≠ (BL : Value).ownBlock ∧ some k_ ≠ (.slice AI Ab.length AF : Value).ownBlock ∧ some k_ ≠ (.slice AB B1.length Ay : Value).ownBlock ∧ some k_ ≠ (.slice AH Ae.length AG : Value).ownBlock) (.slice Ax B0.length Aw) B0) := ⟨h4_⟩
             replace A5 : Z (Kd.R k34 34 Bd w.heap.size (fun k_ => some k_ ≠ (Cx : Value).ownBlock ∧ some k_ ≠ (Co : Value).ownBlock ∧ some k_ ≠ (BL : Value).ownBlock ∧ some k_ ≠ (.slice AI Ab.length AF : Value).ownBlock ∧ some k_ ≠ (.slice Ax B0.length Aw : Value).ownBlock ∧ some k_ ≠ (.slice AH Ae.length AG : Value).ownBlock) (.slice AB B1.length Ay) B1) := ⟨h5_⟩
             replace A2 : Z (Kd.R k34 34 Bd w.heap.size (fun k_ => some k_ ≠ (Cx : Value).ownBlock ∧ some k_ ≠ (Co : Value).ownBlock ∧ some k_ ≠ (BL : Value).ownBlock ∧ some k_ ≠ (.slice AI Ab.length AF : Value).ownBlock ∧ some k_ ≠ (.slice Ax B0.length Aw : Value).ownBlock ∧ some k_ ≠ (.slice AB B1.length Ay : Value).ownBlock) (.slice AH Ae.length AG) Ba) := ⟨h6_⟩
             replace A0 : Z (Bd.heap[Au]? = some (.cells #[.int .i64 a0_0, .int .i64 a0_1, .slice A0_2 l0_2.length c0_2] 24 (0, 0))) := ⟨h7_⟩
             replace A1 : Z (Bd.heap[Av]? = some (.cells #[.int .i64 a1_0, .int .i64 a1_1, .slice A1_2 l1_2.length c1_2] 24 (0, 0))) := ⟨h8_⟩
             replace A7 : Z (Bd.heap[AK]? = some (.cells #[.int .i64 Ai, .int .i64 Aj, .slice AI Ab.length AF] 29 (0, 0))) := ⟨h9_⟩
             replace A8 : Z (Bd.heap[Bc]? = some (.cells #[.int .i64 AW, .int .i64 AX, .slice Ax B0.length Aw] 29 (0, 0))) := ⟨h10_⟩
             replace Aa : Z (Bd.heap[Bl]? = some (.cells #[.int .i64 AY, .int .i64 AZ, .slice AB B1.length Ay] 29 (0, 0))) := ⟨h11_⟩
             replace A9 : Z (Bd.heap[BH]? = some (.cells #[.int .i64 Ak, .int .i64 Al, .slice AH Ae.length AG] 29 (0, 0))) := ⟨h12_⟩
             replace HB : Z (Below w.heap.size w Bd) := ⟨h28_⟩
             clear h0_ h1_ h2_ h3_ h4_ h5_ h6_ h7_ h8_ h9_ h10_ h11_ h12_ h13_ h14_ h15_ h16_ h17_ h18_ h19_ h20_ h21_ h22_ h23_ h24_ h25_ h26_ h27_ h28_
             have hHeld : Bd.cell? ⟨Au, 0, none⟩ = some (.int .i64 a0_0) ∧ Bd.cell? ⟨Au, 1, none⟩ = some (.int .i64 a0_1) ∧ Bd.cell? ⟨Au, 2, none⟩ = some (.slice A0_2 l0_2.length c0_2) ∧ Bd.cell? ⟨Av, 0, none⟩ = some (.int .i64 a1_0) ∧ Bd.cell? ⟨Av, 1, none⟩ = some (.int .i64 a1_1) ∧ Bd.cell? ⟨Av, 2, none⟩ = some (.slice A1_2 l1_2.length c1_2) := hS_
             obtain ⟨BO, BK, Ea⟩ := Kd.R_slice Bb.o
             (first | subst Ea | (injection Ea with f1_ f2_ f3_; have f4_ := f1_.symm; have f5_ := f3_.symm; clear f1_ f2_ f3_; subst f4_; subst f5_))
             refine norm_ (a' := ?_) ?_ ?_
             rotate_left
             ·simp only [putAll, Act.put, q1, q2, q3]
              rfl
             refine one_ (i := 9) (N := none) #[true, true, true, true, true, true, true, true, true, true, false] rfl rfl (one_of HT_.o (by kernel_rfl)) (by decide) (fun K hK => ?_)
             have Kp : Bd.cell? ⟨AV, 0, none⟩ = some (.int .i64 0) := (ql As.o 0).trans rfl
             have hfs193 := qz As.o 0
             have Fz := Am.o
             have FA := An.o
             have FB := AL.o
             have FC := AM.o
             have FD := AN.o
             have FE := AJ.o
             have Fh := AQ.o
             have Fi := AR.o
             have Fj := AS.o
             have Fk := AT.o
             have Fl := AU.o
             have Fm := AO.o
             have Kq : Bd.cell? ⟨AV, 1, none⟩ = some (.int .i64 0) := (ql As.o 1).trans rfl
             have hfs194 := qz As.o 1
             have FF := Am.o
             have FG := An.o
             have FH := AL.o
             have FI := AM.o
             have FJ := AN.o
             have FL := AJ.o
             have Fn := AQ.o
             have Fo := AR.o
             have Fp := AS.o
             have Fq := AT.o
             have Fr := AU.o
             have Fs := AO.o
             have Kr : Bd.cell? ⟨AV, 2, none⟩ = some (.slice none 0 0) := (ql As.o 2).trans rfl
             have hfs196 := qz As.o 2
             have FM := Am.o
             have FN := An.o
             have FO := AL.o
             have FP := AM.o
             have FQ := AN.o
             have FR := AJ.o
             have Ft := AQ.o
             have Fu := AR.o
             have Fv := AS.o
             have Fw := AT.o
             have Fx := AU.o
             have Fy := AO.o
             refine skip_ (w1 := ?_) ?hwx ?hnx ?_ ?_; (case hwx => rfl); (case hnx => rfl)
             rotate_left
             ·go_simp
              rfl
             refine hK.out _ _ ⟨(cx Am.o ((cx Am.o ((cx Am.o (hHeld.1)))))), (cx Am.o ((cx Am.o ((cx Am.o (hHeld.2.1)))))), (cx Am.o ((cx Am.o ((cx Am.o (hHeld.2.2.1)))))), (cx An.o ((cx An.o ((cx An.o (hHeld.2.2.2.1)))))), (cx An.o ((cx An.o ((cx An.o (hHeld.2.2.2.2.1)))))), (cx An.o ((cx An.o ((cx An.o (hHeld.2.2.2.2.2))))))⟩ (fun hHeld => ?_)
             clear hK K
             refine pure_ (i := 10) (N := some 16) (v := ?_) (a' := ?_) #[true, true, true, true, true, true, true, true, true, true, true] rfl rfl (any_of HT_.o (by kernel_rfl)) (fun _ _ _ h => h) (Or.inl ⟨by rfl, ?_⟩) ?_ ?_
             rotate_left
             ·intro w'
              go_simp
              with_reducible rfl
             rotate_left
             ·simp only [Act.put, q1, q2, q3, i64_w, i32_w]
              rfl
             refine done_ (done_of HT_.o (by kernel_rfl)) ?_
             go_upto_region 32 with (fail)
             go_cut [110] (fun v110 wc => ∃ (kq : Nat) (BU : Bool), v110 = .bool BU ∧ Z (laws_FnExactBesideBoards.j2 kq Bn BU Ak Al Ba = some true) ∧ Z (kq ≤ kj108) ∧ Z (Kd.R k34 34 wc w.heap.size (fun k_ => some k_ ≠ ((.slice Ax B0.length Aw) : Value).ownBlock ∧ some k_ ≠ ((.slice AB B1.length Ay) : Value).ownBlock ∧ some k_ ≠ ((.slice AH Ae.length AG) : Value).ownBlock ∧ some k_ ≠ ((.slice BO Bx.length BK) : Value).ownBlock) (.slice AI Ab.length AF) Ab) ∧ Z (Kd.R k34 34 wc w.heap.size (fun k_ => some k_ ≠ ((.slice AI Ab.length AF) : Value).ownBlock ∧ some k_ ≠ ((.slice AB B1.length Ay) : Value).ownBlock ∧ some k_ ≠ ((.slice AH Ae.length AG) : Value).ownBlock ∧ some k_ ≠ ((.slice BO Bx.length BK) : Value).ownBlock) (.slice Ax B0.length Aw) B0) ∧ Z (Kd.R k34 34 wc w.heap.size (fun k_ => some k_ ≠ ((.slice AI Ab.length AF) : Value).ownBlock ∧ some k_ ≠ ((.slice Ax B0.length Aw) : Value).ownBlock ∧ some k_ ≠ ((.slice AH Ae.length AG) : Value).ownBlock ∧ some k_ ≠ ((.slice BO Bx.length BK) : Value).ownBlock) (.slice AB B1.length Ay) B1) ∧ Z (Kd.R k34 34 wc w.heap.size (fun k_ => some k_ ≠ ((.slice AI Ab.length AF) : Value).ownBlock ∧ some k_ ≠ ((.slice Ax B0.length Aw) : Value).ownBlock ∧ some k_ ≠ ((.slice AB B1.length Ay) : Value).ownBlock ∧ some k_ ≠ ((.slice BO Bx.length BK) : Value).ownBlock) (.slice AH Ae.length AG) Ba) ∧ Z (Kd.R k34 34 wc w.heap.size (fun k_ => some k_ ≠ ((.slice AI Ab.length AF) : Value).ownBlock ∧ some k_ ≠ ((.slice Ax B0.length Aw) : Value).ownBlock ∧ some k_ ≠ ((.slice AB B1.length Ay) : Value).ownBlock ∧ some k_ ≠ ((.slice AH Ae.length AG) : Value).ownBlock) (.slice BO Bx.length BK) Bx) ∧ Z (wc.heap[Au]? = some (.cells #[.int .i64 a0_0, .int .i64 a0_1, (.slice A0_2 l0_2.length c0_2)] 24 (0, 0))) ∧ Z (wc.heap[Av]? = some (.cells #[.int .i64 a1_0, .int .i64 a1_1, (.slice A1_2 l1_2.length c1_2)] 24 (0, 0))) ∧ Z (wc.heap[AK]? = some (.cells #[.int .i64 Ai, .int .i64 Aj, (.slice AI Ab.length AF)] 29 (0, 0))) ∧ Z (wc.heap[Bc]? = some (.cells #[.int .i64 AW, .int .i64 AX, (.slice Ax B0.length Aw)] 29 (0, 0))) ∧ Z (wc.heap[Bl]? = some (.cells #[.int .i64 AY, .int .i64 AZ, (.slice AB B1.length Ay)] 29 (0, 0))) ∧ Z (wc.heap[BH]? = some (.cells #[.int .i64 Ak, .int .i64 Al, (.slice AH Ae.length AG)] 29 (0, 0))) ∧ Z (wc.heap[AV]? = some (.cells #[.int .i64 Cm, .int .i64 Cn, (.slice BO Bx.length BK)] 29 (0, 0))) ∧ Z (Below w.heap.size w wc))
             case first =>
              have H := CX.o
              clear CX
              replace H := Option.bind_eq_some_iff.mp H
              obtain ⟨BT, E3, H⟩ := H
              replace H : (if BT = true then (laws_FnExactBesideBoards.j2 kj108 Bn (Cv != Ap) Ak Al Ba) else (laws_FnExactBesideBoards.j2 kj108 Bn true Ak Al Ba)) = some true := H
              have GQ := Z.m E3
              clear E3
              by_cases c198 : BT = true
              ·subst c198
               have H1 : (laws_FnExactBesideBoards.j2 kj108 Bn (Cv != Ap) Ak Al Ba) = some true := by rw [if_pos rfl] at H; exact H
               clear H
               have H := H1
               clear H1
               have H' := Z.m H
               clear H
               have Hv := AQ.o
               have Jb := Am.o
               have Hw := AR.o
               have Jc := An.o
               have Hx := AS.o
               have Jd := AL.o
               have Hy := AT.o
               have Je := AM.o
               have Hz := AU.o
               have Jf := AN.o
               have HC := AO.o
               have Jg := AJ.o
               have EN := bc0 As
               have EO := bc1 As
               have EP := bc2 As
               have F8 := qz As.o 0
               have F9 := qz As.o 1
               have Fa := qz As.o 2
               have HD := AD.o
               have Jh := Ag.o
               have HE := AE.o
               have Ji := Ah.o
               have HF := Bg.o
               have Jj := Br.o
               have HG := Bh.o
               have Jk := Bs.o
               have HH := B4.o
               have Jl := Bi.o
               have EQ := bc0 A7
               have ER := bc1 A7
               have ES := bc2 A7
               have Fb := qz A7.o 0
               have Fc := qz A7.o 1
               have Fd := qz A7.o 2
               go_wp2_with (first | ((with_reducible refine gc (f := 19) rfl ?_); refine gA (some 104) _ #[.agg #[.int .i64 Cm, .int .i64 Cn, .slice BO Bx.length BK], .agg #[.int .i64 Ai, .int .i64 Aj, .slice AI Ab.length AF]] ?_ Try.func19; (with_reducible refine (laws_eqBoard.calls kj108 Cm Cn _ _ Bx Ai Aj _ _ Ab true _ ?side1 ?side2 ?side3 ?side4 GQ.o).mono ?_); (case side1 => refine (Kd.RrZ (e := 34) (base := w.heap.size) (ok := fun k_ => (some k_ ≠ (Cx : Value).ownBlock ∧ (some k_ ≠ (Co : Value).ownBlock ∧ (some k_ ≠ (.slice AI Ab.length AF : Value).ownBlock ∧ (some k_ ≠ (.slice Ax B0.length Aw : Value).ownBlock ∧ (some k_ ≠ (.slice AB B1.length Ay : Value).ownBlock ∧ some k_ ≠ (.slice AH Ae.length AG : Value).ownBlock)))))) (n := Bx.length) (c := BK) ?_).2.2; exact (by refine rK ?_; exact (Kd.Rm (rf (rf (rf (Kd.Ry Bb.o As.o (by decide))))) (fun _ h_ => h_.1)))); (case side2 => exact (Kd.RrZ Bb.o).2.1); (case side3 => refine (Kd.RrZ (e := 34) (base := w.heap.size) (ok := fun k_ => (some k_ ≠ (Cx : Value).ownBlock ∧ (some k_ ≠ (Co : Value).ownBlock ∧ (some k_ ≠ (.slice BO Bx.length BK : Value).ownBlock ∧ (some k_ ≠ (.slice Ax B0.length Aw : Value).ownBlock ∧ (some k_ ≠ (.slice AB B1.length Ay : Value).ownBlock ∧ some k_ ≠ (.slice AH Ae.length AG : Value).ownBlock)))))) (n := Ab.length) (c := AF) ?_).2.2; exact (by refine rK ?_; exact (Kd.Rm (rf (rf (rf (Kd.Ry A6.o As.o (by decide))))) (fun _ h_ => h_.1)))); (case side4 => exact (Kd.RrZ A6.o).2.1); rintro e KV ⟨rfl, hb⟩; refine ⟨_, rfl, ?_⟩; replace A6 := Z.m (Kd.Rb (by refine rK ?_; exact (Kd.Rm (rf (rf (rf (Kd.Ry A6.o As.o (by decide))))) (fun _ h_ => h_.1))) hb); replace A4 := Z.m (Kd.Rb (by refine rK ?_; exact (Kd.Rm (rf (rf (rf (Kd.Ry A4.o As.o (by decide))))) (fun _ h_ => h_.1))) hb); replace A5 := Z.m (Kd.Rb (by refine rK ?_; exact (Kd.Rm (rf (rf (rf (Kd.Ry A5.o As.o (by decide))))) (fun _ h_ => h_.1))) hb); replace A2 := Z.m (Kd.Rb (by refine rK ?_; exact (Kd.Rm (rf (rf (rf (Kd.Ry A2.o As.o (by decide))))) (fun _ h_ => h_.1))) hb); replace At := Z.m (Kd.Rb (by refine rK ?_; exact (Kd.Rm (rf (rf (rf (Kd.Ry At.o As.o (by decide))))) (fun _ h_ => h_.1))) hb); replace AC := Z.m (Kd.Rb (by refine rK ?_; exact (Kd.Rm (rf (rf (rf (Kd.Ry AC.o As.o (by decide))))) (fun _ h_ => h_.1))) hb); replace Bb := Z.m (Kd.Rb (by refine rK ?_; exact (Kd.Rm (rf (rf (rf (Kd.Ry Bb.o As.o (by decide))))) (fun _ h_ => h_.1))) hb); replace A0 := Z.m (qb (g := Au) (o := .cells #[.int .i64 a0_0, .int .i64 a0_1, .slice A0_2 l0_2.length c0_2] 24 (0, 0)) (by refine bK ?_; (iterate 3 refine qF ?_ Am); exact A0.o) hb); replace A1 := Z.m (qb (g := Av) (o := .cells #[.int .i64 a1_0, .int .i64 a1_1, .slice A1_2 l1_2.length c1_2] 24 (0, 0)) (by refine bK ?_; (iterate 3 refine qF ?_ An); exact A1.o) hb); replace A7 := Z.m (qb (g := AK) (o := .cells #[.int .i64 Ai, .int .i64 Aj, .slice AI Ab.length AF] 29 (0, 0)) (by refine bK ?_; (iterate 3 refine qF ?_ AL); exact A7.o) hb); replace A8 := Z.m (qb (g := Bc) (o := .cells #[.int .i64 AW, .int .i64 AX, .slice Ax B0.length Aw] 29 (0, 0)) (by refine bK ?_; (iterate 3 refine qF ?_ AM); exact A8.o) hb); replace Aa := Z.m (qb (g := Bl) (o := .cells #[.int .i64 AY, .int .i64 AZ, .slice AB B1.length Ay] 29 (0, 0)) (by refine bK ?_; (iterate 3 refine qF ?_ AN); exact Aa.o) hb); replace A9 := Z.m (qb (g := BH) (o := .cells #[.int .i64 Ak, .int .i64 Al, .slice AH Ae.length AG] 29 (0, 0)) (by refine bK ?_; (iterate 3 refine qF ?_ AJ); exact A9.o) hb); replace As := Z.m (qb (g := AV) (o := .cells #[.int .i64 Cm, .int .i64 Cn, .slice BO Bx.length BK] 29 (0, 0)) (by refine bK ?_; apply st3; refine bK ?_; exact As.o) hb); replace HB := bB HB hb; (try clear hb); (try clear CS); (try clear hk); (try clear hi)))
               go_meet
               case rel => exact ⟨_, ((Cv != Ap)), (by first | rfl | (simp; done) | (simp [*]; done)), H', ⟨by have := Ee.o; have := Ew.o; first | omega | exact Nat.le_refl _⟩, ⟨by (try simp only [Ac]); (try simp only [Ad]); refine rK ?_; exact Kd.Rm A6.o (fun _ hk => ⟨hk.2.2.2.1, ⟨hk.2.2.2.2.1, ⟨hk.2.2.2.2.2, hk.2.2.1⟩⟩⟩)⟩, ⟨by (try simp only [Ac]); (try simp only [Ad]); refine rK ?_; exact Kd.Rm A4.o (fun _ hk => ⟨hk.2.2.2.1, ⟨hk.2.2.2.2.1, ⟨hk.2.2.2.2.2, hk.2.2.1⟩⟩⟩)⟩, ⟨by (try simp only [Ac]); (try simp only [Ad]); refine rK ?_; exact Kd.Rm A5.o (fun _ hk => ⟨hk.2.2.2.1, ⟨hk.2.2.2.2.1, ⟨hk.2.2.2.2.2, hk.2.2.1⟩⟩⟩)⟩, ⟨by (try simp only [Ac]); (try simp only [Ad]); refine rK ?_; exact Kd.Rm A2.o (fun _ hk => ⟨hk.2.2.2.1, ⟨hk.2.2.2.2.1, ⟨hk.2.2.2.2.2, hk.2.2.1⟩⟩⟩)⟩, ⟨by (try simp only [Ac]); (try simp only [Ad]); refine rK ?_; exact Kd.Rm Bb.o (fun _ hk => ⟨hk.2.2.1, ⟨hk.2.2.2.1, ⟨hk.2.2.2.2.1, hk.2.2.2.2.2⟩⟩⟩)⟩, ⟨by (try simp only [Ac]); (try simp only [Ad]); refine bK ?_; exact A0.o⟩, ⟨by (try simp only [Ac]); (try simp only [Ad]); refine bK ?_; exact A1.o⟩, ⟨by (try simp only [Ac]); (try simp only [Ad]); refine bK ?_; exact A7.o⟩, ⟨by (try simp only [Ac]); (try simp only [Ad]); refine bK ?_; exact A8.o⟩, ⟨by (try simp only [Ac]); (try simp only [Ad]); refine bK ?_; exact Aa.o⟩, ⟨by (try simp only [Ac]); (try simp only [Ad]); refine bK ?_; exact A9.o⟩, ⟨by (try simp only [Ac]); (try simp only [Ad]); refine bK ?_; exact As.o⟩, ⟨vB HB⟩⟩
              ·(rw [if_neg c198] at H; exact absurd H (laws_FnExactBesideBoards.bad_j2 _ _ _ _ _))
             case rest =>
              clear CX
              obtain ⟨kq, BU, rfl, HA, Jz, A6, A4, A5, A2, BV, A0, A1, A7, A8, Aa, A9, As, HB⟩ := hcut
              have Aq := (Kd.RrZ A2.o).1
              rw [Aq] at A2
              (try simp only [Aq])
              (try simp only [Aq] at A0)
              (try simp only [Aq] at A1)
              (try simp only [Aq] at A7)
              (try simp only [Aq] at A8)
              (try simp only [Aq] at Aa)
              (try simp only [Aq] at A9)
              (try simp only [Aq] at As)
              (try simp only [Aq] at A6)
              (try simp only [Aq] at A4)
              (try simp only [Aq] at A5)
              (try simp only [Aq] at BV)
              cases kq with
              | zero => exact absurd HA.o (by simp [laws_FnExactBesideBoards.j2])
              | succ kj174 =>
               have H := HA.o
               clear HA
               simp only [laws_FnExactBesideBoards.j2] at H
               by_cases c227 : BU = true
               ·(rw [if_pos c227] at H; exact absurd H (by decide))
               ·replace c227 := Bool.eq_false_iff.mpr c227
                subst c227
                have H1 : ((laws_heldBoard.f kj174 Ak Al Ba 1).bind fun CO => (if CO < 0 then (some false) else (if CO = Bn then (some true) else (some false)))) = some true := by rw [if_neg (show ¬ (false = true) by decide)] at H; exact H
                clear H
                have H := H1
                clear H1
                replace H := Option.bind_eq_some_iff.mp H
                obtain ⟨CO, E4, H⟩ := H
                replace H : (if CO < 0 then (some false) else (if CO = Bn then (some true) else (some false))) = some true := H
                have GS := Z.m E4
                clear E4
                by_cases c229 : CO < 0
                ·(rw [if_pos c229] at H; exact absurd H (by decide))
                ·rw [if_neg c229] at H
                 have CQ := decide_eq_false c229
                 (try simp only [Ac] at CQ)
                 (try simp only [Ad] at CQ)
                 (try simp only [Aq] at CQ)
                 clear c229
                 by_cases c238 : CO = Bn
                 ·rw [if_pos c238] at H
                  have GV := beq_iff_eq.mpr c238
                  have GW := bne_eq_false_iff_eq.mpr c238
                  clear c238
                  clear H
                  have HI := Bt.o
                  have Jm := Be.o
                  have HJ := Bu.o
                  have Jn := Bf.o
                  have HK := Bi.o
                  have Jo := B4.o
                  have HL := Bj.o
                  have Jp := B5.o
                  have HM := Bk.o
                  have Jq := B9.o
                  have HN := AJ.o
                  have Jr := AO.o
                  have ET := bc0 A9
                  have EU := bc1 A9
                  have EV := bc2 A9
                  have Fe := qz A9.o 0
                  have Ff := qz A9.o 1
                  have Fg := qz A9.o 2
                  go_wp2_with (first | ((with_reducible refine gc (f := 26) rfl ?_); refine gA (some 113) _ #[.agg #[.int .i64 Ak, .int .i64 Al, .slice AH Ba.length AG], .int .i64 1] ?_ Try.func26; (with_reducible refine (laws_heldBoard.calls kj174 Ak Al _ _ Ba 1 CO _ ?side1 ?side2 GS.o).mono ?_); (case side1 => repeat (first | exact (Kd.RrZ A2.o).2.2 | (with_reducible refine Kd.C_alloc ?_ _) | (with_reducible refine Kd.C_drewN ?_ _) | (with_reducible refine Kd.C_drew ?_))); (case side2 => exact (Kd.RrZ A2.o).2.1); rintro e KW ⟨rfl, hb⟩; refine ⟨_, rfl, ?_⟩; replace A6 := Z.m (Kd.Rb (vR A6) hb); replace A4 := Z.m (Kd.Rb (vR A4) hb); replace A5 := Z.m (Kd.Rb (vR A5) hb); replace A2 := Z.m (Kd.Rb (vR A2) hb); replace BV := Z.m (Kd.Rb (vR BV) hb); replace A0 := kB A0 hb; replace A1 := kB A1 hb; replace A7 := kB A7 hb; replace A8 := kB A8 hb; replace Aa := kB Aa hb; replace A9 := kB A9 hb; replace As := kB As hb; replace HB := bB HB hb; (try clear hb); (try clear CS); (try clear hk); (try clear hi)))
                  go_ret
                  exact ⟨by first | rfl | (simp [eN, eS] <;> rfl) | (simp [*, eN, eS] <;> rfl), vB HB⟩
                 ·(rw [if_neg c238] at H; exact absurd H (by decide))
            ·(rw [if_neg c171] at H; exact absurd H (by decide))
       ·(rw [if_neg c106] at H; exact absurd H (by decide))
      ·(rw [if_neg c103] at H; exact absurd H (by decide))

end Go.Proofs.Yteodcegmkbcjjaa.PAll
