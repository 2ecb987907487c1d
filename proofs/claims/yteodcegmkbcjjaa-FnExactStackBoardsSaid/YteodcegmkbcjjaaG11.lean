/- Began as a text that print.sh wrote (of the functions named below); turned and shortened by this session. -/
import Derived.Test.YteodcegmkbcjjaaG0
import Derived.Test.YteodcegmkbcjjaaG1
import Derived.Test.YteodcegmkbcjjaaG6
import Derived.Test.YteodcegmkbcjjaaG8
import Derived.Test.YteodcegmkbcjjaaG10
namespace Go.Proofs.Yteodcegmkbcjjaa.PAll
open Go.RowKit Go.Proofs.YteodcegmkbcjjaaW.PrintWords Go.Proofs.YteodcegmkbcjjaaW.PrintLast Go.Proofs.YteodcegmkbcjjaaW.PrintMore
attribute [local go_sem] max2_int min2_int max_two min_two max_three min_three max_four min_four   -- for this text's walks alone
set_option linter.unusedVariables false
set_option linter.unusedSimpArgs false

/-! ### laws_FnExactStackBoards: function 6 -/
mutual
def laws_FnExactStackBoards.j0 : Nat → Bool → Bool → Bool → Int → Int → List (S46) → Int → Int → List (S46) → Int → Int → List (S34) → Int → Int → List (S34) → Int → Int → List (S34) → Int → Int → List (S34) → Option (Bool)
 | 0, _, _, _, _, _, _, _, _, _, _, _, _, _, _, _, _, _, _, _, _, _ => none
 | k + 1, x7, x11, x53, x278000, x278001, x278002, x279000, x279001, x279002, x298000, x298001, x298002, x304000, x304001, x304002, x310000, x310001, x310002, x317000, x317001, x317002 => if x53 = true then (some false) else ((laws_toBoard.f k x278000 x278001 x278002).bind fun bt318 => ((laws_eqBoard.f k x304000 x304001 x304002 bt318.1 bt318.2.1 bt318.2.2).bind fun t323 => (if t323 = true then ((laws_toBoard.f k x279000 x279001 x279002).bind fun bt324 => ((laws_eqBoard.f k x310000 x310001 x310002 bt324.1 bt324.2.1 bt324.2.2).bind fun t329 => (if t329 = true then ((laws_markBoard.f k x304000 x304001 x304002 1).bind fun bt330 => ((laws_markBoard.f k x310000 x310001 x310002 bt330.1).bind fun bt332 => (if bt332.1 < 0 then (laws_FnExactStackBoards.j1 k x7 true x278000 x278001 x278002 x279000 x279001 x279002 x298000 x298001 x298002 x317000 x317001 x317002) else ((laws_eqBoard.f k x317000 x317001 x317002 x298000 x298001 x298002).bind fun t334 => (if t334 = true then (laws_FnExactStackBoards.j1 k x7 (x11 != x7) x278000 x278001 x278002 x279000 x279001 x279002 x298000 x298001 x298002 x317000 x317001 x317002) else (laws_FnExactStackBoards.j1 k x7 true x278000 x278001 x278002 x279000 x279001 x279002 x298000 x298001 x298002 x317000 x317001 x317002)))))) else (some false)))) else (some false))))
def laws_FnExactStackBoards.j1 : Nat → Bool → Bool → Int → Int → List (S46) → Int → Int → List (S46) → Int → Int → List (S34) → Int → Int → List (S34) → Option (Bool)
 | 0, _, _, _, _, _, _, _, _, _, _, _, _, _, _ => none
 | k + 1, x7, x82, x278000, x278001, x278002, x279000, x279001, x279002, x298000, x298001, x298002, x317000, x317001, x317002 => if x82 = true then (some false) else ((laws_markBoard.f k x317000 x317001 x317002 1).bind fun bt335 => ((laws_heldBoard.f k x317000 x317001 bt335.2 1).bind fun t337 => (if t337 < 0 then (some false) else (if t337 = bt335.1 then ((laws_toBoard.f k x278000 x278001 x278002).bind fun bt338 => ((laws_toBoard.f k x279000 x279001 x279002).bind fun bt343 => ((impl_StackBoards.f k bt338.1 bt338.2.1 bt338.2.2 bt343.1 bt343.2.1 bt343.2.2).bind fun bt348 => ((laws_eqBoard.f k bt348.1 bt348.2.1 bt348.2.2.1 x298000 x298001 x298002).bind fun t355 => (if t355 = true then (laws_FnExactStackBoards.j2 k bt335.1 (bt348.2.2.2 != x7) x317000 x317001 bt335.2) else (laws_FnExactStackBoards.j2 k bt335.1 true x317000 x317001 bt335.2)))))) else (some false)))))
def laws_FnExactStackBoards.j2 : Nat → Int → Bool → Int → Int → List (S34) → Option (Bool)
 | 0, _, _, _, _, _ => none
 | k + 1, x13, x110, x317000, x317001, x317002 => if x110 = true then (some false) else ((laws_heldBoard.f k x317000 x317001 x317002 1).bind fun t356 => (if t356 < 0 then (some false) else (if t356 = x13 then (some true) else (some false))))
end
def laws_FnExactStackBoards.f (k : Nat) (a0_0 : Int) (a0_1 : Int) (l0_2 : List (S46)) (a1_0 : Int) (a1_1 : Int) (l1_2 : List (S46)) : Option (Bool) := (laws_szBoard.f a0_0 a0_1 l0_2 1048576).bind fun t279 => (if t279 < 0 then (some true) else ((laws_szBoard.f a1_0 a1_1 l1_2 t279).bind fun t280 => (if t280 < 0 then (some true) else ((laws_toBoard.f k a0_0 a0_1 l0_2).bind fun bt281 => ((laws_toBoard.f k a1_0 a1_1 l1_2).bind fun bt286 => ((spec_StackBoards.f k bt281.1 bt281.2.1 bt281.2.2 bt286.1 bt286.2.1 bt286.2.2).bind fun bt291 => ((laws_toBoard.f k a0_0 a0_1 l0_2).bind fun bt298 => ((laws_toBoard.f k a1_0 a1_1 l1_2).bind fun bt304 => ((impl_StackBoards.f k bt298.1 bt298.2.1 bt298.2.2 bt304.1 bt304.2.1 bt304.2.2).bind fun bt310 => ((laws_eqBoard.f k bt310.1 bt310.2.1 bt310.2.2.1 bt291.1 bt291.2.1 bt291.2.2.1).bind fun t317 => (if t317 = true then (laws_FnExactStackBoards.j0 k bt291.2.2.2 bt310.2.2.2 (bt310.2.2.2 != bt291.2.2.2) a0_0 a0_1 l0_2 a1_0 a1_1 l1_2 bt291.1 bt291.2.1 bt291.2.2.1 bt298.1 bt298.2.1 bt298.2.2 bt304.1 bt304.2.1 bt304.2.2 bt310.1 bt310.2.1 bt310.2.2.1) else (laws_FnExactStackBoards.j0 k bt291.2.2.2 bt310.2.2.2 true a0_0 a0_1 l0_2 a1_0 a1_1 l1_2 bt291.1 bt291.2.1 bt291.2.2.1 bt298.1 bt298.2.1 bt298.2.2 bt304.1 bt304.2.1 bt304.2.2 bt310.1 bt310.2.1 bt310.2.2.1))))))))))))
def laws_FnExactStackBoards.T8 : Bool × List (List Nat × List Nat) := (true, [([], []), ([0], [0]), ([], []), ([2, 1], [2]), ([1, 3, 3], [1, 3]), ([4], [4]), ([5], [5]), ([5], [5]), ([], []), ([8, 6, 4, 0, 1, 2, 3, 4, 5, 6, 8], [6, 8]), ([7, 9, 0, 1, 2, 3, 4, 5, 6, 7, 8, 9], [7])])
def laws_FnExactStackBoards.B8 : List Nat := [0, 1, 0, 7, 15, 31, 63, 63, 0, 383, 1023]
theorem laws_FnExactStackBoards.tab8 : rtab .any (opsOf Try.f6 8) = laws_FnExactStackBoards.T8 := by kernel_rfl
theorem laws_FnExactStackBoards.bits8 : waitsOk laws_FnExactStackBoards.T8.2 laws_FnExactStackBoards.B8 = true := by kernel_rfl
def laws_FnExactStackBoards.T31 : Bool × List (List Nat × List Nat) := (true, [([], []), ([0], [0]), ([], []), ([2, 1], [2]), ([1, 3, 3], [1, 3]), ([4], [4]), ([5], [5]), ([5], [5]), ([], []), ([8, 6, 4, 0, 1, 2, 3, 4, 5, 6, 8], [6, 8]), ([7, 9, 0, 1, 2, 3, 4, 5, 6, 7, 8, 9], [7])])
def laws_FnExactStackBoards.B31 : List Nat := [0, 1, 0, 7, 15, 31, 63, 63, 0, 383, 1023]
theorem laws_FnExactStackBoards.tab31 : rtab .any (opsOf Try.f6 31) = laws_FnExactStackBoards.T31 := by kernel_rfl
theorem laws_FnExactStackBoards.bits31 : waitsOk laws_FnExactStackBoards.T31.2 laws_FnExactStackBoards.B31 = true := by kernel_rfl
theorem laws_FnExactStackBoards.bad_j0 (k : Nat) (y0 : Bool) (y1 : Bool) (y3 : Int) (y4 : Int) (y5 : List (S46)) (y6 : Int) (y7 : Int) (y8 : List (S46)) (y9 : Int) (y10 : Int) (y11 : List (S34)) (y12 : Int) (y13 : Int) (y14 : List (S34)) (y15 : Int) (y16 : Int) (y17 : List (S34)) (y18 : Int) (y19 : Int) (y20 : List (S34)) : ¬ laws_FnExactStackBoards.j0 k y0 y1 true y3 y4 y5 y6 y7 y8 y9 y10 y11 y12 y13 y14 y15 y16 y17 y18 y19 y20 = some true := by
 cases k <;> simp [laws_FnExactStackBoards.j0]
theorem laws_FnExactStackBoards.bad_j1 (k : Nat) (y0 : Bool) (y2 : Int) (y3 : Int) (y4 : List (S46)) (y5 : Int) (y6 : Int) (y7 : List (S46)) (y8 : Int) (y9 : Int) (y10 : List (S34)) (y11 : Int) (y12 : Int) (y13 : List (S34)) : ¬ laws_FnExactStackBoards.j1 k y0 true y2 y3 y4 y5 y6 y7 y8 y9 y10 y11 y12 y13 = some true := by
 cases k <;> simp [laws_FnExactStackBoards.j1]
theorem laws_FnExactStackBoards.bad_j2 (k : Nat) (y0 : Int) (y2 : Int) (y3 : Int) (y4 : List (S34)) : ¬ laws_FnExactStackBoards.j2 k y0 true y2 y3 y4 = some true := by
 cases k <;> simp [laws_FnExactStackBoards.j2]
set_option maxHeartbeats 8000000 in
set_option maxRecDepth 100000 in
theorem laws_FnExactStackBoards.calls (k : Nat) (a0_0 : Int) (a0_1 : Int) (A0_2 : Option Addr) (c0_2 : Nat) (l0_2 : List (S46)) (a1_0 : Int) (a1_1 : Int) (A1_2 : Option Addr) (c1_2 : Nat) (l1_2 : List (S46)) (w : World) (hr0_2 : Kd.C k46 w A0_2 l0_2.length l0_2) (hc0_2 : l0_2.length ≤ c0_2) (hr1_2 : Kd.C k46 w A1_2 l1_2.length l1_2) (hc1_2 : l1_2.length ≤ c1_2) (h : laws_FnExactStackBoards.f k a0_0 a0_1 l0_2 a1_0 a1_1 l1_2 = some true) :
 Calls Try.prog 6 #[.agg #[.int .i64 a0_0, .int .i64 a0_1, .slice A0_2 l0_2.length c0_2], .agg #[.int .i64 a1_0, .int .i64 a1_1, .slice A1_2 l1_2.length c1_2]] w fun e w' => e = .returned (.bool true) ∧ Below w.heap.size w w' := by
 have KH := Try.underlying24
 have KI := Try.underlying29
 have BU := Z.m hr0_2
 have BT := Z.m hc0_2
 clear hr0_2 hc0_2
 have BN := Z.m hr1_2
 have BM := Z.m hc1_2
 clear hr1_2 hc1_2
 have HB := Z.m (Below.refl w.heap.size w)
 have H : ((laws_szBoard.f a0_0 a0_1 l0_2 1048576).bind fun C5 => (if C5 < 0 then (some true) else ((laws_szBoard.f a1_0 a1_1 l1_2 C5).bind fun CR => (if CR < 0 then (some true) else ((laws_toBoard.f k a0_0 a0_1 l0_2).bind fun bt281 => ((laws_toBoard.f k a1_0 a1_1 l1_2).bind fun bt286 => ((spec_StackBoards.f k bt281.1 bt281.2.1 bt281.2.2 bt286.1 bt286.2.1 bt286.2.2).bind fun bt291 => ((laws_toBoard.f k a0_0 a0_1 l0_2).bind fun bt298 => ((laws_toBoard.f k a1_0 a1_1 l1_2).bind fun bt304 => ((impl_StackBoards.f k bt298.1 bt298.2.1 bt298.2.2 bt304.1 bt304.2.1 bt304.2.2).bind fun bt310 => ((laws_eqBoard.f k bt310.1 bt310.2.1 bt310.2.2.1 bt291.1 bt291.2.1 bt291.2.2.1).bind fun Bz => (if Bz = true then (laws_FnExactStackBoards.j0 k bt291.2.2.2 bt310.2.2.2 (bt310.2.2.2 != bt291.2.2.2) a0_0 a0_1 l0_2 a1_0 a1_1 l1_2 bt291.1 bt291.2.1 bt291.2.2.1 bt298.1 bt298.2.1 bt298.2.2 bt304.1 bt304.2.1 bt304.2.2 bt310.1 bt310.2.1 bt310.2.2.1) else (laws_FnExactStackBoards.j0 k bt291.2.2.2 bt310.2.2.2 true a0_0 a0_1 l0_2 a1_0 a1_1 l1_2 bt291.1 bt291.2.1 bt291.2.2.1 bt298.1 bt298.2.1 bt298.2.2 bt304.1 bt304.2.1 bt304.2.2 bt310.1 bt310.2.1 bt310.2.2.1))))))))))))) = some true := h
 clear h
 replace H := Option.bind_eq_some_iff.mp H
 obtain ⟨C5, JC, H⟩ := H
 replace H : (if C5 < 0 then (some true) else ((laws_szBoard.f a1_0 a1_1 l1_2 C5).bind fun CR => (if CR < 0 then (some true) else ((laws_toBoard.f k a0_0 a0_1 l0_2).bind fun bt281 => ((laws_toBoard.f k a1_0 a1_1 l1_2).bind fun bt286 => ((spec_StackBoards.f k bt281.1 bt281.2.1 bt281.2.2 bt286.1 bt286.2.1 bt286.2.2).bind fun bt291 => ((laws_toBoard.f k a0_0 a0_1 l0_2).bind fun bt298 => ((laws_toBoard.f k a1_0 a1_1 l1_2).bind fun bt304 => ((impl_StackBoards.f k bt298.1 bt298.2.1 bt298.2.2 bt304.1 bt304.2.1 bt304.2.2).bind fun bt310 => ((laws_eqBoard.f k bt310.1 bt310.2.1 bt310.2.2.1 bt291.1 bt291.2.1 bt291.2.2.1).bind fun Bz => (if Bz = true then (laws_FnExactStackBoards.j0 k bt291.2.2.2 bt310.2.2.2 (bt310.2.2.2 != bt291.2.2.2) a0_0 a0_1 l0_2 a1_0 a1_1 l1_2 bt291.1 bt291.2.1 bt291.2.2.1 bt298.1 bt298.2.1 bt298.2.2 bt304.1 bt304.2.1 bt304.2.2 bt310.1 bt310.2.1 bt310.2.2.1) else (laws_FnExactStackBoards.j0 k bt291.2.2.2 bt310.2.2.2 true a0_0 a0_1 l0_2 a1_0 a1_1 l1_2 bt291.1 bt291.2.1 bt291.2.2.1 bt298.1 bt298.2.1 bt298.2.2 bt304.1 bt304.2.1 bt304.2.2 bt310.1 bt310.2.1 bt310.2.2.1)))))))))))) = some true := H
 have A3 := Z.m JC
 clear JC
 by_cases c4 : C5 < 0
 ·rw [if_pos c4] at H
  have H2 := decide_eq_true c4
  clear c4
  clear H
  go_enter Try.func6, Try.ntmps6
  go_wp2_with (first | ((with_reducible refine gq (N := 2) rfl ?_); refine be (N := 2) (cs := #[.int .i64 a0_0, .int .i64 a0_1, .slice A0_2 l0_2.length c0_2]) (t := 24) ?_; intro Au hg w5 hbox hb; have A0 := Z.m (hbox); have CN := gW (w := w) HB hg; have CL := CN; replace HB := bB HB hb; clear hb hbox hg) | ((with_reducible refine gq (N := 3) rfl ?_); refine be (N := 3) (cs := #[.int .i64 a1_0, .int .i64 a1_1, .slice A1_2 l1_2.length c1_2]) (t := 24) ?_; intro Av hg w6 hbox hb; have A1 := Z.m (hbox); have CO := gW (w := w) HB hg; have CM := CO; have Bt := neL A0 hg; have Bu := neG A0 hg; replace A0 := kB A0 hb; replace HB := bB HB hb; clear hb hbox hg; have KC := Bt.o; have KD := Bu.o; have H6 := bc0 A0; have H7 := bc1 A0; have H8 := bc2 A0; have H9 := qz A0.o 0; have Ha := qz A0.o 1; have Hb := qz A0.o 2) | ((with_reducible refine gc (f := 15) rfl ?_); refine gA (some 19) _ #[.agg #[.int .i64 a0_0, .int .i64 a0_1, .slice A0_2 l0_2.length c0_2], .int .i64 1048576] ?_ Try.func15; (with_reducible refine (laws_szBoard.calls a0_0 a0_1 _ _ l0_2 1048576 C5 _ ?side1 ?side2 A3.o).mono ?_); (case side1 => repeat (first | exact (Kd.C_below BU.o HB.o) | (with_reducible refine Kd.C_alloc ?_ _) | (with_reducible refine Kd.C_drewN ?_ _) | (with_reducible refine Kd.C_drew ?_))); (case side2 => exact BT.o); rintro e w9 ⟨rfl, hb⟩; refine ⟨_, rfl, ?_⟩; replace A0 := kB A0 hb; replace A1 := kB A1 hb; replace HB := bB HB hb; (try clear hb); (try clear CW); (try clear hk); (try clear hi)))
  go_ret
  exact ⟨by first | rfl | (simp [eN, eS] <;> rfl) | (simp [*, eN, eS] <;> rfl), vB HB⟩
 ·rw [if_neg c4] at H
  have H2 := decide_eq_false c4
  clear c4
  replace H := Option.bind_eq_some_iff.mp H
  obtain ⟨CR, El, H⟩ := H
  replace H : (if CR < 0 then (some true) else ((laws_toBoard.f k a0_0 a0_1 l0_2).bind fun bt281 => ((laws_toBoard.f k a1_0 a1_1 l1_2).bind fun bt286 => ((spec_StackBoards.f k bt281.1 bt281.2.1 bt281.2.2 bt286.1 bt286.2.1 bt286.2.2).bind fun bt291 => ((laws_toBoard.f k a0_0 a0_1 l0_2).bind fun bt298 => ((laws_toBoard.f k a1_0 a1_1 l1_2).bind fun bt304 => ((impl_StackBoards.f k bt298.1 bt298.2.1 bt298.2.2 bt304.1 bt304.2.1 bt304.2.2).bind fun bt310 => ((laws_eqBoard.f k bt310.1 bt310.2.1 bt310.2.2.1 bt291.1 bt291.2.1 bt291.2.2.1).bind fun Bz => (if Bz = true then (laws_FnExactStackBoards.j0 k bt291.2.2.2 bt310.2.2.2 (bt310.2.2.2 != bt291.2.2.2) a0_0 a0_1 l0_2 a1_0 a1_1 l1_2 bt291.1 bt291.2.1 bt291.2.2.1 bt298.1 bt298.2.1 bt298.2.2 bt304.1 bt304.2.1 bt304.2.2 bt310.1 bt310.2.1 bt310.2.2.1) else (laws_FnExactStackBoards.j0 k bt291.2.2.2 bt310.2.2.2 true a0_0 a0_1 l0_2 a1_0 a1_1 l1_2 bt291.1 bt291.2.1 bt291.2.2.1 bt298.1 bt298.2.1 bt298.2.2 bt304.1 bt304.2.1 bt304.2.2 bt310.1 bt310.2.1 bt310.2.2.1)))))))))) = some true := H
  have JA := Z.m El
  clear El
  by_cases c11 : CR < 0
  ·rw [if_pos c11] at H
   have EB := decide_eq_true c11
   clear c11
   clear H
   go_enter Try.func6, Try.ntmps6
   go_wp2_with (first | ((with_reducible refine gq (N := 2) rfl ?_); refine be (N := 2) (cs := #[.int .i64 a0_0, .int .i64 a0_1, .slice A0_2 l0_2.length c0_2]) (t := 24) ?_; intro Au hg L3 hbox hb; have A0 := Z.m (hbox); have CN := gW (w := w) HB hg; have CL := CN; replace HB := bB HB hb; clear hb hbox hg) | ((with_reducible refine gq (N := 3) rfl ?_); refine be (N := 3) (cs := #[.int .i64 a1_0, .int .i64 a1_1, .slice A1_2 l1_2.length c1_2]) (t := 24) ?_; intro Av hg L4 hbox hb; have A1 := Z.m (hbox); have CO := gW (w := w) HB hg; have CM := CO; have Bt := neL A0 hg; have Bu := neG A0 hg; replace A0 := kB A0 hb; replace HB := bB HB hb; clear hb hbox hg; have JE := Bt.o; have K3 := Bu.o; have FZ := bc0 A0; have G0 := bc1 A0; have G1 := bc2 A0; have Gh := qz A0.o 0; have Gi := qz A0.o 1; have Gj := qz A0.o 2) | ((with_reducible refine gc (f := 15) rfl ?_); refine gA (some 19) _ #[.agg #[.int .i64 a0_0, .int .i64 a0_1, .slice A0_2 l0_2.length c0_2], .int .i64 1048576] ?_ Try.func15; (with_reducible refine (laws_szBoard.calls a0_0 a0_1 _ _ l0_2 1048576 C5 _ ?side1 ?side2 A3.o).mono ?_); (case side1 => repeat (first | exact (Kd.C_below BU.o HB.o) | (with_reducible refine Kd.C_alloc ?_ _) | (with_reducible refine Kd.C_drewN ?_ _) | (with_reducible refine Kd.C_drew ?_))); (case side2 => exact BT.o); rintro e L5 ⟨rfl, hb⟩; refine ⟨_, rfl, ?_⟩; replace A0 := kB A0 hb; replace A1 := kB A1 hb; replace HB := bB HB hb; (try clear hb); (try clear CW); (try clear hk); (try clear hi); have G2 := bc0 A1; have G3 := bc1 A1; have G4 := bc2 A1; have Gk := qz A1.o 0; have Gl := qz A1.o 1; have Gm := qz A1.o 2) | ((with_reducible refine gc (f := 15) rfl ?_); refine gA (some 24) _ #[.agg #[.int .i64 a1_0, .int .i64 a1_1, .slice A1_2 l1_2.length c1_2], .int .i64 C5] ?_ Try.func15; (with_reducible refine (laws_szBoard.calls a1_0 a1_1 _ _ l1_2 C5 CR _ ?side1 ?side2 JA.o).mono ?_); (case side1 => repeat (first | exact (Kd.C_below BN.o HB.o) | (with_reducible refine Kd.C_alloc ?_ _) | (with_reducible refine Kd.C_drewN ?_ _) | (with_reducible refine Kd.C_drew ?_))); (case side2 => exact BM.o); rintro e L6 ⟨rfl, hb⟩; refine ⟨_, rfl, ?_⟩; replace A0 := kB A0 hb; replace A1 := kB A1 hb; replace HB := bB HB hb; (try clear hb); (try clear CW); (try clear hk); (try clear hi)))
   go_ret
   exact ⟨by first | rfl | (simp [eN, eS] <;> rfl) | (simp [*, eN, eS] <;> rfl), vB HB⟩
  ·rw [if_neg c11] at H
   have EB := decide_eq_false c11
   clear c11
   replace H := Option.bind_eq_some_iff.mp H
   obtain ⟨⟨C6, C7, BC⟩, En, H⟩ := H
   replace H : ((laws_toBoard.f k a1_0 a1_1 l1_2).bind fun bt286 => ((spec_StackBoards.f k C6 C7 BC bt286.1 bt286.2.1 bt286.2.2).bind fun bt291 => ((laws_toBoard.f k a0_0 a0_1 l0_2).bind fun bt298 => ((laws_toBoard.f k a1_0 a1_1 l1_2).bind fun bt304 => ((impl_StackBoards.f k bt298.1 bt298.2.1 bt298.2.2 bt304.1 bt304.2.1 bt304.2.2).bind fun bt310 => ((laws_eqBoard.f k bt310.1 bt310.2.1 bt310.2.2.1 bt291.1 bt291.2.1 bt291.2.2.1).bind fun Bz => (if Bz = true then (laws_FnExactStackBoards.j0 k bt291.2.2.2 bt310.2.2.2 (bt310.2.2.2 != bt291.2.2.2) a0_0 a0_1 l0_2 a1_0 a1_1 l1_2 bt291.1 bt291.2.1 bt291.2.2.1 bt298.1 bt298.2.1 bt298.2.2 bt304.1 bt304.2.1 bt304.2.2 bt310.1 bt310.2.1 bt310.2.2.1) else (laws_FnExactStackBoards.j0 k bt291.2.2.2 bt310.2.2.2 true a0_0 a0_1 l0_2 a1_0 a1_1 l1_2 bt291.1 bt291.2.1 bt291.2.2.1 bt298.1 bt298.2.1 bt298.2.2 bt304.1 bt304.2.1 bt304.2.2 bt310.1 bt310.2.1 bt310.2.2.1)))))))) = some true := H
   have JB := Z.m En
   clear En
   replace H := Option.bind_eq_some_iff.mp H
   obtain ⟨⟨C8, C9, BD⟩, Eo, H⟩ := H
   replace H : ((spec_StackBoards.f k C6 C7 BC C8 C9 BD).bind fun bt291 => ((laws_toBoard.f k a0_0 a0_1 l0_2).bind fun bt298 => ((laws_toBoard.f k a1_0 a1_1 l1_2).bind fun bt304 => ((impl_StackBoards.f k bt298.1 bt298.2.1 bt298.2.2 bt304.1 bt304.2.1 bt304.2.2).bind fun bt310 => ((laws_eqBoard.f k bt310.1 bt310.2.1 bt310.2.2.1 bt291.1 bt291.2.1 bt291.2.2.1).bind fun Bz => (if Bz = true then (laws_FnExactStackBoards.j0 k bt291.2.2.2 bt310.2.2.2 (bt310.2.2.2 != bt291.2.2.2) a0_0 a0_1 l0_2 a1_0 a1_1 l1_2 bt291.1 bt291.2.1 bt291.2.2.1 bt298.1 bt298.2.1 bt298.2.2 bt304.1 bt304.2.1 bt304.2.2 bt310.1 bt310.2.1 bt310.2.2.1) else (laws_FnExactStackBoards.j0 k bt291.2.2.2 bt310.2.2.2 true a0_0 a0_1 l0_2 a1_0 a1_1 l1_2 bt291.1 bt291.2.1 bt291.2.2.1 bt298.1 bt298.2.1 bt298.2.2 bt304.1 bt304.2.1 bt304.2.2 bt310.1 bt310.2.1 bt310.2.2.1))))))) = some true := H
   have GV := Z.m Eo
   clear Eo
   replace H := Option.bind_eq_some_iff.mp H
   obtain ⟨⟨Ai, Aj, Ab, Ap⟩, Ep, H⟩ := H
   replace H : ((laws_toBoard.f k a0_0 a0_1 l0_2).bind fun bt298 => ((laws_toBoard.f k a1_0 a1_1 l1_2).bind fun bt304 => ((impl_StackBoards.f k bt298.1 bt298.2.1 bt298.2.2 bt304.1 bt304.2.1 bt304.2.2).bind fun bt310 => ((laws_eqBoard.f k bt310.1 bt310.2.1 bt310.2.2.1 Ai Aj Ab).bind fun Bz => (if Bz = true then (laws_FnExactStackBoards.j0 k Ap bt310.2.2.2 (bt310.2.2.2 != Ap) a0_0 a0_1 l0_2 a1_0 a1_1 l1_2 Ai Aj Ab bt298.1 bt298.2.1 bt298.2.2 bt304.1 bt304.2.1 bt304.2.2 bt310.1 bt310.2.1 bt310.2.2.1) else (laws_FnExactStackBoards.j0 k Ap bt310.2.2.2 true a0_0 a0_1 l0_2 a1_0 a1_1 l1_2 Ai Aj Ab bt298.1 bt298.2.1 bt298.2.2 bt304.1 bt304.2.1 bt304.2.2 bt310.1 bt310.2.1 bt310.2.2.1)))))) = some true := H
   have FY := Z.m Ep
   clear Ep
   replace H := Option.bind_eq_some_iff.mp H
   obtain ⟨⟨AW, AX, Az⟩, Er, H⟩ := H
   replace H : ((laws_toBoard.f k a1_0 a1_1 l1_2).bind fun bt304 => ((impl_StackBoards.f k AW AX Az bt304.1 bt304.2.1 bt304.2.2).bind fun bt310 => ((laws_eqBoard.f k bt310.1 bt310.2.1 bt310.2.2.1 Ai Aj Ab).bind fun Bz => (if Bz = true then (laws_FnExactStackBoards.j0 k Ap bt310.2.2.2 (bt310.2.2.2 != Ap) a0_0 a0_1 l0_2 a1_0 a1_1 l1_2 Ai Aj Ab AW AX Az bt304.1 bt304.2.1 bt304.2.2 bt310.1 bt310.2.1 bt310.2.2.1) else (laws_FnExactStackBoards.j0 k Ap bt310.2.2.2 true a0_0 a0_1 l0_2 a1_0 a1_1 l1_2 Ai Aj Ab AW AX Az bt304.1 bt304.2.1 bt304.2.2 bt310.1 bt310.2.1 bt310.2.2.1))))) = some true := H
   have Ky := Z.m Er
   clear Er
   replace H := Option.bind_eq_some_iff.mp H
   obtain ⟨⟨AY, AZ, AA⟩, Es, H⟩ := H
   replace H : ((impl_StackBoards.f k AW AX Az AY AZ AA).bind fun bt310 => ((laws_eqBoard.f k bt310.1 bt310.2.1 bt310.2.2.1 Ai Aj Ab).bind fun Bz => (if Bz = true then (laws_FnExactStackBoards.j0 k Ap bt310.2.2.2 (bt310.2.2.2 != Ap) a0_0 a0_1 l0_2 a1_0 a1_1 l1_2 Ai Aj Ab AW AX Az AY AZ AA bt310.1 bt310.2.1 bt310.2.2.1) else (laws_FnExactStackBoards.j0 k Ap bt310.2.2.2 true a0_0 a0_1 l0_2 a1_0 a1_1 l1_2 Ai Aj Ab AW AX Az AY AZ AA bt310.1 bt310.2.1 bt310.2.2.1)))) = some true := H
   have Kz := Z.m Es
   clear Es
   replace H := Option.bind_eq_some_iff.mp H
   obtain ⟨⟨Ak, Al, Ae, Bq⟩, Et, H⟩ := H
   replace H : ((laws_eqBoard.f k Ak Al Ae Ai Aj Ab).bind fun Bz => (if Bz = true then (laws_FnExactStackBoards.j0 k Ap Bq (Bq != Ap) a0_0 a0_1 l0_2 a1_0 a1_1 l1_2 Ai Aj Ab AW AX Az AY AZ AA Ak Al Ae) else (laws_FnExactStackBoards.j0 k Ap Bq true a0_0 a0_1 l0_2 a1_0 a1_1 l1_2 Ai Aj Ab AW AX Az AY AZ AA Ak Al Ae))) = some true := H
   have KA := Z.m Et
   clear Et
   have Eh := Z.m H
   clear H
   go_enter Try.func6, Try.ntmps6
   try go_wp2_with (first | ((with_reducible refine gq (N := 2) rfl ?_); refine be (N := 2) (cs := #[.int .i64 a0_0, .int .i64 a0_1, .slice A0_2 l0_2.length c0_2]) (t := 24) ?_; intro Au hg L7 hbox hb; have A0 := Z.m (hbox); have CN := gW (w := w) HB hg; have CL := CN; replace HB := bB HB hb; clear hb hbox hg) | ((with_reducible refine gq (N := 3) rfl ?_); refine be (N := 3) (cs := #[.int .i64 a1_0, .int .i64 a1_1, .slice A1_2 l1_2.length c1_2]) (t := 24) ?_; intro Av hg L8 hbox hb; have A1 := Z.m (hbox); have CO := gW (w := w) HB hg; have CM := CO; have Bt := neL A0 hg; have Bu := neG A0 hg; replace A0 := kB A0 hb; replace HB := bB HB hb; clear hb hbox hg; have JF := Bt.o; have K4 := Bu.o; have G5 := bc0 A0; have G6 := bc1 A0; have G7 := bc2 A0; have Gn := qz A0.o 0; have Go := qz A0.o 1; have Gp := qz A0.o 2) | ((with_reducible refine gc (f := 15) rfl ?_); refine gA (some 19) _ #[.agg #[.int .i64 a0_0, .int .i64 a0_1, .slice A0_2 l0_2.length c0_2], .int .i64 1048576] ?_ Try.func15; (with_reducible refine (laws_szBoard.calls a0_0 a0_1 _ _ l0_2 1048576 C5 _ ?side1 ?side2 A3.o).mono ?_); (case side1 => repeat (first | exact (Kd.C_below BU.o HB.o) | (with_reducible refine Kd.C_alloc ?_ _) | (with_reducible refine Kd.C_drewN ?_ _) | (with_reducible refine Kd.C_drew ?_))); (case side2 => exact BT.o); rintro e L9 ⟨rfl, hb⟩; refine ⟨_, rfl, ?_⟩; replace A0 := kB A0 hb; replace A1 := kB A1 hb; replace HB := bB HB hb; (try clear hb); (try clear CW); (try clear hk); (try clear hi); have G8 := bc0 A1; have G9 := bc1 A1; have Ga := bc2 A1; have Gq := qz A1.o 0; have Gr := qz A1.o 1; have Gs := qz A1.o 2) | ((with_reducible refine gc (f := 15) rfl ?_); refine gA (some 24) _ #[.agg #[.int .i64 a1_0, .int .i64 a1_1, .slice A1_2 l1_2.length c1_2], .int .i64 C5] ?_ Try.func15; (with_reducible refine (laws_szBoard.calls a1_0 a1_1 _ _ l1_2 C5 CR _ ?side1 ?side2 JA.o).mono ?_); (case side1 => repeat (first | exact (Kd.C_below BN.o HB.o) | (with_reducible refine Kd.C_alloc ?_ _) | (with_reducible refine Kd.C_drewN ?_ _) | (with_reducible refine Kd.C_drew ?_))); (case side2 => exact BM.o); rintro e L1 ⟨rfl, hb⟩; refine ⟨_, rfl, ?_⟩; replace A0 := kB A0 hb; replace A1 := kB A1 hb; replace HB := bB HB hb; (try clear hb); (try clear CW); (try clear hk); (try clear hi)))
   replace A0 := Z.m (blk_drew A0.o)
   replace A1 := Z.m (blk_drew A1.o)
   replace HB := Z.m (qd HB.o)
   refine start_ (n := 11) (S := fun w' => w'.cell? ⟨Au, 0, none⟩ = some (.int .i64 a0_0) ∧ w'.cell? ⟨Au, 1, none⟩ = some (.int .i64 a0_1) ∧ w'.cell? ⟨Au, 2, none⟩ = some (.slice A0_2 l0_2.length c0_2) ∧ w'.cell? ⟨Av, 0, none⟩ = some (.int .i64 a1_0) ∧ w'.cell? ⟨Av, 1, none⟩ = some (.int .i64 a1_1) ∧ w'.cell? ⟨Av, 2, none⟩ = some (.slice A1_2 l1_2.length c1_2)) (ds := []) #[false, false, false, false, false, false, false, false, false, false, false] (by kernel_rfl) rfl rfl ⟨(ql A0.o 0).trans rfl, (ql A0.o 1).trans rfl, (ql A0.o 2).trans rfl, (ql A1.o 0).trans rfl, (ql A1.o 1).trans rfl, (ql A1.o 2).trans rfl⟩ (fun hHeld => ?_); refine with_tabW laws_FnExactStackBoards.tab8 laws_FnExactStackBoards.bits8 (fun HT_ HW_ => ?_)
   generalize L1.drew = La at A0 A1 HB hHeld ⊢
   refine take_ (i := 0) (N := some 28) (v := ?_) (a' := ?_) #[true, false, false, false, false, false, false, false, false, false, false] rfl rfl (take_ofW HT_.o HW_.o (by kernel_rfl)) (fun _ _ _ h => h) (Or.inl ⟨by rfl, ?_⟩) hHeld ?_ ?_
   rotate_left
   ·rintro w' ⟨s0, s1, s2, s3, s4, s5⟩
    go_simp
    with_reducible rfl
   rotate_left
   ·simp only [Act.put, q1, q2, q3, i64_w, i32_w]
    rfl
   refine take_ (i := 2) (N := some 30) (v := ?_) (a' := ?_) #[true, false, true, false, false, false, false, false, false, false, false] rfl rfl (take_ofW HT_.o HW_.o (by kernel_rfl)) (fun _ _ _ h => h) (Or.inl ⟨by rfl, ?_⟩) hHeld ?_ ?_
   rotate_left
   ·rintro w' ⟨s0, s1, s2, s3, s4, s5⟩
    go_simp
    with_reducible rfl
   rotate_left
   ·simp only [Act.put, q1, q2, q3, i64_w, i32_w]
    rfl
   refine join_ (σ := Value × Value × Value × Nat) 2 #[true, true, true, true, true, true, true, true, true, false, false] (fun s_ => [(29, .agg #[.int .i64 C6, .int .i64 C7, s_.1]), (31, .agg #[.int .i64 C8, .int .i64 C9, s_.2.1]), (32, .tuple #[.agg #[.int .i64 Ai, .int .i64 Aj, s_.2.2.1], .bool Ap]), (6, .pointer (some ⟨s_.2.2.2, 0, none⟩)), (27, .tuple #[.agg #[.int .i64 Ai, .int .i64 Aj, s_.2.2.1], .bool Ap]), (33, .agg #[.int .i64 Ai, .int .i64 Aj, s_.2.2.1]), (34, .bool Ap)]) (fun s_ w' => (w'.cell? ⟨Au, 0, none⟩ = some (.int .i64 a0_0) ∧ w'.cell? ⟨Au, 1, none⟩ = some (.int .i64 a0_1) ∧ w'.cell? ⟨Au, 2, none⟩ = some (.slice A0_2 l0_2.length c0_2) ∧ w'.cell? ⟨Av, 0, none⟩ = some (.int .i64 a1_0) ∧ w'.cell? ⟨Av, 1, none⟩ = some (.int .i64 a1_1) ∧ w'.cell? ⟨Av, 2, none⟩ = some (.slice A1_2 l1_2.length c1_2)) ∧ (Kd.R k34 34 w' w.heap.size (fun k_ => some k_ ≠ (s_.2.1 : Value).ownBlock ∧ some k_ ≠ (s_.2.2.1 : Value).ownBlock) s_.1 BC) ∧ (Kd.R k34 34 w' w.heap.size (fun k_ => some k_ ≠ (s_.1 : Value).ownBlock ∧ some k_ ≠ (s_.2.2.1 : Value).ownBlock) s_.2.1 BD) ∧ (Kd.R k34 34 w' w.heap.size (fun k_ => some k_ ≠ (s_.1 : Value).ownBlock ∧ some k_ ≠ (s_.2.1 : Value).ownBlock) s_.2.2.1 Ab) ∧ (w'.heap[Au]? = some (.cells #[.int .i64 a0_0, .int .i64 a0_1, .slice A0_2 l0_2.length c0_2] 24 (0, 0))) ∧ (w'.heap[Av]? = some (.cells #[.int .i64 a1_0, .int .i64 a1_1, .slice A1_2 l1_2.length c1_2] 24 (0, 0))) ∧ (w'.heap[s_.2.2.2]? = some (.cells #[.int .i64 0, .int .i64 0, .slice none 0 0] 29 (0, 0))) ∧ (w.heap.size ≤ s_.2.2.2) ∧ (w.heap.size ≤ s_.2.2.2) ∧ (Au ≠ s_.2.2.2) ∧ (s_.2.2.2 ≠ Au) ∧ (Av ≠ s_.2.2.2) ∧ (s_.2.2.2 ≠ Av) ∧ (Below w.heap.size w w')) ?_ ?_
   rotate_left
   ·intro hCont
    refine two_ (i := 1) (j := 8) (Ni := some 29) (Nj := some 6) #[true, true, true, false, false, false, false, false, false, false, false] #[true, false, true, false, false, false, false, false, true, false, false] rfl rfl rfl rfl (two_of HT_.o (by kernel_rfl)) (by decide) (by decide) (fun K hK => ?_) (fun K hK => ?_)
    ·skip
     refine goes_ Try.func17 (by kernel_rfl) rfl #[.agg #[.int .i64 a0_0, .int .i64 a0_1, .slice A0_2 l0_2.length c0_2]] (by rfl) rfl rfl (by (try simp only [List.map_toArray, List.map_cons, List.map_nil]); first | done | rfl | (simp only [List.length_drop, List.length_take]; rfl)) ?_
     with_reducible refine (laws_toBoard.calls k a0_0 a0_1 _ _ l0_2 C6 C7 BC _ ?side1 ?side2 JB.o).mono ?_
     (case side1 => repeat (first | exact (Kd.C_below BU.o HB.o) | (with_reducible refine Kd.C_alloc ?_ _) | (with_reducible refine Kd.C_drewN ?_ _) | (with_reducible refine Kd.C_drew ?_)))
     (case side2 => exact BT.o)
     rintro e L2 ⟨CI, rfl, Ar, hb⟩
     refine ⟨_, rfl, ?_⟩
     have Af := Z.m (Kd.R_lower Ar (below_size (vB HB)))
     replace A0 := kB A0 hb
     replace A1 := kB A1 hb
     replace HB := bB HB hb
     (try clear hb); (try clear Ar)
     refine hK.out _ _ ⟨(ql A0.o 0).trans rfl, (ql A0.o 1).trans rfl, (ql A0.o 2).trans rfl, (ql A1.o 0).trans rfl, (ql A1.o 1).trans rfl, (ql A1.o 2).trans rfl⟩ (fun hHeld => ?_)
     clear hK K
     refine norm_ (a' := ?_) ?_ ?_
     rotate_left
     ·show Act.put _ (some 29) _ = _
      simp only [Act.put, q1, q2, q3, i64_w, i32_w]
      rfl
     refine two_ (i := 3) (j := 8) (Ni := some 31) (Nj := some 6) #[true, true, true, true, false, false, false, false, false, false, false] #[true, true, true, false, false, false, false, false, true, false, false] rfl rfl rfl rfl (two_of HT_.o (by kernel_rfl)) (by decide) (by decide) (fun K hK => ?_) (fun K hK => ?_)
     ·skip
      refine goes_ Try.func17 (by kernel_rfl) rfl #[.agg #[.int .i64 a1_0, .int .i64 a1_1, .slice A1_2 l1_2.length c1_2]] (by rfl) rfl rfl (by (try simp only [List.map_toArray, List.map_cons, List.map_nil]); first | done | rfl | (simp only [List.length_drop, List.length_take]; rfl)) ?_
      with_reducible refine (laws_toBoard.calls k a1_0 a1_1 _ _ l1_2 C8 C9 BD _ ?side1 ?side2 GV.o).mono ?_
      (case side1 => repeat (first | exact (Kd.C_below BN.o HB.o) | (with_reducible refine Kd.C_alloc ?_ _) | (with_reducible refine Kd.C_drewN ?_ _) | (with_reducible refine Kd.C_drew ?_)))
      (case side2 => exact BM.o)
      rintro e Kw ⟨CC, rfl, Ar, hb⟩
      refine ⟨_, rfl, ?_⟩
      have Ao := Z.m (Kd.R_lower (Kd.R_new' Ar (Kd.R_lt (vR Af))) (below_size (vB HB)))
      replace Af := Z.m (Kd.R_elder' (vR Af) (Kd.R_base Ar) hb)
      replace A0 := kB A0 hb
      replace A1 := kB A1 hb
      replace HB := bB HB hb
      (try clear hb); (try clear Ar)
      obtain ⟨Ew, EC, ED⟩ := Kd.R_slice Af.o
      (first | subst ED | (injection ED with f1_ f2_ f3_; have f4_ := f1_.symm; have f5_ := f3_.symm; clear f1_ f2_ f3_; subst f4_; subst f5_))
      obtain ⟨Cu, Cw, Cx⟩ := Kd.R_slice Ao.o
      (first | subst Cx | (injection Cx with f1_ f2_ f3_; have f4_ := f1_.symm; have f5_ := f3_.symm; clear f1_ f2_ f3_; subst f4_; subst f5_))
      refine hK.out _ _ ⟨(ql A0.o 0).trans rfl, (ql A0.o 1).trans rfl, (ql A0.o 2).trans rfl, (ql A1.o 0).trans rfl, (ql A1.o 1).trans rfl, (ql A1.o 2).trans rfl⟩ (fun hHeld => ?_)
      clear hK K
      refine norm_ (a' := ?_) ?_ ?_
      rotate_left
      ·show Act.put _ (some 31) _ = _
       simp only [Act.put, q1, q2, q3, i64_w, i32_w]
       rfl
      refine two_ (i := 4) (j := 8) (Ni := some 32) (Nj := some 6) #[true, true, true, true, true, false, false, false, false, false, false] #[true, true, true, true, false, false, false, false, true, false, false] rfl rfl rfl rfl (two_of HT_.o (by kernel_rfl)) (by decide) (by decide) (fun K hK => ?_) (fun K hK => ?_)
      ·skip
       refine goes_ Try.func27 (by kernel_rfl) rfl #[.agg #[.int .i64 C6, .int .i64 C7, .slice Ew BC.length EC], .agg #[.int .i64 C8, .int .i64 C9, .slice Cu BD.length Cw]] (by rfl) rfl rfl (by (try simp only [List.map_toArray, List.map_cons, List.map_nil]); first | done | rfl | (simp only [List.length_drop, List.length_take]; rfl)) ?_
       with_reducible refine (spec_StackBoards.calls k C6 C7 _ _ BC C8 C9 _ _ BD Ai Aj Ab Ap _ ?side1 ?side2 ?side3 ?side4 FY.o).mono ?_
       (case side1 => repeat (first | exact (Kd.RrZ Af.o).2.2 | (with_reducible refine Kd.C_alloc ?_ _) | (with_reducible refine Kd.C_drewN ?_ _) | (with_reducible refine Kd.C_drew ?_)))
       (case side2 => exact (Kd.RrZ Af.o).2.1)
       (case side3 => repeat (first | exact (Kd.RrZ Ao.o).2.2 | (with_reducible refine Kd.C_alloc ?_ _) | (with_reducible refine Kd.C_drewN ?_ _) | (with_reducible refine Kd.C_drew ?_)))
       (case side4 => exact (Kd.RrZ Ao.o).2.1)
       rintro e Lb ⟨CA, rfl, Ar, hb⟩
       refine ⟨_, rfl, ?_⟩
       have AP := Z.m (Kd.R_lower (Kd.R_new' (Kd.R_new' Ar (Kd.R_lt (vR Af))) (Kd.R_lt (vR Ao))) (below_size (vB HB)))
       replace Af := Z.m (Kd.R_elder' (vR Af) (Kd.R_base Ar) hb)
       replace Ao := Z.m (Kd.R_elder' (vR Ao) (Kd.R_base Ar) hb)
       replace A0 := kB A0 hb
       replace A1 := kB A1 hb
       replace HB := bB HB hb
       (try clear hb); (try clear Ar)
       refine hK.out _ _ ⟨(ql A0.o 0).trans rfl, (ql A0.o 1).trans rfl, (ql A0.o 2).trans rfl, (ql A1.o 0).trans rfl, (ql A1.o 1).trans rfl, (ql A1.o 2).trans rfl⟩ (fun hHeld => ?_)
       clear hK K
       refine norm_ (a' := ?_) ?_ ?_
       rotate_left
       ·show Act.put _ (some 32) _ = _
        simp only [Act.put, q1, q2, q3, i64_w, i32_w]
        rfl
       refine pure_ (i := 5) (N := some 27) (v := ?_) (a' := ?_) #[true, true, true, true, true, true, false, false, false, false, false] rfl rfl (any_of HT_.o (by kernel_rfl)) (fun _ _ _ h => h) (Or.inl ⟨by rfl, ?_⟩) ?_ ?_
       rotate_left
       ·intro w'
        go_simp
        with_reducible rfl
       rotate_left
       ·simp only [Act.put, q1, q2, q3, i64_w, i32_w]
        rfl
       refine pure_ (i := 6) (N := some 33) (v := ?_) (a' := ?_) #[true, true, true, true, true, true, true, false, false, false, false] rfl rfl (any_of HT_.o (by kernel_rfl)) (fun _ _ _ h => h) (Or.inl ⟨by rfl, ?_⟩) ?_ ?_
       rotate_left
       ·intro w'
        go_simp
        with_reducible rfl
       rotate_left
       ·simp only [Act.put, q1, q2, q3, i64_w, i32_w]
        rfl
       refine pure_ (i := 7) (N := some 34) (v := ?_) (a' := ?_) #[true, true, true, true, true, true, true, true, false, false, false] rfl rfl (any_of HT_.o (by kernel_rfl)) (fun _ _ _ h => h) (Or.inl ⟨by rfl, ?_⟩) ?_ ?_
       rotate_left
       ·intro w'
        go_simp
        with_reducible rfl
       rotate_left
       ·simp only [Act.put, q1, q2, q3, i64_w, i32_w]
        rfl
       refine one_ (i := 8) (N := some 6) #[true, true, true, true, true, true, true, true, true, false, false] rfl rfl (one_of HT_.o (by kernel_rfl)) (by decide) (fun K hK => ?_)
       refine box_step ?hg (N := 6) ?hd (cs := #[.int .i64 0, .int .i64 0, .slice none 0 0]) (t := 29) ?hr ?_; (case hd => rfl); (case hg => rfl); (case hr => first | (go_simp; done) | (go_simp; rfl))
       intro AK hg Jz hbox hb
       have A7 := Z.m (hbox)
       have Ch := gW (w := w) HB hg
       have BH := gW (w := w) HB hg
       have Ag := neL A0 hg
       have AD := neG A0 hg
       have Ah := neL A1 hg
       have AE := neG A1 hg
       replace Af := Z.m (Kd.Rb (vR Af) hb)
       replace Ao := Z.m (Kd.Rb (vR Ao) hb)
       replace AP := Z.m (Kd.Rb (vR AP) hb)
       replace A0 := kB A0 hb
       replace A1 := kB A1 hb
       replace HB := bB HB hb
       clear hb hbox hg
       refine hK.out _ _ ⟨(ql A0.o 0).trans rfl, (ql A0.o 1).trans rfl, (ql A0.o 2).trans rfl, (ql A1.o 0).trans rfl, (ql A1.o 1).trans rfl, (ql A1.o 2).trans rfl⟩ (fun hHeld => ?_)
       clear hK K
       refine norm_ (a' := ?_) ?_ ?_
       rotate_left
       ·show Act.put _ (some 6) _ = _
        simp only [Act.put, q1, q2, q3, i64_w, i32_w]
        rfl
       exact norm_ (by simp only [putAll, Act.put, q1, q2, q3]) (hCont (.slice Ew BC.length EC, .slice Cu BD.length Cw, CA, AK) _ ⟨hHeld, (by refine rK ?_; exact Kd.Rm Af.o (fun _ hk => ⟨hk.1.2, hk.2⟩)), (by refine rK ?_; exact Kd.Rm Ao.o (fun _ hk => ⟨hk.1.2, hk.2⟩)), (by refine rK ?_; exact Kd.Rm AP.o (fun _ hk => ⟨hk.1.2, hk.2⟩)), (vK A0), (vK A1), (vK A7), Ch.o, BH.o, Ag.o, AD.o, Ah.o, AE.o, (vB HB)⟩)
      ·skip
       refine box_step ?hg (N := 6) ?hd (cs := #[.int .i64 0, .int .i64 0, .slice none 0 0]) (t := 29) ?hr ?_; (case hd => rfl); (case hg => rfl); (case hr => first | (go_simp; done) | (go_simp; rfl))
       intro AK hg Kx hbox hb
       have A7 := Z.m (hbox)
       have Ch := gW (w := w) HB hg
       have BH := gW (w := w) HB hg
       have Ag := neL A0 hg
       have AD := neG A0 hg
       have Ah := neL A1 hg
       have AE := neG A1 hg
       replace Af := Z.m (Kd.Rb (vR Af) hb)
       replace Ao := Z.m (Kd.Rb (vR Ao) hb)
       replace A0 := kB A0 hb
       replace A1 := kB A1 hb
       replace HB := bB HB hb
       clear hb hbox hg
       obtain ⟨Cu, Cw, Cx⟩ := Kd.R_slice Af.o
       (first | subst Cx | (injection Cx with f1_ f2_ f3_; have f4_ := f1_.symm; have f5_ := f3_.symm; clear f1_ f2_ f3_; subst f4_; subst f5_))
       obtain ⟨CK, CP, CQ⟩ := Kd.R_slice Ao.o
       (first | subst CQ | (injection CQ with f1_ f2_ f3_; have f4_ := f1_.symm; have f5_ := f3_.symm; clear f1_ f2_ f3_; subst f4_; subst f5_))
       refine hK.out _ _ ⟨(ql A0.o 0).trans rfl, (ql A0.o 1).trans rfl, (ql A0.o 2).trans rfl, (ql A1.o 0).trans rfl, (ql A1.o 1).trans rfl, (ql A1.o 2).trans rfl⟩ (fun hHeld => ?_)
       clear hK K
       refine norm_ (a' := ?_) ?_ ?_
       rotate_left
       ·show Act.put _ (some 6) _ = _
        simp only [Act.put, q1, q2, q3, i64_w, i32_w]
        rfl
       refine one_ (i := 4) (N := some 32) #[true, true, true, true, true, false, false, false, true, false, false] rfl rfl (one_of HT_.o (by kernel_rfl)) (by decide) (fun K hK => ?_)
       refine goes_ Try.func27 (by kernel_rfl) rfl #[.agg #[.int .i64 C6, .int .i64 C7, .slice Cu BC.length Cw], .agg #[.int .i64 C8, .int .i64 C9, .slice CK BD.length CP]] (by rfl) rfl rfl (by (try simp only [List.map_toArray, List.map_cons, List.map_nil]); first | done | rfl | (simp only [List.length_drop, List.length_take]; rfl)) ?_
       with_reducible refine (spec_StackBoards.calls k C6 C7 _ _ BC C8 C9 _ _ BD Ai Aj Ab Ap _ ?side1 ?side2 ?side3 ?side4 FY.o).mono ?_
       (case side1 => repeat (first | exact (Kd.RrZ Af.o).2.2 | (with_reducible refine Kd.C_alloc ?_ _) | (with_reducible refine Kd.C_drewN ?_ _) | (with_reducible refine Kd.C_drew ?_)))
       (case side2 => exact (Kd.RrZ Af.o).2.1)
       (case side3 => repeat (first | exact (Kd.RrZ Ao.o).2.2 | (with_reducible refine Kd.C_alloc ?_ _) | (with_reducible refine Kd.C_drewN ?_ _) | (with_reducible refine Kd.C_drew ?_)))
       (case side4 => exact (Kd.RrZ Ao.o).2.1)
       rintro e Jz ⟨CA, rfl, Ar, hb⟩
       refine ⟨_, rfl, ?_⟩
       have AP := Z.m (Kd.R_lower (Kd.R_new' (Kd.R_new' Ar (Kd.R_lt (vR Af))) (Kd.R_lt (vR Ao))) (below_size (vB HB)))
       replace Af := Z.m (Kd.R_elder' (vR Af) (Kd.R_base Ar) hb)
       replace Ao := Z.m (Kd.R_elder' (vR Ao) (Kd.R_base Ar) hb)
       replace A0 := kB A0 hb
       replace A1 := kB A1 hb
       replace A7 := kB A7 hb
       replace HB := bB HB hb
       (try clear hb); (try clear Ar)
       refine hK.out _ _ ⟨(ql A0.o 0).trans rfl, (ql A0.o 1).trans rfl, (ql A0.o 2).trans rfl, (ql A1.o 0).trans rfl, (ql A1.o 1).trans rfl, (ql A1.o 2).trans rfl⟩ (fun hHeld => ?_)
       clear hK K
       refine norm_ (a' := ?_) ?_ ?_
       rotate_left
       ·show Act.put _ (some 32) _ = _
        simp only [Act.put, q1, q2, q3, i64_w, i32_w]
        rfl
       refine pure_ (i := 5) (N := some 27) (v := ?_) (a' := ?_) #[true, true, true, true, true, true, false, false, true, false, false] rfl rfl (any_of HT_.o (by kernel_rfl)) (fun _ _ _ h => h) (Or.inl ⟨by rfl, ?_⟩) ?_ ?_
       rotate_left
       ·intro w'
        go_simp
        with_reducible rfl
       rotate_left
       ·simp only [Act.put, q1, q2, q3, i64_w, i32_w]
        rfl
       refine pure_ (i := 6) (N := some 33) (v := ?_) (a' := ?_) #[true, true, true, true, true, true, true, false, true, false, false] rfl rfl (any_of HT_.o (by kernel_rfl)) (fun _ _ _ h => h) (Or.inl ⟨by rfl, ?_⟩) ?_ ?_
       rotate_left
       ·intro w'
        go_simp
        with_reducible rfl
       rotate_left
       ·simp only [Act.put, q1, q2, q3, i64_w, i32_w]
        rfl
       refine pure_ (i := 7) (N := some 34) (v := ?_) (a' := ?_) #[true, true, true, true, true, true, true, true, true, false, false] rfl rfl (any_of HT_.o (by kernel_rfl)) (fun _ _ _ h => h) (Or.inl ⟨by rfl, ?_⟩) ?_ ?_
       rotate_left
       ·intro w'
        go_simp
        with_reducible rfl
       rotate_left
       ·simp only [Act.put, q1, q2, q3, i64_w, i32_w]
        rfl
       exact norm_ (by simp only [putAll, Act.put, q1, q2, q3]) (hCont (.slice Cu BC.length Cw, .slice CK BD.length CP, CA, AK) _ ⟨hHeld, (by refine rK ?_; exact Kd.Rm Af.o (fun _ hk => ⟨hk.1.2, hk.2⟩)), (by refine rK ?_; exact Kd.Rm Ao.o (fun _ hk => ⟨hk.1.2, hk.2⟩)), (by refine rK ?_; exact Kd.Rm AP.o (fun _ hk => ⟨hk.1.2, hk.2⟩)), (vK A0), (vK A1), (vK A7), Ch.o, BH.o, Ag.o, AD.o, Ah.o, AE.o, (vB HB)⟩)
     ·skip
      refine box_step ?hg (N := 6) ?hd (cs := #[.int .i64 0, .int .i64 0, .slice none 0 0]) (t := 29) ?hr ?_; (case hd => rfl); (case hg => rfl); (case hr => first | (go_simp; done) | (go_simp; rfl))
      intro AK hg Kw hbox hb
      have A7 := Z.m (hbox)
      have Ch := gW (w := w) HB hg
      have BH := gW (w := w) HB hg
      have Ag := neL A0 hg
      have AD := neG A0 hg
      have Ah := neL A1 hg
      have AE := neG A1 hg
      replace Af := Z.m (Kd.Rb (vR Af) hb)
      replace A0 := kB A0 hb
      replace A1 := kB A1 hb
      replace HB := bB HB hb
      clear hb hbox hg
      refine hK.out _ _ ⟨(ql A0.o 0).trans rfl, (ql A0.o 1).trans rfl, (ql A0.o 2).trans rfl, (ql A1.o 0).trans rfl, (ql A1.o 1).trans rfl, (ql A1.o 2).trans rfl⟩ (fun hHeld => ?_)
      clear hK K
      refine norm_ (a' := ?_) ?_ ?_
      rotate_left
      ·show Act.put _ (some 6) _ = _
       simp only [Act.put, q1, q2, q3, i64_w, i32_w]
       rfl
      refine one_ (i := 3) (N := some 31) #[true, true, true, true, false, false, false, false, true, false, false] rfl rfl (one_of HT_.o (by kernel_rfl)) (by decide) (fun K hK => ?_)
      refine goes_ Try.func17 (by kernel_rfl) rfl #[.agg #[.int .i64 a1_0, .int .i64 a1_1, .slice A1_2 l1_2.length c1_2]] (by rfl) rfl rfl (by (try simp only [List.map_toArray, List.map_cons, List.map_nil]); first | done | rfl | (simp only [List.length_drop, List.length_take]; rfl)) ?_
      with_reducible refine (laws_toBoard.calls k a1_0 a1_1 _ _ l1_2 C8 C9 BD _ ?side1 ?side2 GV.o).mono ?_
      (case side1 => repeat (first | exact (Kd.C_below BN.o HB.o) | (with_reducible refine Kd.C_alloc ?_ _) | (with_reducible refine Kd.C_drewN ?_ _) | (with_reducible refine Kd.C_drew ?_)))
      (case side2 => exact BM.o)
      rintro e Kx ⟨CC, rfl, Ar, hb⟩
      refine ⟨_, rfl, ?_⟩
      have Ao := Z.m (Kd.R_lower (Kd.R_new' Ar (Kd.R_lt (vR Af))) (below_size (vB HB)))
      replace Af := Z.m (Kd.R_elder' (vR Af) (Kd.R_base Ar) hb)
      replace A0 := kB A0 hb
      replace A1 := kB A1 hb
      replace A7 := kB A7 hb
      replace HB := bB HB hb
      (try clear hb); (try clear Ar)
      obtain ⟨Cu, Cw, Cx⟩ := Kd.R_slice Af.o
      (first | subst Cx | (injection Cx with f1_ f2_ f3_; have f4_ := f1_.symm; have f5_ := f3_.symm; clear f1_ f2_ f3_; subst f4_; subst f5_))
      obtain ⟨CK, CP, CQ⟩ := Kd.R_slice Ao.o
      (first | subst CQ | (injection CQ with f1_ f2_ f3_; have f4_ := f1_.symm; have f5_ := f3_.symm; clear f1_ f2_ f3_; subst f4_; subst f5_))
      refine hK.out _ _ ⟨(ql A0.o 0).trans rfl, (ql A0.o 1).trans rfl, (ql A0.o 2).trans rfl, (ql A1.o 0).trans rfl, (ql A1.o 1).trans rfl, (ql A1.o 2).trans rfl⟩ (fun hHeld => ?_)
      clear hK K
      refine norm_ (a' := ?_) ?_ ?_
      rotate_left
      ·show Act.put _ (some 31) _ = _
       simp only [Act.put, q1, q2, q3, i64_w, i32_w]
       rfl
      refine one_ (i := 4) (N := some 32) #[true, true, true, true, true, false, false, false, true, false, false] rfl rfl (one_of HT_.o (by kernel_rfl)) (by decide) (fun K hK => ?_)
      refine goes_ Try.func27 (by kernel_rfl) rfl #[.agg #[.int .i64 C6, .int .i64 C7, .slice Cu BC.length Cw], .agg #[.int .i64 C8, .int .i64 C9, .slice CK BD.length CP]] (by rfl) rfl rfl (by (try simp only [List.map_toArray, List.map_cons, List.map_nil]); first | done | rfl | (simp only [List.length_drop, List.length_take]; rfl)) ?_
      with_reducible refine (spec_StackBoards.calls k C6 C7 _ _ BC C8 C9 _ _ BD Ai Aj Ab Ap _ ?side1 ?side2 ?side3 ?side4 FY.o).mono ?_
      (case side1 => repeat (first | exact (Kd.RrZ Af.o).2.2 | (with_reducible refine Kd.C_alloc ?_ _) | (with_reducible refine Kd.C_drewN ?_ _) | (with_reducible refine Kd.C_drew ?_)))
      (case side2 => exact (Kd.RrZ Af.o).2.1)
      (case side3 => repeat (first | exact (Kd.RrZ Ao.o).2.2 | (with_reducible refine Kd.C_alloc ?_ _) | (with_reducible refine Kd.C_drewN ?_ _) | (with_reducible refine Kd.C_drew ?_)))
      (case side4 => exact (Kd.RrZ Ao.o).2.1)
      rintro e Jz ⟨CA, rfl, Ar, hb⟩
      refine ⟨_, rfl, ?_⟩
      have AP := Z.m (Kd.R_lower (Kd.R_new' (Kd.R_new' Ar (Kd.R_lt (vR Af))) (Kd.R_lt (vR Ao))) (below_size (vB HB)))
      replace Af := Z.m (Kd.R_elder' (vR Af) (Kd.R_base Ar) hb)
      replace Ao := Z.m (Kd.R_elder' (vR Ao) (Kd.R_base Ar) hb)
      replace A0 := kB A0 hb
      replace A1 := kB A1 hb
      replace A7 := kB A7 hb
      replace HB := bB HB hb
      (try clear hb); (try clear Ar)
      refine hK.out _ _ ⟨(ql A0.o 0).trans rfl, (ql A0.o 1).trans rfl, (ql A0.o 2).trans rfl, (ql A1.o 0).trans rfl, (ql A1.o 1).trans rfl, (ql A1.o 2).trans rfl⟩ (fun hHeld => ?_)
      clear hK K
      refine norm_ (a' := ?_) ?_ ?_
      rotate_left
      ·show Act.put _ (some 32) _ = _
       simp only [Act.put, q1, q2, q3, i64_w, i32_w]
       rfl
      refine pure_ (i := 5) (N := some 27) (v := ?_) (a' := ?_) #[true, true, true, true, true, true, false, false, true, false, false] rfl rfl (any_of HT_.o (by kernel_rfl)) (fun _ _ _ h => h) (Or.inl ⟨by rfl, ?_⟩) ?_ ?_
      rotate_left
      ·intro w'
       go_simp
       with_reducible rfl
      rotate_left
      ·simp only [Act.put, q1, q2, q3, i64_w, i32_w]
       rfl
      refine pure_ (i := 6) (N := some 33) (v := ?_) (a' := ?_) #[true, true, true, true, true, true, true, false, true, false, false] rfl rfl (any_of HT_.o (by kernel_rfl)) (fun _ _ _ h => h) (Or.inl ⟨by rfl, ?_⟩) ?_ ?_
      rotate_left
      ·intro w'
       go_simp
       with_reducible rfl
      rotate_left
      ·simp only [Act.put, q1, q2, q3, i64_w, i32_w]
       rfl
      refine pure_ (i := 7) (N := some 34) (v := ?_) (a' := ?_) #[true, true, true, true, true, true, true, true, true, false, false] rfl rfl (any_of HT_.o (by kernel_rfl)) (fun _ _ _ h => h) (Or.inl ⟨by rfl, ?_⟩) ?_ ?_
      rotate_left
      ·intro w'
       go_simp
       with_reducible rfl
      rotate_left
      ·simp only [Act.put, q1, q2, q3, i64_w, i32_w]
       rfl
      exact norm_ (by simp only [putAll, Act.put, q1, q2, q3]) (hCont (.slice Cu BC.length Cw, .slice CK BD.length CP, CA, AK) _ ⟨hHeld, (by refine rK ?_; exact Kd.Rm Af.o (fun _ hk => ⟨hk.1.2, hk.2⟩)), (by refine rK ?_; exact Kd.Rm Ao.o (fun _ hk => ⟨hk.1.2, hk.2⟩)), (by refine rK ?_; exact Kd.Rm AP.o (fun _ hk => ⟨hk.1.2, hk.2⟩)), (vK A0), (vK A1), (vK A7), Ch.o, BH.o, Ag.o, AD.o, Ah.o, AE.o, (vB HB)⟩)
    ·skip
     refine box_step ?hg (N := 6) ?hd (cs := #[.int .i64 0, .int .i64 0, .slice none 0 0]) (t := 29) ?hr ?_; (case hd => rfl); (case hg => rfl); (case hr => first | (go_simp; done) | (go_simp; rfl))
     intro AK hg L2 hbox hb
     have A7 := Z.m (hbox)
     have Ch := gW (w := w) HB hg
     have BH := gW (w := w) HB hg
     have Ag := neL A0 hg
     have AD := neG A0 hg
     have Ah := neL A1 hg
     have AE := neG A1 hg
     replace A0 := kB A0 hb
     replace A1 := kB A1 hb
     replace HB := bB HB hb
     clear hb hbox hg
     refine hK.out _ _ ⟨(ql A0.o 0).trans rfl, (ql A0.o 1).trans rfl, (ql A0.o 2).trans rfl, (ql A1.o 0).trans rfl, (ql A1.o 1).trans rfl, (ql A1.o 2).trans rfl⟩ (fun hHeld => ?_)
     clear hK K
     refine norm_ (a' := ?_) ?_ ?_
     rotate_left
     ·show Act.put _ (some 6) _ = _
      simp only [Act.put, q1, q2, q3, i64_w, i32_w]
      rfl
     refine one_ (i := 1) (N := some 29) #[true, true, true, false, false, false, false, false, true, false, false] rfl rfl (one_of HT_.o (by kernel_rfl)) (by decide) (fun K hK => ?_)
     refine goes_ Try.func17 (by kernel_rfl) rfl #[.agg #[.int .i64 a0_0, .int .i64 a0_1, .slice A0_2 l0_2.length c0_2]] (by rfl) rfl rfl (by (try simp only [List.map_toArray, List.map_cons, List.map_nil]); first | done | rfl | (simp only [List.length_drop, List.length_take]; rfl)) ?_
     with_reducible refine (laws_toBoard.calls k a0_0 a0_1 _ _ l0_2 C6 C7 BC _ ?side1 ?side2 JB.o).mono ?_
     (case side1 => repeat (first | exact (Kd.C_below BU.o HB.o) | (with_reducible refine Kd.C_alloc ?_ _) | (with_reducible refine Kd.C_drewN ?_ _) | (with_reducible refine Kd.C_drew ?_)))
     (case side2 => exact BT.o)
     rintro e Kw ⟨CI, rfl, Ar, hb⟩
     refine ⟨_, rfl, ?_⟩
     have Af := Z.m (Kd.R_lower Ar (below_size (vB HB)))
     replace A0 := kB A0 hb
     replace A1 := kB A1 hb
     replace A7 := kB A7 hb
     replace HB := bB HB hb
     (try clear hb); (try clear Ar)
     refine hK.out _ _ ⟨(ql A0.o 0).trans rfl, (ql A0.o 1).trans rfl, (ql A0.o 2).trans rfl, (ql A1.o 0).trans rfl, (ql A1.o 1).trans rfl, (ql A1.o 2).trans rfl⟩ (fun hHeld => ?_)
     clear hK K
     refine norm_ (a' := ?_) ?_ ?_
     rotate_left
     ·show Act.put _ (some 29) _ = _
      simp only [Act.put, q1, q2, q3, i64_w, i32_w]
      rfl
     refine one_ (i := 3) (N := some 31) #[true, true, true, true, false, false, false, false, true, false, false] rfl rfl (one_of HT_.o (by kernel_rfl)) (by decide) (fun K hK => ?_)
     refine goes_ Try.func17 (by kernel_rfl) rfl #[.agg #[.int .i64 a1_0, .int .i64 a1_1, .slice A1_2 l1_2.length c1_2]] (by rfl) rfl rfl (by (try simp only [List.map_toArray, List.map_cons, List.map_nil]); first | done | rfl | (simp only [List.length_drop, List.length_take]; rfl)) ?_
     with_reducible refine (laws_toBoard.calls k a1_0 a1_1 _ _ l1_2 C8 C9 BD _ ?side1 ?side2 GV.o).mono ?_
     (case side1 => repeat (first | exact (Kd.C_below BN.o HB.o) | (with_reducible refine Kd.C_alloc ?_ _) | (with_reducible refine Kd.C_drewN ?_ _) | (with_reducible refine Kd.C_drew ?_)))
     (case side2 => exact BM.o)
     rintro e Kx ⟨CC, rfl, Ar, hb⟩
     refine ⟨_, rfl, ?_⟩
     have Ao := Z.m (Kd.R_lower (Kd.R_new' Ar (Kd.R_lt (vR Af))) (below_size (vB HB)))
     replace Af := Z.m (Kd.R_elder' (vR Af) (Kd.R_base Ar) hb)
     replace A0 := kB A0 hb
     replace A1 := kB A1 hb
     replace A7 := kB A7 hb
     replace HB := bB HB hb
     (try clear hb); (try clear Ar)
     obtain ⟨Cu, Cw, Cx⟩ := Kd.R_slice Af.o
     (first | subst Cx | (injection Cx with f1_ f2_ f3_; have f4_ := f1_.symm; have f5_ := f3_.symm; clear f1_ f2_ f3_; subst f4_; subst f5_))
     obtain ⟨CK, CP, CQ⟩ := Kd.R_slice Ao.o
     (first | subst CQ | (injection CQ with f1_ f2_ f3_; have f4_ := f1_.symm; have f5_ := f3_.symm; clear f1_ f2_ f3_; subst f4_; subst f5_))
     refine hK.out _ _ ⟨(ql A0.o 0).trans rfl, (ql A0.o 1).trans rfl, (ql A0.o 2).trans rfl, (ql A1.o 0).trans rfl, (ql A1.o 1).trans rfl, (ql A1.o 2).trans rfl⟩ (fun hHeld => ?_)
     clear hK K
     refine norm_ (a' := ?_) ?_ ?_
     rotate_left
     ·show Act.put _ (some 31) _ = _
      simp only [Act.put, q1, q2, q3, i64_w, i32_w]
      rfl
     refine one_ (i := 4) (N := some 32) #[true, true, true, true, true, false, false, false, true, false, false] rfl rfl (one_of HT_.o (by kernel_rfl)) (by decide) (fun K hK => ?_)
     refine goes_ Try.func27 (by kernel_rfl) rfl #[.agg #[.int .i64 C6, .int .i64 C7, .slice Cu BC.length Cw], .agg #[.int .i64 C8, .int .i64 C9, .slice CK BD.length CP]] (by rfl) rfl rfl (by (try simp only [List.map_toArray, List.map_cons, List.map_nil]); first | done | rfl | (simp only [List.length_drop, List.length_take]; rfl)) ?_
     with_reducible refine (spec_StackBoards.calls k C6 C7 _ _ BC C8 C9 _ _ BD Ai Aj Ab Ap _ ?side1 ?side2 ?side3 ?side4 FY.o).mono ?_
     (case side1 => repeat (first | exact (Kd.RrZ Af.o).2.2 | (with_reducible refine Kd.C_alloc ?_ _) | (with_reducible refine Kd.C_drewN ?_ _) | (with_reducible refine Kd.C_drew ?_)))
     (case side2 => exact (Kd.RrZ Af.o).2.1)
     (case side3 => repeat (first | exact (Kd.RrZ Ao.o).2.2 | (with_reducible refine Kd.C_alloc ?_ _) | (with_reducible refine Kd.C_drewN ?_ _) | (with_reducible refine Kd.C_drew ?_)))
     (case side4 => exact (Kd.RrZ Ao.o).2.1)
     rintro e Jz ⟨CA, rfl, Ar, hb⟩
     refine ⟨_, rfl, ?_⟩
     have AP := Z.m (Kd.R_lower (Kd.R_new' (Kd.R_new' Ar (Kd.R_lt (vR Af))) (Kd.R_lt (vR Ao))) (below_size (vB HB)))
     replace Af := Z.m (Kd.R_elder' (vR Af) (Kd.R_base Ar) hb)
     replace Ao := Z.m (Kd.R_elder' (vR Ao) (Kd.R_base Ar) hb)
     replace A0 := kB A0 hb
     replace A1 := kB A1 hb
     replace A7 := kB A7 hb
     replace HB := bB HB hb
     (try clear hb); (try clear Ar)
     refine hK.out _ _ ⟨(ql A0.o 0).trans rfl, (ql A0.o 1).trans rfl, (ql A0.o 2).trans rfl, (ql A1.o 0).trans rfl, (ql A1.o 1).trans rfl, (ql A1.o 2).trans rfl⟩ (fun hHeld => ?_)
     clear hK K
     refine norm_ (a' := ?_) ?_ ?_
     rotate_left
     ·show Act.put _ (some 32) _ = _
      simp only [Act.put, q1, q2, q3, i64_w, i32_w]
      rfl
     refine pure_ (i := 5) (N := some 27) (v := ?_) (a' := ?_) #[true, true, true, true, true, true, false, false, true, false, false] rfl rfl (any_of HT_.o (by kernel_rfl)) (fun _ _ _ h => h) (Or.inl ⟨by rfl, ?_⟩) ?_ ?_
     rotate_left
     ·intro w'
      go_simp
      with_reducible rfl
     rotate_left
     ·simp only [Act.put, q1, q2, q3, i64_w, i32_w]
      rfl
     refine pure_ (i := 6) (N := some 33) (v := ?_) (a' := ?_) #[true, true, true, true, true, true, true, false, true, false, false] rfl rfl (any_of HT_.o (by kernel_rfl)) (fun _ _ _ h => h) (Or.inl ⟨by rfl, ?_⟩) ?_ ?_
     rotate_left
     ·intro w'
      go_simp
      with_reducible rfl
     rotate_left
     ·simp only [Act.put, q1, q2, q3, i64_w, i32_w]
      rfl
     refine pure_ (i := 7) (N := some 34) (v := ?_) (a' := ?_) #[true, true, true, true, true, true, true, true, true, false, false] rfl rfl (any_of HT_.o (by kernel_rfl)) (fun _ _ _ h => h) (Or.inl ⟨by rfl, ?_⟩) ?_ ?_
     rotate_left
     ·intro w'
      go_simp
      with_reducible rfl
     rotate_left
     ·simp only [Act.put, q1, q2, q3, i64_w, i32_w]
      rfl
     exact norm_ (by simp only [putAll, Act.put, q1, q2, q3]) (hCont (.slice Cu BC.length Cw, .slice CK BD.length CP, CA, AK) _ ⟨hHeld, (by refine rK ?_; exact Kd.Rm Af.o (fun _ hk => ⟨hk.1.2, hk.2⟩)), (by refine rK ?_; exact Kd.Rm Ao.o (fun _ hk => ⟨hk.1.2, hk.2⟩)), (by refine rK ?_; exact Kd.Rm AP.o (fun _ hk => ⟨hk.1.2, hk.2⟩)), (vK A0), (vK A1), (vK A7), Ch.o, BH.o, Ag.o, AD.o, Ah.o, AE.o, (vB HB)⟩)
   rintro ⟨CI, CC, CA, AK⟩ CT ⟨hS_, h0_, h1_, h2_, h3_, h4_, h5_, h6_, h7_, h8_, h9_, h10_, h11_, h12_⟩
   have Af : Z (Kd.R k34 34 CT w.heap.size (fun k_ => some k_ ≠ (CC : Value).ownBlock ∧ some k_ ≠ (CA : Value).ownBlock) CI BC) := ⟨h0_⟩
   have Ao : Z (Kd.R k34 34 CT w.heap.size (fun k_ => some k_ ≠ (CI : Value).ownBlock ∧ some k_ ≠ (CA : Value).ownBlock) CC BD) := ⟨h1_⟩
   have AP : Z (Kd.R k34 34 CT w.heap.size (fun k_ => some k_ ≠ (CI : Value).ownBlock ∧ some k_ ≠ (CC : Value).ownBlock) CA Ab) := ⟨h2_⟩
   have A7 : Z (CT.heap[AK]? = some (.cells #[.int .i64 0, .int .i64 0, .slice none 0 0] 29 (0, 0))) := ⟨h5_⟩
   have Ch : Z (w.heap.size ≤ AK) := ⟨h6_⟩
   have BH : Z (w.heap.size ≤ AK) := ⟨h7_⟩
   have Ag : Z (Au ≠ AK) := ⟨h8_⟩
   have AD : Z (AK ≠ Au) := ⟨h9_⟩
   have Ah : Z (Av ≠ AK) := ⟨h10_⟩
   have AE : Z (AK ≠ Av) := ⟨h11_⟩
   replace A0 : Z (CT.heap[Au]? = some (.cells #[.int .i64 a0_0, .int .i64 a0_1, .slice A0_2 l0_2.length c0_2] 24 (0, 0))) := ⟨h3_⟩
   replace A1 : Z (CT.heap[Av]? = some (.cells #[.int .i64 a1_0, .int .i64 a1_1, .slice A1_2 l1_2.length c1_2] 24 (0, 0))) := ⟨h4_⟩
   replace HB : Z (Below w.heap.size w CT) := ⟨h12_⟩
   clear h0_ h1_ h2_ h3_ h4_ h5_ h6_ h7_ h8_ h9_ h10_ h11_ h12_
   have hHeld : CT.cell? ⟨Au, 0, none⟩ = some (.int .i64 a0_0) ∧ CT.cell? ⟨Au, 1, none⟩ = some (.int .i64 a0_1) ∧ CT.cell? ⟨Au, 2, none⟩ = some (.slice A0_2 l0_2.length c0_2) ∧ CT.cell? ⟨Av, 0, none⟩ = some (.int .i64 a1_0) ∧ CT.cell? ⟨Av, 1, none⟩ = some (.int .i64 a1_1) ∧ CT.cell? ⟨Av, 2, none⟩ = some (.slice A1_2 l1_2.length c1_2) := hS_
   obtain ⟨AI, AF, EE⟩ := Kd.R_slice AP.o
   (first | subst EE | (injection EE with f1_ f2_ f3_; have f4_ := f1_.symm; have f5_ := f3_.symm; clear f1_ f2_ f3_; subst f4_; subst f5_))
   refine norm_ (a' := ?_) ?_ ?_
   rotate_left
   ·simp only [putAll, Act.put, q1, q2, q3]
    rfl
   refine one_ (i := 9) (N := none) #[true, true, true, true, true, true, true, true, true, true, false] rfl rfl (one_of HT_.o (by kernel_rfl)) (by decide) (fun K hK => ?_)
   have KE : CT.cell? ⟨AK, 0, none⟩ = some (.int .i64 0) := (ql A7.o 0).trans rfl
   have hfs41 := qz A7.o 0
   have GF := Ag.o
   have GG := Ah.o
   have Gz := AD.o
   have GA := AE.o
   have KF : CT.cell? ⟨AK, 1, none⟩ = some (.int .i64 0) := (ql A7.o 1).trans rfl
   have hfs42 := qz A7.o 1
   have GH := Ag.o
   have GI := Ah.o
   have GB := AD.o
   have GC := AE.o
   have KG : CT.cell? ⟨AK, 2, none⟩ = some (.slice none 0 0) := (ql A7.o 2).trans rfl
   have hfs44 := qz A7.o 2
   have GJ := Ag.o
   have GK := Ah.o
   have GD := AD.o
   have GE := AE.o
   refine skip_ (w1 := ?_) ?hwx ?hnx ?_ ?_; (case hwx => rfl); (case hnx => rfl)
   rotate_left
   ·go_simp
    rfl
   refine hK.out _ _ ⟨(cx Ag.o ((cx Ag.o ((cx Ag.o (hHeld.1)))))), (cx Ag.o ((cx Ag.o ((cx Ag.o (hHeld.2.1)))))), (cx Ag.o ((cx Ag.o ((cx Ag.o (hHeld.2.2.1)))))), (cx Ah.o ((cx Ah.o ((cx Ah.o (hHeld.2.2.2.1)))))), (cx Ah.o ((cx Ah.o ((cx Ah.o (hHeld.2.2.2.2.1)))))), (cx Ah.o ((cx Ah.o ((cx Ah.o (hHeld.2.2.2.2.2))))))⟩ (fun hHeld => ?_)
   clear hK K
   refine pure_ (i := 10) (N := some 7) (v := ?_) (a' := ?_) #[true, true, true, true, true, true, true, true, true, true, true] rfl rfl (any_of HT_.o (by kernel_rfl)) (fun _ _ _ h => h) (Or.inl ⟨by rfl, ?_⟩) ?_ ?_
   rotate_left
   ·intro w'
    go_simp
    with_reducible rfl
   rotate_left
   ·simp only [Act.put, q1, q2, q3, i64_w, i32_w]
    rfl
   refine done_ (done_of HT_.o (by kernel_rfl)) ?_
   have JG := Ag.o
   have K5 := AD.o
   have Dg := bc0 A0
   have Dh := bc1 A0
   have Di := bc2 A0
   have Dy := qz A0.o 0
   have Dz := qz A0.o 1
   have DA := qz A0.o 2
   go_upto_region 12 with (first | ((with_reducible refine gc (f := 17) rfl ?_); refine gA (some 36) _ #[.agg #[.int .i64 a0_0, .int .i64 a0_1, .slice A0_2 l0_2.length c0_2]] ?_ Try.func17; (with_reducible refine (laws_toBoard.calls k a0_0 a0_1 _ _ l0_2 AW AX Az _ ?side1 ?side2 Ky.o).mono ?_); (case side1 => exact Kd.C_below BU.o (vB HB)); (case side2 => exact BT.o); rintro e Lc ⟨KJ, rfl, Ar, hb⟩; refine ⟨_, rfl, ?_⟩; have Ba := Z.m (Kd.R_lower (Kd.R_new' (Kd.R_new' (Kd.R_new' Ar (Kd.R_lt (by refine rK ?_; exact (Kd.Rm (rf (rf (rf (Kd.Ry Af.o A7.o (by decide))))) (fun _ h_ => h_.1))))) (Kd.R_lt (by refine rK ?_; exact (Kd.Rm (rf (rf (rf (Kd.Ry Ao.o A7.o (by decide))))) (fun _ h_ => h_.1))))) (Kd.R_lt (by refine rK ?_; exact (Kd.Rm (rf (rf (rf (Kd.Ry AP.o A7.o (by decide))))) (fun _ h_ => h_.1))))) (below_size (vB HB))); replace Af := Z.m (Kd.R_elder' (by refine rK ?_; exact (Kd.Rm (rf (rf (rf (Kd.Ry Af.o A7.o (by decide))))) (fun _ h_ => h_.1))) (Kd.R_base Ar) hb); replace Ao := Z.m (Kd.R_elder' (by refine rK ?_; exact (Kd.Rm (rf (rf (rf (Kd.Ry Ao.o A7.o (by decide))))) (fun _ h_ => h_.1))) (Kd.R_base Ar) hb); replace AP := Z.m (Kd.R_elder' (by refine rK ?_; exact (Kd.Rm (rf (rf (rf (Kd.Ry AP.o A7.o (by decide))))) (fun _ h_ => h_.1))) (Kd.R_base Ar) hb); replace A0 := Z.m (qb (g := Au) (o := .cells #[.int .i64 a0_0, .int .i64 a0_1, .slice A0_2 l0_2.length c0_2] 24 (0, 0)) (by refine bK ?_; (iterate 3 refine qF ?_ Ag); exact A0.o) hb); replace A1 := Z.m (qb (g := Av) (o := .cells #[.int .i64 a1_0, .int .i64 a1_1, .slice A1_2 l1_2.length c1_2] 24 (0, 0)) (by refine bK ?_; (iterate 3 refine qF ?_ Ah); exact A1.o) hb); replace A7 := Z.m (qb (g := AK) (o := .cells #[.int .i64 Ai, .int .i64 Aj, .slice AI Ab.length AF] 29 (0, 0)) (by refine bK ?_; apply st3; refine bK ?_; exact A7.o) hb); replace HB := bB HB hb; (try clear hb); (try clear CW); (try clear hk); (try clear hi); (try clear Ar)) | ((with_reducible refine gq (N := 8) rfl ?_); refine be (N := 8) (cs := #[.int .i64 0, .int .i64 0, .slice none 0 0]) (t := 29) ?_; intro Bg hg Ld hbox hb; have A8 := Z.m (hbox); have Ex := gW (w := w) HB hg; have CX := Ex; have C0 := neL A0 hg; have CD := neG A0 hg; have C2 := neL A1 hg; have CE := neG A1 hg; have Bk := neL A7 hg; have Bv := neG A7 hg; replace Af := Z.m (Kd.Rb (vR Af) hb); replace Ao := Z.m (Kd.Rb (vR Ao) hb); replace AP := Z.m (Kd.Rb (vR AP) hb); replace Ba := Z.m (Kd.Rb (vR Ba) hb); replace A0 := kB A0 hb; replace A1 := kB A1 hb; replace A7 := kB A7 hb; replace HB := bB HB hb; clear hb hbox hg; have JH := CD.o; have K6 := C0.o; have JI := CE.o; have K7 := C2.o; have JJ := Bv.o; have K8 := Bk.o; have Dj := bc0 A8; have Dk := bc1 A8; have Dl := bc2 A8; have DB := qz A8.o 0; have DC := qz A8.o 1; have DD := qz A8.o 2; obtain ⟨Ax, Aw, H3⟩ := Kd.R_slice Ba.o; subst H3; have JK := Ah.o; have K9 := AE.o; have Dm := bc0 A1; have Dn := bc1 A1; have Do := bc2 A1; have DE := qz A1.o 0; have DF := qz A1.o 1; have DG := qz A1.o 2) | ((with_reducible refine gc (f := 17) rfl ?_); refine gA (some 38) _ #[.agg #[.int .i64 a1_0, .int .i64 a1_1, .slice A1_2 l1_2.length c1_2]] ?_ Try.func17; (with_reducible refine (laws_toBoard.calls k a1_0 a1_1 _ _ l1_2 AY AZ AA _ ?side1 ?side2 Kz.o).mono ?_); (case side1 => exact Kd.C_below BN.o (vB HB)); (case side2 => exact BM.o); rintro e Le ⟨KK, rfl, Ar, hb⟩; refine ⟨_, rfl, ?_⟩; have Bs := Z.m (Kd.R_lower (Kd.R_new' (Kd.R_new' (Kd.R_new' (Kd.R_new' Ar (Kd.R_lt (by refine rK ?_; exact (Kd.Rm (rf (rf (rf (Kd.Ry Af.o A8.o (by decide))))) (fun _ h_ => h_.1))))) (Kd.R_lt (by refine rK ?_; exact (Kd.Rm (rf (rf (rf (Kd.Ry Ao.o A8.o (by decide))))) (fun _ h_ => h_.1))))) (Kd.R_lt (by refine rK ?_; exact (Kd.Rm (rf (rf (rf (Kd.Ry AP.o A8.o (by decide))))) (fun _ h_ => h_.1))))) (Kd.R_lt (by refine rK ?_; exact (Kd.Rm (rf (rf (rf (Kd.Ry Ba.o A8.o (by decide))))) (fun _ h_ => h_.1))))) (below_size (vB HB))); replace Af := Z.m (Kd.R_elder' (by refine rK ?_; exact (Kd.Rm (rf (rf (rf (Kd.Ry Af.o A8.o (by decide))))) (fun _ h_ => h_.1))) (Kd.R_base Ar) hb); replace Ao := Z.m (Kd.R_elder' (by refine rK ?_; exact (Kd.Rm (rf (rf (rf (Kd.Ry Ao.o A8.o (by decide))))) (fun _ h_ => h_.1))) (Kd.R_base Ar) hb); replace AP := Z.m (Kd.R_elder' (by refine rK ?_; exact (Kd.Rm (rf (rf (rf (Kd.Ry AP.o A8.o (by decide))))) (fun _ h_ => h_.1))) (Kd.R_base Ar) hb); replace Ba := Z.m (Kd.R_elder' (by refine rK ?_; exact (Kd.Rm (rf (rf (rf (Kd.Ry Ba.o A8.o (by decide))))) (fun _ h_ => h_.1))) (Kd.R_base Ar) hb); replace A0 := Z.m (qb (g := Au) (o := .cells #[.int .i64 a0_0, .int .i64 a0_1, .slice A0_2 l0_2.length c0_2] 24 (0, 0)) (by refine bK ?_; (iterate 3 refine qF ?_ C0); exact A0.o) hb); replace A1 := Z.m (qb (g := Av) (o := .cells #[.int .i64 a1_0, .int .i64 a1_1, .slice A1_2 l1_2.length c1_2] 24 (0, 0)) (by refine bK ?_; (iterate 3 refine qF ?_ C2); exact A1.o) hb); replace A7 := Z.m (qb (g := AK) (o := .cells #[.int .i64 Ai, .int .i64 Aj, .slice AI Ab.length AF] 29 (0, 0)) (by refine bK ?_; (iterate 3 refine qF ?_ Bk); exact A7.o) hb); replace A8 := Z.m (qb (g := Bg) (o := .cells #[.int .i64 AW, .int .i64 AX, .slice Ax Az.length Aw] 29 (0, 0)) (by refine bK ?_; apply st3; refine bK ?_; exact A8.o) hb); replace HB := bB HB hb; (try clear hb); (try clear CW); (try clear hk); (try clear hi); (try clear Ar)) | ((with_reducible refine gq (N := 9) rfl ?_); refine be (N := 9) (cs := #[.int .i64 0, .int .i64 0, .slice none 0 0]) (t := 29) ?_; intro Bp hg Lf hbox hb; have Aa := Z.m (hbox); have Ey := gW (w := w) HB hg; have CY := Ey; have C1 := neL A0 hg; have CF := neG A0 hg; have C3 := neL A1 hg; have CG := neG A1 hg; have Bl := neL A7 hg; have Bw := neG A7 hg; have C4 := neL A8 hg; have CH := neG A8 hg; replace Af := Z.m (Kd.Rb (vR Af) hb); replace Ao := Z.m (Kd.Rb (vR Ao) hb); replace AP := Z.m (Kd.Rb (vR AP) hb); replace Ba := Z.m (Kd.Rb (vR Ba) hb); replace Bs := Z.m (Kd.Rb (vR Bs) hb); replace A0 := kB A0 hb; replace A1 := kB A1 hb; replace A7 := kB A7 hb; replace A8 := kB A8 hb; replace HB := bB HB hb; clear hb hbox hg; have JL := CF.o; have Ka := C1.o; have JM := CG.o; have Kb := C3.o; have JN := Bw.o; have Kc := Bl.o; have JO := CH.o; have Ke := C4.o; have Dp := bc0 Aa; have Dq := bc1 Aa; have Dr := bc2 Aa; have DH := qz Aa.o 0; have DI := qz Aa.o 1; have DJ := qz Aa.o 2; obtain ⟨AB, Ay, H4⟩ := Kd.R_slice Bs.o; subst H4; have Ds := bc0 A8; have Dt := bc1 A8; have Du := bc2 A8; have DK := qz A8.o 0; have DL := qz A8.o 1; have DM := qz A8.o 2) | ((with_reducible refine gc (f := 28) rfl ?_); refine gA (some 42) _ #[.agg #[.int .i64 AW, .int .i64 AX, .slice Ax Az.length Aw], .agg #[.int .i64 AY, .int .i64 AZ, .slice AB AA.length Ay]] ?_ Try.func28; (with_reducible refine (impl_StackBoards.calls k AW AX _ _ Az AY AZ _ _ AA Ak Al Ae Bq _ ?side1 ?side2 ?side3 ?side4 KA.o).mono ?_); (case side1 => refine (Kd.RrZ (e := 34) (base := w.heap.size) (ok := fun k_ => ((((True ∧ some k_ ≠ (CI : Value).ownBlock) ∧ some k_ ≠ (CC : Value).ownBlock) ∧ some k_ ≠ (.slice AI Ab.length AF : Value).ownBlock) ∧ some k_ ≠ (.slice AB AA.length Ay : Value).ownBlock)) (n := Az.length) (c := Aw) ?_).2.2; exact (by refine rK ?_; exact (Kd.Rm (rf (rf (rf (Kd.Ry Ba.o Aa.o (by decide))))) (fun _ h_ => h_.1)))); (case side2 => exact (Kd.RrZ Ba.o).2.1); (case side3 => refine (Kd.RrZ (e := 34) (base := w.heap.size) (ok := fun k_ => ((((True ∧ some k_ ≠ (CI : Value).ownBlock) ∧ some k_ ≠ (CC : Value).ownBlock) ∧ some k_ ≠ (.slice AI Ab.length AF : Value).ownBlock) ∧ some k_ ≠ (.slice Ax Az.length Aw : Value).ownBlock)) (n := AA.length) (c := Ay) ?_).2.2; exact (by refine rK ?_; exact (Kd.Rm (rf (rf (rf (Kd.Ry Bs.o Aa.o (by decide))))) (fun _ h_ => h_.1)))); (case side4 => exact (Kd.RrZ Bs.o).2.1); rintro e Lg ⟨KL, rfl, Ar, hb⟩; refine ⟨_, rfl, ?_⟩; have Cj := Z.m (Kd.R_lower (Kd.R_new' (Kd.R_new' (Kd.R_new' (Kd.R_new' (Kd.R_new' Ar (Kd.R_lt (by refine rK ?_; exact (Kd.Rm (rf (rf (rf (Kd.Ry Af.o Aa.o (by decide))))) (fun _ h_ => h_.1))))) (Kd.R_lt (by refine rK ?_; exact (Kd.Rm (rf (rf (rf (Kd.Ry Ao.o Aa.o (by decide))))) (fun _ h_ => h_.1))))) (Kd.R_lt (by refine rK ?_; exact (Kd.Rm (rf (rf (rf (Kd.Ry AP.o Aa.o (by decide))))) (fun _ h_ => h_.1))))) (Kd.R_lt (by refine rK ?_; exact (Kd.Rm (rf (rf (rf (Kd.Ry Ba.o Aa.o (by decide))))) (fun _ h_ => h_.1))))) (Kd.R_lt (by refine rK ?_; exact (Kd.Rm (rf (rf (rf (Kd.Ry Bs.o Aa.o (by decide))))) (fun _ h_ => h_.1))))) (below_size (vB HB))); replace Af := Z.m (Kd.R_elder' (by refine rK ?_; exact (Kd.Rm (rf (rf (rf (Kd.Ry Af.o Aa.o (by decide))))) (fun _ h_ => h_.1))) (Kd.R_base Ar) hb); replace Ao := Z.m (Kd.R_elder' (by refine rK ?_; exact (Kd.Rm (rf (rf (rf (Kd.Ry Ao.o Aa.o (by decide))))) (fun _ h_ => h_.1))) (Kd.R_base Ar) hb); replace AP := Z.m (Kd.R_elder' (by refine rK ?_; exact (Kd.Rm (rf (rf (rf (Kd.Ry AP.o Aa.o (by decide))))) (fun _ h_ => h_.1))) (Kd.R_base Ar) hb); replace Ba := Z.m (Kd.R_elder' (by refine rK ?_; exact (Kd.Rm (rf (rf (rf (Kd.Ry Ba.o Aa.o (by decide))))) (fun _ h_ => h_.1))) (Kd.R_base Ar) hb); replace Bs := Z.m (Kd.R_elder' (by refine rK ?_; exact (Kd.Rm (rf (rf (rf (Kd.Ry Bs.o Aa.o (by decide))))) (fun _ h_ => h_.1))) (Kd.R_base Ar) hb); replace A0 := Z.m (qb (g := Au) (o := .cells #[.int .i64 a0_0, .int .i64 a0_1, .slice A0_2 l0_2.length c0_2] 24 (0, 0)) (by refine bK ?_; (iterate 3 refine qF ?_ C1); exact A0.o) hb); replace A1 := Z.m (qb (g := Av) (o := .cells #[.int .i64 a1_0, .int .i64 a1_1, .slice A1_2 l1_2.length c1_2] 24 (0, 0)) (by refine bK ?_; (iterate 3 refine qF ?_ C3); exact A1.o) hb); replace A7 := Z.m (qb (g := AK) (o := .cells #[.int .i64 Ai, .int .i64 Aj, .slice AI Ab.length AF] 29 (0, 0)) (by refine bK ?_; (iterate 3 refine qF ?_ Bl); exact A7.o) hb); replace A8 := Z.m (qb (g := Bg) (o := .cells #[.int .i64 AW, .int .i64 AX, .slice Ax Az.length Aw] 29 (0, 0)) (by refine bK ?_; (iterate 3 refine qF ?_ C4); exact A8.o) hb); replace Aa := Z.m (qb (g := Bp) (o := .cells #[.int .i64 AY, .int .i64 AZ, .slice AB AA.length Ay] 29 (0, 0)) (by refine bK ?_; apply st3; refine bK ?_; exact Aa.o) hb); replace HB := bB HB hb; (try clear hb); (try clear CW); (try clear hk); (try clear hi); (try clear Ar)) | ((with_reducible refine gq (N := 10) rfl ?_); refine be (N := 10) (cs := #[.int .i64 0, .int .i64 0, .slice none 0 0]) (t := 29) ?_; intro BL hg Lh hbox hb; have A9 := Z.m (hbox); have Ez := gW (w := w) HB hg; have CZ := Ez; have Bi := neL A0 hg; have Bx := neG A0 hg; have Bj := neL A1 hg; have By := neG A1 hg; have Bb := neL A7 hg; have Bm := neG A7 hg; have Bc := neL A8 hg; have Bn := neG A8 hg; have Bd := neL Aa hg; have Bo := neG Aa hg; replace Af := Z.m (Kd.Rb (vR Af) hb); replace Ao := Z.m (Kd.Rb (vR Ao) hb); replace AP := Z.m (Kd.Rb (vR AP) hb); replace Ba := Z.m (Kd.Rb (vR Ba) hb); replace Bs := Z.m (Kd.Rb (vR Bs) hb); replace Cj := Z.m (Kd.Rb (vR Cj) hb); replace A0 := kB A0 hb; replace A1 := kB A1 hb; replace A7 := kB A7 hb; replace A8 := kB A8 hb; replace Aa := kB Aa hb; replace HB := bB HB hb; clear hb hbox hg; have JP := Bx.o; have Kf := Bi.o; have JQ := By.o; have Kg := Bj.o; have JR := Bm.o; have Kh := Bb.o; have JS := Bn.o; have Ki := Bc.o; have JT := Bo.o; have Kj := Bd.o; have Dv := bc0 A9; have Dw := bc1 A9; have Dx := bc2 A9; have DN := qz A9.o 0; have DO := qz A9.o 1; have DP := qz A9.o 2; obtain ⟨AH, AG, H5⟩ := Kd.R_slice Cj.o; subst H5))
   (try simp only [Act.put, q1, q2, q3])
   go_cut [53] (fun v53 wc => ∃ (kq : Nat) (CJ : Bool), v53 = .bool CJ ∧ Z (laws_FnExactStackBoards.j0 kq Ap Bq CJ a0_0 a0_1 l0_2 a1_0 a1_1 l1_2 Ai Aj Ab AW AX Az AY AZ AA Ak Al Ae = some true) ∧ Z (kq ≤ k) ∧ Z (Kd.R k34 34 wc w.heap.size (fun k_ => some k_ ≠ ((.slice Ax Az.length Aw) : Value).ownBlock ∧ some k_ ≠ ((.slice AB AA.length Ay) : Value).ownBlock ∧ some k_ ≠ ((.slice AH Ae.length AG) : Value).ownBlock) (.slice AI Ab.length AF) Ab) ∧ Z (Kd.R k34 34 wc w.heap.size (fun k_ => some k_ ≠ ((.slice AI Ab.length AF) : Value).ownBlock ∧ some k_ ≠ ((.slice AB AA.length Ay) : Value).ownBlock ∧ some k_ ≠ ((.slice AH Ae.length AG) : Value).ownBlock) (.slice Ax Az.length Aw) Az) ∧ Z (Kd.R k34 34 wc w.heap.size (fun k_ => some k_ ≠ ((.slice AI Ab.length AF) : Value).ownBlock ∧ some k_ ≠ ((.slice Ax Az.length Aw) : Value).ownBlock ∧ some k_ ≠ ((.slice AH Ae.length AG) : Value).ownBlock) (.slice AB AA.length Ay) AA) ∧ Z (Kd.R k34 34 wc w.heap.size (fun k_ => some k_ ≠ ((.slice AI Ab.length AF) : Value).ownBlock ∧ some k_ ≠ ((.slice Ax Az.length Aw) : Value).ownBlock ∧ some k_ ≠ ((.slice AB AA.length Ay) : Value).ownBlock) (.slice AH Ae.length AG) Ae) ∧ Z (wc.heap[Au]? = some (.cells #[.int .i64 a0_0, .int .i64 a0_1, (.slice A0_2 l0_2.length c0_2)] 24 (0, 0))) ∧ Z (wc.heap[Av]? = some (.cells #[.int .i64 a1_0, .int .i64 a1_1, (.slice A1_2 l1_2.length c1_2)] 24 (0, 0))) ∧ Z (wc.heap[AK]? = some (.cells #[.int .i64 Ai, .int .i64 Aj, (.slice AI Ab.length AF)] 29 (0, 0))) ∧ Z (wc.heap[Bg]? = some (.cells #[.int .i64 AW, .int .i64 AX, (.slice Ax Az.length Aw)] 29 (0, 0))) ∧ Z (wc.heap[Bp]? = some (.cells #[.int .i64 AY, .int .i64 AZ, (.slice AB AA.length Ay)] 29 (0, 0))) ∧ Z (wc.heap[BL]? = some (.cells #[.int .i64 Ak, .int .i64 Al, (.slice AH Ae.length AG)] 29 (0, 0))) ∧ Z (Below w.heap.size w wc))
   case first =>
    have H := Eh.o
    clear Eh
    replace H := Option.bind_eq_some_iff.mp H
    obtain ⟨Bz, Eu, H⟩ := H
    replace H : (if Bz = true then (laws_FnExactStackBoards.j0 k Ap Bq (Bq != Ap) a0_0 a0_1 l0_2 a1_0 a1_1 l1_2 Ai Aj Ab AW AX Az AY AZ AA Ak Al Ae) else (laws_FnExactStackBoards.j0 k Ap Bq true a0_0 a0_1 l0_2 a1_0 a1_1 l1_2 Ai Aj Ab AW AX Az AY AZ AA Ak Al Ae)) = some true := H
    have KB := Z.m Eu
    clear Eu
    by_cases c75 : Bz = true
    ·subst c75
     have H1 : (laws_FnExactStackBoards.j0 k Ap Bq (Bq != Ap) a0_0 a0_1 l0_2 a1_0 a1_1 l1_2 Ai Aj Ab AW AX Az AY AZ AA Ak Al Ae) = some true := by rw [if_pos rfl] at H; exact H
     clear H
     have H := H1
     clear H1
     have H' := Z.m H
     clear H
     have JU := Bx.o
     have Kk := Bi.o
     have JV := By.o
     have Kl := Bj.o
     have JW := Bm.o
     have Km := Bb.o
     have JX := Bn.o
     have Kn := Bc.o
     have JY := Bo.o
     have Ko := Bd.o
     have Gb := bc0 A9
     have Gc := bc1 A9
     have Gd := bc2 A9
     have Gt := qz A9.o 0
     have Gu := qz A9.o 1
     have Gv := qz A9.o 2
     have JZ := AD.o
     have Kp := Ag.o
     have K0 := AE.o
     have Kq := Ah.o
     have K1 := Bk.o
     have Kr := Bv.o
     have K2 := Bl.o
     have Ks := Bw.o
     have Ge := bc0 A7
     have Gf := bc1 A7
     have Gg := bc2 A7
     have Gw := qz A7.o 0
     have Gx := qz A7.o 1
     have Gy := qz A7.o 2
     go_wp2_with (first | ((with_reducible refine gc (f := 19) rfl ?_); refine gA (some 47) _ #[.agg #[.int .i64 Ak, .int .i64 Al, .slice AH Ae.length AG], .agg #[.int .i64 Ai, .int .i64 Aj, .slice AI Ab.length AF]] ?_ Try.func19; (with_reducible refine (laws_eqBoard.calls k Ak Al _ _ Ae Ai Aj _ _ Ab true _ ?side1 ?side2 ?side3 ?side4 KB.o).mono ?_); (case side1 => refine (Kd.RrZ (e := 34) (base := w.heap.size) (ok := fun k_ => (((((True ∧ some k_ ≠ (CI : Value).ownBlock) ∧ some k_ ≠ (CC : Value).ownBlock) ∧ some k_ ≠ (.slice AI Ab.length AF : Value).ownBlock) ∧ some k_ ≠ (.slice Ax Az.length Aw : Value).ownBlock) ∧ some k_ ≠ (.slice AB AA.length Ay : Value).ownBlock)) (n := Ae.length) (c := AG) ?_).2.2; exact (by refine rK ?_; exact (Kd.Rm (rf (rf (rf (Kd.Ry Cj.o A9.o (by decide))))) (fun _ h_ => h_.1)))); (case side2 => exact (Kd.RrZ Cj.o).2.1); (case side3 => refine (Kd.RrZ (e := 34) (base := w.heap.size) (ok := fun k_ => ((((some k_ ≠ (CI : Value).ownBlock ∧ some k_ ≠ (CC : Value).ownBlock) ∧ some k_ ≠ (.slice Ax Az.length Aw : Value).ownBlock) ∧ some k_ ≠ (.slice AB AA.length Ay : Value).ownBlock) ∧ some k_ ≠ (.slice AH Ae.length AG : Value).ownBlock)) (n := Ab.length) (c := AF) ?_).2.2; exact (by refine rK ?_; exact (Kd.Rm (rf (rf (rf (Kd.Ry AP.o A9.o (by decide))))) (fun _ h_ => h_.1)))); (case side4 => exact (Kd.RrZ AP.o).2.1); rintro e Li ⟨rfl, hb⟩; refine ⟨_, rfl, ?_⟩; replace Af := Z.m (Kd.Rb (by refine rK ?_; exact (Kd.Rm (rf (rf (rf (Kd.Ry Af.o A9.o (by decide))))) (fun _ h_ => h_.1))) hb); replace Ao := Z.m (Kd.Rb (by refine rK ?_; exact (Kd.Rm (rf (rf (rf (Kd.Ry Ao.o A9.o (by decide))))) (fun _ h_ => h_.1))) hb); replace AP := Z.m (Kd.Rb (by refine rK ?_; exact (Kd.Rm (rf (rf (rf (Kd.Ry AP.o A9.o (by decide))))) (fun _ h_ => h_.1))) hb); replace Ba := Z.m (Kd.Rb (by refine rK ?_; exact (Kd.Rm (rf (rf (rf (Kd.Ry Ba.o A9.o (by decide))))) (fun _ h_ => h_.1))) hb); replace Bs := Z.m (Kd.Rb (by refine rK ?_; exact (Kd.Rm (rf (rf (rf (Kd.Ry Bs.o A9.o (by decide))))) (fun _ h_ => h_.1))) hb); replace Cj := Z.m (Kd.Rb (by refine rK ?_; exact (Kd.Rm (rf (rf (rf (Kd.Ry Cj.o A9.o (by decide))))) (fun _ h_ => h_.1))) hb); replace A0 := Z.m (qb (g := Au) (o := .cells #[.int .i64 a0_0, .int .i64 a0_1, .slice A0_2 l0_2.length c0_2] 24 (0, 0)) (by refine bK ?_; (iterate 3 refine qF ?_ Bi); exact A0.o) hb); replace A1 := Z.m (qb (g := Av) (o := .cells #[.int .i64 a1_0, .int .i64 a1_1, .slice A1_2 l1_2.length c1_2] 24 (0, 0)) (by refine bK ?_; (iterate 3 refine qF ?_ Bj); exact A1.o) hb); replace A7 := Z.m (qb (g := AK) (o := .cells #[.int .i64 Ai, .int .i64 Aj, .slice AI Ab.length AF] 29 (0, 0)) (by refine bK ?_; (iterate 3 refine qF ?_ Bb); exact A7.o) hb); replace A8 := Z.m (qb (g := Bg) (o := .cells #[.int .i64 AW, .int .i64 AX, .slice Ax Az.length Aw] 29 (0, 0)) (by refine bK ?_; (iterate 3 refine qF ?_ Bc); exact A8.o) hb); replace Aa := Z.m (qb (g := Bp) (o := .cells #[.int .i64 AY, .int .i64 AZ, .slice AB AA.length Ay] 29 (0, 0)) (by refine bK ?_; (iterate 3 refine qF ?_ Bd); exact Aa.o) hb); replace A9 := Z.m (qb (g := BL) (o := .cells #[.int .i64 Ak, .int .i64 Al, .slice AH Ae.length AG] 29 (0, 0)) (by refine bK ?_; apply st3; refine bK ?_; exact A9.o) hb); replace HB := bB HB hb; (try clear hb); (try clear CW); (try clear hk); (try clear hi)))
     go_meet
     case rel => exact ⟨_, ((Bq != Ap)), (by first | rfl | (simp; done) | (simp [*]; done)), H', ⟨by first | omega | exact Nat.le_refl _⟩, ⟨by refine rK ?_; exact Kd.Rm AP.o (fun _ hk => ⟨hk.1.1.2, ⟨hk.1.2, hk.2⟩⟩)⟩, ⟨by refine rK ?_; exact Kd.Rm Ba.o (fun _ hk => ⟨hk.1.1.2, ⟨hk.1.2, hk.2⟩⟩)⟩, ⟨by refine rK ?_; exact Kd.Rm Bs.o (fun _ hk => ⟨hk.1.1.2, ⟨hk.1.2, hk.2⟩⟩)⟩, ⟨by refine rK ?_; exact Kd.Rm Cj.o (fun _ hk => ⟨hk.1.1.2, ⟨hk.1.2, hk.2⟩⟩)⟩, ⟨vK A0⟩, ⟨vK A1⟩, ⟨vK A7⟩, ⟨vK A8⟩, ⟨vK Aa⟩, ⟨vK A9⟩, ⟨vB HB⟩⟩
    ·(rw [if_neg c75] at H; exact absurd H (laws_FnExactStackBoards.bad_j0 _ _ _ _ _ _ _ _ _ _ _ _ _ _ _ _ _ _ _ _ _))
   case rest =>
    clear Eh
    (try clear Dg); (try clear Dh); (try clear Di); (try clear Dj); (try clear Dk); (try clear Dl); (try clear Dm); (try clear Dn)
    (try clear Do); (try clear Dp); (try clear Dq); (try clear Dr); (try clear Ds); (try clear Dt); (try clear Du); (try clear Dv)
    (try clear Dw); (try clear Dx); (try clear Dy); (try clear Dz); (try clear DA); (try clear DB); (try clear DC); (try clear DD)
    (try clear DE); (try clear DF); (try clear DG); (try clear DH); (try clear DI); (try clear DJ); (try clear DK); (try clear DL)
    (try clear DM); (try clear DN); (try clear DO); (try clear DP)
    obtain ⟨kq, CJ, rfl, HA, Ei, A6, A4, A5, A2, A0, A1, A7, A8, Aa, A9, HB⟩ := hcut
    cases kq with
    | zero => exact absurd HA.o (by simp [laws_FnExactStackBoards.j0])
    | succ kj24 =>
     have H := HA.o
     clear HA
     simp only [laws_FnExactStackBoards.j0] at H
     by_cases c100 : CJ = true
     ·(rw [if_pos c100] at H; exact absurd H (by decide))
     ·replace c100 := Bool.eq_false_iff.mpr c100
      subst c100
      have H1 : ((laws_toBoard.f kj24 a0_0 a0_1 l0_2).bind fun bt318 => ((laws_eqBoard.f kj24 AW AX Az bt318.1 bt318.2.1 bt318.2.2).bind fun CV => (if CV = true then ((laws_toBoard.f kj24 a1_0 a1_1 l1_2).bind fun bt324 => ((laws_eqBoard.f kj24 AY AZ AA bt324.1 bt324.2.1 bt324.2.2).bind fun Cp => (if Cp = true then ((laws_markBoard.f kj24 AW AX Az 1).bind fun bt330 => ((laws_markBoard.f kj24 AY AZ AA bt330.1).bind fun bt332 => (if bt332.1 < 0 then (laws_FnExactStackBoards.j1 kj24 Ap true a0_0 a0_1 l0_2 a1_0 a1_1 l1_2 Ai Aj Ab Ak Al Ae) else ((laws_eqBoard.f kj24 Ak Al Ae Ai Aj Ab).bind fun BA => (if BA = true then (laws_FnExactStackBoards.j1 kj24 Ap (Bq != Ap) a0_0 a0_1 l0_2 a1_0 a1_1 l1_2 Ai Aj Ab Ak Al Ae) else (laws_FnExactStackBoards.j1 kj24 Ap true a0_0 a0_1 l0_2 a1_0 a1_1 l1_2 Ai Aj Ab Ak Al Ae)))))) else (some false)))) else (some false)))) = some true := by rw [if_neg (show ¬ (false = true) by decide)] at H; exact H
      clear H
      have H := H1
      clear H1
      replace H := Option.bind_eq_some_iff.mp H
      obtain ⟨⟨DQ, DR, Cn⟩, DV, H⟩ := H
      replace H : ((laws_eqBoard.f kj24 AW AX Az DQ DR Cn).bind fun CV => (if CV = true then ((laws_toBoard.f kj24 a1_0 a1_1 l1_2).bind fun bt324 => ((laws_eqBoard.f kj24 AY AZ AA bt324.1 bt324.2.1 bt324.2.2).bind fun Cp => (if Cp = true then ((laws_markBoard.f kj24 AW AX Az 1).bind fun bt330 => ((laws_markBoard.f kj24 AY AZ AA bt330.1).bind fun bt332 => (if bt332.1 < 0 then (laws_FnExactStackBoards.j1 kj24 Ap true a0_0 a0_1 l0_2 a1_0 a1_1 l1_2 Ai Aj Ab Ak Al Ae) else ((laws_eqBoard.f kj24 Ak Al Ae Ai Aj Ab).bind fun BA => (if BA = true then (laws_FnExactStackBoards.j1 kj24 Ap (Bq != Ap) a0_0 a0_1 l0_2 a1_0 a1_1 l1_2 Ai Aj Ab Ak Al Ae) else (laws_FnExactStackBoards.j1 kj24 Ap true a0_0 a0_1 l0_2 a1_0 a1_1 l1_2 Ai Aj Ab Ak Al Ae)))))) else (some false)))) else (some false))) = some true := H
      have GL := Z.m DV
      clear DV
      replace H := Option.bind_eq_some_iff.mp H
      obtain ⟨CV, DW, H⟩ := H
      replace H : (if CV = true then ((laws_toBoard.f kj24 a1_0 a1_1 l1_2).bind fun bt324 => ((laws_eqBoard.f kj24 AY AZ AA bt324.1 bt324.2.1 bt324.2.2).bind fun Cp => (if Cp = true then ((laws_markBoard.f kj24 AW AX Az 1).bind fun bt330 => ((laws_markBoard.f kj24 AY AZ AA bt330.1).bind fun bt332 => (if bt332.1 < 0 then (laws_FnExactStackBoards.j1 kj24 Ap true a0_0 a0_1 l0_2 a1_0 a1_1 l1_2 Ai Aj Ab Ak Al Ae) else ((laws_eqBoard.f kj24 Ak Al Ae Ai Aj Ab).bind fun BA => (if BA = true then (laws_FnExactStackBoards.j1 kj24 Ap (Bq != Ap) a0_0 a0_1 l0_2 a1_0 a1_1 l1_2 Ai Aj Ab Ak Al Ae) else (laws_FnExactStackBoards.j1 kj24 Ap true a0_0 a0_1 l0_2 a1_0 a1_1 l1_2 Ai Aj Ab Ak Al Ae)))))) else (some false)))) else (some false)) = some true := H
      have GM := Z.m DW
      clear DW
      by_cases c103 : CV = true
      ·subst c103
       have H1 : ((laws_toBoard.f kj24 a1_0 a1_1 l1_2).bind fun bt324 => ((laws_eqBoard.f kj24 AY AZ AA bt324.1 bt324.2.1 bt324.2.2).bind fun Cp => (if Cp = true then ((laws_markBoard.f kj24 AW AX Az 1).bind fun bt330 => ((laws_markBoard.f kj24 AY AZ AA bt330.1).bind fun bt332 => (if bt332.1 < 0 then (laws_FnExactStackBoards.j1 kj24 Ap true a0_0 a0_1 l0_2 a1_0 a1_1 l1_2 Ai Aj Ab Ak Al Ae) else ((laws_eqBoard.f kj24 Ak Al Ae Ai Aj Ab).bind fun BA => (if BA = true then (laws_FnExactStackBoards.j1 kj24 Ap (Bq != Ap) a0_0 a0_1 l0_2 a1_0 a1_1 l1_2 Ai Aj Ab Ak Al Ae) else (laws_FnExactStackBoards.j1 kj24 Ap true a0_0 a0_1 l0_2 a1_0 a1_1 l1_2 Ai Aj Ab Ak Al Ae)))))) else (some false)))) = some true := by rw [if_pos rfl] at H; exact H
       clear H
       have H := H1
       clear H1
       replace H := Option.bind_eq_some_iff.mp H
       obtain ⟨⟨DS, DT, Co⟩, DX, H⟩ := H
       replace H : ((laws_eqBoard.f kj24 AY AZ AA DS DT Co).bind fun Cp => (if Cp = true then ((laws_markBoard.f kj24 AW AX Az 1).bind fun bt330 => ((laws_markBoard.f kj24 AY AZ AA bt330.1).bind fun bt332 => (if bt332.1 < 0 then (laws_FnExactStackBoards.j1 kj24 Ap true a0_0 a0_1 l0_2 a1_0 a1_1 l1_2 Ai Aj Ab Ak Al Ae) else ((laws_eqBoard.f kj24 Ak Al Ae Ai Aj Ab).bind fun BA => (if BA = true then (laws_FnExactStackBoards.j1 kj24 Ap (Bq != Ap) a0_0 a0_1 l0_2 a1_0 a1_1 l1_2 Ai Aj Ab Ak Al Ae) else (laws_FnExactStackBoards.j1 kj24 Ap true a0_0 a0_1 l0_2 a1_0 a1_1 l1_2 Ai Aj Ab Ak Al Ae)))))) else (some false))) = some true := H
       have GN := Z.m DX
       clear DX
       replace H := Option.bind_eq_some_iff.mp H
       obtain ⟨Cp, DY, H⟩ := H
       replace H : (if Cp = true then ((laws_markBoard.f kj24 AW AX Az 1).bind fun bt330 => ((laws_markBoard.f kj24 AY AZ AA bt330.1).bind fun bt332 => (if bt332.1 < 0 then (laws_FnExactStackBoards.j1 kj24 Ap true a0_0 a0_1 l0_2 a1_0 a1_1 l1_2 Ai Aj Ab Ak Al Ae) else ((laws_eqBoard.f kj24 Ak Al Ae Ai Aj Ab).bind fun BA => (if BA = true then (laws_FnExactStackBoards.j1 kj24 Ap (Bq != Ap) a0_0 a0_1 l0_2 a1_0 a1_1 l1_2 Ai Aj Ab Ak Al Ae) else (laws_FnExactStackBoards.j1 kj24 Ap true a0_0 a0_1 l0_2 a1_0 a1_1 l1_2 Ai Aj Ab Ak Al Ae)))))) else (some false)) = some true := H
       have GO := Z.m DY
       clear DY
       by_cases c106 : Cp = true
       ·subst c106
        have H1 : ((laws_markBoard.f kj24 AW AX Az 1).bind fun bt330 => ((laws_markBoard.f kj24 AY AZ AA bt330.1).bind fun bt332 => (if bt332.1 < 0 then (laws_FnExactStackBoards.j1 kj24 Ap true a0_0 a0_1 l0_2 a1_0 a1_1 l1_2 Ai Aj Ab Ak Al Ae) else ((laws_eqBoard.f kj24 Ak Al Ae Ai Aj Ab).bind fun BA => (if BA = true then (laws_FnExactStackBoards.j1 kj24 Ap (Bq != Ap) a0_0 a0_1 l0_2 a1_0 a1_1 l1_2 Ai Aj Ab Ak Al Ae) else (laws_FnExactStackBoards.j1 kj24 Ap true a0_0 a0_1 l0_2 a1_0 a1_1 l1_2 Ai Aj Ab Ak Al Ae)))))) = some true := by rw [if_pos rfl] at H; exact H
        clear H
        have H := H1
        clear H1
        replace H := Option.bind_eq_some_iff.mp H
        obtain ⟨⟨DU, B0⟩, DZ, H⟩ := H
        replace H : ((laws_markBoard.f kj24 AY AZ AA DU).bind fun bt332 => (if bt332.1 < 0 then (laws_FnExactStackBoards.j1 kj24 Ap true a0_0 a0_1 l0_2 a1_0 a1_1 l1_2 Ai Aj Ab Ak Al Ae) else ((laws_eqBoard.f kj24 Ak Al Ae Ai Aj Ab).bind fun BA => (if BA = true then (laws_FnExactStackBoards.j1 kj24 Ap (Bq != Ap) a0_0 a0_1 l0_2 a1_0 a1_1 l1_2 Ai Aj Ab Ak Al Ae) else (laws_FnExactStackBoards.j1 kj24 Ap true a0_0 a0_1 l0_2 a1_0 a1_1 l1_2 Ai Aj Ab Ak Al Ae))))) = some true := H
        have GP := Z.m DZ
        clear DZ
        replace H := Option.bind_eq_some_iff.mp H
        obtain ⟨⟨Ej, B2⟩, E0, H⟩ := H
        replace H : (if Ej < 0 then (laws_FnExactStackBoards.j1 kj24 Ap true a0_0 a0_1 l0_2 a1_0 a1_1 l1_2 Ai Aj Ab Ak Al Ae) else ((laws_eqBoard.f kj24 Ak Al Ae Ai Aj Ab).bind fun BA => (if BA = true then (laws_FnExactStackBoards.j1 kj24 Ap (Bq != Ap) a0_0 a0_1 l0_2 a1_0 a1_1 l1_2 Ai Aj Ab Ak Al Ae) else (laws_FnExactStackBoards.j1 kj24 Ap true a0_0 a0_1 l0_2 a1_0 a1_1 l1_2 Ai Aj Ab Ak Al Ae)))) = some true := H
        have GQ := Z.m E0
        clear E0
        have D0 := Z.m H
        clear H
        try go_wp2
        replace A6 := Z.m (Kd.R_drew A6.o)
        replace A4 := Z.m (Kd.R_drew A4.o)
        replace A5 := Z.m (Kd.R_drew A5.o)
        replace A2 := Z.m (Kd.R_drew A2.o)
        replace A0 := Z.m (blk_drew A0.o)
        replace A1 := Z.m (blk_drew A1.o)
        replace A7 := Z.m (blk_drew A7.o)
        replace A8 := Z.m (blk_drew A8.o)
        replace Aa := Z.m (blk_drew Aa.o)
        replace A9 := Z.m (blk_drew A9.o)
        replace HB := Z.m (qd HB.o)
        refine start_ (n := 5) (S := fun w' => w'.cell? ⟨Bg, 0, none⟩ = some (.int .i64 AW) ∧ w'.cell? ⟨Bg, 1, none⟩ = some (.int .i64 AX) ∧ w'.cell? ⟨Bg, 2, none⟩ = some (.slice Ax Az.length Aw) ∧ w'.cell? ⟨Au, 0, none⟩ = some (.int .i64 a0_0) ∧ w'.cell? ⟨Au, 1, none⟩ = some (.int .i64 a0_1) ∧ w'.cell? ⟨Au, 2, none⟩ = some (.slice A0_2 l0_2.length c0_2)) (ds := []) #[false, false, false, false, false] (by kernel_rfl) rfl rfl ⟨(ql A8.o 0).trans rfl, (ql A8.o 1).trans rfl, (ql A8.o 2).trans rfl, (ql A0.o 0).trans rfl, (ql A0.o 1).trans rfl, (ql A0.o 2).trans rfl⟩ (fun hHeld => ?_)
        generalize wc.drew = KO at A6 A4 A5 A2 A0 A1 A7 A8 Aa A9 HB hHeld ⊢
        refine take_ (i := 0) (N := some 54) (v := ?_) (a' := ?_) #[true, false, false, false, false] rfl rfl (by kernel_rfl) (fun _ _ _ h => h) (Or.inl ⟨by rfl, ?_⟩) hHeld ?_ ?_
        rotate_left
        ·rintro w' ⟨s0, s1, s2, s3, s4, s5⟩
         go_simp
         with_reducible rfl
        rotate_left
        ·simp only [Act.put, q1, q2, q3, i64_w, i32_w]
         rfl
        refine take_ (i := 1) (N := some 55) (v := ?_) (a' := ?_) #[true, true, false, false, false] rfl rfl (by kernel_rfl) (fun _ _ _ h => h) (Or.inl ⟨by rfl, ?_⟩) hHeld ?_ ?_
        rotate_left
        ·rintro w' ⟨s0, s1, s2, s3, s4, s5⟩
         go_simp
         with_reducible rfl
        rotate_left
        ·simp only [Act.put, q1, q2, q3, i64_w, i32_w]
         rfl
        refine one_ (i := 2) (N := some 56) #[true, true, true, false, false] rfl rfl (by kernel_rfl) (by decide) (fun K hK => ?_)
        refine goes_ Try.func17 (by kernel_rfl) rfl #[.agg #[.int .i64 a0_0, .int .i64 a0_1, .slice A0_2 l0_2.length c0_2]] (by rfl) rfl rfl (by (try simp only [List.map_toArray, List.map_cons, List.map_nil]); first | done | rfl | (simp only [List.length_drop, List.length_take]; rfl)) ?_
        with_reducible refine (laws_toBoard.calls kj24 a0_0 a0_1 _ _ l0_2 DQ DR Cn _ ?side1 ?side2 GL.o).mono ?_
        (case side1 => repeat (first | exact (Kd.C_below BU.o HB.o) | (with_reducible refine Kd.C_alloc ?_ _) | (with_reducible refine Kd.C_drewN ?_ _) | (with_reducible refine Kd.C_drew ?_)))
        (case side2 => exact BT.o)
        rintro e KP ⟨KM, rfl, Ar, hb⟩
        refine ⟨_, rfl, ?_⟩
        have B9 := Z.m (Kd.R_lower (Kd.R_new' (Kd.R_new' (Kd.R_new' (Kd.R_new' Ar (Kd.R_lt (vR A6))) (Kd.R_lt (vR A4))) (Kd.R_lt (vR A5))) (Kd.R_lt (vR A2))) (below_size (vB HB)))
        replace A6 := Z.m (Kd.R_elder' (vR A6) (Kd.R_base Ar) hb)
        replace A4 := Z.m (Kd.R_elder' (vR A4) (Kd.R_base Ar) hb)
        replace A5 := Z.m (Kd.R_elder' (vR A5) (Kd.R_base Ar) hb)
        replace A2 := Z.m (Kd.R_elder' (vR A2) (Kd.R_base Ar) hb)
        replace A0 := kB A0 hb
        replace A1 := kB A1 hb
        replace A7 := kB A7 hb
        replace A8 := kB A8 hb
        replace Aa := kB Aa hb
        replace A9 := kB A9 hb
        replace HB := bB HB hb
        (try clear hb); (try clear Ar)
        obtain ⟨BQ, BV, Eb⟩ := Kd.R_slice B9.o
        (first | subst Eb | (injection Eb with f1_ f2_ f3_; have f4_ := f1_.symm; have f5_ := f3_.symm; clear f1_ f2_ f3_; subst f4_; subst f5_))
        refine hK.out _ _ ⟨(ql A8.o 0).trans rfl, (ql A8.o 1).trans rfl, (ql A8.o 2).trans rfl, (ql A0.o 0).trans rfl, (ql A0.o 1).trans rfl, (ql A0.o 2).trans rfl⟩ (fun hHeld => ?_)
        clear hK K
        refine norm_ (a' := ?_) ?_ ?_
        rotate_left
        ·show Act.put _ (some 56) _ = _
         simp only [Act.put, q1, q2, q3, i64_w, i32_w]
         rfl
        refine one_ (i := 3) (N := some 57) #[true, true, true, true, false] rfl rfl (by kernel_rfl) (by decide) (fun K hK => ?_)
        refine goes_ Try.func19 (by kernel_rfl) rfl #[.agg #[.int .i64 AW, .int .i64 AX, .slice Ax Az.length Aw], .agg #[.int .i64 DQ, .int .i64 DR, .slice BQ Cn.length BV]] (by rfl) rfl rfl (by (try simp only [List.map_toArray, List.map_cons, List.map_nil]); first | done | rfl | (simp only [List.length_drop, List.length_take]; rfl)) ?_
        with_reducible refine (laws_eqBoard.calls kj24 AW AX _ _ Az DQ DR _ _ Cn true _ ?side1 ?side2 ?side3 ?side4 GM.o).mono ?_
        (case side1 => repeat (first | exact (Kd.RrZ A4.o).2.2 | (with_reducible refine Kd.C_alloc ?_ _) | (with_reducible refine Kd.C_drewN ?_ _) | (with_reducible refine Kd.C_drew ?_)))
        (case side2 => exact (Kd.RrZ A4.o).2.1)
        (case side3 => repeat (first | exact (Kd.RrZ B9.o).2.2 | (with_reducible refine Kd.C_alloc ?_ _) | (with_reducible refine Kd.C_drewN ?_ _) | (with_reducible refine Kd.C_drew ?_)))
        (case side4 => exact (Kd.RrZ B9.o).2.1)
        rintro e Jw ⟨rfl, hb⟩
        refine ⟨_, rfl, ?_⟩
        replace A6 := Z.m (Kd.Rb (vR A6) hb)
        replace A4 := Z.m (Kd.Rb (vR A4) hb)
        replace A5 := Z.m (Kd.Rb (vR A5) hb)
        replace A2 := Z.m (Kd.Rb (vR A2) hb)
        replace B9 := Z.m (Kd.Rb (vR B9) hb)
        replace A0 := kB A0 hb
        replace A1 := kB A1 hb
        replace A7 := kB A7 hb
        replace A8 := kB A8 hb
        replace Aa := kB Aa hb
        replace A9 := kB A9 hb
        replace HB := bB HB hb
        (try clear hb)
        refine hK.out _ _ ⟨(ql A8.o 0).trans rfl, (ql A8.o 1).trans rfl, (ql A8.o 2).trans rfl, (ql A0.o 0).trans rfl, (ql A0.o 1).trans rfl, (ql A0.o 2).trans rfl⟩ (fun hHeld => ?_)
        clear hK K
        refine norm_ (a' := ?_) ?_ ?_
        rotate_left
        ·show Act.put _ (some 57) _ = _
         simp only [Act.put, q1, q2, q3, i64_w, i32_w]
         rfl
        refine pure_ (i := 4) (N := some 58) (v := ?_) (a' := ?_) #[true, true, true, true, true] rfl rfl (by kernel_rfl) (fun _ _ _ h => h) (Or.inl ⟨by rfl, ?_⟩) ?_ ?_
        rotate_left
        ·intro w'
         go_simp
         with_reducible rfl
        rotate_left
        ·simp only [Act.put, q1, q2, q3, i64_w, i32_w]
         rfl
        refine done_ (by kernel_rfl) ?_
        try go_wp2
        replace A6 := Z.m (Kd.R_drew A6.o)
        replace A4 := Z.m (Kd.R_drew A4.o)
        replace A5 := Z.m (Kd.R_drew A5.o)
        replace A2 := Z.m (Kd.R_drew A2.o)
        replace B9 := Z.m (Kd.R_drew B9.o)
        replace A0 := Z.m (blk_drew A0.o)
        replace A1 := Z.m (blk_drew A1.o)
        replace A7 := Z.m (blk_drew A7.o)
        replace A8 := Z.m (blk_drew A8.o)
        replace Aa := Z.m (blk_drew Aa.o)
        replace A9 := Z.m (blk_drew A9.o)
        replace HB := Z.m (qd HB.o)
        refine start_ (n := 5) (S := fun w' => w'.cell? ⟨Bp, 0, none⟩ = some (.int .i64 AY) ∧ w'.cell? ⟨Bp, 1, none⟩ = some (.int .i64 AZ) ∧ w'.cell? ⟨Bp, 2, none⟩ = some (.slice AB AA.length Ay) ∧ w'.cell? ⟨Av, 0, none⟩ = some (.int .i64 a1_0) ∧ w'.cell? ⟨Av, 1, none⟩ = some (.int .i64 a1_1) ∧ w'.cell? ⟨Av, 2, none⟩ = some (.slice A1_2 l1_2.length c1_2)) (ds := []) #[false, false, false, false, false] (by kernel_rfl) rfl rfl ⟨(ql Aa.o 0).trans rfl, (ql Aa.o 1).trans rfl, (ql Aa.o 2).trans rfl, (ql A1.o 0).trans rfl, (ql A1.o 1).trans rfl, (ql A1.o 2).trans rfl⟩ (fun hHeld => ?_)
        generalize Jw.drew = KQ at A6 A4 A5 A2 B9 A0 A1 A7 A8 Aa A9 HB hHeld ⊢
        refine take_ (i := 0) (N := some 59) (v := ?_) (a' := ?_) #[true, false, false, false, false] rfl rfl (by kernel_rfl) (fun _ _ _ h => h) (Or.inl ⟨by rfl, ?_⟩) hHeld ?_ ?_
        rotate_left
        ·rintro w' ⟨s0, s1, s2, s3, s4, s5⟩
         go_simp
         with_reducible rfl
        rotate_left
        ·simp only [Act.put, q1, q2, q3, i64_w, i32_w]
         rfl
        refine take_ (i := 1) (N := some 60) (v := ?_) (a' := ?_) #[true, true, false, false, false] rfl rfl (by kernel_rfl) (fun _ _ _ h => h) (Or.inl ⟨by rfl, ?_⟩) hHeld ?_ ?_
        rotate_left
        ·rintro w' ⟨s0, s1, s2, s3, s4, s5⟩
         go_simp
         with_reducible rfl
        rotate_left
        ·simp only [Act.put, q1, q2, q3, i64_w, i32_w]
         rfl
        refine one_ (i := 2) (N := some 61) #[true, true, true, false, false] rfl rfl (by kernel_rfl) (by decide) (fun K hK => ?_)
        refine goes_ Try.func17 (by kernel_rfl) rfl #[.agg #[.int .i64 a1_0, .int .i64 a1_1, .slice A1_2 l1_2.length c1_2]] (by rfl) rfl rfl (by (try simp only [List.map_toArray, List.map_cons, List.map_nil]); first | done | rfl | (simp only [List.length_drop, List.length_take]; rfl)) ?_
        with_reducible refine (laws_toBoard.calls kj24 a1_0 a1_1 _ _ l1_2 DS DT Co _ ?side1 ?side2 GN.o).mono ?_
        (case side1 => repeat (first | exact (Kd.C_below BN.o HB.o) | (with_reducible refine Kd.C_alloc ?_ _) | (with_reducible refine Kd.C_drewN ?_ _) | (with_reducible refine Kd.C_drew ?_)))
        (case side2 => exact BM.o)
        rintro e KR ⟨KN, rfl, Ar, hb⟩
        refine ⟨_, rfl, ?_⟩
        have BI := Z.m (Kd.R_lower (Kd.R_new' (Kd.R_new' (Kd.R_new' (Kd.R_new' (Kd.R_new' Ar (Kd.R_lt (vR A6))) (Kd.R_lt (vR A4))) (Kd.R_lt (vR A5))) (Kd.R_lt (vR A2))) (Kd.R_lt (vR B9))) (below_size (vB HB)))
        replace A6 := Z.m (Kd.R_elder' (vR A6) (Kd.R_base Ar) hb)
        replace A4 := Z.m (Kd.R_elder' (vR A4) (Kd.R_base Ar) hb)
        replace A5 := Z.m (Kd.R_elder' (vR A5) (Kd.R_base Ar) hb)
        replace A2 := Z.m (Kd.R_elder' (vR A2) (Kd.R_base Ar) hb)
        replace B9 := Z.m (Kd.R_elder' (vR B9) (Kd.R_base Ar) hb)
        replace A0 := kB A0 hb
        replace A1 := kB A1 hb
        replace A7 := kB A7 hb
        replace A8 := kB A8 hb
        replace Aa := kB Aa hb
        replace A9 := kB A9 hb
        replace HB := bB HB hb
        (try clear hb); (try clear Ar)
        obtain ⟨BR, BW, Ec⟩ := Kd.R_slice BI.o
        (first | subst Ec | (injection Ec with f1_ f2_ f3_; have f4_ := f1_.symm; have f5_ := f3_.symm; clear f1_ f2_ f3_; subst f4_; subst f5_))
        refine hK.out _ _ ⟨(ql Aa.o 0).trans rfl, (ql Aa.o 1).trans rfl, (ql Aa.o 2).trans rfl, (ql A1.o 0).trans rfl, (ql A1.o 1).trans rfl, (ql A1.o 2).trans rfl⟩ (fun hHeld => ?_)
        clear hK K
        refine norm_ (a' := ?_) ?_ ?_
        rotate_left
        ·show Act.put _ (some 61) _ = _
         simp only [Act.put, q1, q2, q3, i64_w, i32_w]
         rfl
        refine one_ (i := 3) (N := some 62) #[true, true, true, true, false] rfl rfl (by kernel_rfl) (by decide) (fun K hK => ?_)
        refine goes_ Try.func19 (by kernel_rfl) rfl #[.agg #[.int .i64 AY, .int .i64 AZ, .slice AB AA.length Ay], .agg #[.int .i64 DS, .int .i64 DT, .slice BR Co.length BW]] (by rfl) rfl rfl (by (try simp only [List.map_toArray, List.map_cons, List.map_nil]); first | done | rfl | (simp only [List.length_drop, List.length_take]; rfl)) ?_
        with_reducible refine (laws_eqBoard.calls kj24 AY AZ _ _ AA DS DT _ _ Co true _ ?side1 ?side2 ?side3 ?side4 GO.o).mono ?_
        (case side1 => repeat (first | exact (Kd.RrZ A5.o).2.2 | (with_reducible refine Kd.C_alloc ?_ _) | (with_reducible refine Kd.C_drewN ?_ _) | (with_reducible refine Kd.C_drew ?_)))
        (case side2 => exact (Kd.RrZ A5.o).2.1)
        (case side3 => repeat (first | exact (Kd.RrZ BI.o).2.2 | (with_reducible refine Kd.C_alloc ?_ _) | (with_reducible refine Kd.C_drewN ?_ _) | (with_reducible refine Kd.C_drew ?_)))
        (case side4 => exact (Kd.RrZ BI.o).2.1)
        rintro e KS ⟨rfl, hb⟩
        refine ⟨_, rfl, ?_⟩
        replace A6 := Z.m (Kd.Rb (vR A6) hb)
        replace A4 := Z.m (Kd.Rb (vR A4) hb)
        replace A5 := Z.m (Kd.Rb (vR A5) hb)
        replace A2 := Z.m (Kd.Rb (vR A2) hb)
        replace B9 := Z.m (Kd.Rb (vR B9) hb)
        replace BI := Z.m (Kd.Rb (vR BI) hb)
        replace A0 := kB A0 hb
        replace A1 := kB A1 hb
        replace A7 := kB A7 hb
        replace A8 := kB A8 hb
        replace Aa := kB Aa hb
        replace A9 := kB A9 hb
        replace HB := bB HB hb
        (try clear hb)
        refine hK.out _ _ ⟨(ql Aa.o 0).trans rfl, (ql Aa.o 1).trans rfl, (ql Aa.o 2).trans rfl, (ql A1.o 0).trans rfl, (ql A1.o 1).trans rfl, (ql A1.o 2).trans rfl⟩ (fun hHeld => ?_)
        clear hK K
        refine norm_ (a' := ?_) ?_ ?_
        rotate_left
        ·show Act.put _ (some 62) _ = _
         simp only [Act.put, q1, q2, q3, i64_w, i32_w]
         rfl
        refine pure_ (i := 4) (N := some 63) (v := ?_) (a' := ?_) #[true, true, true, true, true] rfl rfl (by kernel_rfl) (fun _ _ _ h => h) (Or.inl ⟨by rfl, ?_⟩) ?_ ?_
        rotate_left
        ·intro w'
         go_simp
         with_reducible rfl
        rotate_left
        ·simp only [Act.put, q1, q2, q3, i64_w, i32_w]
         rfl
        refine done_ (by kernel_rfl) ?_
        have Hc := CD.o
        have HS := C0.o
        have Hd := CE.o
        have HT := C2.o
        have He := Bv.o
        have HU := Bk.o
        have Hf := C4.o
        have HV := CH.o
        have Hg := Bc.o
        have HW := Bn.o
        have D3 := bc0 A8
        have D4 := bc1 A8
        have D5 := bc2 A8
        have D9 := qz A8.o 0
        have Da := qz A8.o 1
        have Db := qz A8.o 2
        go_upto_region 21 with (first | ((with_reducible refine gc (f := 25) rfl ?_); refine gA (some 66) _ #[.agg #[.int .i64 AW, .int .i64 AX, .slice Ax Az.length Aw], .int .i64 1] ?_ Try.func25; (with_reducible refine (laws_markBoard.calls kj24 AW AX (fun k_ => some k_ = (.slice Ax Az.length Aw : Value).ownBlock) (.slice Ax Az.length Aw) Az 1 DU B0 w _ ?side1 ?side2 GP.o).mono ?_); (case side1 => repeat (first | (with_reducible first | exact HB.o | apply qa | apply qn | apply qd | refine qx ?_ CL.o | refine qx ?_ CM.o | refine qx ?_ BH.o | refine qx ?_ CX.o | refine qx ?_ CY.o | refine qx ?_ CZ.o) | exact HB.o)); (case side2 => exact Kd.Rg rfl A4.o); rintro e KT ⟨rfl, Ef, hb, hkp⟩; refine ⟨_, rfl, ?_⟩; replace A6 := Z.m (Kd.Rm (ok' := fun k_ => some k_ ≠ (.slice Ax Az.length Aw : Value).ownBlock ∧ some k_ ≠ (.slice AB AA.length Ay : Value).ownBlock ∧ some k_ ≠ (.slice AH Ae.length AG : Value).ownBlock ∧ some k_ ≠ (.slice BQ Cn.length BV : Value).ownBlock ∧ some k_ ≠ (.slice BR Co.length BW : Value).ownBlock) (Kd.Rk (A6.o) hkp (fun k_ hk_ hs_ => (hk_.1.1.1) hs_)) (fun k_ hk_ => ⟨hk_.1.1.1.1, hk_.1.1.1.2.1, hk_.1.1.1.2.2, hk_.1.1.2, hk_.1.2⟩)); replace A5 := Z.m (Kd.Rm (ok' := fun k_ => some k_ ≠ (.slice AI Ab.length AF : Value).ownBlock ∧ some k_ ≠ (.slice Ax Az.length Aw : Value).ownBlock ∧ some k_ ≠ (.slice AH Ae.length AG : Value).ownBlock ∧ some k_ ≠ (.slice BQ Cn.length BV : Value).ownBlock ∧ some k_ ≠ (.slice BR Co.length BW : Value).ownBlock) (Kd.Rk (A5.o) hkp (fun k_ hk_ hs_ => (hk_.1.1.2.1) hs_)) (fun k_ hk_ => ⟨hk_.1.1.1.1, hk_.1.1.1.2.1, hk_.1.1.1.2.2, hk_.1.1.2, hk_.1.2⟩)); replace A2 := Z.m (Kd.Rm (ok' := fun k_ => some k_ ≠ (.slice AI Ab.length AF : Value).ownBlock ∧ some k_ ≠ (.slice Ax Az.length Aw : Value).ownBlock ∧ some k_ ≠ (.slice AB AA.length Ay : Value).ownBlock ∧ some k_ ≠ (.slice BQ Cn.length BV : Value).ownBlock ∧ some k_ ≠ (.slice BR Co.length BW : Value).ownBlock) (Kd.Rk (A2.o) hkp (fun k_ hk_ hs_ => (hk_.1.1.2.1) hs_)) (fun k_ hk_ => ⟨hk_.1.1.1.1, hk_.1.1.1.2.1, hk_.1.1.1.2.2, hk_.1.1.2, hk_.1.2⟩)); replace A0 := Z.m (qk (vK A0) hkp (fun hs_ => (fun e_ => (Kd.R_ne A4.o A0.o (by decide)) e_) hs_)); replace A1 := Z.m (qk (vK A1) hkp (fun hs_ => (fun e_ => (Kd.R_ne A4.o A1.o (by decide)) e_) hs_)); replace A7 := Z.m (qk (vK A7) hkp (fun hs_ => (fun e_ => (Kd.R_ne A4.o A7.o (by decide)) e_) hs_)); replace A8 := Z.m (qk (vK A8) hkp (fun hs_ => (fun e_ => (Kd.R_ne A4.o A8.o (by decide)) e_) hs_)); replace Aa := Z.m (qk (vK Aa) hkp (fun hs_ => (fun e_ => (Kd.R_ne A4.o Aa.o (by decide)) e_) hs_)); replace A9 := Z.m (qk (vK A9) hkp (fun hs_ => (fun e_ => (Kd.R_ne A4.o A9.o (by decide)) e_) hs_)); replace A4 := Z.m (Kd.Re rfl Ef (fun k_ e_ => A4.o.1 k_ e_)); replace B9 := Z.m (Kd.Rm (ok' := fun k_ => some k_ ≠ (.slice AI Ab.length AF : Value).ownBlock ∧ some k_ ≠ (.slice Ax Az.length Aw : Value).ownBlock ∧ some k_ ≠ (.slice AB AA.length Ay : Value).ownBlock ∧ some k_ ≠ (.slice AH Ae.length AG : Value).ownBlock ∧ some k_ ≠ (.slice BR Co.length BW : Value).ownBlock) (Kd.Rk (B9.o) hkp (fun k_ hk_ hs_ => (hk_.1.1.1.2) hs_)) (fun k_ hk_ => ⟨hk_.1.1.1.1.1.2, hk_.1.1.1.1.2, hk_.1.1.1.2, hk_.1.1.2, hk_.1.2⟩)); replace BI := Z.m (Kd.Rm (ok' := fun k_ => some k_ ≠ (.slice AI Ab.length AF : Value).ownBlock ∧ some k_ ≠ (.slice Ax Az.length Aw : Value).ownBlock ∧ some k_ ≠ (.slice AB AA.length Ay : Value).ownBlock ∧ some k_ ≠ (.slice AH Ae.length AG : Value).ownBlock ∧ some k_ ≠ (.slice BQ Cn.length BV : Value).ownBlock) (Kd.Rk (BI.o) hkp (fun k_ hk_ hs_ => (hk_.1.1.1.2) hs_)) (fun k_ hk_ => ⟨hk_.1.1.1.1.1.2, hk_.1.1.1.1.2, hk_.1.1.1.2, hk_.1.1.2, hk_.1.2⟩)); replace HB := Z.m (hb); (try clear hb); (try clear hkp); (try clear Ef); have Hh := CF.o; have HX := C1.o; have Hi := CG.o; have HY := C3.o; have Hj := Bw.o; have HZ := Bl.o; have Hk := Bd.o; have J0 := Bo.o; have D6 := bc0 Aa; have D7 := bc1 Aa; have D8 := bc2 Aa; have Dc := qz Aa.o 0; have Dd := qz Aa.o 1; have De := qz Aa.o 2) | ((with_reducible refine gc (f := 25) rfl ?_); refine gA (some 69) _ #[.agg #[.int .i64 AY, .int .i64 AZ, .slice AB AA.length Ay], .int .i64 DU] ?_ Try.func25; (with_reducible refine (laws_markBoard.calls kj24 AY AZ (fun k_ => some k_ = (.slice AB AA.length Ay : Value).ownBlock) (.slice AB AA.length Ay) AA DU Ej B2 w _ ?side1 ?side2 GQ.o).mono ?_); (case side1 => repeat (first | (with_reducible first | exact HB.o | apply qa | apply qn | apply qd | refine qx ?_ CL.o | refine qx ?_ CM.o | refine qx ?_ BH.o | refine qx ?_ CX.o | refine qx ?_ CY.o | refine qx ?_ CZ.o) | exact HB.o)); (case side2 => exact Kd.Rg rfl A5.o); rintro e KU ⟨rfl, Ef, hb, hkp⟩; refine ⟨_, rfl, ?_⟩; replace A6 := Z.m (Kd.Rm (ok' := fun k_ => some k_ ≠ (.slice Ax Az.length Aw : Value).ownBlock ∧ some k_ ≠ (.slice AB AA.length Ay : Value).ownBlock ∧ some k_ ≠ (.slice AH Ae.length AG : Value).ownBlock ∧ some k_ ≠ (.slice BQ Cn.length BV : Value).ownBlock ∧ some k_ ≠ (.slice BR Co.length BW : Value).ownBlock) (Kd.Rk (A6.o) hkp (fun k_ hk_ hs_ => (hk_.2.1) hs_)) (fun k_ hk_ => ⟨hk_.1.1, hk_.1.2.1, hk_.1.2.2.1, hk_.1.2.2.2.1, hk_.1.2.2.2.2⟩)); replace A4 := Z.m (Kd.Rm (ok' := fun k_ => some k_ ≠ (.slice AI Ab.length AF : Value).ownBlock ∧ some k_ ≠ (.slice AB AA.length Ay : Value).ownBlock ∧ some k_ ≠ (.slice AH Ae.length AG : Value).ownBlock ∧ some k_ ≠ (.slice BQ Cn.length BV : Value).ownBlock ∧ some k_ ≠ (.slice BR Co.length BW : Value).ownBlock) (Kd.Rk (A4.o) hkp (fun k_ hk_ hs_ => (hk_.1.1.2.1) hs_)) (fun k_ hk_ => ⟨hk_.1.1.1.1, hk_.1.1.1.2.1, hk_.1.1.1.2.2, hk_.1.1.2, hk_.1.2⟩)); replace A2 := Z.m (Kd.Rm (ok' := fun k_ => some k_ ≠ (.slice AI Ab.length AF : Value).ownBlock ∧ some k_ ≠ (.slice Ax Az.length Aw : Value).ownBlock ∧ some k_ ≠ (.slice AB AA.length Ay : Value).ownBlock ∧ some k_ ≠ (.slice BQ Cn.length BV : Value).ownBlock ∧ some k_ ≠ (.slice BR Co.length BW : Value).ownBlock) (Kd.Rk (A2.o) hkp (fun k_ hk_ hs_ => (hk_.2.2.1) hs_)) (fun k_ hk_ => ⟨hk_.1.1, hk_.1.2.1, hk_.1.2.2.1, hk_.1.2.2.2.1, hk_.1.2.2.2.2⟩)); replace A0 := Z.m (qk (vK A0) hkp (fun hs_ => (fun e_ => (Kd.R_ne A5.o A0.o (by decide)) e_) hs_)); replace A1 := Z.m (qk (vK A1) hkp (fun hs_ => (fun e_ => (Kd.R_ne A5.o A1.o (by decide)) e_) hs_)); replace A7 := Z.m (qk (vK A7) hkp (fun hs_ => (fun e_ => (Kd.R_ne A5.o A7.o (by decide)) e_) hs_)); replace A8 := Z.m (qk (vK A8) hkp (fun hs_ => (fun e_ => (Kd.R_ne A5.o A8.o (by decide)) e_) hs_)); replace Aa := Z.m (qk (vK Aa) hkp (fun hs_ => (fun e_ => (Kd.R_ne A5.o Aa.o (by decide)) e_) hs_)); replace A9 := Z.m (qk (vK A9) hkp (fun hs_ => (fun e_ => (Kd.R_ne A5.o A9.o (by decide)) e_) hs_)); replace A5 := Z.m (Kd.Re rfl Ef (fun k_ e_ => A5.o.1 k_ e_)); replace B9 := Z.m (Kd.Rm (ok' := fun k_ => some k_ ≠ (.slice AI Ab.length AF : Value).ownBlock ∧ some k_ ≠ (.slice Ax Az.length Aw : Value).ownBlock ∧ some k_ ≠ (.slice AB AA.length Ay : Value).ownBlock ∧ some k_ ≠ (.slice AH Ae.length AG : Value).ownBlock ∧ some k_ ≠ (.slice BR Co.length BW : Value).ownBlock) (Kd.Rk (B9.o) hkp (fun k_ hk_ hs_ => (hk_.2.2.1) hs_)) (fun k_ hk_ => ⟨hk_.1.1, hk_.1.2.1, hk_.1.2.2.1, hk_.1.2.2.2.1, hk_.1.2.2.2.2⟩)); replace BI := Z.m (Kd.Rm (ok' := fun k_ => some k_ ≠ (.slice AI Ab.length AF : Value).ownBlock ∧ some k_ ≠ (.slice Ax Az.length Aw : Value).ownBlock ∧ some k_ ≠ (.slice AB AA.length Ay : Value).ownBlock ∧ some k_ ≠ (.slice AH Ae.length AG : Value).ownBlock ∧ some k_ ≠ (.slice BQ Cn.length BV : Value).ownBlock) (Kd.Rk (BI.o) hkp (fun k_ hk_ hs_ => (hk_.2.2.1) hs_)) (fun k_ hk_ => ⟨hk_.1.1, hk_.1.2.1, hk_.1.2.2.1, hk_.1.2.2.2.1, hk_.1.2.2.2.2⟩)); replace HB := Z.m (hb); (try clear hb); (try clear hkp); (try clear Ef)))
        (try simp only [Act.put, q1, q2, q3])
        go_cut [82] (fun v82 wc => ∃ (kq : Nat) (Ct : Bool), v82 = .bool Ct ∧ Z (laws_FnExactStackBoards.j1 kq Ap Ct a0_0 a0_1 l0_2 a1_0 a1_1 l1_2 Ai Aj Ab Ak Al Ae = some true) ∧ Z (kq ≤ kj24) ∧ Z (Kd.R k34 34 wc w.heap.size (fun k_ => some k_ ≠ ((.slice Ax Az.length Aw) : Value).ownBlock ∧ some k_ ≠ ((.slice AB AA.length Ay) : Value).ownBlock ∧ some k_ ≠ ((.slice AH Ae.length AG) : Value).ownBlock) (.slice AI Ab.length AF) Ab) ∧ Z (Kd.R k34 34 wc w.heap.size (fun k_ => some k_ ≠ ((.slice AI Ab.length AF) : Value).ownBlock ∧ some k_ ≠ ((.slice AB AA.length Ay) : Value).ownBlock ∧ some k_ ≠ ((.slice AH Ae.length AG) : Value).ownBlock) (.slice Ax Az.length Aw) B0) ∧ Z (Kd.R k34 34 wc w.heap.size (fun k_ => some k_ ≠ ((.slice AI Ab.length AF) : Value).ownBlock ∧ some k_ ≠ ((.slice Ax Az.length Aw) : Value).ownBlock ∧ some k_ ≠ ((.slice AH Ae.length AG) : Value).ownBlock) (.slice AB AA.length Ay) B2) ∧ Z (Kd.R k34 34 wc w.heap.size (fun k_ => some k_ ≠ ((.slice AI Ab.length AF) : Value).ownBlock ∧ some k_ ≠ ((.slice Ax Az.length Aw) : Value).ownBlock ∧ some k_ ≠ ((.slice AB AA.length Ay) : Value).ownBlock) (.slice AH Ae.length AG) Ae) ∧ Z (wc.heap[Au]? = some (.cells #[.int .i64 a0_0, .int .i64 a0_1, (.slice A0_2 l0_2.length c0_2)] 24 (0, 0))) ∧ Z (wc.heap[Av]? = some (.cells #[.int .i64 a1_0, .int .i64 a1_1, (.slice A1_2 l1_2.length c1_2)] 24 (0, 0))) ∧ Z (wc.heap[AK]? = some (.cells #[.int .i64 Ai, .int .i64 Aj, (.slice AI Ab.length AF)] 29 (0, 0))) ∧ Z (wc.heap[Bg]? = some (.cells #[.int .i64 AW, .int .i64 AX, (.slice Ax Az.length Aw)] 29 (0, 0))) ∧ Z (wc.heap[Bp]? = some (.cells #[.int .i64 AY, .int .i64 AZ, (.slice AB AA.length Ay)] 29 (0, 0))) ∧ Z (wc.heap[BL]? = some (.cells #[.int .i64 Ak, .int .i64 Al, (.slice AH Ae.length AG)] 29 (0, 0))) ∧ Z (Below w.heap.size w wc))
        case first =>
         have H := D0.o
         clear D0
         by_cases c131 : Ej < 0
         ·rw [if_pos c131] at H
          have Cv := decide_eq_true c131
          clear c131
          (first | rw [Cv] | (simp only [i64_w, i32_w]; rw [Cv]) | skip)
          have H' := Z.m H
          clear H
          go_wp2
          go_meet
          case rel => exact ⟨_, (true), (by first | rfl | (simp; done) | (simp [*]; done)), H', ⟨by have := Ei.o; first | omega | exact Nat.le_refl _⟩, ⟨by refine rK ?_; exact Kd.Rm A6.o (fun _ hk => ⟨hk.1, ⟨hk.2.1, hk.2.2.1⟩⟩)⟩, ⟨by refine rK ?_; exact Kd.Rm A4.o (fun _ hk => ⟨hk.1, ⟨hk.2.1, hk.2.2.1⟩⟩)⟩, ⟨by refine rK ?_; exact Kd.Rm A5.o (fun _ hk => ⟨hk.1, ⟨hk.2.1, hk.2.2.1⟩⟩)⟩, ⟨by refine rK ?_; exact Kd.Rm A2.o (fun _ hk => ⟨hk.1, ⟨hk.2.1, hk.2.2.1⟩⟩)⟩, ⟨vK A0⟩, ⟨vK A1⟩, ⟨vK A7⟩, ⟨vK A8⟩, ⟨vK Aa⟩, ⟨vK A9⟩, ⟨vB HB⟩⟩
         ·rw [if_neg c131] at H
          have Cv := decide_eq_false c131
          clear c131
          (first | rw [Cv] | (simp only [i64_w, i32_w]; rw [Cv]) | skip)
          replace H := Option.bind_eq_some_iff.mp H
          obtain ⟨BA, E1, H⟩ := H
          replace H : (if BA = true then (laws_FnExactStackBoards.j1 kj24 Ap (Bq != Ap) a0_0 a0_1 l0_2 a1_0 a1_1 l1_2 Ai Aj Ab Ak Al Ae) else (laws_FnExactStackBoards.j1 kj24 Ap true a0_0 a0_1 l0_2 a1_0 a1_1 l1_2 Ai Aj Ab Ak Al Ae)) = some true := H
          have GR := Z.m E1
          clear E1
          by_cases c133 : BA = true
          ·subst c133
           have H1 : (laws_FnExactStackBoards.j1 kj24 Ap (Bq != Ap) a0_0 a0_1 l0_2 a1_0 a1_1 l1_2 Ai Aj Ab Ak Al Ae) = some true := by rw [if_pos rfl] at H; exact H
           clear H
           have H := H1
           clear H1
           have H' := Z.m H
           clear H
           have Hl := Bx.o
           have J1 := Bi.o
           have Hm := By.o
           have J2 := Bj.o
           have Hn := Bm.o
           have J3 := Bb.o
           have Ho := Bn.o
           have J4 := Bc.o
           have Hp := Bo.o
           have J5 := Bd.o
           have EF := bc0 A9
           have EG := bc1 A9
           have EH := bc2 A9
           have F0 := qz A9.o 0
           have F1 := qz A9.o 1
           have F2 := qz A9.o 2
           have Hq := AD.o
           have J6 := Ag.o
           have Hr := AE.o
           have J7 := Ah.o
           have Hs := Bk.o
           have J8 := Bv.o
           have Ht := Bl.o
           have J9 := Bw.o
           have EI := bc0 A7
           have EJ := bc1 A7
           have EK := bc2 A7
           have F3 := qz A7.o 0
           have F4 := qz A7.o 1
           have F5 := qz A7.o 2
           go_wp2_with (first | (go_at_call 19; (with_reducible refine (laws_eqBoard.calls kj24 Ak Al _ _ Ae Ai Aj _ _ Ab true _ ?side1 ?side2 ?side3 ?side4 GR.o).mono ?_); (case side1 => repeat (first | exact (Kd.RrZ A2.o).2.2 | (with_reducible refine Kd.C_alloc ?_ _) | (with_reducible refine Kd.C_drewN ?_ _) | (with_reducible refine Kd.C_drew ?_))); (case side2 => exact (Kd.RrZ A2.o).2.1); (case side3 => repeat (first | exact (Kd.RrZ A6.o).2.2 | (with_reducible refine Kd.C_alloc ?_ _) | (with_reducible refine Kd.C_drewN ?_ _) | (with_reducible refine Kd.C_drew ?_))); (case side4 => exact (Kd.RrZ A6.o).2.1); rintro e KV ⟨rfl, hb⟩; replace A6 := Z.m (Kd.Rb (vR A6) hb); replace A4 := Z.m (Kd.Rb (vR A4) hb); replace A5 := Z.m (Kd.Rb (vR A5) hb); replace A2 := Z.m (Kd.Rb (vR A2) hb); replace B9 := Z.m (Kd.Rb (vR B9) hb); replace BI := Z.m (Kd.Rb (vR BI) hb); replace A0 := kB A0 hb; replace A1 := kB A1 hb; replace A7 := kB A7 hb; replace A8 := kB A8 hb; replace Aa := kB Aa hb; replace A9 := kB A9 hb; replace HB := bB HB hb; (try clear hb); (try clear CW); (try clear hk); (try clear hi)))
           go_meet
           case rel => exact ⟨_, ((Bq != Ap)), (by first | rfl | (simp; done) | (simp [*]; done)), H', ⟨by have := Ei.o; first | omega | exact Nat.le_refl _⟩, ⟨by refine rK ?_; exact Kd.Rm A6.o (fun _ hk => ⟨hk.1, ⟨hk.2.1, hk.2.2.1⟩⟩)⟩, ⟨by refine rK ?_; exact Kd.Rm A4.o (fun _ hk => ⟨hk.1, ⟨hk.2.1, hk.2.2.1⟩⟩)⟩, ⟨by refine rK ?_; exact Kd.Rm A5.o (fun _ hk => ⟨hk.1, ⟨hk.2.1, hk.2.2.1⟩⟩)⟩, ⟨by refine rK ?_; exact Kd.Rm A2.o (fun _ hk => ⟨hk.1, ⟨hk.2.1, hk.2.2.1⟩⟩)⟩, ⟨vK A0⟩, ⟨vK A1⟩, ⟨vK A7⟩, ⟨vK A8⟩, ⟨vK Aa⟩, ⟨vK A9⟩, ⟨vB HB⟩⟩
          ·(rw [if_neg c133] at H; exact absurd H (laws_FnExactStackBoards.bad_j1 _ _ _ _ _ _ _ _ _ _ _ _ _ _))
        case rest =>
         clear D0
         (try clear c100); (try clear c103); (try clear c106)
         (try clear D3); (try clear D4); (try clear D5); (try clear D6); (try clear D7); (try clear D8); (try clear D9); (try clear Da)
         (try clear Db); (try clear Dc); (try clear Dd); (try clear De)
         obtain ⟨kq, Ct, rfl, HA, EA, A6, A4, A5, A2, A0, A1, A7, A8, Aa, A9, HB⟩ := hcut
         have Ac := (Kd.RrZ A4.o).1
         rw [Ac] at A4
         (try simp only [Ac])
         (try simp only [Ac] at A0)
         (try simp only [Ac] at A1)
         (try simp only [Ac] at A7)
         (try simp only [Ac] at A8)
         (try simp only [Ac] at Aa)
         (try simp only [Ac] at A9)
         (try simp only [Ac] at A6)
         (try simp only [Ac] at A5)
         (try simp only [Ac] at A2)
         have Ad := (Kd.RrZ A5.o).1
         rw [Ad] at A5
         (try simp only [Ad])
         (try simp only [Ad] at A0)
         (try simp only [Ad] at A1)
         (try simp only [Ad] at A7)
         (try simp only [Ad] at A8)
         (try simp only [Ad] at Aa)
         (try simp only [Ad] at A9)
         (try simp only [Ad] at A6)
         (try simp only [Ad] at A4)
         (try simp only [Ad] at A2)
         cases kq with
         | zero => exact absurd HA.o (by simp [laws_FnExactStackBoards.j1])
         | succ kj108 =>
          have H := HA.o
          clear HA
          simp only [laws_FnExactStackBoards.j1] at H
          by_cases c158 : Ct = true
          ·(rw [if_pos c158] at H; exact absurd H (by decide))
          ·replace c158 := Bool.eq_false_iff.mpr c158
           subst c158
           have H1 : ((laws_markBoard.f kj108 Ak Al Ae 1).bind fun bt335 => ((laws_heldBoard.f kj108 Ak Al bt335.2 1).bind fun Cy => (if Cy < 0 then (some false) else (if Cy = bt335.1 then ((laws_toBoard.f kj108 a0_0 a0_1 l0_2).bind fun bt338 => ((laws_toBoard.f kj108 a1_0 a1_1 l1_2).bind fun bt343 => ((impl_StackBoards.f kj108 bt338.1 bt338.2.1 bt338.2.2 bt343.1 bt343.2.1 bt343.2.2).bind fun bt348 => ((laws_eqBoard.f kj108 bt348.1 bt348.2.1 bt348.2.2.1 Ai Aj Ab).bind fun BX => (if BX = true then (laws_FnExactStackBoards.j2 kj108 bt335.1 (bt348.2.2.2 != Ap) Ak Al bt335.2) else (laws_FnExactStackBoards.j2 kj108 bt335.1 true Ak Al bt335.2)))))) else (some false))))) = some true := by rw [if_neg (show ¬ (false = true) by decide)] at H; exact H
           clear H
           have H := H1
           clear H1
           replace H := Option.bind_eq_some_iff.mp H
           obtain ⟨⟨Br, Be⟩, E2, H⟩ := H
           replace H : ((laws_heldBoard.f kj108 Ak Al Be 1).bind fun Cy => (if Cy < 0 then (some false) else (if Cy = Br then ((laws_toBoard.f kj108 a0_0 a0_1 l0_2).bind fun bt338 => ((laws_toBoard.f kj108 a1_0 a1_1 l1_2).bind fun bt343 => ((impl_StackBoards.f kj108 bt338.1 bt338.2.1 bt338.2.2 bt343.1 bt343.2.1 bt343.2.2).bind fun bt348 => ((laws_eqBoard.f kj108 bt348.1 bt348.2.1 bt348.2.2.1 Ai Aj Ab).bind fun BX => (if BX = true then (laws_FnExactStackBoards.j2 kj108 Br (bt348.2.2.2 != Ap) Ak Al Be) else (laws_FnExactStackBoards.j2 kj108 Br true Ak Al Be)))))) else (some false)))) = some true := H
           have GS := Z.m E2
           clear E2
           replace H := Option.bind_eq_some_iff.mp H
           obtain ⟨Cy, E3, H⟩ := H
           replace H : (if Cy < 0 then (some false) else (if Cy = Br then ((laws_toBoard.f kj108 a0_0 a0_1 l0_2).bind fun bt338 => ((laws_toBoard.f kj108 a1_0 a1_1 l1_2).bind fun bt343 => ((impl_StackBoards.f kj108 bt338.1 bt338.2.1 bt338.2.2 bt343.1 bt343.2.1 bt343.2.2).bind fun bt348 => ((laws_eqBoard.f kj108 bt348.1 bt348.2.1 bt348.2.2.1 Ai Aj Ab).bind fun BX => (if BX = true then (laws_FnExactStackBoards.j2 kj108 Br (bt348.2.2.2 != Ap) Ak Al Be) else (laws_FnExactStackBoards.j2 kj108 Br true Ak Al Be)))))) else (some false))) = some true := H
           have GT := Z.m E3
           clear E3
           by_cases c161 : Cy < 0
           ·(rw [if_pos c161] at H; exact absurd H (by decide))
           ·rw [if_neg c161] at H
            have D2 := decide_eq_false c161
            (try simp only [Ac] at D2)
            (try simp only [Ad] at D2)
            clear c161
            by_cases c171 : Cy = Br
            ·rw [if_pos c171] at H
             have GX := beq_iff_eq.mpr c171
             have GY := bne_eq_false_iff_eq.mpr c171
             clear c171
             replace H := Option.bind_eq_some_iff.mp H
             obtain ⟨⟨Ca, Cb, BE⟩, E4, H⟩ := H
             replace H : ((laws_toBoard.f kj108 a1_0 a1_1 l1_2).bind fun bt343 => ((impl_StackBoards.f kj108 Ca Cb BE bt343.1 bt343.2.1 bt343.2.2).bind fun bt348 => ((laws_eqBoard.f kj108 bt348.1 bt348.2.1 bt348.2.2.1 Ai Aj Ab).bind fun BX => (if BX = true then (laws_FnExactStackBoards.j2 kj108 Br (bt348.2.2.2 != Ap) Ak Al Be) else (laws_FnExactStackBoards.j2 kj108 Br true Ak Al Be))))) = some true := H
             have Em := Z.m E4
             clear E4
             replace H := Option.bind_eq_some_iff.mp H
             obtain ⟨⟨Cd, Ce, BF⟩, E5, H⟩ := H
             replace H : ((impl_StackBoards.f kj108 Ca Cb BE Cd Ce BF).bind fun bt348 => ((laws_eqBoard.f kj108 bt348.1 bt348.2.1 bt348.2.2.1 Ai Aj Ab).bind fun BX => (if BX = true then (laws_FnExactStackBoards.j2 kj108 Br (bt348.2.2.2 != Ap) Ak Al Be) else (laws_FnExactStackBoards.j2 kj108 Br true Ak Al Be)))) = some true := H
             have Eg := Z.m E5
             clear E5
             replace H := Option.bind_eq_some_iff.mp H
             obtain ⟨⟨Cq, Cr, BB, Cz⟩, E6, H⟩ := H
             replace H : ((laws_eqBoard.f kj108 Cq Cr BB Ai Aj Ab).bind fun BX => (if BX = true then (laws_FnExactStackBoards.j2 kj108 Br (Cz != Ap) Ak Al Be) else (laws_FnExactStackBoards.j2 kj108 Br true Ak Al Be))) = some true := H
             have Df := Z.m E6
             clear E6
             have D1 := Z.m H
             clear H
             have Hu := Bx.o
             have Ja := Bi.o
             have Hv := By.o
             have Jb := Bj.o
             have Hw := Bm.o
             have Jc := Bb.o
             have Hx := Bn.o
             have Jd := Bc.o
             have Hy := Bo.o
             have Je := Bd.o
             have EL := bc0 A9
             have EM := bc1 A9
             have EN := bc2 A9
             have F6 := qz A9.o 0
             have F7 := qz A9.o 1
             have F8 := qz A9.o 2
             try go_wp2_with (first | ((with_reducible refine gc (f := 25) rfl ?_); refine gA (some 85) _ #[.agg #[.int .i64 Ak, .int .i64 Al, .slice AH Ae.length AG], .int .i64 1] ?_ Try.func25; (with_reducible refine (laws_markBoard.calls kj108 Ak Al (fun k_ => some k_ = (.slice AH Ae.length AG : Value).ownBlock) (.slice AH Ae.length AG) Ae 1 Br Be w _ ?side1 ?side2 GS.o).mono ?_); (case side1 => repeat (first | (with_reducible first | exact HB.o | apply qa | apply qn | apply qd | refine qx ?_ CL.o | refine qx ?_ CM.o | refine qx ?_ BH.o | refine qx ?_ CX.o | refine qx ?_ CY.o | refine qx ?_ CZ.o) | exact HB.o)); (case side2 => exact Kd.Rg rfl A2.o); rintro e KW ⟨rfl, Ef, hb, hkp⟩; refine ⟨_, rfl, ?_⟩; replace A6 := Z.m (Kd.Rm (ok' := fun k_ => some k_ ≠ (.slice Ax B0.length Aw : Value).ownBlock ∧ some k_ ≠ (.slice AB B2.length Ay : Value).ownBlock ∧ some k_ ≠ (.slice AH Ae.length AG : Value).ownBlock) (Kd.Rk (A6.o) hkp (fun k_ hk_ hs_ => (hk_.2.2) hs_)) (fun k_ hk_ => ⟨hk_.1.1, hk_.1.2.1, hk_.1.2.2⟩)); replace A4 := Z.m (Kd.Rm (ok' := fun k_ => some k_ ≠ (.slice AI Ab.length AF : Value).ownBlock ∧ some k_ ≠ (.slice AB B2.length Ay : Value).ownBlock ∧ some k_ ≠ (.slice AH Ae.length AG : Value).ownBlock) (Kd.Rk (A4.o) hkp (fun k_ hk_ hs_ => (hk_.2.2) hs_)) (fun k_ hk_ => ⟨hk_.1.1, hk_.1.2.1, hk_.1.2.2⟩)); replace A5 := Z.m (Kd.Rm (ok' := fun k_ => some k_ ≠ (.slice AI Ab.length AF : Value).ownBlock ∧ some k_ ≠ (.slice Ax B0.length Aw : Value).ownBlock ∧ some k_ ≠ (.slice AH Ae.length AG : Value).ownBlock) (Kd.Rk (A5.o) hkp (fun k_ hk_ hs_ => (hk_.2.2) hs_)) (fun k_ hk_ => ⟨hk_.1.1, hk_.1.2.1, hk_.1.2.2⟩)); replace A0 := Z.m (qk (vK A0) hkp (fun hs_ => (fun e_ => (Kd.R_ne A2.o A0.o (by decide)) e_) hs_)); replace A1 := Z.m (qk (vK A1) hkp (fun hs_ => (fun e_ => (Kd.R_ne A2.o A1.o (by decide)) e_) hs_)); replace A7 := Z.m (qk (vK A7) hkp (fun hs_ => (fun e_ => (Kd.R_ne A2.o A7.o (by decide)) e_) hs_)); replace A8 := Z.m (qk (vK A8) hkp (fun hs_ => (fun e_ => (Kd.R_ne A2.o A8.o (by decide)) e_) hs_)); replace Aa := Z.m (qk (vK Aa) hkp (fun hs_ => (fun e_ => (Kd.R_ne A2.o Aa.o (by decide)) e_) hs_)); replace A9 := Z.m (qk (vK A9) hkp (fun hs_ => (fun e_ => (Kd.R_ne A2.o A9.o (by decide)) e_) hs_)); replace A2 := Z.m (Kd.Re rfl Ef (fun k_ e_ => A2.o.1 k_ e_)); replace HB := Z.m (hb); (try clear hb); (try clear hkp); (try clear Ef); have EO := bc0 A9; have EP := bc1 A9; have EQ := bc2 A9; have F9 := qz A9.o 0; have Fa := qz A9.o 1; have Fb := qz A9.o 2) | ((with_reducible refine gc (f := 26) rfl ?_); refine goesL_ (some 88) rfl rfl Try.func26 (by kernel_rfl) rfl #[.agg #[.int .i64 Ak, .int .i64 Al, .slice AH Be.length AG], .int .i64 1] rfl (by (try simp only [List.map_toArray, List.map_cons, List.map_nil]); first | done | (rw [show Be.length = Ae.length from (Kd.RrZ A2.o).1.symm] <;> rfl) | rfl | (simp only [List.length_drop, List.length_take]; rfl)) ?_; (with_reducible refine (laws_heldBoard.calls kj108 Ak Al _ _ Be 1 Cy _ ?side1 ?side2 GT.o).mono ?_); (case side1 => repeat (first | exact (Kd.RrZ A2.o).2.2 | (with_reducible refine Kd.C_alloc ?_ _) | (with_reducible refine Kd.C_drewN ?_ _) | (with_reducible refine Kd.C_drew ?_))); (case side2 => rw [show Be.length = Ae.length from (Kd.RrZ A2.o).1.symm]; exact (Kd.RrZ A2.o).2.1); rintro e Jx ⟨rfl, hb⟩; refine ⟨_, rfl, ?_⟩; replace A6 := Z.m (Kd.Rb (vR A6) hb); replace A4 := Z.m (Kd.Rb (vR A4) hb); replace A5 := Z.m (Kd.Rb (vR A5) hb); replace A2 := Z.m (Kd.Rb (vR A2) hb); replace A0 := kB A0 hb; replace A1 := kB A1 hb; replace A7 := kB A7 hb; replace A8 := kB A8 hb; replace Aa := kB Aa hb; replace A9 := kB A9 hb; replace HB := bB HB hb; (try clear hb); (try clear CW); (try clear hk); (try clear hi)))
             replace A6 := Z.m (Kd.R_drew A6.o)
             replace A4 := Z.m (Kd.R_drew A4.o)
             replace A5 := Z.m (Kd.R_drew A5.o)
             replace A2 := Z.m (Kd.R_drew A2.o)
             replace A0 := Z.m (blk_drew A0.o)
             replace A1 := Z.m (blk_drew A1.o)
             replace A7 := Z.m (blk_drew A7.o)
             replace A8 := Z.m (blk_drew A8.o)
             replace Aa := Z.m (blk_drew Aa.o)
             replace A9 := Z.m (blk_drew A9.o)
             replace HB := Z.m (qd HB.o)
             refine start_ (n := 11) (S := fun w' => w'.cell? ⟨Au, 0, none⟩ = some (.int .i64 a0_0) ∧ w'.cell? ⟨Au, 1, none⟩ = some (.int .i64 a0_1) ∧ w'.cell? ⟨Au, 2, none⟩ = some (.slice A0_2 l0_2.length c0_2) ∧ w'.cell? ⟨Av, 0, none⟩ = some (.int .i64 a1_0) ∧ w'.cell? ⟨Av, 1, none⟩ = some (.int .i64 a1_1) ∧ w'.cell? ⟨Av, 2, none⟩ = some (.slice A1_2 l1_2.length c1_2)) (ds := []) #[false, false, false, false, false, false, false, false, false, false, false] (by kernel_rfl) rfl rfl ⟨(ql A0.o 0).trans rfl, (ql A0.o 1).trans rfl, (ql A0.o 2).trans rfl, (ql A1.o 0).trans rfl, (ql A1.o 1).trans rfl, (ql A1.o 2).trans rfl⟩ (fun hHeld => ?_); refine with_tabW laws_FnExactStackBoards.tab31 laws_FnExactStackBoards.bits31 (fun HT_ HW_ => ?_)
             generalize Jx.drew = KX at A6 A4 A5 A2 A0 A1 A7 A8 Aa A9 HB hHeld ⊢
             refine take_ (i := 0) (N := some 95) (v := ?_) (a' := ?_) #[true, false, false, false, false, false, false, false, false, false, false] rfl rfl (take_ofW HT_.o HW_.o (by kernel_rfl)) (fun _ _ _ h => h) (Or.inl ⟨by rfl, ?_⟩) hHeld ?_ ?_
             rotate_left
             ·rintro w' ⟨s0, s1, s2, s3, s4, s5⟩
              go_simp
              with_reducible rfl
             rotate_left
             ·simp only [Act.put, q1, q2, q3, i64_w, i32_w]
              rfl
             refine take_ (i := 2) (N := some 97) (v := ?_) (a' := ?_) #[true, false, true, false, false, false, false, false, false, false, false] rfl rfl (take_ofW HT_.o HW_.o (by kernel_rfl)) (fun _ _ _ h => h) (Or.inl ⟨by rfl, ?_⟩) hHeld ?_ ?_
             rotate_left
             ·rintro w' ⟨s0, s1, s2, s3, s4, s5⟩
              go_simp
              with_reducible rfl
             rotate_left
             ·simp only [Act.put, q1, q2, q3, i64_w, i32_w]
              rfl
             refine join_ (σ := Value × Value × Value × Nat) 2 #[true, true, true, true, true, true, true, true, true, false, false] (fun s_ => [(96, .agg #[.int .i64 Ca, .int .i64 Cb, s_.1]), (98, .agg #[.int .i64 Cd, .int .i64 Ce, s_.2.1]), (99, .tuple #[.agg #[.int .i64 Cq, .int .i64 Cr, s_.2.2.1], .bool Cz]), (15, .pointer (some ⟨s_.2.2.2, 0, none⟩)), (94, .tuple #[.agg #[.int .i64 Cq, .int .i64 Cr, s_.2.2.1], .bool Cz]), (100, .agg #[.int .i64 Cq, .int .i64 Cr, s_.2.2.1]), (101, .bool Cz)]) (fun s_ w' => (w'.cell? ⟨Au, 0, none⟩ = some (.int .i64 a0_0) ∧ w'.cell? ⟨Au, 1, none⟩ = some (.int .i64 a0_1) ∧ w'.cell? ⟨Au, 2, none⟩ = some (.slice A0_2 l0_2.length c0_2) ∧ w'.cell? ⟨Av, 0, none⟩ = some (.int .i64 a1_0) ∧ w'.cell? ⟨Av, 1, none⟩ = some (.int .i64 a1_1) ∧ w'.cell? ⟨Av, 2, none⟩ = some (.slice A1_2 l1_2.length c1_2)) ∧ (Kd.R k34 34 w' w.heap.size (fun k_ => some k_ ≠ (s_.2.1 : Value).ownBlock ∧ some k_ ≠ (s_.2.2.1 : Value).ownBlock ∧ some k_ ≠ (.slice AI Ab.length AF : Value).ownBlock ∧ some k_ ≠ (.slice Ax B0.length Aw : Value).ownBlock ∧ some k_ ≠ (.slice AB B2.length Ay : Value).ownBlock ∧ some k_ ≠ (.slice AH Ae.length AG : Value).ownBlock) s_.1 BE) ∧ (Kd.R k34 34 w' w.heap.size (fun k_ => some k_ ≠ (s_.1 : Value).ownBlock ∧ some k_ ≠ (s_.2.2.1 : Value).ownBlock ∧ some k_ ≠ (.slice AI Ab.length AF : Value).ownBlock ∧ some k_ ≠ (.slice Ax B0.length Aw : Value).ownBlock ∧ some k_ ≠ (.slice AB B2.length Ay : Value).ownBlock ∧ some k_ ≠ (.slice AH Ae.length AG : Value).ownBlock) s_.2.1 BF) ∧ (Kd.R k34 34 w' w.heap.size (fun k_ => some k_ ≠ (s_.1 : Value).ownBlock ∧ some k_ ≠ (s_.2.1 : Value).ownBlock ∧ some k_ ≠ (.slice AI Ab.length AF : Value).ownBlock ∧ some k_ ≠ (.slice Ax B0.length Aw : Value).ownBlock ∧ some k_ ≠ (.slice AB B2.length Ay : Value).ownBlock ∧ some k_ ≠ (.slice AH Ae.length AG : Value).ownBlock) s_.2.2.1 BB) ∧ (Kd.R k34 34 w' w.heap.size (fun k_ => some k_ ≠ (s_.1 : Value).ownBlock ∧ some k_ ≠ (s_.2.1 : Value).ownBlock ∧ some k_ ≠ (s_.2.2.1 : Value).ownBlock ∧ some k_ ≠ (.slice Ax B0.length Aw : Value).ownBlock ∧ some k_ ≠ (.slice AB B2.length Ay : Value).ownBlock ∧ some k_ ≠ (.slice AH Ae.length AG : Value).ownBlock) (.slice AI Ab.length AF) Ab) ∧ (Kd.R k34 34 w' w.heap.size (fun k_ => some k_ ≠ (s_.1 : Value).ownBlock ∧ some k_ ≠ (s_.2.1 : Value).ownBlock ∧ some k_ ≠ (s_.2.2.1 : Value).ownBlock ∧ some k_ ≠ (.slice AI Ab.length AF : Value).ownBlock ∧ some k_ ≠ (.slice AB B2.length Ay : Value).ownBlock ∧ some k_ ≠ (.slice AH Ae.length AG : Value).ownBlock) (.slice Ax B0.length Aw) B0) ∧ (Kd.R k34 34 w' w.heap.size (fun k_ => some k_ ≠ (s_.1 : Value).ownBlock ∧ some k_ ≠ (s_.2.1 : Value).ownBlock ∧ some k_ ≠ (s_.2.2.1 : Value).ownBlock ∧ some k_ ≠ (.slice AI Ab.length AF : Value).ownBlock ∧ some k_ ≠ (.slice Ax B0.length Aw : Value).ownBlock ∧ some k_ ≠ (.slice AH Ae.length AG : Value).ownBlock) (.slice AB B2.length Ay) B2) ∧ (Kd.R k34 34 w' w.heap.size (fun k_ => some k_ ≠ (s_.1 : Value).ownBlock ∧ some k_ ≠ (s_.2.1 : Value).ownBlock ∧ some k_ ≠ (s_.2.2.1 : Value).ownBlock ∧ some k_ ≠ (.slice AI Ab.length AF : Value).ownBlock ∧ some k_ ≠ (.slice Ax B0.length Aw : Value).ownBlock ∧ some k_ ≠ (.slice AB B2.length Ay : Value).ownBlock) (.slice AH Ae.length AG) Be) ∧ (w'.heap[Au]? = some (.cells #[.int .i64 a0_0, .int .i64 a0_1, .slice A0_2 l0_2.length c0_2] 24 (0, 0))) ∧ (w'.heap[Av]? = some (.cells #[.int .i64 a1_0, .int .i64 a1_1, .slice A1_2 l1_2.length c1_2] 24 (0, 0))) ∧ (w'.heap[AK]? = some (.cells #[.int .i64 Ai, .int .i64 Aj, .slice AI Ab.length AF] 29 (0, 0))) ∧ (w'.heap[Bg]? = some (.cells #[.int .i64 AW, .int .i64 AX, .slice Ax B0.length Aw] 29 (0, 0))) ∧ (w'.heap[Bp]? = some (.cells #[.int .i64 AY, .int .i64 AZ, .slice AB B2.length Ay] 29 (0, 0))) ∧ (w'.heap[BL]? = some (.cells #[.int .i64 Ak, .int .i64 Al, .slice AH Ae.length AG] 29 (0, 0))) ∧ (w'.heap[s_.2.2.2]? = some (.cells #[.int .i64 0, .int .i64 0, .slice none 0 0] 29 (0, 0))) ∧ (w.heap.size ≤ s_.2.2.2) ∧ (w.heap.size ≤ s_.2.2.2) ∧ (Au ≠ s_.2.2.2) ∧ (s_.2.2.2 ≠ Au) ∧ (Av ≠ s_.2.2.2) ∧ (s_.2.2.2 ≠ Av) ∧ (AK ≠ s_.2.2.2) ∧ (s_.2.2.2 ≠ AK) ∧ (Bg ≠ s_.2.2.2) ∧ (s_.2.2.2 ≠ Bg) ∧ (Bp ≠ s_.2.2.2) ∧ (s_.2.2.2 ≠ Bp) ∧ (BL ≠ s_.2.2.2) ∧ (s_.2.2.2 ≠ BL) ∧ (Below w.heap.size w w')) ?_ ?_
             rotate_left
             ·intro hCont
              refine two_ (i := 1) (j := 8) (Ni := some 96) (Nj := some 15) #[true, true, true, false, false, false, false, false, false, false, false] #[true, false, true, false, false, false, false, false, true, false, false] rfl rfl rfl rfl (two_of HT_.o (by kernel_rfl)) (by decide) (by decide) (fun K hK => ?_) (fun K hK => ?_)
              ·skip
               refine goes_ Try.func17 (by kernel_rfl) rfl #[.agg #[.int .i64 a0_0, .int .i64 a0_1, .slice A0_2 l0_2.length c0_2]] (by rfl) rfl rfl (by (try simp only [List.map_toArray, List.map_cons, List.map_nil]); first | done | rfl | (simp only [List.length_drop, List.length_take]; rfl)) ?_
               with_reducible refine (laws_toBoard.calls kj108 a0_0 a0_1 _ _ l0_2 Ca Cb BE _ ?side1 ?side2 Em.o).mono ?_
               (case side1 => repeat (first | exact (Kd.C_below BU.o HB.o) | (with_reducible refine Kd.C_alloc ?_ _) | (with_reducible refine Kd.C_drewN ?_ _) | (with_reducible refine Kd.C_drew ?_)))
               (case side2 => exact BT.o)
               rintro e Jy ⟨CB, rfl, Ar, hb⟩
               refine ⟨_, rfl, ?_⟩
               have At := Z.m (Kd.R_lower (Kd.R_new' (Kd.R_new' (Kd.R_new' (Kd.R_new' Ar (Kd.R_lt (vR A6))) (Kd.R_lt (vR A4))) (Kd.R_lt (vR A5))) (Kd.R_lt (vR A2))) (below_size (vB HB)))
               replace A6 := Z.m (Kd.R_elder' (vR A6) (Kd.R_base Ar) hb)
               replace A4 := Z.m (Kd.R_elder' (vR A4) (Kd.R_base Ar) hb)
               replace A5 := Z.m (Kd.R_elder' (vR A5) (Kd.R_base Ar) hb)
               replace A2 := Z.m (Kd.R_elder' (vR A2) (Kd.R_base Ar) hb)
               replace A0 := kB A0 hb
               replace A1 := kB A1 hb
               replace A7 := kB A7 hb
               replace A8 := kB A8 hb
               replace Aa := kB Aa hb
               replace A9 := kB A9 hb
               replace HB := bB HB hb
               (try clear hb); (try clear Ar)
               refine hK.out _ _ ⟨(ql A0.o 0).trans rfl, (ql A0.o 1).trans rfl, (ql A0.o 2).trans rfl, (ql A1.o 0).trans rfl, (ql A1.o 1).trans rfl, (ql A1.o 2).trans rfl⟩ (fun hHeld => ?_)
               clear hK K
               refine norm_ (a' := ?_) ?_ ?_
               rotate_left
               ·show Act.put _ (some 96) _ = _
                simp only [Act.put, q1, q2, q3, i64_w, i32_w]
                rfl
               refine two_ (i := 3) (j := 8) (Ni := some 98) (Nj := some 15) #[true, true, true, true, false, false, false, false, false, false, false] #[true, true, true, false, false, false, false, false, true, false, false] rfl rfl rfl rfl (two_of HT_.o (by kernel_rfl)) (by decide) (by decide) (fun K hK => ?_) (fun K hK => ?_)
               ·skip
                refine goes_ Try.func17 (by kernel_rfl) rfl #[.agg #[.int .i64 a1_0, .int .i64 a1_1, .slice A1_2 l1_2.length c1_2]] (by rfl) rfl rfl (by (try simp only [List.map_toArray, List.map_cons, List.map_nil]); first | done | rfl | (simp only [List.length_drop, List.length_take]; rfl)) ?_
                with_reducible refine (laws_toBoard.calls kj108 a1_0 a1_1 _ _ l1_2 Cd Ce BF _ ?side1 ?side2 Eg.o).mono ?_
                (case side1 => repeat (first | exact (Kd.C_below BN.o HB.o) | (with_reducible refine Kd.C_alloc ?_ _) | (with_reducible refine Kd.C_drewN ?_ _) | (with_reducible refine Kd.C_drew ?_)))
                (case side2 => exact BM.o)
                rintro e FW ⟨Cs, rfl, Ar, hb⟩
                refine ⟨_, rfl, ?_⟩
                have AC := Z.m (Kd.R_lower (Kd.R_new' (Kd.R_new' (Kd.R_new' (Kd.R_new' (Kd.R_new' Ar (Kd.R_lt (vR A6))) (Kd.R_lt (vR A4))) (Kd.R_lt (vR A5))) (Kd.R_lt (vR A2))) (Kd.R_lt (vR At))) (below_size (vB HB)))
                replace A6 := Z.m (Kd.R_elder' (vR A6) (Kd.R_base Ar) hb)
                replace A4 := Z.m (Kd.R_elder' (vR A4) (Kd.R_base Ar) hb)
                replace A5 := Z.m (Kd.R_elder' (vR A5) (Kd.R_base Ar) hb)
                replace A2 := Z.m (Kd.R_elder' (vR A2) (Kd.R_base Ar) hb)
                replace At := Z.m (Kd.R_elder' (vR At) (Kd.R_base Ar) hb)
                replace A0 := kB A0 hb
                replace A1 := kB A1 hb
                replace A7 := kB A7 hb
                replace A8 := kB A8 hb
                replace Aa := kB Aa hb
                replace A9 := kB A9 hb
                replace HB := bB HB hb
                (try clear hb); (try clear Ar)
                obtain ⟨E9, Ea, Ed⟩ := Kd.R_slice At.o
                (first | subst Ed | (injection Ed with f1_ f2_ f3_; have f4_ := f1_.symm; have f5_ := f3_.symm; clear f1_ f2_ f3_; subst f4_; subst f5_))
                obtain ⟨BG, BJ, BK⟩ := Kd.R_slice AC.o
                (first | subst BK | (injection BK with f1_ f2_ f3_; have f4_ := f1_.symm; have f5_ := f3_.symm; clear f1_ f2_ f3_; subst f4_; subst f5_))
                refine hK.out _ _ ⟨(ql A0.o 0).trans rfl, (ql A0.o 1).trans rfl, (ql A0.o 2).trans rfl, (ql A1.o 0).trans rfl, (ql A1.o 1).trans rfl, (ql A1.o 2).trans rfl⟩ (fun hHeld => ?_)
                clear hK K
                refine norm_ (a' := ?_) ?_ ?_
                rotate_left
                ·show Act.put _ (some 98) _ = _
                 simp only [Act.put, q1, q2, q3, i64_w, i32_w]
                 rfl
                refine two_ (i := 4) (j := 8) (Ni := some 99) (Nj := some 15) #[true, true, true, true, true, false, false, false, false, false, false] #[true, true, true, true, false, false, false, false, true, false, false] rfl rfl rfl rfl (two_of HT_.o (by kernel_rfl)) (by decide) (by decide) (fun K hK => ?_) (fun K hK => ?_)
                ·skip
                 refine goes_ Try.func28 (by kernel_rfl) rfl #[.agg #[.int .i64 Ca, .int .i64 Cb, .slice E9 BE.length Ea], .agg #[.int .i64 Cd, .int .i64 Ce, .slice BG BF.length BJ]] (by rfl) rfl rfl (by (try simp only [List.map_toArray, List.map_cons, List.map_nil]); first | done | rfl | (simp only [List.length_drop, List.length_take]; rfl)) ?_
                 with_reducible refine (impl_StackBoards.calls kj108 Ca Cb _ _ BE Cd Ce _ _ BF Cq Cr BB Cz _ ?side1 ?side2 ?side3 ?side4 Df.o).mono ?_
                 (case side1 => repeat (first | exact (Kd.RrZ At.o).2.2 | (with_reducible refine Kd.C_alloc ?_ _) | (with_reducible refine Kd.C_drewN ?_ _) | (with_reducible refine Kd.C_drew ?_)))
                 (case side2 => exact (Kd.RrZ At.o).2.1)
                 (case side3 => repeat (first | exact (Kd.RrZ AC.o).2.2 | (with_reducible refine Kd.C_alloc ?_ _) | (with_reducible refine Kd.C_drewN ?_ _) | (with_reducible refine Kd.C_drew ?_)))
                 (case side4 => exact (Kd.RrZ AC.o).2.1)
                 rintro e KY ⟨BP, rfl, Ar, hb⟩
                 refine ⟨_, rfl, ?_⟩
                 have Bf := Z.m (Kd.R_lower (Kd.R_new' (Kd.R_new' (Kd.R_new' (Kd.R_new' (Kd.R_new' (Kd.R_new' Ar (Kd.R_lt (vR A6))) (Kd.R_lt (vR A4))) (Kd.R_lt (vR A5))) (Kd.R_lt (vR A2))) (Kd.R_lt (vR At))) (Kd.R_lt (vR AC))) (below_size (vB HB)))
                 replace A6 := Z.m (Kd.R_elder' (vR A6) (Kd.R_base Ar) hb)
                 replace A4 := Z.m (Kd.R_elder' (vR A4) (Kd.R_base Ar) hb)
                 replace A5 := Z.m (Kd.R_elder' (vR A5) (Kd.R_base Ar) hb)
                 replace A2 := Z.m (Kd.R_elder' (vR A2) (Kd.R_base Ar) hb)
                 replace At := Z.m (Kd.R_elder' (vR At) (Kd.R_base Ar) hb)
                 replace AC := Z.m (Kd.R_elder' (vR AC) (Kd.R_base Ar) hb)
                 replace A0 := kB A0 hb
                 replace A1 := kB A1 hb
                 replace A7 := kB A7 hb
                 replace A8 := kB A8 hb
                 replace Aa := kB Aa hb
                 replace A9 := kB A9 hb
                 replace HB := bB HB hb
                 (try clear hb); (try clear Ar)
                 refine hK.out _ _ ⟨(ql A0.o 0).trans rfl, (ql A0.o 1).trans rfl, (ql A0.o 2).trans rfl, (ql A1.o 0).trans rfl, (ql A1.o 1).trans rfl, (ql A1.o 2).trans rfl⟩ (fun hHeld => ?_)
                 clear hK K
                 refine norm_ (a' := ?_) ?_ ?_
                 rotate_left
                 ·show Act.put _ (some 99) _ = _
                  simp only [Act.put, q1, q2, q3, i64_w, i32_w]
                  rfl
                 refine pure_ (i := 5) (N := some 94) (v := ?_) (a' := ?_) #[true, true, true, true, true, true, false, false, false, false, false] rfl rfl (any_of HT_.o (by kernel_rfl)) (fun _ _ _ h => h) (Or.inl ⟨by rfl, ?_⟩) ?_ ?_
                 rotate_left
                 ·intro w'
                  go_simp
                  with_reducible rfl
                 rotate_left
                 ·simp only [Act.put, q1, q2, q3, i64_w, i32_w]
                  rfl
                 refine pure_ (i := 6) (N := some 100) (v := ?_) (a' := ?_) #[true, true, true, true, true, true, true, false, false, false, false] rfl rfl (any_of HT_.o (by kernel_rfl)) (fun _ _ _ h => h) (Or.inl ⟨by rfl, ?_⟩) ?_ ?_
                 rotate_left
                 ·intro w'
                  go_simp
                  with_reducible rfl
                 rotate_left
                 ·simp only [Act.put, q1, q2, q3, i64_w, i32_w]
                  rfl
                 refine pure_ (i := 7) (N := some 101) (v := ?_) (a' := ?_) #[true, true, true, true, true, true, true, true, false, false, false] rfl rfl (any_of HT_.o (by kernel_rfl)) (fun _ _ _ h => h) (Or.inl ⟨by rfl, ?_⟩) ?_ ?_
                 rotate_left
                 ·intro w'
                  go_simp
                  with_reducible rfl
                 rotate_left
                 ·simp only [Act.put, q1, q2, q3, i64_w, i32_w]
                  rfl
                 refine one_ (i := 8) (N := some 15) #[true, true, true, true, true, true, true, true, true, false, false] rfl rfl (one_of HT_.o (by kernel_rfl)) (by decide) (fun K hK => ?_)
                 refine box_step ?hg (N := 15) ?hd (cs := #[.int .i64 0, .int .i64 0, .slice none 0 0]) (t := 29) ?hr ?_; (case hd => rfl); (case hg => rfl); (case hr => first | (go_simp; done) | (go_simp; rfl))
                 intro AV hg Ek hbox hb
                 have As := Z.m (hbox)
                 have Ci := gW (w := w) HB hg
                 have Cg := gW (w := w) HB hg
                 have Am := neL A0 hg
                 have AQ := neG A0 hg
                 have An := neL A1 hg
                 have AR := neG A1 hg
                 have AL := neL A7 hg
                 have AS := neG A7 hg
                 have AM := neL A8 hg
                 have AT := neG A8 hg
                 have AN := neL Aa hg
                 have AU := neG Aa hg
                 have AJ := neL A9 hg
                 have AO := neG A9 hg
                 replace A6 := Z.m (Kd.Rb (vR A6) hb)
                 replace A4 := Z.m (Kd.Rb (vR A4) hb)
                 replace A5 := Z.m (Kd.Rb (vR A5) hb)
                 replace A2 := Z.m (Kd.Rb (vR A2) hb)
                 replace At := Z.m (Kd.Rb (vR At) hb)
                 replace AC := Z.m (Kd.Rb (vR AC) hb)
                 replace Bf := Z.m (Kd.Rb (vR Bf) hb)
                 replace A0 := kB A0 hb
                 replace A1 := kB A1 hb
                 replace A7 := kB A7 hb
                 replace A8 := kB A8 hb
                 replace Aa := kB Aa hb
                 replace A9 := kB A9 hb
                 replace HB := bB HB hb
                 clear hb hbox hg
                 refine hK.out _ _ ⟨(ql A0.o 0).trans rfl, (ql A0.o 1).trans rfl, (ql A0.o 2).trans rfl, (ql A1.o 0).trans rfl, (ql A1.o 1).trans rfl, (ql A1.o 2).trans rfl⟩ (fun hHeld => ?_)
                 clear hK K
                 refine norm_ (a' := ?_) ?_ ?_
                 rotate_left
                 ·show Act.put _ (some 15) _ = _
                  simp only [Act.put, q1, q2, q3, i64_w, i32_w]
                  rfl
                 exact norm_ (by simp only [putAll, Act.put, q1, q2, q3]) (hCont (.slice E9 BE.length Ea, .slice BG BF.length BJ, BP, AV) _ ⟨hHeld, (by refine rK ?_; exact Kd.Rm At.o (fun _ hk => ⟨hk.1.2, ⟨hk.2, ⟨hk.1.1.1.1.1.2, ⟨hk.1.1.1.1.2, ⟨hk.1.1.1.2, hk.1.1.2⟩⟩⟩⟩⟩)), (by refine rK ?_; exact Kd.Rm AC.o (fun _ hk => ⟨hk.1.2, ⟨hk.2, ⟨hk.1.1.1.1.1.2, ⟨hk.1.1.1.1.2, ⟨hk.1.1.1.2, hk.1.1.2⟩⟩⟩⟩⟩)), (by refine rK ?_; exact Kd.Rm Bf.o (fun _ hk => ⟨hk.1.2, ⟨hk.2, ⟨hk.1.1.1.1.1.2, ⟨hk.1.1.1.1.2, ⟨hk.1.1.1.2, hk.1.1.2⟩⟩⟩⟩⟩)), (by refine rK ?_; exact Kd.Rm A6.o (fun _ hk => ⟨hk.1.1.2, ⟨hk.1.2, ⟨hk.2, ⟨hk.1.1.1.1, ⟨hk.1.1.1.2.1, hk.1.1.1.2.2⟩⟩⟩⟩⟩)), (by refine rK ?_; exact Kd.Rm A4.o (fun _ hk => ⟨hk.1.1.2, ⟨hk.1.2, ⟨hk.2, ⟨hk.1.1.1.1, ⟨hk.1.1.1.2.1, hk.1.1.1.2.2⟩⟩⟩⟩⟩)), (by refine rK ?_; exact Kd.Rm A5.o (fun _ hk => ⟨hk.1.1.2, ⟨hk.1.2, ⟨hk.2, ⟨hk.1.1.1.1, ⟨hk.1.1.1.2.1, hk.1.1.1.2.2⟩⟩⟩⟩⟩)), (by refine rK ?_; exact Kd.Rm A2.o (fun _ hk => ⟨hk.1.1.2, ⟨hk.1.2, ⟨hk.2, ⟨hk.1.1.1.1, ⟨hk.1.1.1.2.1, hk.1.1.1.2.2⟩⟩⟩⟩⟩)), (vK A0), (vK A1), (vK A7), (vK A8), (vK Aa), (vK A9), (vK As), Ci.o, Cg.o, Am.o, AQ.o, An.o, AR.o, AL.o, AS.o, AM.o, AT.o, AN.o, AU.o, AJ.o, AO.o, (vB HB)⟩)
                ·skip
                 refine box_step ?hg (N := 15) ?hd (cs := #[.int .i64 0, .int .i64 0, .slice none 0 0]) (t := 29) ?hr ?_; (case hd => rfl); (case hg => rfl); (case hr => first | (go_simp; done) | (go_simp; rfl))
                 intro AV hg FX hbox hb
                 have As := Z.m (hbox)
                 have Ci := gW (w := w) HB hg
                 have Cg := gW (w := w) HB hg
                 have Am := neL A0 hg
                 have AQ := neG A0 hg
                 have An := neL A1 hg
                 have AR := neG A1 hg
                 have AL := neL A7 hg
                 have AS := neG A7 hg
                 have AM := neL A8 hg
                 have AT := neG A8 hg
                 have AN := neL Aa hg
                 have AU := neG Aa hg
                 have AJ := neL A9 hg
                 have AO := neG A9 hg
                 replace A6 := Z.m (Kd.Rb (vR A6) hb)
                 replace A4 := Z.m (Kd.Rb (vR A4) hb)
                 replace A5 := Z.m (Kd.Rb (vR A5) hb)
                 replace A2 := Z.m (Kd.Rb (vR A2) hb)
                 replace At := Z.m (Kd.Rb (vR At) hb)
                 replace AC := Z.m (Kd.Rb (vR AC) hb)
                 replace A0 := kB A0 hb
                 replace A1 := kB A1 hb
                 replace A7 := kB A7 hb
                 replace A8 := kB A8 hb
                 replace Aa := kB Aa hb
                 replace A9 := kB A9 hb
                 replace HB := bB HB hb
                 clear hb hbox hg
                 obtain ⟨BG, BJ, BK⟩ := Kd.R_slice At.o
                 (first | subst BK | (injection BK with f1_ f2_ f3_; have f4_ := f1_.symm; have f5_ := f3_.symm; clear f1_ f2_ f3_; subst f4_; subst f5_))
                 obtain ⟨Cf, Cl, Cm⟩ := Kd.R_slice AC.o
                 (first | subst Cm | (injection Cm with f1_ f2_ f3_; have f4_ := f1_.symm; have f5_ := f3_.symm; clear f1_ f2_ f3_; subst f4_; subst f5_))
                 refine hK.out _ _ ⟨(ql A0.o 0).trans rfl, (ql A0.o 1).trans rfl, (ql A0.o 2).trans rfl, (ql A1.o 0).trans rfl, (ql A1.o 1).trans rfl, (ql A1.o 2).trans rfl⟩ (fun hHeld => ?_)
                 clear hK K
                 refine norm_ (a' := ?_) ?_ ?_
                 rotate_left
                 ·show Act.put _ (some 15) _ = _
                  simp only [Act.put, q1, q2, q3, i64_w, i32_w]
                  rfl
                 refine one_ (i := 4) (N := some 99) #[true, true, true, true, true, false, false, false, true, false, false] rfl rfl (one_of HT_.o (by kernel_rfl)) (by decide) (fun K hK => ?_)
                 refine goes_ Try.func28 (by kernel_rfl) rfl #[.agg #[.int .i64 Ca, .int .i64 Cb, .slice BG BE.length BJ], .agg #[.int .i64 Cd, .int .i64 Ce, .slice Cf BF.length Cl]] (by rfl) rfl rfl (by (try simp only [List.map_toArray, List.map_cons, List.map_nil]); first | done | rfl | (simp only [List.length_drop, List.length_take]; rfl)) ?_
                 with_reducible refine (impl_StackBoards.calls kj108 Ca Cb _ _ BE Cd Ce _ _ BF Cq Cr BB Cz _ ?side1 ?side2 ?side3 ?side4 Df.o).mono ?_
                 (case side1 => repeat (first | exact (Kd.RrZ At.o).2.2 | (with_reducible refine Kd.C_alloc ?_ _) | (with_reducible refine Kd.C_drewN ?_ _) | (with_reducible refine Kd.C_drew ?_)))
                 (case side2 => exact (Kd.RrZ At.o).2.1)
                 (case side3 => repeat (first | exact (Kd.RrZ AC.o).2.2 | (with_reducible refine Kd.C_alloc ?_ _) | (with_reducible refine Kd.C_drewN ?_ _) | (with_reducible refine Kd.C_drew ?_)))
                 (case side4 => exact (Kd.RrZ AC.o).2.1)
                 rintro e Ek ⟨BP, rfl, Ar, hb⟩
                 refine ⟨_, rfl, ?_⟩
                 have Bf := Z.m (Kd.R_lower (Kd.R_new' (Kd.R_new' (Kd.R_new' (Kd.R_new' (Kd.R_new' (Kd.R_new' Ar (Kd.R_lt (vR A6))) (Kd.R_lt (vR A4))) (Kd.R_lt (vR A5))) (Kd.R_lt (vR A2))) (Kd.R_lt (vR At))) (Kd.R_lt (vR AC))) (below_size (vB HB)))
                 replace A6 := Z.m (Kd.R_elder' (vR A6) (Kd.R_base Ar) hb)
                 replace A4 := Z.m (Kd.R_elder' (vR A4) (Kd.R_base Ar) hb)
                 replace A5 := Z.m (Kd.R_elder' (vR A5) (Kd.R_base Ar) hb)
                 replace A2 := Z.m (Kd.R_elder' (vR A2) (Kd.R_base Ar) hb)
                 replace At := Z.m (Kd.R_elder' (vR At) (Kd.R_base Ar) hb)
                 replace AC := Z.m (Kd.R_elder' (vR AC) (Kd.R_base Ar) hb)
                 replace A0 := kB A0 hb
                 replace A1 := kB A1 hb
                 replace A7 := kB A7 hb
                 replace A8 := kB A8 hb
                 replace Aa := kB Aa hb
                 replace A9 := kB A9 hb
                 replace As := kB As hb
                 replace HB := bB HB hb
                 (try clear hb); (try clear Ar)
                 refine hK.out _ _ ⟨(ql A0.o 0).trans rfl, (ql A0.o 1).trans rfl, (ql A0.o 2).trans rfl, (ql A1.o 0).trans rfl, (ql A1.o 1).trans rfl, (ql A1.o 2).trans rfl⟩ (fun hHeld => ?_)
                 clear hK K
                 refine norm_ (a' := ?_) ?_ ?_
                 rotate_left
                 ·show Act.put _ (some 99) _ = _
                  simp only [Act.put, q1, q2, q3, i64_w, i32_w]
                  rfl
                 refine pure_ (i := 5) (N := some 94) (v := ?_) (a' := ?_) #[true, true, true, true, true, true, false, false, true, false, false] rfl rfl (any_of HT_.o (by kernel_rfl)) (fun _ _ _ h => h) (Or.inl ⟨by rfl, ?_⟩) ?_ ?_
                 rotate_left
                 ·intro w'
                  go_simp
                  with_reducible rfl
                 rotate_left
                 ·simp only [Act.put, q1, q2, q3, i64_w, i32_w]
                  rfl
                 refine pure_ (i := 6) (N := some 100) (v := ?_) (a' := ?_) #[true, true, true, true, true, true, true, false, true, false, false] rfl rfl (any_of HT_.o (by kernel_rfl)) (fun _ _ _ h => h) (Or.inl ⟨by rfl, ?_⟩) ?_ ?_
                 rotate_left
                 ·intro w'
                  go_simp
                  with_reducible rfl
                 rotate_left
                 ·simp only [Act.put, q1, q2, q3, i64_w, i32_w]
                  rfl
                 refine pure_ (i := 7) (N := some 101) (v := ?_) (a' := ?_) #[true, true, true, true, true, true, true, true, true, false, false] rfl rfl (any_of HT_.o (by kernel_rfl)) (fun _ _ _ h => h) (Or.inl ⟨by rfl, ?_⟩) ?_ ?_
                 rotate_left
                 ·intro w'
                  go_simp
                  with_reducible rfl
                 rotate_left
                 ·simp only [Act.put, q1, q2, q3, i64_w, i32_w]
                  rfl
                 exact norm_ (by simp only [putAll, Act.put, q1, q2, q3]) (hCont (.slice BG BE.length BJ, .slice Cf BF.length Cl, BP, AV) _ ⟨hHeld, (by refine rK ?_; exact Kd.Rm At.o (fun _ hk => ⟨hk.1.2, ⟨hk.2, ⟨hk.1.1.1.1.1.2, ⟨hk.1.1.1.1.2, ⟨hk.1.1.1.2, hk.1.1.2⟩⟩⟩⟩⟩)), (by refine rK ?_; exact Kd.Rm AC.o (fun _ hk => ⟨hk.1.2, ⟨hk.2, ⟨hk.1.1.1.1.1.2, ⟨hk.1.1.1.1.2, ⟨hk.1.1.1.2, hk.1.1.2⟩⟩⟩⟩⟩)), (by refine rK ?_; exact Kd.Rm Bf.o (fun _ hk => ⟨hk.1.2, ⟨hk.2, ⟨hk.1.1.1.1.1.2, ⟨hk.1.1.1.1.2, ⟨hk.1.1.1.2, hk.1.1.2⟩⟩⟩⟩⟩)), (by refine rK ?_; exact Kd.Rm A6.o (fun _ hk => ⟨hk.1.1.2, ⟨hk.1.2, ⟨hk.2, ⟨hk.1.1.1.1, ⟨hk.1.1.1.2.1, hk.1.1.1.2.2⟩⟩⟩⟩⟩)), (by refine rK ?_; exact Kd.Rm A4.o (fun _ hk => ⟨hk.1.1.2, ⟨hk.1.2, ⟨hk.2, ⟨hk.1.1.1.1, ⟨hk.1.1.1.2.1, hk.1.1.1.2.2⟩⟩⟩⟩⟩)), (by refine rK ?_; exact Kd.Rm A5.o (fun _ hk => ⟨hk.1.1.2, ⟨hk.1.2, ⟨hk.2, ⟨hk.1.1.1.1, ⟨hk.1.1.1.2.1, hk.1.1.1.2.2⟩⟩⟩⟩⟩)), (by refine rK ?_; exact Kd.Rm A2.o (fun _ hk => ⟨hk.1.1.2, ⟨hk.1.2, ⟨hk.2, ⟨hk.1.1.1.1, ⟨hk.1.1.1.2.1, hk.1.1.1.2.2⟩⟩⟩⟩⟩)), (vK A0), (vK A1), (vK A7), (vK A8), (vK Aa), (vK A9), (vK As), Ci.o, Cg.o, Am.o, AQ.o, An.o, AR.o, AL.o, AS.o, AM.o, AT.o, AN.o, AU.o, AJ.o, AO.o, (vB HB)⟩)
               ·skip
                refine box_step ?hg (N := 15) ?hd (cs := #[.int .i64 0, .int .i64 0, .slice none 0 0]) (t := 29) ?hr ?_; (case hd => rfl); (case hg => rfl); (case hr => first | (go_simp; done) | (go_simp; rfl))
                intro AV hg FW hbox hb
                have As := Z.m (hbox)
                have Ci := gW (w := w) HB hg
                have Cg := gW (w := w) HB hg
                have Am := neL A0 hg
                have AQ := neG A0 hg
                have An := neL A1 hg
                have AR := neG A1 hg
                have AL := neL A7 hg
                have AS := neG A7 hg
                have AM := neL A8 hg
                have AT := neG A8 hg
                have AN := neL Aa hg
                have AU := neG Aa hg
                have AJ := neL A9 hg
                have AO := neG A9 hg
                replace A6 := Z.m (Kd.Rb (vR A6) hb)
                replace A4 := Z.m (Kd.Rb (vR A4) hb)
                replace A5 := Z.m (Kd.Rb (vR A5) hb)
                replace A2 := Z.m (Kd.Rb (vR A2) hb)
                replace At := Z.m (Kd.Rb (vR At) hb)
                replace A0 := kB A0 hb
                replace A1 := kB A1 hb
                replace A7 := kB A7 hb
                replace A8 := kB A8 hb
                replace Aa := kB Aa hb
                replace A9 := kB A9 hb
                replace HB := bB HB hb
                clear hb hbox hg
                refine hK.out _ _ ⟨(ql A0.o 0).trans rfl, (ql A0.o 1).trans rfl, (ql A0.o 2).trans rfl, (ql A1.o 0).trans rfl, (ql A1.o 1).trans rfl, (ql A1.o 2).trans rfl⟩ (fun hHeld => ?_)
                clear hK K
                refine norm_ (a' := ?_) ?_ ?_
                rotate_left
                ·show Act.put _ (some 15) _ = _
                 simp only [Act.put, q1, q2, q3, i64_w, i32_w]
                 rfl
                refine one_ (i := 3) (N := some 98) #[true, true, true, true, false, false, false, false, true, false, false] rfl rfl (one_of HT_.o (by kernel_rfl)) (by decide) (fun K hK => ?_)
                refine goes_ Try.func17 (by kernel_rfl) rfl #[.agg #[.int .i64 a1_0, .int .i64 a1_1, .slice A1_2 l1_2.length c1_2]] (by rfl) rfl rfl (by (try simp only [List.map_toArray, List.map_cons, List.map_nil]); first | done | rfl | (simp only [List.length_drop, List.length_take]; rfl)) ?_
                with_reducible refine (laws_toBoard.calls kj108 a1_0 a1_1 _ _ l1_2 Cd Ce BF _ ?side1 ?side2 Eg.o).mono ?_
                (case side1 => repeat (first | exact (Kd.C_below BN.o HB.o) | (with_reducible refine Kd.C_alloc ?_ _) | (with_reducible refine Kd.C_drewN ?_ _) | (with_reducible refine Kd.C_drew ?_)))
                (case side2 => exact BM.o)
                rintro e FX ⟨Cs, rfl, Ar, hb⟩
                refine ⟨_, rfl, ?_⟩
                have AC := Z.m (Kd.R_lower (Kd.R_new' (Kd.R_new' (Kd.R_new' (Kd.R_new' (Kd.R_new' Ar (Kd.R_lt (vR A6))) (Kd.R_lt (vR A4))) (Kd.R_lt (vR A5))) (Kd.R_lt (vR A2))) (Kd.R_lt (vR At))) (below_size (vB HB)))
                replace A6 := Z.m (Kd.R_elder' (vR A6) (Kd.R_base Ar) hb)
                replace A4 := Z.m (Kd.R_elder' (vR A4) (Kd.R_base Ar) hb)
                replace A5 := Z.m (Kd.R_elder' (vR A5) (Kd.R_base Ar) hb)
                replace A2 := Z.m (Kd.R_elder' (vR A2) (Kd.R_base Ar) hb)
                replace At := Z.m (Kd.R_elder' (vR At) (Kd.R_base Ar) hb)
                replace A0 := kB A0 hb
                replace A1 := kB A1 hb
                replace A7 := kB A7 hb
                replace A8 := kB A8 hb
                replace Aa := kB Aa hb
                replace A9 := kB A9 hb
                replace As := kB As hb
                replace HB := bB HB hb
                (try clear hb); (try clear Ar)
                obtain ⟨BG, BJ, BK⟩ := Kd.R_slice At.o
                (first | subst BK | (injection BK with f1_ f2_ f3_; have f4_ := f1_.symm; have f5_ := f3_.symm; clear f1_ f2_ f3_; subst f4_; subst f5_))
                obtain ⟨Cf, Cl, Cm⟩ := Kd.R_slice AC.o
                (first | subst Cm | (injection Cm with f1_ f2_ f3_; have f4_ := f1_.symm; have f5_ := f3_.symm; clear f1_ f2_ f3_; subst f4_; subst f5_))
                refine hK.out _ _ ⟨(ql A0.o 0).trans rfl, (ql A0.o 1).trans rfl, (ql A0.o 2).trans rfl, (ql A1.o 0).trans rfl, (ql A1.o 1).trans rfl, (ql A1.o 2).trans rfl⟩ (fun hHeld => ?_)
                clear hK K
                refine norm_ (a' := ?_) ?_ ?_
                rotate_left
                ·show Act.put _ (some 98) _ = _
                 simp only [Act.put, q1, q2, q3, i64_w, i32_w]
                 rfl
                refine one_ (i := 4) (N := some 99) #[true, true, true, true, true, false, false, false, true, false, false] rfl rfl (one_of HT_.o (by kernel_rfl)) (by decide) (fun K hK => ?_)
                refine goes_ Try.func28 (by kernel_rfl) rfl #[.agg #[.int .i64 Ca, .int .i64 Cb, .slice BG BE.length BJ], .agg #[.int .i64 Cd, .int .i64 Ce, .slice Cf BF.length Cl]] (by rfl) rfl rfl (by (try simp only [List.map_toArray, List.map_cons, List.map_nil]); first | done | rfl | (simp only [List.length_drop, List.length_take]; rfl)) ?_
                with_reducible refine (impl_StackBoards.calls kj108 Ca Cb _ _ BE Cd Ce _ _ BF Cq Cr BB Cz _ ?side1 ?side2 ?side3 ?side4 Df.o).mono ?_
                (case side1 => repeat (first | exact (Kd.RrZ At.o).2.2 | (with_reducible refine Kd.C_alloc ?_ _) | (with_reducible refine Kd.C_drewN ?_ _) | (with_reducible refine Kd.C_drew ?_)))
                (case side2 => exact (Kd.RrZ At.o).2.1)
                (case side3 => repeat (first | exact (Kd.RrZ AC.o).2.2 | (with_reducible refine Kd.C_alloc ?_ _) | (with_reducible refine Kd.C_drewN ?_ _) | (with_reducible refine Kd.C_drew ?_)))
                (case side4 => exact (Kd.RrZ AC.o).2.1)
                rintro e Ek ⟨BP, rfl, Ar, hb⟩
                refine ⟨_, rfl, ?_⟩
                have Bf := Z.m (Kd.R_lower (Kd.R_new' (Kd.R_new' (Kd.R_new' (Kd.R_new' (Kd.R_new' (Kd.R_new' Ar (Kd.R_lt (vR A6))) (Kd.R_lt (vR A4))) (Kd.R_lt (vR A5))) (Kd.R_lt (vR A2))) (Kd.R_lt (vR At))) (Kd.R_lt (vR AC))) (below_size (vB HB)))
                replace A6 := Z.m (Kd.R_elder' (vR A6) (Kd.R_base Ar) hb)
                replace A4 := Z.m (Kd.R_elder' (vR A4) (Kd.R_base Ar) hb)
                replace A5 := Z.m (Kd.R_elder' (vR A5) (Kd.R_base Ar) hb)
                replace A2 := Z.m (Kd.R_elder' (vR A2) (Kd.R_base Ar) hb)
                replace At := Z.m (Kd.R_elder' (vR At) (Kd.R_base Ar) hb)
                replace AC := Z.m (Kd.R_elder' (vR AC) (Kd.R_base Ar) hb)
                replace A0 := kB A0 hb
                replace A1 := kB A1 hb
                replace A7 := kB A7 hb
                replace A8 := kB A8 hb
                replace Aa := kB Aa hb
                replace A9 := kB A9 hb
                replace As := kB As hb
                replace HB := bB HB hb
                (try clear hb); (try clear Ar)
                refine hK.out _ _ ⟨(ql A0.o 0).trans rfl, (ql A0.o 1).trans rfl, (ql A0.o 2).trans rfl, (ql A1.o 0).trans rfl, (ql A1.o 1).trans rfl, (ql A1.o 2).trans rfl⟩ (fun hHeld => ?_)
                clear hK K
                refine norm_ (a' := ?_) ?_ ?_
                rotate_left
                ·show Act.put _ (some 99) _ = _
                 simp only [Act.put, q1, q2, q3, i64_w, i32_w]
                 rfl
                refine pure_ (i := 5) (N := some 94) (v := ?_) (a' := ?_) #[true, true, true, true, true, true, false, false, true, false, false] rfl rfl (any_of HT_.o (by kernel_rfl)) (fun _ _ _ h => h) (Or.inl ⟨by rfl, ?_⟩) ?_ ?_
                rotate_left
                ·intro w'
                 go_simp
                 with_reducible rfl
                rotate_left
                ·simp only [Act.put, q1, q2, q3, i64_w, i32_w]
                 rfl
                refine pure_ (i := 6) (N := some 100) (v := ?_) (a' := ?_) #[true, true, true, true, true, true, true, false, true, false, false] rfl rfl (any_of HT_.o (by kernel_rfl)) (fun _ _ _ h => h) (Or.inl ⟨by rfl, ?_⟩) ?_ ?_
                rotate_left
                ·intro w'
                 go_simp
                 with_reducible rfl
                rotate_left
                ·simp only [Act.put, q1, q2, q3, i64_w, i32_w]
                 rfl
                refine pure_ (i := 7) (N := some 101) (v := ?_) (a' := ?_) #[true, true, true, true, true, true, true, true, true, false, false] rfl rfl (any_of HT_.o (by kernel_rfl)) (fun _ _ _ h => h) (Or.inl ⟨by rfl, ?_⟩) ?_ ?_
                rotate_left
                ·intro w'
                 go_simp
                 with_reducible rfl
                rotate_left
                ·simp only [Act.put, q1, q2, q3, i64_w, i32_w]
                 rfl
                exact norm_ (by simp only [putAll, Act.put, q1, q2, q3]) (hCont (.slice BG BE.length BJ, .slice Cf BF.length Cl, BP, AV) _ ⟨hHeld, (by refine rK ?_; exact Kd.Rm At.o (fun _ hk => ⟨hk.1.2, ⟨hk.2, ⟨hk.1.1.1.1.1.2, ⟨hk.1.1.1.1.2, ⟨hk.1.1.1.2, hk.1.1.2⟩⟩⟩⟩⟩)), (by refine rK ?_; exact Kd.Rm AC.o (fun _ hk => ⟨hk.1.2, ⟨hk.2, ⟨hk.1.1.1.1.1.2, ⟨hk.1.1.1.1.2, ⟨hk.1.1.1.2, hk.1.1.2⟩⟩⟩⟩⟩)), (by refine rK ?_; exact Kd.Rm Bf.o (fun _ hk => ⟨hk.1.2, ⟨hk.2, ⟨hk.1.1.1.1.1.2, ⟨hk.1.1.1.1.2, ⟨hk.1.1.1.2, hk.1.1.2⟩⟩⟩⟩⟩)), (by refine rK ?_; exact Kd.Rm A6.o (fun _ hk => ⟨hk.1.1.2, ⟨hk.1.2, ⟨hk.2, ⟨hk.1.1.1.1, ⟨hk.1.1.1.2.1, hk.1.1.1.2.2⟩⟩⟩⟩⟩)), (by refine rK ?_; exact Kd.Rm A4.o (fun _ hk => ⟨hk.1.1.2, ⟨hk.1.2, ⟨hk.2, ⟨hk.1.1.1.1, ⟨hk.1.1.1.2.1, hk.1.1.1.2.2⟩⟩⟩⟩⟩)), (by refine rK ?_; exact Kd.Rm A5.o (fun _ hk => ⟨hk.1.1.2, ⟨hk.1.2, ⟨hk.2, ⟨hk.1.1.1.1, ⟨hk.1.1.1.2.1, hk.1.1.1.2.2⟩⟩⟩⟩⟩)), (by refine rK ?_; exact Kd.Rm A2.o (fun _ hk => ⟨hk.1.1.2, ⟨hk.1.2, ⟨hk.2, ⟨hk.1.1.1.1, ⟨hk.1.1.1.2.1, hk.1.1.1.2.2⟩⟩⟩⟩⟩)), (vK A0), (vK A1), (vK A7), (vK A8), (vK Aa), (vK A9), (vK As), Ci.o, Cg.o, Am.o, AQ.o, An.o, AR.o, AL.o, AS.o, AM.o, AT.o, AN.o, AU.o, AJ.o, AO.o, (vB HB)⟩)
              ·skip
               refine box_step ?hg (N := 15) ?hd (cs := #[.int .i64 0, .int .i64 0, .slice none 0 0]) (t := 29) ?hr ?_; (case hd => rfl); (case hg => rfl); (case hr => first | (go_simp; done) | (go_simp; rfl))
               intro AV hg Jy hbox hb
               have As := Z.m (hbox)
               have Ci := gW (w := w) HB hg
               have Cg := gW (w := w) HB hg
               have Am := neL A0 hg
               have AQ := neG A0 hg
               have An := neL A1 hg
               have AR := neG A1 hg
               have AL := neL A7 hg
               have AS := neG A7 hg
               have AM := neL A8 hg
               have AT := neG A8 hg
               have AN := neL Aa hg
               have AU := neG Aa hg
               have AJ := neL A9 hg
               have AO := neG A9 hg
               replace A6 := Z.m (Kd.Rb (vR A6) hb)
               replace A4 := Z.m (Kd.Rb (vR A4) hb)
               replace A5 := Z.m (Kd.Rb (vR A5) hb)
               replace A2 := Z.m (Kd.Rb (vR A2) hb)
               replace A0 := kB A0 hb
               replace A1 := kB A1 hb
               replace A7 := kB A7 hb
               replace A8 := kB A8 hb
               replace Aa := kB Aa hb
               replace A9 := kB A9 hb
               replace HB := bB HB hb
               clear hb hbox hg
               refine hK.out _ _ ⟨(ql A0.o 0).trans rfl, (ql A0.o 1).trans rfl, (ql A0.o 2).trans rfl, (ql A1.o 0).trans rfl, (ql A1.o 1).trans rfl, (ql A1.o 2).trans rfl⟩ (fun hHeld => ?_)
               clear hK K
               refine norm_ (a' := ?_) ?_ ?_
               rotate_left
               ·show Act.put _ (some 15) _ = _
                simp only [Act.put, q1, q2, q3, i64_w, i32_w]
                rfl
               refine one_ (i := 1) (N := some 96) #[true, true, true, false, false, false, false, false, true, false, false] rfl rfl (one_of HT_.o (by kernel_rfl)) (by decide) (fun K hK => ?_)
               refine goes_ Try.func17 (by kernel_rfl) rfl #[.agg #[.int .i64 a0_0, .int .i64 a0_1, .slice A0_2 l0_2.length c0_2]] (by rfl) rfl rfl (by (try simp only [List.map_toArray, List.map_cons, List.map_nil]); first | done | rfl | (simp only [List.length_drop, List.length_take]; rfl)) ?_
               with_reducible refine (laws_toBoard.calls kj108 a0_0 a0_1 _ _ l0_2 Ca Cb BE _ ?side1 ?side2 Em.o).mono ?_
               (case side1 => repeat (first | exact (Kd.C_below BU.o HB.o) | (with_reducible refine Kd.C_alloc ?_ _) | (with_reducible refine Kd.C_drewN ?_ _) | (with_reducible refine Kd.C_drew ?_)))
               (case side2 => exact BT.o)
               rintro e FW ⟨CB, rfl, Ar, hb⟩
               refine ⟨_, rfl, ?_⟩
               have At := Z.m (Kd.R_lower (Kd.R_new' (Kd.R_new' (Kd.R_new' (Kd.R_new' Ar (Kd.R_lt (vR A6))) (Kd.R_lt (vR A4))) (Kd.R_lt (vR A5))) (Kd.R_lt (vR A2))) (below_size (vB HB)))
               replace A6 := Z.m (Kd.R_elder' (vR A6) (Kd.R_base Ar) hb)
               replace A4 := Z.m (Kd.R_elder' (vR A4) (Kd.R_base Ar) hb)
               replace A5 := Z.m (Kd.R_elder' (vR A5) (Kd.R_base Ar) hb)
               replace A2 := Z.m (Kd.R_elder' (vR A2) (Kd.R_base Ar) hb)
               replace A0 := kB A0 hb
               replace A1 := kB A1 hb
               replace A7 := kB A7 hb
               replace A8 := kB A8 hb
               replace Aa := kB Aa hb
               replace A9 := kB A9 hb
               replace As := kB As hb
               replace HB := bB HB hb
               (try clear hb); (try clear Ar)
               refine hK.out _ _ ⟨(ql A0.o 0).trans rfl, (ql A0.o 1).trans rfl, (ql A0.o 2).trans rfl, (ql A1.o 0).trans rfl, (ql A1.o 1).trans rfl, (ql A1.o 2).trans rfl⟩ (fun hHeld => ?_)
               clear hK K
               refine norm_ (a' := ?_) ?_ ?_
               rotate_left
               ·show Act.put _ (some 96) _ = _
                simp only [Act.put, q1, q2, q3, i64_w, i32_w]
                rfl
               refine one_ (i := 3) (N := some 98) #[true, true, true, true, false, false, false, false, true, false, false] rfl rfl (one_of HT_.o (by kernel_rfl)) (by decide) (fun K hK => ?_)
               refine goes_ Try.func17 (by kernel_rfl) rfl #[.agg #[.int .i64 a1_0, .int .i64 a1_1, .slice A1_2 l1_2.length c1_2]] (by rfl) rfl rfl (by (try simp only [List.map_toArray, List.map_cons, List.map_nil]); first | done | rfl | (simp only [List.length_drop, List.length_take]; rfl)) ?_
               with_reducible refine (laws_toBoard.calls kj108 a1_0 a1_1 _ _ l1_2 Cd Ce BF _ ?side1 ?side2 Eg.o).mono ?_
               (case side1 => repeat (first | exact (Kd.C_below BN.o HB.o) | (with_reducible refine Kd.C_alloc ?_ _) | (with_reducible refine Kd.C_drewN ?_ _) | (with_reducible refine Kd.C_drew ?_)))
               (case side2 => exact BM.o)
               rintro e FX ⟨Cs, rfl, Ar, hb⟩
               refine ⟨_, rfl, ?_⟩
               have AC := Z.m (Kd.R_lower (Kd.R_new' (Kd.R_new' (Kd.R_new' (Kd.R_new' (Kd.R_new' Ar (Kd.R_lt (vR A6))) (Kd.R_lt (vR A4))) (Kd.R_lt (vR A5))) (Kd.R_lt (vR A2))) (Kd.R_lt (vR At))) (below_size (vB HB)))
               replace A6 := Z.m (Kd.R_elder' (vR A6) (Kd.R_base Ar) hb)
               replace A4 := Z.m (Kd.R_elder' (vR A4) (Kd.R_base Ar) hb)
               replace A5 := Z.m (Kd.R_elder' (vR A5) (Kd.R_base Ar) hb)
               replace A2 := Z.m (Kd.R_elder' (vR A2) (Kd.R_base Ar) hb)
               replace At := Z.m (Kd.R_elder' (vR At) (Kd.R_base Ar) hb)
               replace A0 := kB A0 hb
               replace A1 := kB A1 hb
               replace A7 := kB A7 hb
               replace A8 := kB A8 hb
               replace Aa := kB Aa hb
               replace A9 := kB A9 hb
               replace As := kB As hb
               replace HB := bB HB hb
               (try clear hb); (try clear Ar)
               obtain ⟨BG, BJ, BK⟩ := Kd.R_slice At.o
               (first | subst BK | (injection BK with f1_ f2_ f3_; have f4_ := f1_.symm; have f5_ := f3_.symm; clear f1_ f2_ f3_; subst f4_; subst f5_))
               obtain ⟨Cf, Cl, Cm⟩ := Kd.R_slice AC.o
               (first | subst Cm | (injection Cm with f1_ f2_ f3_; have f4_ := f1_.symm; have f5_ := f3_.symm; clear f1_ f2_ f3_; subst f4_; subst f5_))
               refine hK.out _ _ ⟨(ql A0.o 0).trans rfl, (ql A0.o 1).trans rfl, (ql A0.o 2).trans rfl, (ql A1.o 0).trans rfl, (ql A1.o 1).trans rfl, (ql A1.o 2).trans rfl⟩ (fun hHeld => ?_)
               clear hK K
               refine norm_ (a' := ?_) ?_ ?_
               rotate_left
               ·show Act.put _ (some 98) _ = _
                simp only [Act.put, q1, q2, q3, i64_w, i32_w]
                rfl
               refine one_ (i := 4) (N := some 99) #[true, true, true, true, true, false, false, false, true, false, false] rfl rfl (one_of HT_.o (by kernel_rfl)) (by decide) (fun K hK => ?_)
               refine goes_ Try.func28 (by kernel_rfl) rfl #[.agg #[.int .i64 Ca, .int .i64 Cb, .slice BG BE.length BJ], .agg #[.int .i64 Cd, .int .i64 Ce, .slice Cf BF.length Cl]] (by rfl) rfl rfl (by (try simp only [List.map_toArray, List.map_cons, List.map_nil]); first | done | rfl | (simp only [List.length_drop, List.length_take]; rfl)) ?_
               with_reducible refine (impl_StackBoards.calls kj108 Ca Cb _ _ BE Cd Ce _ _ BF Cq Cr BB Cz _ ?side1 ?side2 ?side3 ?side4 Df.o).mono ?_
               (case side1 => repeat (first | exact (Kd.RrZ At.o).2.2 | (with_reducible refine Kd.C_alloc ?_ _) | (with_reducible refine Kd.C_drewN ?_ _) | (with_reducible refine Kd.C_drew ?_)))
               (case side2 => exact (Kd.RrZ At.o).2.1)
               (case side3 => repeat (first | exact (Kd.RrZ AC.o).2.2 | (with_reducible refine Kd.C_alloc ?_ _) | (with_reducible refine Kd.C_drewN ?_ _) | (with_reducible refine Kd.C_drew ?_)))
               (case side4 => exact (Kd.RrZ AC.o).2.1)
               rintro e Ek ⟨BP, rfl, Ar, hb⟩
               refine ⟨_, rfl, ?_⟩
               have Bf := Z.m (Kd.R_lower (Kd.R_new' (Kd.R_new' (Kd.R_new' (Kd.R_new' (Kd.R_new' (Kd.R_new' Ar (Kd.R_lt (vR A6))) (Kd.R_lt (vR A4))) (Kd.R_lt (vR A5))) (Kd.R_lt (vR A2))) (Kd.R_lt (vR At))) (Kd.R_lt (vR AC))) (below_size (vB HB)))
               replace A6 := Z.m (Kd.R_elder' (vR A6) (Kd.R_base Ar) hb)
               replace A4 := Z.m (Kd.R_elder' (vR A4) (Kd.R_base Ar) hb)
               replace A5 := Z.m (Kd.R_elder' (vR A5) (Kd.R_base Ar) hb)
               replace A2 := Z.m (Kd.R_elder' (vR A2) (Kd.R_base Ar) hb)
               replace At := Z.m (Kd.R_elder' (vR At) (Kd.R_base Ar) hb)
               replace AC := Z.m (Kd.R_elder' (vR AC) (Kd.R_base Ar) hb)
               replace A0 := kB A0 hb
               replace A1 := kB A1 hb
               replace A7 := kB A7 hb
               replace A8 := kB A8 hb
               replace Aa := kB Aa hb
               replace A9 := kB A9 hb
               replace As := kB As hb
               replace HB := bB HB hb
               (try clear hb); (try clear Ar)
               refine hK.out _ _ ⟨(ql A0.o 0).trans rfl, (ql A0.o 1).trans rfl, (ql A0.o 2).trans rfl, (ql A1.o 0).trans rfl, (ql A1.o 1).trans rfl, (ql A1.o 2).trans rfl⟩ (fun hHeld => ?_)
               clear hK K
               refine norm_ (a' := ?_) ?_ ?_
               rotate_left
               ·show Act.put _ (some 99) _ = _
                simp only [Act.put, q1, q2, q3, i64_w, i32_w]
                rfl
               refine pure_ (i := 5) (N := some 94) (v := ?_) (a' := ?_) #[true, true, true, true, true, true, false, false, true, false, false] rfl rfl (any_of HT_.o (by kernel_rfl)) (fun _ _ _ h => h) (Or.inl ⟨by rfl, ?_⟩) ?_ ?_
               rotate_left
               ·intro w'
                go_simp
                with_reducible rfl
               rotate_left
               ·simp only [Act.put, q1, q2, q3, i64_w, i32_w]
                rfl
               refine pure_ (i := 6) (N := some 100) (v := ?_) (a' := ?_) #[true, true, true, true, true, true, true, false, true, false, false] rfl rfl (any_of HT_.o (by kernel_rfl)) (fun _ _ _ h => h) (Or.inl ⟨by rfl, ?_⟩) ?_ ?_
               rotate_left
               ·intro w'
                go_simp
                with_reducible rfl
               rotate_left
               ·simp only [Act.put, q1, q2, q3, i64_w, i32_w]
                rfl
               refine pure_ (i := 7) (N := some 101) (v := ?_) (a' := ?_) #[true, true, true, true, true, true, true, true, true, false, false] rfl rfl (any_of HT_.o (by kernel_rfl)) (fun _ _ _ h => h) (Or.inl ⟨by rfl, ?_⟩) ?_ ?_
               rotate_left
               ·intro w'
                go_simp
                with_reducible rfl
               rotate_left
               ·simp only [Act.put, q1, q2, q3, i64_w, i32_w]
                rfl
               exact norm_ (by simp only [putAll, Act.put, q1, q2, q3]) (hCont (.slice BG BE.length BJ, .slice Cf BF.length Cl, BP, AV) _ ⟨hHeld, (by refine rK ?_; exact Kd.Rm At.o (fun _ hk => ⟨hk.1.2, ⟨hk.2, ⟨hk.1.1.1.1.1.2, ⟨hk.1.1.1.1.2, ⟨hk.1.1.1.2, hk.1.1.2⟩⟩⟩⟩⟩)), (by refine rK ?_; exact Kd.Rm AC.o (fun _ hk => ⟨hk.1.2, ⟨hk.2, ⟨hk.1.1.1.1.1.2, ⟨hk.1.1.1.1.2, ⟨hk.1.1.1.2, hk.1.1.2⟩⟩⟩⟩⟩)), (by refine rK ?_; exact Kd.Rm Bf.o (fun _ hk => ⟨hk.1.2, ⟨hk.2, ⟨hk.1.1.1.1.1.2, ⟨hk.1.1.1.1.2, ⟨hk.1.1.1.2, hk.1.1.2⟩⟩⟩⟩⟩)), (by refine rK ?_; exact Kd.Rm A6.o (fun _ hk => ⟨hk.1.1.2, ⟨hk.1.2, ⟨hk.2, ⟨hk.1.1.1.1, ⟨hk.1.1.1.2.1, hk.1.1.1.2.2⟩⟩⟩⟩⟩)), (by refine rK ?_; exact Kd.Rm A4.o (fun _ hk => ⟨hk.1.1.2, ⟨hk.1.2, ⟨hk.2, ⟨hk.1.1.1.1, ⟨hk.1.1.1.2.1, hk.1.1.1.2.2⟩⟩⟩⟩⟩)), (by refine rK ?_; exact Kd.Rm A5.o (fun _ hk => ⟨hk.1.1.2, ⟨hk.1.2, ⟨hk.2, ⟨hk.1.1.1.1, ⟨hk.1.1.1.2.1, hk.1.1.1.2.2⟩⟩⟩⟩⟩)), (by refine rK ?_; exact Kd.Rm A2.o (fun _ hk => ⟨hk.1.1.2, ⟨hk.1.2, ⟨hk.2, ⟨hk.1.1.1.1, ⟨hk.1.1.1.2.1, hk.1.1.1.2.2⟩⟩⟩⟩⟩)), (vK A0), (vK A1), (vK A7), (vK A8), (vK Aa), (vK A9), (vK As), Ci.o, Cg.o, Am.o, AQ.o, An.o, AR.o, AL.o, AS.o, AM.o, AT.o, AN.o, AU.o, AJ.o, AO.o, (vB HB)⟩)
             rintro ⟨CB, Cs, BP, AV⟩ Bh ⟨hS_, h0_, h1_, h2_, h3_, h4_, h5_, h6_, h7_, h8_, h9_, h10_, h11_, h12_, h13_, h14_, h15_, h16_, h17_, h18_, h19_, h20_, h21_, h22_, h23_, h24_, h25_, h26_, h27_, h28_⟩
             have At : Z (Kd.R k34 34 Bh w.heap.size (fun k_ => some k_ ≠ (Cs : Value).ownBlock ∧ some k_ ≠ (BP : Value).ownBlock ∧ some k_ ≠ (.slice AI Ab.length AF : Value).ownBlock ∧ some k_ ≠ (.slice Ax B0.length Aw : Value).ownBlock ∧ some k_ ≠ (.slice AB B2.length Ay : Value).ownBlock ∧ some k_ ≠ (.slice AH Ae.length AG : Value).ownBlock) CB BE) := ⟨h0_⟩
             have AC : Z (Kd.R k34 34 Bh w.heap.size (fun k_ => some k_ ≠ (CB : Value).ownBlock ∧ some k_ ≠ (BP : Value).ownBlock ∧ some k_ ≠ (.slice AI Ab.length AF : Value).ownBlock ∧ some k_ ≠ (.slice Ax B0.length Aw : Value).ownBlock ∧ some k_ ≠ (.slice AB B2.length Ay : Value).ownBlock ∧ some k_ ≠ (.slice AH Ae.length AG : Value).ownBlock) Cs BF) := ⟨h1_⟩
             have Bf : Z (Kd.R k34 34 Bh w.heap.size (fun k_ => some k_ ≠ (CB : Value).ownBlock ∧ some k_ ≠ (Cs : Value).ownBlock ∧ some k_ ≠ (.slice AI Ab.length AF : Value).ownBlock ∧ some k_ ≠ (.slice Ax B0.length Aw : Value).ownBlock ∧ some k_ ≠ (.slice AB B2.length Ay : Value).ownBlock ∧ some k_ ≠ (.slice AH Ae.length AG : Value).ownBlock) BP BB) := ⟨h2_⟩
             have As : Z (Bh.heap[AV]? = some (.cells #[.int .i64 0, .int .i64 0, .slice none 0 0] 29 (0, 0))) := ⟨h13_⟩
             have Ci : Z (w.heap.size ≤ AV) := ⟨h14_⟩
             have Cg : Z (w.heap.size ≤ AV) := ⟨h15_⟩
             have Am : Z (Au ≠ AV) := ⟨h16_⟩
             have AQ : Z (AV ≠ Au) := ⟨h17_⟩
             have An : Z (Av ≠ AV) := ⟨h18_⟩
             have AR : Z (AV ≠ Av) := ⟨h19_⟩
             have AL : Z (AK ≠ AV) := ⟨h20_⟩
             have AS : Z (AV ≠ AK) := ⟨h21_⟩
             have AM : Z (Bg ≠ AV) := ⟨h22_⟩
             have AT : Z (AV ≠ Bg) := ⟨h23_⟩
             have AN : Z (Bp ≠ AV) := ⟨h24_⟩
             have AU : Z (AV ≠ Bp) := ⟨h25_⟩
             have AJ : Z (BL ≠ AV) := ⟨h26_⟩
             have AO : Z (AV ≠ BL) := ⟨h27_⟩
             replace A6 : Z (Kd.R k34 34 Bh w.heap.size (fun k_ => some k_ ≠ (CB : Value).ownBlock ∧ some k_ ≠ (Cs : Value).ownBlock ∧ some k_ ≠ (BP : Value).ownBlock ∧ some k_ ≠ (.slice Ax B0.length Aw : Value).ownBlock ∧ some k_ ≠ (.slice AB B2.length Ay : Value).ownBlock ∧ some k_ ≠ (.slice AH Ae.length AG : Value).ownBlock) (.slice AI Ab.length AF) Ab) := ⟨h3_⟩
             replace A4 : Z (Kd.R k34 34 Bh w.heap.size (fun k_ => some k_ ≠ (CB : Value).ownBlock ∧ some k_ ≠ (Cs : Value).ownBlock ∧ some k_ ≠ (BP : Value).ownBlock ∧ some k_ ≠ (.slice AI Ab.length AF : Value).ownBlock ∧ some k_ ≠ (.slice AB B2.length Ay : Value).ownBlock ∧ some k_ ≠ (.slice AH Ae.length AG : Value).ownBlock) (.slice Ax B0.length Aw) B0) := ⟨h4_⟩
             replace A5 : Z (Kd.R k34 34 Bh w.heap.size (fun k_ => some k_ ≠ (CB : Value).ownBlock ∧ some k_ ≠ (Cs : Value).ownBlock ∧ some k_ ≠ (BP : Value).ownBlock ∧ some k_ ≠ (.slice AI Ab.length AF : Value).ownBlock ∧ some k_ ≠ (.slice Ax B0.length Aw : Value).ownBlock ∧ some k_ ≠ (.slice AH Ae.length AG : Value).ownBlock) (.slice AB B2.length Ay) B2) := ⟨h5_⟩
             replace A2 : Z (Kd.R k34 34 Bh w.heap.size (fun k_ => some k_ ≠ (CB : Value).ownBlock ∧ some k_ ≠ (Cs : Value).ownBlock ∧ some k_ ≠ (BP : Value).ownBlock ∧ some k_ ≠ (.slice AI Ab.length AF : Value).ownBlock ∧ some k_ ≠ (.slice Ax B0.length Aw : Value).ownBlock ∧ some k_ ≠ (.slice AB B2.length Ay : Value).ownBlock) (.slice AH Ae.length AG) Be) := ⟨h6_⟩
             replace A0 : Z (Bh.heap[Au]? = some (.cells #[.int .i64 a0_0, .int .i64 a0_1, .slice A0_2 l0_2.length c0_2] 24 (0, 0))) := ⟨h7_⟩
             replace A1 : Z (Bh.heap[Av]? = some (.cells #[.int .i64 a1_0, .int .i64 a1_1, .slice A1_2 l1_2.length c1_2] 24 (0, 0))) := ⟨h8_⟩
             replace A7 : Z (Bh.heap[AK]? = some (.cells #[.int .i64 Ai, .int .i64 Aj, .slice AI Ab.length AF] 29 (0, 0))) := ⟨h9_⟩
             replace A8 : Z (Bh.heap[Bg]? = some (.cells #[.int .i64 AW, .int .i64 AX, .slice Ax B0.length Aw] 29 (0, 0))) := ⟨h10_⟩
             replace Aa : Z (Bh.heap[Bp]? = some (.cells #[.int .i64 AY, .int .i64 AZ, .slice AB B2.length Ay] 29 (0, 0))) := ⟨h11_⟩
             replace A9 : Z (Bh.heap[BL]? = some (.cells #[.int .i64 Ak, .int .i64 Al, .slice AH Ae.length AG] 29 (0, 0))) := ⟨h12_⟩
             replace HB : Z (Below w.heap.size w Bh) := ⟨h28_⟩
             clear h0_ h1_ h2_ h3_ h4_ h5_ h6_ h7_ h8_ h9_ h10_ h11_ h12_ h13_ h14_ h15_ h16_ h17_ h18_ h19_ h20_ h21_ h22_ h23_ h24_ h25_ h26_ h27_ h28_
             have hHeld : Bh.cell? ⟨Au, 0, none⟩ = some (.int .i64 a0_0) ∧ Bh.cell? ⟨Au, 1, none⟩ = some (.int .i64 a0_1) ∧ Bh.cell? ⟨Au, 2, none⟩ = some (.slice A0_2 l0_2.length c0_2) ∧ Bh.cell? ⟨Av, 0, none⟩ = some (.int .i64 a1_0) ∧ Bh.cell? ⟨Av, 1, none⟩ = some (.int .i64 a1_1) ∧ Bh.cell? ⟨Av, 2, none⟩ = some (.slice A1_2 l1_2.length c1_2) := hS_
             obtain ⟨BS, BO, Ee⟩ := Kd.R_slice Bf.o
             (first | subst Ee | (injection Ee with f1_ f2_ f3_; have f4_ := f1_.symm; have f5_ := f3_.symm; clear f1_ f2_ f3_; subst f4_; subst f5_))
             refine norm_ (a' := ?_) ?_ ?_
             rotate_left
             ·simp only [putAll, Act.put, q1, q2, q3]
              rfl
             refine one_ (i := 9) (N := none) #[true, true, true, true, true, true, true, true, true, true, false] rfl rfl (one_of HT_.o (by kernel_rfl)) (by decide) (fun K hK => ?_)
             have Kt : Bh.cell? ⟨AV, 0, none⟩ = some (.int .i64 0) := (ql As.o 0).trans rfl
             have hfs193 := qz As.o 0
             have FD := Am.o
             have FE := An.o
             have FF := AL.o
             have FG := AM.o
             have FH := AN.o
             have FI := AJ.o
             have Fl := AQ.o
             have Fm := AR.o
             have Fn := AS.o
             have Fo := AT.o
             have Fp := AU.o
             have Fq := AO.o
             have Ku : Bh.cell? ⟨AV, 1, none⟩ = some (.int .i64 0) := (ql As.o 1).trans rfl
             have hfs194 := qz As.o 1
             have FJ := Am.o
             have FL := An.o
             have FM := AL.o
             have FN := AM.o
             have FO := AN.o
             have FP := AJ.o
             have Fr := AQ.o
             have Fs := AR.o
             have Ft := AS.o
             have Fu := AT.o
             have Fv := AU.o
             have Fw := AO.o
             have Kv : Bh.cell? ⟨AV, 2, none⟩ = some (.slice none 0 0) := (ql As.o 2).trans rfl
             have hfs196 := qz As.o 2
             have FQ := Am.o
             have FR := An.o
             have FS := AL.o
             have FT := AM.o
             have FU := AN.o
             have FV := AJ.o
             have Fx := AQ.o
             have Fy := AR.o
             have Fz := AS.o
             have FA := AT.o
             have FB := AU.o
             have FC := AO.o
             refine skip_ (w1 := ?_) ?hwx ?hnx ?_ ?_; (case hwx => rfl); (case hnx => rfl)
             rotate_left
             ·go_simp
              rfl
             refine hK.out _ _ ⟨(cx Am.o ((cx Am.o ((cx Am.o (hHeld.1)))))), (cx Am.o ((cx Am.o ((cx Am.o (hHeld.2.1)))))), (cx Am.o ((cx Am.o ((cx Am.o (hHeld.2.2.1)))))), (cx An.o ((cx An.o ((cx An.o (hHeld.2.2.2.1)))))), (cx An.o ((cx An.o ((cx An.o (hHeld.2.2.2.2.1)))))), (cx An.o ((cx An.o ((cx An.o (hHeld.2.2.2.2.2))))))⟩ (fun hHeld => ?_)
             clear hK K
             refine pure_ (i := 10) (N := some 16) (v := ?_) (a' := ?_) #[true, true, true, true, true, true, true, true, true, true, true] rfl rfl (any_of HT_.o (by kernel_rfl)) (fun _ _ _ h => h) (Or.inl ⟨by rfl, ?_⟩) ?_ ?_
             rotate_left
             ·intro w'
              go_simp
              with_reducible rfl
             rotate_left
             ·simp only [Act.put, q1, q2, q3, i64_w, i32_w]
              rfl
             refine done_ (done_of HT_.o (by kernel_rfl)) ?_
             go_upto_region 32 with (fail)
             go_cut [110] (fun v110 wc => ∃ (kq : Nat) (BY : Bool), v110 = .bool BY ∧ Z (laws_FnExactStackBoards.j2 kq Br BY Ak Al Be = some true) ∧ Z (kq ≤ kj108) ∧ Z (Kd.R k34 34 wc w.heap.size (fun k_ => some k_ ≠ ((.slice Ax B0.length Aw) : Value).ownBlock ∧ some k_ ≠ ((.slice AB B2.length Ay) : Value).ownBlock ∧ some k_ ≠ ((.slice AH Ae.length AG) : Value).ownBlock ∧ some k_ ≠ ((.slice BS BB.length BO) : Value).ownBlock) (.slice AI Ab.length AF) Ab) ∧ Z (Kd.R k34 34 wc w.heap.size (fun k_ => some k_ ≠ ((.slice AI Ab.length AF) : Value).ownBlock ∧ some k_ ≠ ((.slice AB B2.length Ay) : Value).ownBlock ∧ some k_ ≠ ((.slice AH Ae.length AG) : Value).ownBlock ∧ some k_ ≠ ((.slice BS BB.length BO) : Value).ownBlock) (.slice Ax B0.length Aw) B0) ∧ Z (Kd.R k34 34 wc w.heap.size (fun k_ => some k_ ≠ ((.slice AI Ab.length AF) : Value).ownBlock ∧ some k_ ≠ ((.slice Ax B0.length Aw) : Value).ownBlock ∧ some k_ ≠ ((.slice AH Ae.length AG) : Value).ownBlock ∧ some k_ ≠ ((.slice BS BB.length BO) : Value).ownBlock) (.slice AB B2.length Ay) B2) ∧ Z (Kd.R k34 34 wc w.heap.size (fun k_ => some k_ ≠ ((.slice AI Ab.length AF) : Value).ownBlock ∧ some k_ ≠ ((.slice Ax B0.length Aw) : Value).ownBlock ∧ some k_ ≠ ((.slice AB B2.length Ay) : Value).ownBlock ∧ some k_ ≠ ((.slice BS BB.length BO) : Value).ownBlock) (.slice AH Ae.length AG) Be) ∧ Z (Kd.R k34 34 wc w.heap.size (fun k_ => some k_ ≠ ((.slice AI Ab.length AF) : Value).ownBlock ∧ some k_ ≠ ((.slice Ax B0.length Aw) : Value).ownBlock ∧ some k_ ≠ ((.slice AB B2.length Ay) : Value).ownBlock ∧ some k_ ≠ ((.slice AH Ae.length AG) : Value).ownBlock) (.slice BS BB.length BO) BB) ∧ Z (wc.heap[Au]? = some (.cells #[.int .i64 a0_0, .int .i64 a0_1, (.slice A0_2 l0_2.length c0_2)] 24 (0, 0))) ∧ Z (wc.heap[Av]? = some (.cells #[.int .i64 a1_0, .int .i64 a1_1, (.slice A1_2 l1_2.length c1_2)] 24 (0, 0))) ∧ Z (wc.heap[AK]? = some (.cells #[.int .i64 Ai, .int .i64 Aj, (.slice AI Ab.length AF)] 29 (0, 0))) ∧ Z (wc.heap[Bg]? = some (.cells #[.int .i64 AW, .int .i64 AX, (.slice Ax B0.length Aw)] 29 (0, 0))) ∧ Z (wc.heap[Bp]? = some (.cells #[.int .i64 AY, .int .i64 AZ, (.slice AB B2.length Ay)] 29 (0, 0))) ∧ Z (wc.heap[BL]? = some (.cells #[.int .i64 Ak, .int .i64 Al, (.slice AH Ae.length AG)] 29 (0, 0))) ∧ Z (wc.heap[AV]? = some (.cells #[.int .i64 Cq, .int .i64 Cr, (.slice BS BB.length BO)] 29 (0, 0))) ∧ Z (Below w.heap.size w wc))
             case first =>
              have H := D1.o
              clear D1
              replace H := Option.bind_eq_some_iff.mp H
              obtain ⟨BX, E7, H⟩ := H
              replace H : (if BX = true then (laws_FnExactStackBoards.j2 kj108 Br (Cz != Ap) Ak Al Be) else (laws_FnExactStackBoards.j2 kj108 Br true Ak Al Be)) = some true := H
              have GU := Z.m E7
              clear E7
              by_cases c198 : BX = true
              ·subst c198
               have H1 : (laws_FnExactStackBoards.j2 kj108 Br (Cz != Ap) Ak Al Be) = some true := by rw [if_pos rfl] at H; exact H
               clear H
               have H := H1
               clear H1
               have H' := Z.m H
               clear H
               have Hz := AQ.o
               have Jf := Am.o
               have HC := AR.o
               have Jg := An.o
               have HD := AS.o
               have Jh := AL.o
               have HE := AT.o
               have Ji := AM.o
               have HF := AU.o
               have Jj := AN.o
               have HG := AO.o
               have Jk := AJ.o
               have ER := bc0 As
               have ES := bc1 As
               have ET := bc2 As
               have Fc := qz As.o 0
               have Fd := qz As.o 1
               have Fe := qz As.o 2
               have HH := AD.o
               have Jl := Ag.o
               have HI := AE.o
               have Jm := Ah.o
               have HJ := Bk.o
               have Jn := Bv.o
               have HK := Bl.o
               have Jo := Bw.o
               have HL := Bb.o
               have Jp := Bm.o
               have EU := bc0 A7
               have EV := bc1 A7
               have EW := bc2 A7
               have Ff := qz A7.o 0
               have Fg := qz A7.o 1
               have Fh := qz A7.o 2
               go_wp2_with (first | ((with_reducible refine gc (f := 19) rfl ?_); refine gA (some 104) _ #[.agg #[.int .i64 Cq, .int .i64 Cr, .slice BS BB.length BO], .agg #[.int .i64 Ai, .int .i64 Aj, .slice AI Ab.length AF]] ?_ Try.func19; (with_reducible refine (laws_eqBoard.calls kj108 Cq Cr _ _ BB Ai Aj _ _ Ab true _ ?side1 ?side2 ?side3 ?side4 GU.o).mono ?_); (case side1 => refine (Kd.RrZ (e := 34) (base := w.heap.size) (ok := fun k_ => (some k_ ≠ (CB : Value).ownBlock ∧ (some k_ ≠ (Cs : Value).ownBlock ∧ (some k_ ≠ (.slice AI Ab.length AF : Value).ownBlock ∧ (some k_ ≠ (.slice Ax B0.length Aw : Value).ownBlock ∧ (some k_ ≠ (.slice AB B2.length Ay : Value).ownBlock ∧ some k_ ≠ (.slice AH Ae.length AG : Value).ownBlock)))))) (n := BB.length) (c := BO) ?_).2.2; exact (by refine rK ?_; exact (Kd.Rm (rf (rf (rf (Kd.Ry Bf.o As.o (by decide))))) (fun _ h_ => h_.1)))); (case side2 => exact (Kd.RrZ Bf.o).2.1); (case side3 => refine (Kd.RrZ (e := 34) (base := w.heap.size) (ok := fun k_ => (some k_ ≠ (CB : Value).ownBlock ∧ (some k_ ≠ (Cs : Value).ownBlock ∧ (some k_ ≠ (.slice BS BB.length BO : Value).ownBlock ∧ (some k_ ≠ (.slice Ax B0.length Aw : Value).ownBlock ∧ (some k_ ≠ (.slice AB B2.length Ay : Value).ownBlock ∧ some k_ ≠ (.slice AH Ae.length AG : Value).ownBlock)))))) (n := Ab.length) (c := AF) ?_).2.2; exact (by refine rK ?_; exact (Kd.Rm (rf (rf (rf (Kd.Ry A6.o As.o (by decide))))) (fun _ h_ => h_.1)))); (case side4 => exact (Kd.RrZ A6.o).2.1); rintro e KZ ⟨rfl, hb⟩; refine ⟨_, rfl, ?_⟩; replace A6 := Z.m (Kd.Rb (by refine rK ?_; exact (Kd.Rm (rf (rf (rf (Kd.Ry A6.o As.o (by decide))))) (fun _ h_ => h_.1))) hb); replace A4 := Z.m (Kd.Rb (by refine rK ?_; exact (Kd.Rm (rf (rf (rf (Kd.Ry A4.o As.o (by decide))))) (fun _ h_ => h_.1))) hb); replace A5 := Z.m (Kd.Rb (by refine rK ?_; exact (Kd.Rm (rf (rf (rf (Kd.Ry A5.o As.o (by decide))))) (fun _ h_ => h_.1))) hb); replace A2 := Z.m (Kd.Rb (by refine rK ?_; exact (Kd.Rm (rf (rf (rf (Kd.Ry A2.o As.o (by decide))))) (fun _ h_ => h_.1))) hb); replace At := Z.m (Kd.Rb (by refine rK ?_; exact (Kd.Rm (rf (rf (rf (Kd.Ry At.o As.o (by decide))))) (fun _ h_ => h_.1))) hb); replace AC := Z.m (Kd.Rb (by refine rK ?_; exact (Kd.Rm (rf (rf (rf (Kd.Ry AC.o As.o (by decide))))) (fun _ h_ => h_.1))) hb); replace Bf := Z.m (Kd.Rb (by refine rK ?_; exact (Kd.Rm (rf (rf (rf (Kd.Ry Bf.o As.o (by decide))))) (fun _ h_ => h_.1))) hb); replace A0 := Z.m (qb (g := Au) (o := .cells #[.int .i64 a0_0, .int .i64 a0_1, .slice A0_2 l0_2.length c0_2] 24 (0, 0)) (by refine bK ?_; (iterate 3 refine qF ?_ Am); exact A0.o) hb); replace A1 := Z.m (qb (g := Av) (o := .cells #[.int .i64 a1_0, .int .i64 a1_1, .slice A1_2 l1_2.length c1_2] 24 (0, 0)) (by refine bK ?_; (iterate 3 refine qF ?_ An); exact A1.o) hb); replace A7 := Z.m (qb (g := AK) (o := .cells #[.int .i64 Ai, .int .i64 Aj, .slice AI Ab.length AF] 29 (0, 0)) (by refine bK ?_; (iterate 3 refine qF ?_ AL); exact A7.o) hb); replace A8 := Z.m (qb (g := Bg) (o := .cells #[.int .i64 AW, .int .i64 AX, .slice Ax B0.length Aw] 29 (0, 0)) (by refine bK ?_; (iterate 3 refine qF ?_ AM); exact A8.o) hb); replace Aa := Z.m (qb (g := Bp) (o := .cells #[.int .i64 AY, .int .i64 AZ, .slice AB B2.length Ay] 29 (0, 0)) (by refine bK ?_; (iterate 3 refine qF ?_ AN); exact Aa.o) hb); replace A9 := Z.m (qb (g := BL) (o := .cells #[.int .i64 Ak, .int .i64 Al, .slice AH Ae.length AG] 29 (0, 0)) (by refine bK ?_; (iterate 3 refine qF ?_ AJ); exact A9.o) hb); replace As := Z.m (qb (g := AV) (o := .cells #[.int .i64 Cq, .int .i64 Cr, .slice BS BB.length BO] 29 (0, 0)) (by refine bK ?_; apply st3; refine bK ?_; exact As.o) hb); replace HB := bB HB hb; (try clear hb); (try clear CW); (try clear hk); (try clear hi)))
               go_meet
               case rel => exact ⟨_, ((Cz != Ap)), (by first | rfl | (simp; done) | (simp [*]; done)), H', ⟨by have := Ei.o; have := EA.o; first | omega | exact Nat.le_refl _⟩, ⟨by (try simp only [Ac]); (try simp only [Ad]); refine rK ?_; exact Kd.Rm A6.o (fun _ hk => ⟨hk.2.2.2.1, ⟨hk.2.2.2.2.1, ⟨hk.2.2.2.2.2, hk.2.2.1⟩⟩⟩)⟩, ⟨by (try simp only [Ac]); (try simp only [Ad]); refine rK ?_; exact Kd.Rm A4.o (fun _ hk => ⟨hk.2.2.2.1, ⟨hk.2.2.2.2.1, ⟨hk.2.2.2.2.2, hk.2.2.1⟩⟩⟩)⟩, ⟨by (try simp only [Ac]); (try simp only [Ad]); refine rK ?_; exact Kd.Rm A5.o (fun _ hk => ⟨hk.2.2.2.1, ⟨hk.2.2.2.2.1, ⟨hk.2.2.2.2.2, hk.2.2.1⟩⟩⟩)⟩, ⟨by (try simp only [Ac]); (try simp only [Ad]); refine rK ?_; exact Kd.Rm A2.o (fun _ hk => ⟨hk.2.2.2.1, ⟨hk.2.2.2.2.1, ⟨hk.2.2.2.2.2, hk.2.2.1⟩⟩⟩)⟩, ⟨by (try simp only [Ac]); (try simp only [Ad]); refine rK ?_; exact Kd.Rm Bf.o (fun _ hk => ⟨hk.2.2.1, ⟨hk.2.2.2.1, ⟨hk.2.2.2.2.1, hk.2.2.2.2.2⟩⟩⟩)⟩, ⟨by (try simp only [Ac]); (try simp only [Ad]); refine bK ?_; exact A0.o⟩, ⟨by (try simp only [Ac]); (try simp only [Ad]); refine bK ?_; exact A1.o⟩, ⟨by (try simp only [Ac]); (try simp only [Ad]); refine bK ?_; exact A7.o⟩, ⟨by (try simp only [Ac]); (try simp only [Ad]); refine bK ?_; exact A8.o⟩, ⟨by (try simp only [Ac]); (try simp only [Ad]); refine bK ?_; exact Aa.o⟩, ⟨by (try simp only [Ac]); (try simp only [Ad]); refine bK ?_; exact A9.o⟩, ⟨by (try simp only [Ac]); (try simp only [Ad]); refine bK ?_; exact As.o⟩, ⟨vB HB⟩⟩
              ·(rw [if_neg c198] at H; exact absurd H (laws_FnExactStackBoards.bad_j2 _ _ _ _ _))
             case rest =>
              clear D1
              obtain ⟨kq, BY, rfl, HA, JD, A6, A4, A5, A2, BZ, A0, A1, A7, A8, Aa, A9, As, HB⟩ := hcut
              have Aq := (Kd.RrZ A2.o).1
              rw [Aq] at A2
              (try simp only [Aq])
              (try simp only [Aq] at A0)
              (try simp only [Aq] at A1)
              (try simp only [Aq] at A7)
              (try simp only [Aq] at A8)
              (try simp only [Aq] at Aa)
              (try simp only [Aq] at A9)
              (try simp only [Aq] at As)
              (try simp only [Aq] at A6)
              (try simp only [Aq] at A4)
              (try simp only [Aq] at A5)
              (try simp only [Aq] at BZ)
              cases kq with
              | zero => exact absurd HA.o (by simp [laws_FnExactStackBoards.j2])
              | succ kj174 =>
               have H := HA.o
               clear HA
               simp only [laws_FnExactStackBoards.j2] at H
               by_cases c227 : BY = true
               ·(rw [if_pos c227] at H; exact absurd H (by decide))
               ·replace c227 := Bool.eq_false_iff.mpr c227
                subst c227
                have H1 : ((laws_heldBoard.f kj174 Ak Al Be 1).bind fun CS => (if CS < 0 then (some false) else (if CS = Br then (some true) else (some false)))) = some true := by rw [if_neg (show ¬ (false = true) by decide)] at H; exact H
                clear H
                have H := H1
                clear H1
                replace H := Option.bind_eq_some_iff.mp H
                obtain ⟨CS, E8, H⟩ := H
                replace H : (if CS < 0 then (some false) else (if CS = Br then (some true) else (some false))) = some true := H
                have GW := Z.m E8
                clear E8
                by_cases c229 : CS < 0
                ·(rw [if_pos c229] at H; exact absurd H (by decide))
                ·rw [if_neg c229] at H
                 have CU := decide_eq_false c229
                 (try simp only [Ac] at CU)
                 (try simp only [Ad] at CU)
                 (try simp only [Aq] at CU)
                 clear c229
                 by_cases c238 : CS = Br
                 ·rw [if_pos c238] at H
                  have GZ := beq_iff_eq.mpr c238
                  have H0 := bne_eq_false_iff_eq.mpr c238
                  clear c238
                  clear H
                  have HM := Bx.o
                  have Jq := Bi.o
                  have HN := By.o
                  have Jr := Bj.o
                  have HO := Bm.o
                  have Js := Bb.o
                  have HP := Bn.o
                  have Jt := Bc.o
                  have HQ := Bo.o
                  have Ju := Bd.o
                  have HR := AJ.o
                  have Jv := AO.o
                  have EX := bc0 A9
                  have EY := bc1 A9
                  have EZ := bc2 A9
                  have Fi := qz A9.o 0
                  have Fj := qz A9.o 1
                  have Fk := qz A9.o 2
                  go_wp2_with (first | ((with_reducible refine gc (f := 26) rfl ?_); refine gA (some 113) _ #[.agg #[.int .i64 Ak, .int .i64 Al, .slice AH Be.length AG], .int .i64 1] ?_ Try.func26; (with_reducible refine (laws_heldBoard.calls kj174 Ak Al _ _ Be 1 CS _ ?side1 ?side2 GW.o).mono ?_); (case side1 => repeat (first | exact (Kd.RrZ A2.o).2.2 | (with_reducible refine Kd.C_alloc ?_ _) | (with_reducible refine Kd.C_drewN ?_ _) | (with_reducible refine Kd.C_drew ?_))); (case side2 => exact (Kd.RrZ A2.o).2.1); rintro e L0 ⟨rfl, hb⟩; refine ⟨_, rfl, ?_⟩; replace A6 := Z.m (Kd.Rb (vR A6) hb); replace A4 := Z.m (Kd.Rb (vR A4) hb); replace A5 := Z.m (Kd.Rb (vR A5) hb); replace A2 := Z.m (Kd.Rb (vR A2) hb); replace BZ := Z.m (Kd.Rb (vR BZ) hb); replace A0 := kB A0 hb; replace A1 := kB A1 hb; replace A7 := kB A7 hb; replace A8 := kB A8 hb; replace Aa := kB Aa hb; replace A9 := kB A9 hb; replace As := kB As hb; replace HB := bB HB hb; (try clear hb); (try clear CW); (try clear hk); (try clear hi)))
                  go_ret
                  exact ⟨by first | rfl | (simp [eN, eS] <;> rfl) | (simp [*, eN, eS] <;> rfl), vB HB⟩
                 ·(rw [if_neg c238] at H; exact absurd H (by decide))
            ·(rw [if_neg c171] at H; exact absurd H (by decide))
       ·(rw [if_neg c106] at H; exact absurd H (by decide))
      ·(rw [if_neg c103] at H; exact absurd H (by decide))

end Go.Proofs.Yteodcegmkbcjjaa.PAll
