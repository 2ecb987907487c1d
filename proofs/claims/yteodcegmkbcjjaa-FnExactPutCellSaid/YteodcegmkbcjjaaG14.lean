/- Began as a text that print.sh wrote (of the functions named below); turned and shortened by this session. -/
import Derived.Test.YteodcegmkbcjjaaG0
import Derived.Test.YteodcegmkbcjjaaG1
import Derived.Test.YteodcegmkbcjjaaG6
import Derived.Test.YteodcegmkbcjjaaG12
import Derived.Test.YteodcegmkbcjjaaG13
namespace Go.Proofs.Yteodcegmkbcjjaa.PAll
open Go.RowKit Go.Proofs.YteodcegmkbcjjaaW.PrintWords Go.Proofs.YteodcegmkbcjjaaW.PrintLast Go.Proofs.YteodcegmkbcjjaaW.PrintMore
attribute [local go_sem] max2_int min2_int max_two min_two max_three min_three max_four min_four   -- for this text's walks alone
set_option linter.unusedVariables false
set_option linter.unusedSimpArgs false

/-! ### laws_FnExactPutCell: function 9 -/
mutual
def laws_FnExactPutCell.j0 : Nat → Int → Int → Bool → Bool → Bool → Int → Int → List (S46) → Int → Int → Int → Int → List (S34) → Int → Int → List (S34) → Int → Int → List (S34) → Option (Bool)
 | 0, _, _, _, _, _, _, _, _, _, _, _, _, _, _, _, _, _, _, _ => none
 | k + 1, x1, x2, x11, x14, x54, x404000, x404001, x404002, x405000, x405001, x420000, x420001, x420002, x426000, x426001, x426002, x435000, x435001, x435002 => if x54 = true then (some false) else ((laws_toBoard.f k x404000 x404001 x404002).bind fun bt436 => ((laws_eqBoard.f k x426000 x426001 x426002 bt436.1 bt436.2.1 bt436.2.2).bind fun t441 => (if t441 = true then ((laws_markBoard.f k x426000 x426001 x426002 1).bind fun bt442 => (if bt442.1 < 0 then (laws_FnExactPutCell.j1 k x1 x2 x11 true x404000 x404001 x404002 x405000 x405001 x420000 x420001 x420002 x435000 x435001 x435002) else ((laws_eqBoard.f k x435000 x435001 x435002 x420000 x420001 x420002).bind fun t444 => (if t444 = true then (laws_FnExactPutCell.j1 k x1 x2 x11 (x14 != x11) x404000 x404001 x404002 x405000 x405001 x420000 x420001 x420002 x435000 x435001 x435002) else (laws_FnExactPutCell.j1 k x1 x2 x11 true x404000 x404001 x404002 x405000 x405001 x420000 x420001 x420002 x435000 x435001 x435002))))) else (some false))))
def laws_FnExactPutCell.j1 : Nat → Int → Int → Bool → Bool → Int → Int → List (S46) → Int → Int → Int → Int → List (S34) → Int → Int → List (S34) → Option (Bool)
 | 0, _, _, _, _, _, _, _, _, _, _, _, _, _, _, _ => none
 | k + 1, x1, x2, x11, x75, x404000, x404001, x404002, x405000, x405001, x420000, x420001, x420002, x435000, x435001, x435002 => if x75 = true then (some false) else ((laws_markBoard.f k x435000 x435001 x435002 1).bind fun bt445 => ((laws_heldBoard.f k x435000 x435001 bt445.2 1).bind fun t447 => (if t447 < 0 then (some false) else (if t447 = bt445.1 then ((laws_toBoard.f k x404000 x404001 x404002).bind fun bt448 => ((laws_toCell.f x405000 x405001).bind fun bt453 => ((impl_PutCell.f k bt448.1 bt448.2.1 bt448.2.2 x1 x2 bt453.1 bt453.2).bind fun bt455 => ((laws_eqBoard.f k bt455.1 bt455.2.1 bt455.2.2.1 x420000 x420001 x420002).bind fun t462 => (if t462 = true then (laws_FnExactPutCell.j2 k bt445.1 (bt455.2.2.2 != x11) x435000 x435001 bt445.2) else (laws_FnExactPutCell.j2 k bt445.1 true x435000 x435001 bt445.2)))))) else (some false)))))
def laws_FnExactPutCell.j2 : Nat → Int → Bool → Int → Int → List (S34) → Option (Bool)
 | 0, _, _, _, _, _ => none
 | k + 1, x16, x105, x435000, x435001, x435002 => if x105 = true then (some false) else ((laws_heldBoard.f k x435000 x435001 x435002 1).bind fun t463 => (if t463 < 0 then (some false) else (if t463 = x16 then (some true) else (some false))))
end
def laws_FnExactPutCell.f (k : Nat) (a0_0 : Int) (a0_1 : Int) (l0_2 : List (S46)) (a1 : Int) (a2 : Int) (a3_0 : Int) (a3_1 : Int) : Option (Bool) := (laws_szBoard.f a0_0 a0_1 l0_2 1048576).bind fun t405 => (if t405 < 0 then (some true) else ((laws_toBoard.f k a0_0 a0_1 l0_2).bind fun bt406 => ((laws_toCell.f a3_0 a3_1).bind fun bt411 => ((spec_PutCell.f k bt406.1 bt406.2.1 bt406.2.2 a1 a2 bt411.1 bt411.2).bind fun bt413 => ((laws_toBoard.f k a0_0 a0_1 l0_2).bind fun bt420 => ((laws_toCell.f a3_0 a3_1).bind fun bt426 => ((impl_PutCell.f k bt420.1 bt420.2.1 bt420.2.2 a1 a2 bt426.1 bt426.2).bind fun bt428 => ((laws_eqBoard.f k bt428.1 bt428.2.1 bt428.2.2.1 bt413.1 bt413.2.1 bt413.2.2.1).bind fun t435 => (if t435 = true then (laws_FnExactPutCell.j0 k a1 a2 bt413.2.2.2 bt428.2.2.2 (bt428.2.2.2 != bt413.2.2.2) a0_0 a0_1 l0_2 a3_0 a3_1 bt413.1 bt413.2.1 bt413.2.2.1 bt420.1 bt420.2.1 bt420.2.2 bt428.1 bt428.2.1 bt428.2.2.1) else (laws_FnExactPutCell.j0 k a1 a2 bt413.2.2.2 bt428.2.2.2 true a0_0 a0_1 l0_2 a3_0 a3_1 bt413.1 bt413.2.1 bt413.2.2.1 bt420.1 bt420.2.1 bt420.2.2 bt428.1 bt428.2.1 bt428.2.2.1))))))))))
def laws_FnExactPutCell.T5 : Bool × List (List Nat × List Nat) := (true, [([], []), ([0], [0]), ([], []), ([], []), ([], []), ([4, 1], [4]), ([1, 2, 3, 5, 5], [1, 2, 3, 5]), ([6], [6]), ([7], [7]), ([7], [7]), ([], []), ([10, 8, 6, 0, 1, 2, 3, 4, 5, 6, 7, 8, 10], [8, 10]), ([9, 11, 0, 1, 2, 3, 4, 5, 6, 7, 8, 9, 10, 11], [9])])
def laws_FnExactPutCell.B5 : List Nat := [0, 1, 0, 0, 0, 19, 63, 127, 255, 255, 0, 1535, 4095]
theorem laws_FnExactPutCell.tab5 : rtab .any (opsOf Try.f9 5) = laws_FnExactPutCell.T5 := by kernel_rfl
theorem laws_FnExactPutCell.bits5 : waitsOk laws_FnExactPutCell.T5.2 laws_FnExactPutCell.B5 = true := by kernel_rfl
def laws_FnExactPutCell.T7 : Bool × List (List Nat × List Nat) := (true, [([], []), ([], []), ([], []), ([], []), ([3], [3]), ([0, 1, 2, 4, 4], [0, 1, 2, 4]), ([5], [5]), ([6], [6]), ([6], [6]), ([], []), ([9, 7, 5, 0, 1, 2, 3, 4, 5, 6, 7, 9], [7, 9]), ([8, 10, 0, 1, 2, 3, 4, 5, 6, 7, 8, 9, 10], [8])])
def laws_FnExactPutCell.B7 : List Nat := [0, 0, 0, 0, 8, 31, 63, 127, 127, 0, 767, 2047]
theorem laws_FnExactPutCell.tab7 : rtab .any (opsOf Try.f9 7) = laws_FnExactPutCell.T7 := by kernel_rfl
theorem laws_FnExactPutCell.bits7 : waitsOk laws_FnExactPutCell.T7.2 laws_FnExactPutCell.B7 = true := by kernel_rfl
def laws_FnExactPutCell.T24 : Bool × List (List Nat × List Nat) := (true, [([], []), ([0], [0]), ([], []), ([], []), ([], []), ([4, 1], [4]), ([1, 2, 3, 5, 5], [1, 2, 3, 5]), ([6], [6]), ([7], [7]), ([7], [7]), ([], []), ([10, 8, 6, 0, 1, 2, 3, 4, 5, 6, 7, 8, 10], [8, 10]), ([9, 11, 0, 1, 2, 3, 4, 5, 6, 7, 8, 9, 10, 11], [9])])
def laws_FnExactPutCell.B24 : List Nat := [0, 1, 0, 0, 0, 19, 63, 127, 255, 255, 0, 1535, 4095]
theorem laws_FnExactPutCell.tab24 : rtab .any (opsOf Try.f9 24) = laws_FnExactPutCell.T24 := by kernel_rfl
theorem laws_FnExactPutCell.bits24 : waitsOk laws_FnExactPutCell.T24.2 laws_FnExactPutCell.B24 = true := by kernel_rfl
theorem laws_FnExactPutCell.bad_j0 (k : Nat) (y0 : Int) (y1 : Int) (y2 : Bool) (y3 : Bool) (y5 : Int) (y6 : Int) (y7 : List (S46)) (y8 : Int) (y9 : Int) (y10 : Int) (y11 : Int) (y12 : List (S34)) (y13 : Int) (y14 : Int) (y15 : List (S34)) (y16 : Int) (y17 : Int) (y18 : List (S34)) : ¬ laws_FnExactPutCell.j0 k y0 y1 y2 y3 true y5 y6 y7 y8 y9 y10 y11 y12 y13 y14 y15 y16 y17 y18 = some true := by
 cases k <;> simp [laws_FnExactPutCell.j0]
theorem laws_FnExactPutCell.bad_j1 (k : Nat) (y0 : Int) (y1 : Int) (y2 : Bool) (y4 : Int) (y5 : Int) (y6 : List (S46)) (y7 : Int) (y8 : Int) (y9 : Int) (y10 : Int) (y11 : List (S34)) (y12 : Int) (y13 : Int) (y14 : List (S34)) : ¬ laws_FnExactPutCell.j1 k y0 y1 y2 true y4 y5 y6 y7 y8 y9 y10 y11 y12 y13 y14 = some true := by
 cases k <;> simp [laws_FnExactPutCell.j1]
theorem laws_FnExactPutCell.bad_j2 (k : Nat) (y0 : Int) (y2 : Int) (y3 : Int) (y4 : List (S34)) : ¬ laws_FnExactPutCell.j2 k y0 true y2 y3 y4 = some true := by
 cases k <;> simp [laws_FnExactPutCell.j2]
set_option maxHeartbeats 8000000 in
set_option maxRecDepth 100000 in
theorem laws_FnExactPutCell.calls (k : Nat) (a0_0 : Int) (a0_1 : Int) (A0_2 : Option Addr) (c0_2 : Nat) (l0_2 : List (S46)) (a1 : Int) (a2 : Int) (a3_0 : Int) (a3_1 : Int) (w : World) (hr0_2 : Kd.C k46 w A0_2 l0_2.length l0_2) (hc0_2 : l0_2.length ≤ c0_2) (h : laws_FnExactPutCell.f k a0_0 a0_1 l0_2 a1 a2 a3_0 a3_1 = some true) :
 Calls Try.prog 9 #[.agg #[.int .i64 a0_0, .int .i64 a0_1, .slice A0_2 l0_2.length c0_2], .int .i64 a1, .int .i64 a2, .agg #[.int .i64 a3_0, .int .i64 a3_1]] w fun e w' => e = .returned (.bool true) ∧ Below w.heap.size w w' := by
 have Hz := Try.underlying24
 have HD := Try.underlying46
 have HC := Try.underlying29
 have BK := Z.m hr0_2
 have BJ := Z.m hc0_2
 clear hr0_2 hc0_2
 have HB := Z.m (Below.refl w.heap.size w)
 have H : ((laws_szBoard.f a0_0 a0_1 l0_2 1048576).bind fun Ca => (if Ca < 0 then (some true) else ((laws_toBoard.f k a0_0 a0_1 l0_2).bind fun bt406 => ((laws_toCell.f a3_0 a3_1).bind fun bt411 => ((spec_PutCell.f k bt406.1 bt406.2.1 bt406.2.2 a1 a2 bt411.1 bt411.2).bind fun bt413 => ((laws_toBoard.f k a0_0 a0_1 l0_2).bind fun bt420 => ((laws_toCell.f a3_0 a3_1).bind fun bt426 => ((impl_PutCell.f k bt420.1 bt420.2.1 bt420.2.2 a1 a2 bt426.1 bt426.2).bind fun bt428 => ((laws_eqBoard.f k bt428.1 bt428.2.1 bt428.2.2.1 bt413.1 bt413.2.1 bt413.2.2.1).bind fun Bg => (if Bg = true then (laws_FnExactPutCell.j0 k a1 a2 bt413.2.2.2 bt428.2.2.2 (bt428.2.2.2 != bt413.2.2.2) a0_0 a0_1 l0_2 a3_0 a3_1 bt413.1 bt413.2.1 bt413.2.2.1 bt420.1 bt420.2.1 bt420.2.2 bt428.1 bt428.2.1 bt428.2.2.1) else (laws_FnExactPutCell.j0 k a1 a2 bt413.2.2.2 bt428.2.2.2 true a0_0 a0_1 l0_2 a3_0 a3_1 bt413.1 bt413.2.1 bt413.2.2.1 bt420.1 bt420.2.1 bt420.2.2 bt428.1 bt428.2.1 bt428.2.2.1))))))))))) = some true := h
 clear h
 replace H := Option.bind_eq_some_iff.mp H
 obtain ⟨Ca, Gx, H⟩ := H
 replace H : (if Ca < 0 then (some true) else ((laws_toBoard.f k a0_0 a0_1 l0_2).bind fun bt406 => ((laws_toCell.f a3_0 a3_1).bind fun bt411 => ((spec_PutCell.f k bt406.1 bt406.2.1 bt406.2.2 a1 a2 bt411.1 bt411.2).bind fun bt413 => ((laws_toBoard.f k a0_0 a0_1 l0_2).bind fun bt420 => ((laws_toCell.f a3_0 a3_1).bind fun bt426 => ((impl_PutCell.f k bt420.1 bt420.2.1 bt420.2.2 a1 a2 bt426.1 bt426.2).bind fun bt428 => ((laws_eqBoard.f k bt428.1 bt428.2.1 bt428.2.2.1 bt413.1 bt413.2.1 bt413.2.2.1).bind fun Bg => (if Bg = true then (laws_FnExactPutCell.j0 k a1 a2 bt413.2.2.2 bt428.2.2.2 (bt428.2.2.2 != bt413.2.2.2) a0_0 a0_1 l0_2 a3_0 a3_1 bt413.1 bt413.2.1 bt413.2.2.1 bt420.1 bt420.2.1 bt420.2.2 bt428.1 bt428.2.1 bt428.2.2.1) else (laws_FnExactPutCell.j0 k a1 a2 bt413.2.2.2 bt428.2.2.2 true a0_0 a0_1 l0_2 a3_0 a3_1 bt413.1 bt413.2.1 bt413.2.2.1 bt420.1 bt420.2.1 bt420.2.2 bt428.1 bt428.2.1 bt428.2.2.1)))))))))) = some true := H
 have A5 := Z.m Gx
 clear Gx
 by_cases c6 : Ca < 0
 ·rw [if_pos c6] at H
  have FJ := decide_eq_true c6
  clear c6
  clear H
  go_enter Try.func9, Try.ntmps9
  go_wp2_with (first | ((with_reducible refine gq (N := 4) rfl ?_); refine be (N := 4) (cs := #[.int .i64 a0_0, .int .i64 a0_1, .slice A0_2 l0_2.length c0_2]) (t := 24) ?_; intro An hg w7 hbox hb; have A0 := Z.m (hbox); have Cg := gW (w := w) HB hg; have Ce := Cg; replace HB := bB HB hb; clear hb hbox hg) | ((with_reducible refine gq (N := 7) rfl ?_); refine be (N := 7) (cs := #[.int .i64 a3_0, .int .i64 a3_1]) (t := 46) ?_; intro Av hg w8 hbox hb; have A1 := Z.m (hbox); have Ch := gW (w := w) HB hg; have Cf := Ch; have Bq := neL A0 hg; have Bs := neG A0 hg; replace A0 := kB A0 hb; replace HB := bB HB hb; clear hb hbox hg; have Hr := Bq.o; have Hs := Bs.o; have Eg := bc0 A0; have Eh := bc1 A0; have Ei := bc2 A0; have ED := qz A0.o 0; have EE := qz A0.o 1; have EF := qz A0.o 2) | ((with_reducible refine gc (f := 15) rfl ?_); refine gA (some 22) _ #[.agg #[.int .i64 a0_0, .int .i64 a0_1, .slice A0_2 l0_2.length c0_2], .int .i64 1048576] ?_ Try.func15; (with_reducible refine (laws_szBoard.calls a0_0 a0_1 _ _ l0_2 1048576 Ca _ ?side1 ?side2 A5.o).mono ?_); (case side1 => repeat (first | exact (Kd.C_below BK.o HB.o) | (with_reducible refine Kd.C_alloc ?_ _) | (with_reducible refine Kd.C_drewN ?_ _) | (with_reducible refine Kd.C_drew ?_))); (case side2 => exact BJ.o); rintro e HQ ⟨rfl, hb⟩; refine ⟨_, rfl, ?_⟩; replace A0 := kB A0 hb; replace A1 := kB A1 hb; replace HB := bB HB hb; (try clear hb); (try clear CN); (try clear hk); (try clear hi)))
  go_ret
  exact ⟨by first | rfl | (simp [eN, eS] <;> rfl) | (simp [*, eN, eS] <;> rfl), vB HB⟩
 ·rw [if_neg c6] at H
  have FJ := decide_eq_false c6
  clear c6
  replace H := Option.bind_eq_some_iff.mp H
  obtain ⟨⟨Bu, Bv, Bc⟩, CQ, H⟩ := H
  replace H : ((laws_toCell.f a3_0 a3_1).bind fun bt411 => ((spec_PutCell.f k Bu Bv Bc a1 a2 bt411.1 bt411.2).bind fun bt413 => ((laws_toBoard.f k a0_0 a0_1 l0_2).bind fun bt420 => ((laws_toCell.f a3_0 a3_1).bind fun bt426 => ((impl_PutCell.f k bt420.1 bt420.2.1 bt420.2.2 a1 a2 bt426.1 bt426.2).bind fun bt428 => ((laws_eqBoard.f k bt428.1 bt428.2.1 bt428.2.2.1 bt413.1 bt413.2.1 bt413.2.2.1).bind fun Bg => (if Bg = true then (laws_FnExactPutCell.j0 k a1 a2 bt413.2.2.2 bt428.2.2.2 (bt428.2.2.2 != bt413.2.2.2) a0_0 a0_1 l0_2 a3_0 a3_1 bt413.1 bt413.2.1 bt413.2.2.1 bt420.1 bt420.2.1 bt420.2.2 bt428.1 bt428.2.1 bt428.2.2.1) else (laws_FnExactPutCell.j0 k a1 a2 bt413.2.2.2 bt428.2.2.2 true a0_0 a0_1 l0_2 a3_0 a3_1 bt413.1 bt413.2.1 bt413.2.2.1 bt420.1 bt420.2.1 bt420.2.2 bt428.1 bt428.2.1 bt428.2.2.1)))))))) = some true := H
  have Gv := Z.m CQ
  clear CQ
  replace H := Option.bind_eq_some_iff.mp H
  obtain ⟨⟨Bw, Bx⟩, C8, H⟩ := H
  replace H : ((spec_PutCell.f k Bu Bv Bc a1 a2 Bw Bx).bind fun bt413 => ((laws_toBoard.f k a0_0 a0_1 l0_2).bind fun bt420 => ((laws_toCell.f a3_0 a3_1).bind fun bt426 => ((impl_PutCell.f k bt420.1 bt420.2.1 bt420.2.2 a1 a2 bt426.1 bt426.2).bind fun bt428 => ((laws_eqBoard.f k bt428.1 bt428.2.1 bt428.2.2.1 bt413.1 bt413.2.1 bt413.2.2.1).bind fun Bg => (if Bg = true then (laws_FnExactPutCell.j0 k a1 a2 bt413.2.2.2 bt428.2.2.2 (bt428.2.2.2 != bt413.2.2.2) a0_0 a0_1 l0_2 a3_0 a3_1 bt413.1 bt413.2.1 bt413.2.2.1 bt420.1 bt420.2.1 bt420.2.2 bt428.1 bt428.2.1 bt428.2.2.1) else (laws_FnExactPutCell.j0 k a1 a2 bt413.2.2.2 bt428.2.2.2 true a0_0 a0_1 l0_2 a3_0 a3_1 bt413.1 bt413.2.1 bt413.2.2.1 bt420.1 bt420.2.1 bt420.2.2 bt428.1 bt428.2.1 bt428.2.2.1))))))) = some true := H
  have FA := Z.m C8
  clear C8
  replace H := Option.bind_eq_some_iff.mp H
  obtain ⟨⟨As, At, Aa, Ay⟩, CS, H⟩ := H
  replace H : ((laws_toBoard.f k a0_0 a0_1 l0_2).bind fun bt420 => ((laws_toCell.f a3_0 a3_1).bind fun bt426 => ((impl_PutCell.f k bt420.1 bt420.2.1 bt420.2.2 a1 a2 bt426.1 bt426.2).bind fun bt428 => ((laws_eqBoard.f k bt428.1 bt428.2.1 bt428.2.2.1 As At Aa).bind fun Bg => (if Bg = true then (laws_FnExactPutCell.j0 k a1 a2 Ay bt428.2.2.2 (bt428.2.2.2 != Ay) a0_0 a0_1 l0_2 a3_0 a3_1 As At Aa bt420.1 bt420.2.1 bt420.2.2 bt428.1 bt428.2.1 bt428.2.2.1) else (laws_FnExactPutCell.j0 k a1 a2 Ay bt428.2.2.2 true a0_0 a0_1 l0_2 a3_0 a3_1 As At Aa bt420.1 bt420.2.1 bt420.2.2 bt428.1 bt428.2.1 bt428.2.2.1)))))) = some true := H
  have Ef := Z.m CS
  clear CS
  replace H := Option.bind_eq_some_iff.mp H
  obtain ⟨⟨AC, AD, Ai⟩, CT, H⟩ := H
  replace H : ((laws_toCell.f a3_0 a3_1).bind fun bt426 => ((impl_PutCell.f k AC AD Ai a1 a2 bt426.1 bt426.2).bind fun bt428 => ((laws_eqBoard.f k bt428.1 bt428.2.1 bt428.2.2.1 As At Aa).bind fun Bg => (if Bg = true then (laws_FnExactPutCell.j0 k a1 a2 Ay bt428.2.2.2 (bt428.2.2.2 != Ay) a0_0 a0_1 l0_2 a3_0 a3_1 As At Aa AC AD Ai bt428.1 bt428.2.1 bt428.2.2.1) else (laws_FnExactPutCell.j0 k a1 a2 Ay bt428.2.2.2 true a0_0 a0_1 l0_2 a3_0 a3_1 As At Aa AC AD Ai bt428.1 bt428.2.1 bt428.2.2.1))))) = some true := H
  have Hl := Z.m CT
  clear CT
  replace H := Option.bind_eq_some_iff.mp H
  obtain ⟨⟨BS, BT⟩, CU, H⟩ := H
  replace H : ((impl_PutCell.f k AC AD Ai a1 a2 BS BT).bind fun bt428 => ((laws_eqBoard.f k bt428.1 bt428.2.1 bt428.2.2.1 As At Aa).bind fun Bg => (if Bg = true then (laws_FnExactPutCell.j0 k a1 a2 Ay bt428.2.2.2 (bt428.2.2.2 != Ay) a0_0 a0_1 l0_2 a3_0 a3_1 As At Aa AC AD Ai bt428.1 bt428.2.1 bt428.2.2.1) else (laws_FnExactPutCell.j0 k a1 a2 Ay bt428.2.2.2 true a0_0 a0_1 l0_2 a3_0 a3_1 As At Aa AC AD Ai bt428.1 bt428.2.1 bt428.2.2.1)))) = some true := H
  have Gw := Z.m CU
  clear CU
  replace H := Option.bind_eq_some_iff.mp H
  obtain ⟨⟨Ak, Al, Af, B9⟩, CV, H⟩ := H
  replace H : ((laws_eqBoard.f k Ak Al Af As At Aa).bind fun Bg => (if Bg = true then (laws_FnExactPutCell.j0 k a1 a2 Ay B9 (B9 != Ay) a0_0 a0_1 l0_2 a3_0 a3_1 As At Aa AC AD Ai Ak Al Af) else (laws_FnExactPutCell.j0 k a1 a2 Ay B9 true a0_0 a0_1 l0_2 a3_0 a3_1 As At Aa AC AD Ai Ak Al Af))) = some true := H
  have FC := Z.m CV
  clear CV
  have CI := Z.m H
  clear H
  go_enter Try.func9, Try.ntmps9
  try go_wp2_with (first | ((with_reducible refine gq (N := 4) rfl ?_); refine be (N := 4) (cs := #[.int .i64 a0_0, .int .i64 a0_1, .slice A0_2 l0_2.length c0_2]) (t := 24) ?_; intro An hg HR hbox hb; have A0 := Z.m (hbox); have Cg := gW (w := w) HB hg; have Ce := Cg; replace HB := bB HB hb; clear hb hbox hg) | ((with_reducible refine gq (N := 7) rfl ?_); refine be (N := 7) (cs := #[.int .i64 a3_0, .int .i64 a3_1]) (t := 46) ?_; intro Av hg HS hbox hb; have A1 := Z.m (hbox); have Ch := gW (w := w) HB hg; have Cf := Ch; have Bq := neL A0 hg; have Bs := neG A0 hg; replace A0 := kB A0 hb; replace HB := bB HB hb; clear hb hbox hg; have Gz := Bq.o; have GT := Bs.o; have Ej := bc0 A0; have Ek := bc1 A0; have El := bc2 A0; have EG := qz A0.o 0; have EH := qz A0.o 1; have EI := qz A0.o 2) | ((with_reducible refine gc (f := 15) rfl ?_); refine gA (some 22) _ #[.agg #[.int .i64 a0_0, .int .i64 a0_1, .slice A0_2 l0_2.length c0_2], .int .i64 1048576] ?_ Try.func15; (with_reducible refine (laws_szBoard.calls a0_0 a0_1 _ _ l0_2 1048576 Ca _ ?side1 ?side2 A5.o).mono ?_); (case side1 => repeat (first | exact (Kd.C_below BK.o HB.o) | (with_reducible refine Kd.C_alloc ?_ _) | (with_reducible refine Kd.C_drewN ?_ _) | (with_reducible refine Kd.C_drew ?_))); (case side2 => exact BJ.o); rintro e HM ⟨rfl, hb⟩; refine ⟨_, rfl, ?_⟩; replace A0 := kB A0 hb; replace A1 := kB A1 hb; replace HB := bB HB hb; (try clear hb); (try clear CN); (try clear hk); (try clear hi)))
  replace A0 := Z.m (blk_drew A0.o)
  replace A1 := Z.m (blk_drew A1.o)
  replace HB := Z.m (qd HB.o)
  refine start_ (n := 13) (S := fun w' => w'.cell? ⟨An, 0, none⟩ = some (.int .i64 a0_0) ∧ w'.cell? ⟨An, 1, none⟩ = some (.int .i64 a0_1) ∧ w'.cell? ⟨An, 2, none⟩ = some (.slice A0_2 l0_2.length c0_2) ∧ w'.cell? ⟨Av, 0, none⟩ = some (.int .i64 a3_0) ∧ w'.cell? ⟨Av, 1, none⟩ = some (.int .i64 a3_1)) (ds := []) #[false, false, false, false, false, false, false, false, false, false, false, false, false] (by kernel_rfl) rfl rfl ⟨(ql A0.o 0).trans rfl, (ql A0.o 1).trans rfl, (ql A0.o 2).trans rfl, (ql A1.o 0).trans rfl, (ql A1.o 1).trans rfl⟩ (fun hHeld => ?_); refine with_tabW laws_FnExactPutCell.tab5 laws_FnExactPutCell.bits5 (fun HT_ HW_ => ?_)
  generalize HM.drew = HT at A0 A1 HB hHeld ⊢
  refine pure_ (i := 2) (N := some 28) (v := ?_) (a' := ?_) #[false, false, true, false, false, false, false, false, false, false, false, false, false] rfl rfl (any_of HT_.o (by kernel_rfl)) (fun _ _ _ h => h) (Or.inl ⟨by rfl, ?_⟩) ?_ ?_
  rotate_left
  ·intro w'
   go_simp
   with_reducible rfl
  rotate_left
  ·simp only [Act.put, q1, q2, q3, i64_w, i32_w]
   rfl
  refine pure_ (i := 3) (N := some 29) (v := ?_) (a' := ?_) #[false, false, true, true, false, false, false, false, false, false, false, false, false] rfl rfl (any_of HT_.o (by kernel_rfl)) (fun _ _ _ h => h) (Or.inl ⟨by rfl, ?_⟩) ?_ ?_
  rotate_left
  ·intro w'
   go_simp
   with_reducible rfl
  rotate_left
  ·simp only [Act.put, q1, q2, q3, i64_w, i32_w]
   rfl
  refine take_ (i := 0) (N := some 26) (v := ?_) (a' := ?_) #[true, false, true, true, false, false, false, false, false, false, false, false, false] rfl rfl (take_ofW HT_.o HW_.o (by kernel_rfl)) (fun _ _ _ h => h) (Or.inl ⟨by rfl, ?_⟩) hHeld ?_ ?_
  rotate_left
  ·rintro w' ⟨s0, s1, s2, s3, s4⟩
   go_simp
   with_reducible rfl
  rotate_left
  ·simp only [Act.put, q1, q2, q3, i64_w, i32_w]
   rfl
  refine take_ (i := 4) (N := some 30) (v := ?_) (a' := ?_) #[true, false, true, true, true, false, false, false, false, false, false, false, false] rfl rfl (take_ofW HT_.o HW_.o (by kernel_rfl)) (fun _ _ _ h => h) (Or.inl ⟨by rfl, ?_⟩) hHeld ?_ ?_
  rotate_left
  ·rintro w' ⟨s0, s1, s2, s3, s4⟩
   go_simp
   with_reducible rfl
  rotate_left
  ·simp only [Act.put, q1, q2, q3, i64_w, i32_w]
   rfl
  refine join_ (σ := Value × Value × Nat) 2 #[true, true, true, true, true, true, true, true, true, true, true, false, false] (fun s_ => [(27, .agg #[.int .i64 Bu, .int .i64 Bv, s_.1]), (31, .agg #[.int .i64 Bw, .int .i64 Bx]), (32, .tuple #[.agg #[.int .i64 As, .int .i64 At, s_.2.1], .bool Ay]), (10, .pointer (some ⟨s_.2.2, 0, none⟩)), (25, .tuple #[.agg #[.int .i64 As, .int .i64 At, s_.2.1], .bool Ay]), (33, .agg #[.int .i64 As, .int .i64 At, s_.2.1]), (34, .bool Ay)]) (fun s_ w' => (w'.cell? ⟨An, 0, none⟩ = some (.int .i64 a0_0) ∧ w'.cell? ⟨An, 1, none⟩ = some (.int .i64 a0_1) ∧ w'.cell? ⟨An, 2, none⟩ = some (.slice A0_2 l0_2.length c0_2) ∧ w'.cell? ⟨Av, 0, none⟩ = some (.int .i64 a3_0) ∧ w'.cell? ⟨Av, 1, none⟩ = some (.int .i64 a3_1)) ∧ (Kd.R k34 34 w' w.heap.size (fun k_ => some k_ ≠ (s_.2.1 : Value).ownBlock) s_.1 Bc) ∧ (Kd.R k34 34 w' w.heap.size (fun k_ => some k_ ≠ (s_.1 : Value).ownBlock) s_.2.1 Aa) ∧ (w'.heap[An]? = some (.cells #[.int .i64 a0_0, .int .i64 a0_1, .slice A0_2 l0_2.length c0_2] 24 (0, 0))) ∧ (w'.heap[Av]? = some (.cells #[.int .i64 a3_0, .int .i64 a3_1] 46 (0, 0))) ∧ (w'.heap[s_.2.2]? = some (.cells #[.int .i64 0, .int .i64 0, .slice none 0 0] 29 (0, 0))) ∧ (w.heap.size ≤ s_.2.2) ∧ (w.heap.size ≤ s_.2.2) ∧ (An ≠ s_.2.2) ∧ (s_.2.2 ≠ An) ∧ (Av ≠ s_.2.2) ∧ (s_.2.2 ≠ Av) ∧ (Below w.heap.size w w')) ?_ ?_
  rotate_left
  ·intro hCont
   refine two_ (i := 1) (j := 10) (Ni := some 27) (Nj := some 10) #[true, true, true, true, true, false, false, false, false, false, false, false, false] #[true, false, true, true, true, false, false, false, false, false, true, false, false] rfl rfl rfl rfl (two_of HT_.o (by kernel_rfl)) (by decide) (by decide) (fun K hK => ?_) (fun K hK => ?_)
   ·skip
    refine goes_ Try.func17 (by kernel_rfl) rfl #[.agg #[.int .i64 a0_0, .int .i64 a0_1, .slice A0_2 l0_2.length c0_2]] (by rfl) rfl rfl (by (try simp only [List.map_toArray, List.map_cons, List.map_nil]); first | done | rfl | (simp only [List.length_drop, List.length_take]; rfl)) ?_
    with_reducible refine (laws_toBoard.calls k a0_0 a0_1 _ _ l0_2 Bu Bv Bc _ ?side1 ?side2 Gv.o).mono ?_
    (case side1 => repeat (first | exact (Kd.C_below BK.o HB.o) | (with_reducible refine Kd.C_alloc ?_ _) | (with_reducible refine Kd.C_drewN ?_ _) | (with_reducible refine Kd.C_drew ?_)))
    (case side2 => exact BJ.o)
    rintro e HN ⟨Bj, rfl, AV, hb⟩
    refine ⟨_, rfl, ?_⟩
    have A9 := Z.m (Kd.R_lower AV (below_size (vB HB)))
    replace A0 := kB A0 hb
    replace A1 := kB A1 hb
    replace HB := bB HB hb
    (try clear hb); (try clear AV)
    refine hK.out _ _ ⟨(ql A0.o 0).trans rfl, (ql A0.o 1).trans rfl, (ql A0.o 2).trans rfl, (ql A1.o 0).trans rfl, (ql A1.o 1).trans rfl⟩ (fun hHeld => ?_)
    clear hK K
    refine norm_ (a' := ?_) ?_ ?_
    rotate_left
    ·show Act.put _ (some 27) _ = _
     simp only [Act.put, q1, q2, q3, i64_w, i32_w]
     rfl
    refine two_ (i := 5) (j := 10) (Ni := some 31) (Nj := some 10) #[true, true, true, true, true, true, false, false, false, false, false, false, false] #[true, true, true, true, true, false, false, false, false, false, true, false, false] rfl rfl rfl rfl (two_of HT_.o (by kernel_rfl)) (by decide) (by decide) (fun K hK => ?_) (fun K hK => ?_)
    ·skip
     refine goes_ Try.func34 (by kernel_rfl) rfl #[.agg #[.int .i64 a3_0, .int .i64 a3_1]] (by rfl) rfl rfl (by (try simp only [List.map_toArray, List.map_cons, List.map_nil]); first | done | rfl | (simp only [List.length_drop, List.length_take]; rfl)) ?_
     with_reducible refine (laws_toCell.calls a3_0 a3_1 Bw Bx _ FA.o).mono ?_
     rintro e Hh ⟨rfl, hb⟩
     refine ⟨_, rfl, ?_⟩
     replace A9 := Z.m (Kd.Rb (vR A9) hb)
     replace A0 := kB A0 hb
     replace A1 := kB A1 hb
     replace HB := bB HB hb
     (try clear hb)
     obtain ⟨D1, D3, D4⟩ := Kd.R_slice A9.o
     (first | subst D4 | (injection D4 with f1_ f2_ f3_; have f4_ := f1_.symm; have f5_ := f3_.symm; clear f1_ f2_ f3_; subst f4_; subst f5_))
     refine hK.out _ _ ⟨(ql A0.o 0).trans rfl, (ql A0.o 1).trans rfl, (ql A0.o 2).trans rfl, (ql A1.o 0).trans rfl, (ql A1.o 1).trans rfl⟩ (fun hHeld => ?_)
     clear hK K
     refine norm_ (a' := ?_) ?_ ?_
     rotate_left
     ·show Act.put _ (some 31) _ = _
      simp only [Act.put, q1, q2, q3, i64_w, i32_w]
      rfl
     refine two_ (i := 6) (j := 10) (Ni := some 32) (Nj := some 10) #[true, true, true, true, true, true, true, false, false, false, false, false, false] #[true, true, true, true, true, true, false, false, false, false, true, false, false] rfl rfl rfl rfl (two_of HT_.o (by kernel_rfl)) (by decide) (by decide) (fun K hK => ?_) (fun K hK => ?_)
     ·skip
      refine goes_ Try.func33 (by kernel_rfl) rfl #[.agg #[.int .i64 Bu, .int .i64 Bv, .slice D1 Bc.length D3], .int .i64 a1, .int .i64 a2, .agg #[.int .i64 Bw, .int .i64 Bx]] (by rfl) rfl rfl (by (try simp only [List.map_toArray, List.map_cons, List.map_nil]); first | done | rfl | (simp only [List.length_drop, List.length_take]; rfl)) ?_
      with_reducible refine (spec_PutCell.calls k Bu Bv _ _ Bc a1 a2 Bw Bx As At Aa Ay _ ?side1 ?side2 Ef.o).mono ?_
      (case side1 => repeat (first | exact (Kd.RrZ A9.o).2.2 | (with_reducible refine Kd.C_alloc ?_ _) | (with_reducible refine Kd.C_drewN ?_ _) | (with_reducible refine Kd.C_drew ?_)))
      (case side2 => exact (Kd.RrZ A9.o).2.1)
      rintro e HU ⟨BU, rfl, AV, hb⟩
      refine ⟨_, rfl, ?_⟩
      have Aj := Z.m (Kd.R_lower (Kd.R_new' AV (Kd.R_lt (vR A9))) (below_size (vB HB)))
      replace A9 := Z.m (Kd.R_elder' (vR A9) (Kd.R_base AV) hb)
      replace A0 := kB A0 hb
      replace A1 := kB A1 hb
      replace HB := bB HB hb
      (try clear hb); (try clear AV)
      refine hK.out _ _ ⟨(ql A0.o 0).trans rfl, (ql A0.o 1).trans rfl, (ql A0.o 2).trans rfl, (ql A1.o 0).trans rfl, (ql A1.o 1).trans rfl⟩ (fun hHeld => ?_)
      clear hK K
      refine norm_ (a' := ?_) ?_ ?_
      rotate_left
      ·show Act.put _ (some 32) _ = _
       simp only [Act.put, q1, q2, q3, i64_w, i32_w]
       rfl
      refine pure_ (i := 7) (N := some 25) (v := ?_) (a' := ?_) #[true, true, true, true, true, true, true, true, false, false, false, false, false] rfl rfl (any_of HT_.o (by kernel_rfl)) (fun _ _ _ h => h) (Or.inl ⟨by rfl, ?_⟩) ?_ ?_
      rotate_left
      ·intro w'
       go_simp
       with_reducible rfl
      rotate_left
      ·simp only [Act.put, q1, q2, q3, i64_w, i32_w]
       rfl
      refine pure_ (i := 8) (N := some 33) (v := ?_) (a' := ?_) #[true, true, true, true, true, true, true, true, true, false, false, false, false] rfl rfl (any_of HT_.o (by kernel_rfl)) (fun _ _ _ h => h) (Or.inl ⟨by rfl, ?_⟩) ?_ ?_
      rotate_left
      ·intro w'
       go_simp
       with_reducible rfl
      rotate_left
      ·simp only [Act.put, q1, q2, q3, i64_w, i32_w]
       rfl
      refine pure_ (i := 9) (N := some 34) (v := ?_) (a' := ?_) #[true, true, true, true, true, true, true, true, true, true, false, false, false] rfl rfl (any_of HT_.o (by kernel_rfl)) (fun _ _ _ h => h) (Or.inl ⟨by rfl, ?_⟩) ?_ ?_
      rotate_left
      ·intro w'
       go_simp
       with_reducible rfl
      rotate_left
      ·simp only [Act.put, q1, q2, q3, i64_w, i32_w]
       rfl
      refine one_ (i := 10) (N := some 10) #[true, true, true, true, true, true, true, true, true, true, true, false, false] rfl rfl (one_of HT_.o (by kernel_rfl)) (by decide) (fun K hK => ?_)
      refine box_step ?hg (N := 10) ?hd (cs := #[.int .i64 0, .int .i64 0, .slice none 0 0]) (t := 29) ?hr ?_; (case hd => rfl); (case hg => rfl); (case hr => first | (go_simp; done) | (go_simp; rfl))
      intro Az hg Gu hbox hb
      have A6 := Z.m (hbox)
      have BH := gW (w := w) HB hg
      have Bk := gW (w := w) HB hg
      have Ac := neL A0 hg
      have AA := neG A0 hg
      have Ah := neL A1 hg
      have AF := neG A1 hg
      replace A9 := Z.m (Kd.Rb (vR A9) hb)
      replace Aj := Z.m (Kd.Rb (vR Aj) hb)
      replace A0 := kB A0 hb
      replace A1 := kB A1 hb
      replace HB := bB HB hb
      clear hb hbox hg
      refine hK.out _ _ ⟨(ql A0.o 0).trans rfl, (ql A0.o 1).trans rfl, (ql A0.o 2).trans rfl, (ql A1.o 0).trans rfl, (ql A1.o 1).trans rfl⟩ (fun hHeld => ?_)
      clear hK K
      refine norm_ (a' := ?_) ?_ ?_
      rotate_left
      ·show Act.put _ (some 10) _ = _
       simp only [Act.put, q1, q2, q3, i64_w, i32_w]
       rfl
      exact norm_ (by simp only [putAll, Act.put, q1, q2, q3]) (hCont (.slice D1 Bc.length D3, BU, Az) _ ⟨hHeld, (by refine rK ?_; exact Kd.Rm A9.o (fun _ hk => hk.2)), (by refine rK ?_; exact Kd.Rm Aj.o (fun _ hk => hk.2)), (vK A0), (vK A1), (vK A6), BH.o, Bk.o, Ac.o, AA.o, Ah.o, AF.o, (vB HB)⟩)
     ·skip
      refine box_step ?hg (N := 10) ?hd (cs := #[.int .i64 0, .int .i64 0, .slice none 0 0]) (t := 29) ?hr ?_; (case hd => rfl); (case hg => rfl); (case hr => first | (go_simp; done) | (go_simp; rfl))
      intro Az hg Hi hbox hb
      have A6 := Z.m (hbox)
      have BH := gW (w := w) HB hg
      have Bk := gW (w := w) HB hg
      have Ac := neL A0 hg
      have AA := neG A0 hg
      have Ah := neL A1 hg
      have AF := neG A1 hg
      replace A9 := Z.m (Kd.Rb (vR A9) hb)
      replace A0 := kB A0 hb
      replace A1 := kB A1 hb
      replace HB := bB HB hb
      clear hb hbox hg
      obtain ⟨C3, C5, C6⟩ := Kd.R_slice A9.o
      (first | subst C6 | (injection C6 with f1_ f2_ f3_; have f4_ := f1_.symm; have f5_ := f3_.symm; clear f1_ f2_ f3_; subst f4_; subst f5_))
      refine hK.out _ _ ⟨(ql A0.o 0).trans rfl, (ql A0.o 1).trans rfl, (ql A0.o 2).trans rfl, (ql A1.o 0).trans rfl, (ql A1.o 1).trans rfl⟩ (fun hHeld => ?_)
      clear hK K
      refine norm_ (a' := ?_) ?_ ?_
      rotate_left
      ·show Act.put _ (some 10) _ = _
       simp only [Act.put, q1, q2, q3, i64_w, i32_w]
       rfl
      refine one_ (i := 6) (N := some 32) #[true, true, true, true, true, true, true, false, false, false, true, false, false] rfl rfl (one_of HT_.o (by kernel_rfl)) (by decide) (fun K hK => ?_)
      refine goes_ Try.func33 (by kernel_rfl) rfl #[.agg #[.int .i64 Bu, .int .i64 Bv, .slice C3 Bc.length C5], .int .i64 a1, .int .i64 a2, .agg #[.int .i64 Bw, .int .i64 Bx]] (by rfl) rfl rfl (by (try simp only [List.map_toArray, List.map_cons, List.map_nil]); first | done | rfl | (simp only [List.length_drop, List.length_take]; rfl)) ?_
      with_reducible refine (spec_PutCell.calls k Bu Bv _ _ Bc a1 a2 Bw Bx As At Aa Ay _ ?side1 ?side2 Ef.o).mono ?_
      (case side1 => repeat (first | exact (Kd.RrZ A9.o).2.2 | (with_reducible refine Kd.C_alloc ?_ _) | (with_reducible refine Kd.C_drewN ?_ _) | (with_reducible refine Kd.C_drew ?_)))
      (case side2 => exact (Kd.RrZ A9.o).2.1)
      rintro e Gu ⟨BU, rfl, AV, hb⟩
      refine ⟨_, rfl, ?_⟩
      have Aj := Z.m (Kd.R_lower (Kd.R_new' AV (Kd.R_lt (vR A9))) (below_size (vB HB)))
      replace A9 := Z.m (Kd.R_elder' (vR A9) (Kd.R_base AV) hb)
      replace A0 := kB A0 hb
      replace A1 := kB A1 hb
      replace A6 := kB A6 hb
      replace HB := bB HB hb
      (try clear hb); (try clear AV)
      refine hK.out _ _ ⟨(ql A0.o 0).trans rfl, (ql A0.o 1).trans rfl, (ql A0.o 2).trans rfl, (ql A1.o 0).trans rfl, (ql A1.o 1).trans rfl⟩ (fun hHeld => ?_)
      clear hK K
      refine norm_ (a' := ?_) ?_ ?_
      rotate_left
      ·show Act.put _ (some 32) _ = _
       simp only [Act.put, q1, q2, q3, i64_w, i32_w]
       rfl
      refine pure_ (i := 7) (N := some 25) (v := ?_) (a' := ?_) #[true, true, true, true, true, true, true, true, false, false, true, false, false] rfl rfl (any_of HT_.o (by kernel_rfl)) (fun _ _ _ h => h) (Or.inl ⟨by rfl, ?_⟩) ?_ ?_
      rotate_left
      ·intro w'
       go_simp
       with_reducible rfl
      rotate_left
      ·simp only [Act.put, q1, q2, q3, i64_w, i32_w]
       rfl
      refine pure_ (i := 8) (N := some 33) (v := ?_) (a' := ?_) #[true, true, true, true, true, true, true, true, true, false, true, false, false] rfl rfl (any_of HT_.o (by kernel_rfl)) (fun _ _ _ h => h) (Or.inl ⟨by rfl, ?_⟩) ?_ ?_
      rotate_left
      ·intro w'
       go_simp
       with_reducible rfl
      rotate_left
      ·simp only [Act.put, q1, q2, q3, i64_w, i32_w]
       rfl
      refine pure_ (i := 9) (N := some 34) (v := ?_) (a' := ?_) #[true, true, true, true, true, true, true, true, true, true, true, false, false] rfl rfl (any_of HT_.o (by kernel_rfl)) (fun _ _ _ h => h) (Or.inl ⟨by rfl, ?_⟩) ?_ ?_
      rotate_left
      ·intro w'
       go_simp
       with_reducible rfl
      rotate_left
      ·simp only [Act.put, q1, q2, q3, i64_w, i32_w]
       rfl
      exact norm_ (by simp only [putAll, Act.put, q1, q2, q3]) (hCont (.slice C3 Bc.length C5, BU, Az) _ ⟨hHeld, (by refine rK ?_; exact Kd.Rm A9.o (fun _ hk => hk.2)), (by refine rK ?_; exact Kd.Rm Aj.o (fun _ hk => hk.2)), (vK A0), (vK A1), (vK A6), BH.o, Bk.o, Ac.o, AA.o, Ah.o, AF.o, (vB HB)⟩)
    ·skip
     refine box_step ?hg (N := 10) ?hd (cs := #[.int .i64 0, .int .i64 0, .slice none 0 0]) (t := 29) ?hr ?_; (case hd => rfl); (case hg => rfl); (case hr => first | (go_simp; done) | (go_simp; rfl))
     intro Az hg Hh hbox hb
     have A6 := Z.m (hbox)
     have BH := gW (w := w) HB hg
     have Bk := gW (w := w) HB hg
     have Ac := neL A0 hg
     have AA := neG A0 hg
     have Ah := neL A1 hg
     have AF := neG A1 hg
     replace A9 := Z.m (Kd.Rb (vR A9) hb)
     replace A0 := kB A0 hb
     replace A1 := kB A1 hb
     replace HB := bB HB hb
     clear hb hbox hg
     refine hK.out _ _ ⟨(ql A0.o 0).trans rfl, (ql A0.o 1).trans rfl, (ql A0.o 2).trans rfl, (ql A1.o 0).trans rfl, (ql A1.o 1).trans rfl⟩ (fun hHeld => ?_)
     clear hK K
     refine norm_ (a' := ?_) ?_ ?_
     rotate_left
     ·show Act.put _ (some 10) _ = _
      simp only [Act.put, q1, q2, q3, i64_w, i32_w]
      rfl
     refine one_ (i := 5) (N := some 31) #[true, true, true, true, true, true, false, false, false, false, true, false, false] rfl rfl (one_of HT_.o (by kernel_rfl)) (by decide) (fun K hK => ?_)
     refine goes_ Try.func34 (by kernel_rfl) rfl #[.agg #[.int .i64 a3_0, .int .i64 a3_1]] (by rfl) rfl rfl (by (try simp only [List.map_toArray, List.map_cons, List.map_nil]); first | done | rfl | (simp only [List.length_drop, List.length_take]; rfl)) ?_
     with_reducible refine (laws_toCell.calls a3_0 a3_1 Bw Bx _ FA.o).mono ?_
     rintro e Hi ⟨rfl, hb⟩
     refine ⟨_, rfl, ?_⟩
     replace A9 := Z.m (Kd.Rb (vR A9) hb)
     replace A0 := kB A0 hb
     replace A1 := kB A1 hb
     replace A6 := kB A6 hb
     replace HB := bB HB hb
     (try clear hb)
     obtain ⟨C3, C5, C6⟩ := Kd.R_slice A9.o
     (first | subst C6 | (injection C6 with f1_ f2_ f3_; have f4_ := f1_.symm; have f5_ := f3_.symm; clear f1_ f2_ f3_; subst f4_; subst f5_))
     refine hK.out _ _ ⟨(ql A0.o 0).trans rfl, (ql A0.o 1).trans rfl, (ql A0.o 2).trans rfl, (ql A1.o 0).trans rfl, (ql A1.o 1).trans rfl⟩ (fun hHeld => ?_)
     clear hK K
     refine norm_ (a' := ?_) ?_ ?_
     rotate_left
     ·show Act.put _ (some 31) _ = _
      simp only [Act.put, q1, q2, q3, i64_w, i32_w]
      rfl
     refine one_ (i := 6) (N := some 32) #[true, true, true, true, true, true, true, false, false, false, true, false, false] rfl rfl (one_of HT_.o (by kernel_rfl)) (by decide) (fun K hK => ?_)
     refine goes_ Try.func33 (by kernel_rfl) rfl #[.agg #[.int .i64 Bu, .int .i64 Bv, .slice C3 Bc.length C5], .int .i64 a1, .int .i64 a2, .agg #[.int .i64 Bw, .int .i64 Bx]] (by rfl) rfl rfl (by (try simp only [List.map_toArray, List.map_cons, List.map_nil]); first | done | rfl | (simp only [List.length_drop, List.length_take]; rfl)) ?_
     with_reducible refine (spec_PutCell.calls k Bu Bv _ _ Bc a1 a2 Bw Bx As At Aa Ay _ ?side1 ?side2 Ef.o).mono ?_
     (case side1 => repeat (first | exact (Kd.RrZ A9.o).2.2 | (with_reducible refine Kd.C_alloc ?_ _) | (with_reducible refine Kd.C_drewN ?_ _) | (with_reducible refine Kd.C_drew ?_)))
     (case side2 => exact (Kd.RrZ A9.o).2.1)
     rintro e Gu ⟨BU, rfl, AV, hb⟩
     refine ⟨_, rfl, ?_⟩
     have Aj := Z.m (Kd.R_lower (Kd.R_new' AV (Kd.R_lt (vR A9))) (below_size (vB HB)))
     replace A9 := Z.m (Kd.R_elder' (vR A9) (Kd.R_base AV) hb)
     replace A0 := kB A0 hb
     replace A1 := kB A1 hb
     replace A6 := kB A6 hb
     replace HB := bB HB hb
     (try clear hb); (try clear AV)
     refine hK.out _ _ ⟨(ql A0.o 0).trans rfl, (ql A0.o 1).trans rfl, (ql A0.o 2).trans rfl, (ql A1.o 0).trans rfl, (ql A1.o 1).trans rfl⟩ (fun hHeld => ?_)
     clear hK K
     refine norm_ (a' := ?_) ?_ ?_
     rotate_left
     ·show Act.put _ (some 32) _ = _
      simp only [Act.put, q1, q2, q3, i64_w, i32_w]
      rfl
     refine pure_ (i := 7) (N := some 25) (v := ?_) (a' := ?_) #[true, true, true, true, true, true, true, true, false, false, true, false, false] rfl rfl (any_of HT_.o (by kernel_rfl)) (fun _ _ _ h => h) (Or.inl ⟨by rfl, ?_⟩) ?_ ?_
     rotate_left
     ·intro w'
      go_simp
      with_reducible rfl
     rotate_left
     ·simp only [Act.put, q1, q2, q3, i64_w, i32_w]
      rfl
     refine pure_ (i := 8) (N := some 33) (v := ?_) (a' := ?_) #[true, true, true, true, true, true, true, true, true, false, true, false, false] rfl rfl (any_of HT_.o (by kernel_rfl)) (fun _ _ _ h => h) (Or.inl ⟨by rfl, ?_⟩) ?_ ?_
     rotate_left
     ·intro w'
      go_simp
      with_reducible rfl
     rotate_left
     ·simp only [Act.put, q1, q2, q3, i64_w, i32_w]
      rfl
     refine pure_ (i := 9) (N := some 34) (v := ?_) (a' := ?_) #[true, true, true, true, true, true, true, true, true, true, true, false, false] rfl rfl (any_of HT_.o (by kernel_rfl)) (fun _ _ _ h => h) (Or.inl ⟨by rfl, ?_⟩) ?_ ?_
     rotate_left
     ·intro w'
      go_simp
      with_reducible rfl
     rotate_left
     ·simp only [Act.put, q1, q2, q3, i64_w, i32_w]
      rfl
     exact norm_ (by simp only [putAll, Act.put, q1, q2, q3]) (hCont (.slice C3 Bc.length C5, BU, Az) _ ⟨hHeld, (by refine rK ?_; exact Kd.Rm A9.o (fun _ hk => hk.2)), (by refine rK ?_; exact Kd.Rm Aj.o (fun _ hk => hk.2)), (vK A0), (vK A1), (vK A6), BH.o, Bk.o, Ac.o, AA.o, Ah.o, AF.o, (vB HB)⟩)
   ·skip
    refine box_step ?hg (N := 10) ?hd (cs := #[.int .i64 0, .int .i64 0, .slice none 0 0]) (t := 29) ?hr ?_; (case hd => rfl); (case hg => rfl); (case hr => first | (go_simp; done) | (go_simp; rfl))
    intro Az hg HN hbox hb
    have A6 := Z.m (hbox)
    have BH := gW (w := w) HB hg
    have Bk := gW (w := w) HB hg
    have Ac := neL A0 hg
    have AA := neG A0 hg
    have Ah := neL A1 hg
    have AF := neG A1 hg
    replace A0 := kB A0 hb
    replace A1 := kB A1 hb
    replace HB := bB HB hb
    clear hb hbox hg
    refine hK.out _ _ ⟨(ql A0.o 0).trans rfl, (ql A0.o 1).trans rfl, (ql A0.o 2).trans rfl, (ql A1.o 0).trans rfl, (ql A1.o 1).trans rfl⟩ (fun hHeld => ?_)
    clear hK K
    refine norm_ (a' := ?_) ?_ ?_
    rotate_left
    ·show Act.put _ (some 10) _ = _
     simp only [Act.put, q1, q2, q3, i64_w, i32_w]
     rfl
    refine one_ (i := 1) (N := some 27) #[true, true, true, true, true, false, false, false, false, false, true, false, false] rfl rfl (one_of HT_.o (by kernel_rfl)) (by decide) (fun K hK => ?_)
    refine goes_ Try.func17 (by kernel_rfl) rfl #[.agg #[.int .i64 a0_0, .int .i64 a0_1, .slice A0_2 l0_2.length c0_2]] (by rfl) rfl rfl (by (try simp only [List.map_toArray, List.map_cons, List.map_nil]); first | done | rfl | (simp only [List.length_drop, List.length_take]; rfl)) ?_
    with_reducible refine (laws_toBoard.calls k a0_0 a0_1 _ _ l0_2 Bu Bv Bc _ ?side1 ?side2 Gv.o).mono ?_
    (case side1 => repeat (first | exact (Kd.C_below BK.o HB.o) | (with_reducible refine Kd.C_alloc ?_ _) | (with_reducible refine Kd.C_drewN ?_ _) | (with_reducible refine Kd.C_drew ?_)))
    (case side2 => exact BJ.o)
    rintro e Hh ⟨Bj, rfl, AV, hb⟩
    refine ⟨_, rfl, ?_⟩
    have A9 := Z.m (Kd.R_lower AV (below_size (vB HB)))
    replace A0 := kB A0 hb
    replace A1 := kB A1 hb
    replace A6 := kB A6 hb
    replace HB := bB HB hb
    (try clear hb); (try clear AV)
    refine hK.out _ _ ⟨(ql A0.o 0).trans rfl, (ql A0.o 1).trans rfl, (ql A0.o 2).trans rfl, (ql A1.o 0).trans rfl, (ql A1.o 1).trans rfl⟩ (fun hHeld => ?_)
    clear hK K
    refine norm_ (a' := ?_) ?_ ?_
    rotate_left
    ·show Act.put _ (some 27) _ = _
     simp only [Act.put, q1, q2, q3, i64_w, i32_w]
     rfl
    refine one_ (i := 5) (N := some 31) #[true, true, true, true, true, true, false, false, false, false, true, false, false] rfl rfl (one_of HT_.o (by kernel_rfl)) (by decide) (fun K hK => ?_)
    refine goes_ Try.func34 (by kernel_rfl) rfl #[.agg #[.int .i64 a3_0, .int .i64 a3_1]] (by rfl) rfl rfl (by (try simp only [List.map_toArray, List.map_cons, List.map_nil]); first | done | rfl | (simp only [List.length_drop, List.length_take]; rfl)) ?_
    with_reducible refine (laws_toCell.calls a3_0 a3_1 Bw Bx _ FA.o).mono ?_
    rintro e Hi ⟨rfl, hb⟩
    refine ⟨_, rfl, ?_⟩
    replace A9 := Z.m (Kd.Rb (vR A9) hb)
    replace A0 := kB A0 hb
    replace A1 := kB A1 hb
    replace A6 := kB A6 hb
    replace HB := bB HB hb
    (try clear hb)
    obtain ⟨C3, C5, C6⟩ := Kd.R_slice A9.o
    (first | subst C6 | (injection C6 with f1_ f2_ f3_; have f4_ := f1_.symm; have f5_ := f3_.symm; clear f1_ f2_ f3_; subst f4_; subst f5_))
    refine hK.out _ _ ⟨(ql A0.o 0).trans rfl, (ql A0.o 1).trans rfl, (ql A0.o 2).trans rfl, (ql A1.o 0).trans rfl, (ql A1.o 1).trans rfl⟩ (fun hHeld => ?_)
    clear hK K
    refine norm_ (a' := ?_) ?_ ?_
    rotate_left
    ·show Act.put _ (some 31) _ = _
     simp only [Act.put, q1, q2, q3, i64_w, i32_w]
     rfl
    refine one_ (i := 6) (N := some 32) #[true, true, true, true, true, true, true, false, false, false, true, false, false] rfl rfl (one_of HT_.o (by kernel_rfl)) (by decide) (fun K hK => ?_)
    refine goes_ Try.func33 (by kernel_rfl) rfl #[.agg #[.int .i64 Bu, .int .i64 Bv, .slice C3 Bc.length C5], .int .i64 a1, .int .i64 a2, .agg #[.int .i64 Bw, .int .i64 Bx]] (by rfl) rfl rfl (by (try simp only [List.map_toArray, List.map_cons, List.map_nil]); first | done | rfl | (simp only [List.length_drop, List.length_take]; rfl)) ?_
    with_reducible refine (spec_PutCell.calls k Bu Bv _ _ Bc a1 a2 Bw Bx As At Aa Ay _ ?side1 ?side2 Ef.o).mono ?_
    (case side1 => repeat (first | exact (Kd.RrZ A9.o).2.2 | (with_reducible refine Kd.C_alloc ?_ _) | (with_reducible refine Kd.C_drewN ?_ _) | (with_reducible refine Kd.C_drew ?_)))
    (case side2 => exact (Kd.RrZ A9.o).2.1)
    rintro e Gu ⟨BU, rfl, AV, hb⟩
    refine ⟨_, rfl, ?_⟩
    have Aj := Z.m (Kd.R_lower (Kd.R_new' AV (Kd.R_lt (vR A9))) (below_size (vB HB)))
    replace A9 := Z.m (Kd.R_elder' (vR A9) (Kd.R_base AV) hb)
    replace A0 := kB A0 hb
    replace A1 := kB A1 hb
    replace A6 := kB A6 hb
    replace HB := bB HB hb
    (try clear hb); (try clear AV)
    refine hK.out _ _ ⟨(ql A0.o 0).trans rfl, (ql A0.o 1).trans rfl, (ql A0.o 2).trans rfl, (ql A1.o 0).trans rfl, (ql A1.o 1).trans rfl⟩ (fun hHeld => ?_)
    clear hK K
    refine norm_ (a' := ?_) ?_ ?_
    rotate_left
    ·show Act.put _ (some 32) _ = _
     simp only [Act.put, q1, q2, q3, i64_w, i32_w]
     rfl
    refine pure_ (i := 7) (N := some 25) (v := ?_) (a' := ?_) #[true, true, true, true, true, true, true, true, false, false, true, false, false] rfl rfl (any_of HT_.o (by kernel_rfl)) (fun _ _ _ h => h) (Or.inl ⟨by rfl, ?_⟩) ?_ ?_
    rotate_left
    ·intro w'
     go_simp
     with_reducible rfl
    rotate_left
    ·simp only [Act.put, q1, q2, q3, i64_w, i32_w]
     rfl
    refine pure_ (i := 8) (N := some 33) (v := ?_) (a' := ?_) #[true, true, true, true, true, true, true, true, true, false, true, false, false] rfl rfl (any_of HT_.o (by kernel_rfl)) (fun _ _ _ h => h) (Or.inl ⟨by rfl, ?_⟩) ?_ ?_
    rotate_left
    ·intro w'
     go_simp
     with_reducible rfl
    rotate_left
    ·simp only [Act.put, q1, q2, q3, i64_w, i32_w]
     rfl
    refine pure_ (i := 9) (N := some 34) (v := ?_) (a' := ?_) #[true, true, true, true, true, true, true, true, true, true, true, false, false] rfl rfl (any_of HT_.o (by kernel_rfl)) (fun _ _ _ h => h) (Or.inl ⟨by rfl, ?_⟩) ?_ ?_
    rotate_left
    ·intro w'
     go_simp
     with_reducible rfl
    rotate_left
    ·simp only [Act.put, q1, q2, q3, i64_w, i32_w]
     rfl
    exact norm_ (by simp only [putAll, Act.put, q1, q2, q3]) (hCont (.slice C3 Bc.length C5, BU, Az) _ ⟨hHeld, (by refine rK ?_; exact Kd.Rm A9.o (fun _ hk => hk.2)), (by refine rK ?_; exact Kd.Rm Aj.o (fun _ hk => hk.2)), (vK A0), (vK A1), (vK A6), BH.o, Bk.o, Ac.o, AA.o, Ah.o, AF.o, (vB HB)⟩)
  rintro ⟨Bj, BU, Az⟩ C9 ⟨hS_, h0_, h1_, h2_, h3_, h4_, h5_, h6_, h7_, h8_, h9_, h10_, h11_⟩
  have A9 : Z (Kd.R k34 34 C9 w.heap.size (fun k_ => some k_ ≠ (BU : Value).ownBlock) Bj Bc) := ⟨h0_⟩
  have Aj : Z (Kd.R k34 34 C9 w.heap.size (fun k_ => some k_ ≠ (Bj : Value).ownBlock) BU Aa) := ⟨h1_⟩
  have A6 : Z (C9.heap[Az]? = some (.cells #[.int .i64 0, .int .i64 0, .slice none 0 0] 29 (0, 0))) := ⟨h4_⟩
  have BH : Z (w.heap.size ≤ Az) := ⟨h5_⟩
  have Bk : Z (w.heap.size ≤ Az) := ⟨h6_⟩
  have Ac : Z (An ≠ Az) := ⟨h7_⟩
  have AA : Z (Az ≠ An) := ⟨h8_⟩
  have Ah : Z (Av ≠ Az) := ⟨h9_⟩
  have AF : Z (Az ≠ Av) := ⟨h10_⟩
  replace A0 : Z (C9.heap[An]? = some (.cells #[.int .i64 a0_0, .int .i64 a0_1, .slice A0_2 l0_2.length c0_2] 24 (0, 0))) := ⟨h2_⟩
  replace A1 : Z (C9.heap[Av]? = some (.cells #[.int .i64 a3_0, .int .i64 a3_1] 46 (0, 0))) := ⟨h3_⟩
  replace HB : Z (Below w.heap.size w C9) := ⟨h11_⟩
  clear h0_ h1_ h2_ h3_ h4_ h5_ h6_ h7_ h8_ h9_ h10_ h11_
  have hHeld : C9.cell? ⟨An, 0, none⟩ = some (.int .i64 a0_0) ∧ C9.cell? ⟨An, 1, none⟩ = some (.int .i64 a0_1) ∧ C9.cell? ⟨An, 2, none⟩ = some (.slice A0_2 l0_2.length c0_2) ∧ C9.cell? ⟨Av, 0, none⟩ = some (.int .i64 a3_0) ∧ C9.cell? ⟨Av, 1, none⟩ = some (.int .i64 a3_1) := hS_
  obtain ⟨AK, AJ, D5⟩ := Kd.R_slice Aj.o
  (first | subst D5 | (injection D5 with f1_ f2_ f3_; have f4_ := f1_.symm; have f5_ := f3_.symm; clear f1_ f2_ f3_; subst f4_; subst f5_))
  refine norm_ (a' := ?_) ?_ ?_
  rotate_left
  ·simp only [putAll, Act.put, q1, q2, q3]
   rfl
  refine one_ (i := 11) (N := none) #[true, true, true, true, true, true, true, true, true, true, true, true, false] rfl rfl (one_of HT_.o (by kernel_rfl)) (by decide) (fun K hK => ?_)
  have Ht : C9.cell? ⟨Az, 0, none⟩ = some (.int .i64 0) := (ql A6.o 0).trans rfl
  have hfs31 := qz A6.o 0
  have Fg := Ac.o
  have Fh := Ah.o
  have EY := AA.o
  have EZ := AF.o
  have Hu : C9.cell? ⟨Az, 1, none⟩ = some (.int .i64 0) := (ql A6.o 1).trans rfl
  have hfs32 := qz A6.o 1
  have Fi := Ac.o
  have Fj := Ah.o
  have F0 := AA.o
  have F1 := AF.o
  have Hv : C9.cell? ⟨Az, 2, none⟩ = some (.slice none 0 0) := (ql A6.o 2).trans rfl
  have hfs34 := qz A6.o 2
  have Fk := Ac.o
  have Fl := Ah.o
  have F2 := AA.o
  have F3 := AF.o
  refine skip_ (w1 := ?_) ?hwx ?hnx ?_ ?_; (case hwx => rfl); (case hnx => rfl)
  rotate_left
  ·go_simp
   rfl
  refine hK.out _ _ ⟨(cx Ac.o ((cx Ac.o ((cx Ac.o (hHeld.1)))))), (cx Ac.o ((cx Ac.o ((cx Ac.o (hHeld.2.1)))))), (cx Ac.o ((cx Ac.o ((cx Ac.o (hHeld.2.2.1)))))), (cx Ah.o ((cx Ah.o ((cx Ah.o (hHeld.2.2.2.1)))))), (cx Ah.o ((cx Ah.o ((cx Ah.o (hHeld.2.2.2.2))))))⟩ (fun hHeld => ?_)
  clear hK K
  refine pure_ (i := 12) (N := some 11) (v := ?_) (a' := ?_) #[true, true, true, true, true, true, true, true, true, true, true, true, true] rfl rfl (any_of HT_.o (by kernel_rfl)) (fun _ _ _ h => h) (Or.inl ⟨by rfl, ?_⟩) ?_ ?_
  rotate_left
  ·intro w'
   go_simp
   with_reducible rfl
  rotate_left
  ·simp only [Act.put, q1, q2, q3, i64_w, i32_w]
   rfl
  refine done_ (done_of HT_.o (by kernel_rfl)) ?_
  have GA := Ac.o
  have GU := AA.o
  have Em := bc0 A0
  have En := bc1 A0
  have Eo := bc2 A0
  have EJ := qz A0.o 0
  have EK := qz A0.o 1
  have EL := qz A0.o 2
  try go_wp2_with (first | ((with_reducible refine gc (f := 17) rfl ?_); refine gA (some 36) _ #[.agg #[.int .i64 a0_0, .int .i64 a0_1, .slice A0_2 l0_2.length c0_2]] ?_ Try.func17; (with_reducible refine (laws_toBoard.calls k a0_0 a0_1 _ _ l0_2 AC AD Ai _ ?side1 ?side2 Hl.o).mono ?_); (case side1 => exact Kd.C_below BK.o (vB HB)); (case side2 => exact BJ.o); rintro e HV ⟨HE, rfl, AV, hb⟩; refine ⟨_, rfl, ?_⟩; have Ax := Z.m (Kd.R_lower (Kd.R_new' (Kd.R_new' AV (Kd.R_lt (by refine rK ?_; exact (Kd.Rm (rf (rf (rf (Kd.Ry A9.o A6.o (by decide))))) (fun _ h_ => h_.1))))) (Kd.R_lt (by refine rK ?_; exact (Kd.Rm (rf (rf (rf (Kd.Ry Aj.o A6.o (by decide))))) (fun _ h_ => h_.1))))) (below_size (vB HB))); replace A9 := Z.m (Kd.R_elder' (by refine rK ?_; exact (Kd.Rm (rf (rf (rf (Kd.Ry A9.o A6.o (by decide))))) (fun _ h_ => h_.1))) (Kd.R_base AV) hb); replace Aj := Z.m (Kd.R_elder' (by refine rK ?_; exact (Kd.Rm (rf (rf (rf (Kd.Ry Aj.o A6.o (by decide))))) (fun _ h_ => h_.1))) (Kd.R_base AV) hb); replace A0 := Z.m (qb (g := An) (o := .cells #[.int .i64 a0_0, .int .i64 a0_1, .slice A0_2 l0_2.length c0_2] 24 (0, 0)) (by refine bK ?_; (iterate 3 refine qF ?_ Ac); exact A0.o) hb); replace A1 := Z.m (qb (g := Av) (o := .cells #[.int .i64 a3_0, .int .i64 a3_1] 46 (0, 0)) (by refine bK ?_; (iterate 3 refine qF ?_ Ah); exact A1.o) hb); replace A6 := Z.m (qb (g := Az) (o := .cells #[.int .i64 As, .int .i64 At, .slice AK Aa.length AJ] 29 (0, 0)) (by refine bK ?_; apply st3; refine bK ?_; exact A6.o) hb); replace HB := bB HB hb; (try clear hb); (try clear CN); (try clear hk); (try clear hi); (try clear AV)) | ((with_reducible refine gq (N := 12) rfl ?_); refine be (N := 12) (cs := #[.int .i64 0, .int .i64 0, .slice none 0 0]) (t := 29) ?_; intro Ae hg Ct hbox hb; have A7 := Z.m (hbox); have D2 := gW (w := w) HB hg; have CC := D2; have Br := neL A0 hg; have BX := neG A0 hg; have Bt := neL A1 hg; have BY := neG A1 hg; have Ba := neL A6 hg; have Be := neG A6 hg; replace A9 := Z.m (Kd.Rb (vR A9) hb); replace Aj := Z.m (Kd.Rb (vR Aj) hb); replace Ax := Z.m (Kd.Rb (vR Ax) hb); replace A0 := kB A0 hb; replace A1 := kB A1 hb; replace A6 := kB A6 hb; replace HB := bB HB hb; clear hb hbox hg; have GB := BX.o; have GV := Br.o; have GC := BY.o; have GW := Bt.o; have GD := Be.o; have GX := Ba.o; have Ep := bc0 A7; have Er := bc1 A7; have Es := bc2 A7; have EM := qz A7.o 0; have EN := qz A7.o 1; have EO := qz A7.o 2; obtain ⟨Ap, Ar, FL⟩ := Kd.R_slice Ax.o; subst FL))
  have n0_ : Z (Kd.R k34 34 (((Ct.setCell ⟨Ae, 0, none⟩ (.int .i64 AC)).setCell ⟨Ae, 1, none⟩ (.int .i64 AD)).setCell ⟨Ae, 2, none⟩ (.slice Ap Ai.length Ar)) w.heap.size (fun k_ => some k_ ≠ (.slice AK Aa.length AJ : Value).ownBlock ∧ some k_ ≠ (.slice Ap Ai.length Ar : Value).ownBlock) Bj Bc) := ⟨by refine rK ?_; exact Kd.Rm (rf (rf (rf (Kd.Ry A9.o A7.o (by decide))))) (fun _ hk => ⟨hk.1.1, hk.1.2⟩)⟩
  have n1_ : Z (Kd.R k34 34 (((Ct.setCell ⟨Ae, 0, none⟩ (.int .i64 AC)).setCell ⟨Ae, 1, none⟩ (.int .i64 AD)).setCell ⟨Ae, 2, none⟩ (.slice Ap Ai.length Ar)) w.heap.size (fun k_ => some k_ ≠ (Bj : Value).ownBlock ∧ some k_ ≠ (.slice Ap Ai.length Ar : Value).ownBlock) (.slice AK Aa.length AJ) Aa) := ⟨by refine rK ?_; exact Kd.Rm (rf (rf (rf (Kd.Ry Aj.o A7.o (by decide))))) (fun _ hk => ⟨hk.1.1, hk.1.2⟩)⟩
  have n2_ : Z (Kd.R k34 34 (((Ct.setCell ⟨Ae, 0, none⟩ (.int .i64 AC)).setCell ⟨Ae, 1, none⟩ (.int .i64 AD)).setCell ⟨Ae, 2, none⟩ (.slice Ap Ai.length Ar)) w.heap.size (fun k_ => some k_ ≠ (Bj : Value).ownBlock ∧ some k_ ≠ (.slice AK Aa.length AJ : Value).ownBlock) (.slice Ap Ai.length Ar) Ai) := ⟨by refine rK ?_; exact Kd.Rm (rf (rf (rf (Kd.Ry Ax.o A7.o (by decide))))) (fun _ hk => ⟨hk.1.1.2, hk.1.2⟩)⟩
  have n3_ : Z ((((Ct.setCell ⟨Ae, 0, none⟩ (.int .i64 AC)).setCell ⟨Ae, 1, none⟩ (.int .i64 AD)).setCell ⟨Ae, 2, none⟩ (.slice Ap Ai.length Ar)).heap[An]? = some (.cells #[.int .i64 a0_0, .int .i64 a0_1, .slice A0_2 l0_2.length c0_2] 24 (0, 0))) := ⟨by refine bK ?_; (iterate 3 refine qF ?_ Br); exact A0.o⟩
  have n4_ : Z ((((Ct.setCell ⟨Ae, 0, none⟩ (.int .i64 AC)).setCell ⟨Ae, 1, none⟩ (.int .i64 AD)).setCell ⟨Ae, 2, none⟩ (.slice Ap Ai.length Ar)).heap[Av]? = some (.cells #[.int .i64 a3_0, .int .i64 a3_1] 46 (0, 0))) := ⟨by refine bK ?_; (iterate 3 refine qF ?_ Bt); exact A1.o⟩
  have n5_ : Z ((((Ct.setCell ⟨Ae, 0, none⟩ (.int .i64 AC)).setCell ⟨Ae, 1, none⟩ (.int .i64 AD)).setCell ⟨Ae, 2, none⟩ (.slice Ap Ai.length Ar)).heap[Az]? = some (.cells #[.int .i64 As, .int .i64 At, .slice AK Aa.length AJ] 29 (0, 0))) := ⟨by refine bK ?_; (iterate 3 refine qF ?_ Ba); exact A6.o⟩
  have n6_ : Z ((((Ct.setCell ⟨Ae, 0, none⟩ (.int .i64 AC)).setCell ⟨Ae, 1, none⟩ (.int .i64 AD)).setCell ⟨Ae, 2, none⟩ (.slice Ap Ai.length Ar)).heap[Ae]? = some (.cells #[.int .i64 AC, .int .i64 AD, .slice Ap Ai.length Ar] 29 (0, 0))) := ⟨by refine bK ?_; apply st3; refine bK ?_; exact A7.o⟩
  have n7_ : Z (Below w.heap.size w (((Ct.setCell ⟨Ae, 0, none⟩ (.int .i64 AC)).setCell ⟨Ae, 1, none⟩ (.int .i64 AD)).setCell ⟨Ae, 2, none⟩ (.slice Ap Ai.length Ar))) := ⟨vB HB⟩
  (try clear A9); (try clear Aj); (try clear Ax); (try clear A0); (try clear A1); (try clear A6); (try clear A7); (try clear HB)
  generalize (((Ct.setCell ⟨Ae, 0, none⟩ (.int .i64 AC)).setCell ⟨Ae, 1, none⟩ (.int .i64 AD)).setCell ⟨Ae, 2, none⟩ (.slice Ap Ai.length Ar)) = HO at n0_ n1_ n2_ n3_ n4_ n5_ n6_ n7_ ⊢
  have A9 := n0_
  have Aj := n1_
  have Ax := n2_
  have A0 := n3_
  have A1 := n4_
  have A6 := n5_
  have A7 := n6_
  have HB := n7_
  clear n0_ n1_ n2_ n3_ n4_ n5_ n6_ n7_
  replace A9 := Z.m (Kd.R_drew A9.o)
  replace Aj := Z.m (Kd.R_drew Aj.o)
  replace Ax := Z.m (Kd.R_drew Ax.o)
  replace A0 := Z.m (blk_drew A0.o)
  replace A1 := Z.m (blk_drew A1.o)
  replace A6 := Z.m (blk_drew A6.o)
  replace A7 := Z.m (blk_drew A7.o)
  replace HB := Z.m (qd HB.o)
  refine start_ (n := 12) (S := fun w' => w'.cell? ⟨Ae, 0, none⟩ = some (.int .i64 AC) ∧ w'.cell? ⟨Ae, 1, none⟩ = some (.int .i64 AD) ∧ w'.cell? ⟨Ae, 2, none⟩ = some (.slice Ap Ai.length Ar) ∧ w'.cell? ⟨Av, 0, none⟩ = some (.int .i64 a3_0) ∧ w'.cell? ⟨Av, 1, none⟩ = some (.int .i64 a3_1)) (ds := []) #[false, false, false, false, false, false, false, false, false, false, false, false] (by kernel_rfl) rfl rfl ⟨(ql A7.o 0).trans rfl, (ql A7.o 1).trans rfl, (ql A7.o 2).trans rfl, (ql A1.o 0).trans rfl, (ql A1.o 1).trans rfl⟩ (fun hHeld => ?_); refine with_tabW laws_FnExactPutCell.tab7 laws_FnExactPutCell.bits7 (fun HT_ HW_ => ?_)
  generalize HO.drew = HW at A9 Aj Ax A0 A1 A6 A7 HB hHeld ⊢
  refine pure_ (i := 1) (N := some 39) (v := ?_) (a' := ?_) #[false, true, false, false, false, false, false, false, false, false, false, false] rfl rfl (any_of HT_.o (by kernel_rfl)) (fun _ _ _ h => h) (Or.inl ⟨by rfl, ?_⟩) ?_ ?_
  rotate_left
  ·intro w'
   go_simp
   with_reducible rfl
  rotate_left
  ·simp only [Act.put, q1, q2, q3, i64_w, i32_w]
   rfl
  refine pure_ (i := 2) (N := some 40) (v := ?_) (a' := ?_) #[false, true, true, false, false, false, false, false, false, false, false, false] rfl rfl (any_of HT_.o (by kernel_rfl)) (fun _ _ _ h => h) (Or.inl ⟨by rfl, ?_⟩) ?_ ?_
  rotate_left
  ·intro w'
   go_simp
   with_reducible rfl
  rotate_left
  ·simp only [Act.put, q1, q2, q3, i64_w, i32_w]
   rfl
  refine take_ (i := 0) (N := some 38) (v := ?_) (a' := ?_) #[true, true, true, false, false, false, false, false, false, false, false, false] rfl rfl (take_ofW HT_.o HW_.o (by kernel_rfl)) (fun _ _ _ h => h) (Or.inl ⟨by rfl, ?_⟩) hHeld ?_ ?_
  rotate_left
  ·rintro w' ⟨s0, s1, s2, s3, s4⟩
   go_simp
   with_reducible rfl
  rotate_left
  ·simp only [Act.put, q1, q2, q3, i64_w, i32_w]
   rfl
  refine take_ (i := 3) (N := some 41) (v := ?_) (a' := ?_) #[true, true, true, true, false, false, false, false, false, false, false, false] rfl rfl (take_ofW HT_.o HW_.o (by kernel_rfl)) (fun _ _ _ h => h) (Or.inl ⟨by rfl, ?_⟩) hHeld ?_ ?_
  rotate_left
  ·rintro w' ⟨s0, s1, s2, s3, s4⟩
   go_simp
   with_reducible rfl
  rotate_left
  ·simp only [Act.put, q1, q2, q3, i64_w, i32_w]
   rfl
  refine join_ (σ := Value × Nat) 2 #[true, true, true, true, true, true, true, true, true, true, false, false] (fun s_ => [(42, .agg #[.int .i64 BS, .int .i64 BT]), (43, .tuple #[.agg #[.int .i64 Ak, .int .i64 Al, s_.1], .bool B9]), (13, .pointer (some ⟨s_.2, 0, none⟩)), (37, .tuple #[.agg #[.int .i64 Ak, .int .i64 Al, s_.1], .bool B9]), (44, .agg #[.int .i64 Ak, .int .i64 Al, s_.1]), (45, .bool B9)]) (fun s_ w' => (w'.cell? ⟨Ae, 0, none⟩ = some (.int .i64 AC) ∧ w'.cell? ⟨Ae, 1, none⟩ = some (.int .i64 AD) ∧ w'.cell? ⟨Ae, 2, none⟩ = some (.slice Ap Ai.length Ar) ∧ w'.cell? ⟨Av, 0, none⟩ = some (.int .i64 a3_0) ∧ w'.cell? ⟨Av, 1, none⟩ = some (.int .i64 a3_1)) ∧ (Kd.R k34 34 w' w.heap.size (fun k_ => some k_ ≠ (.slice AK Aa.length AJ : Value).ownBlock ∧ some k_ ≠ (.slice Ap Ai.length Ar : Value).ownBlock ∧ some k_ ≠ (s_.1 : Value).ownBlock) Bj Bc) ∧ (Kd.R k34 34 w' w.heap.size (fun k_ => some k_ ≠ (Bj : Value).ownBlock ∧ some k_ ≠ (.slice Ap Ai.length Ar : Value).ownBlock ∧ some k_ ≠ (s_.1 : Value).ownBlock) (.slice AK Aa.length AJ) Aa) ∧ (Kd.R k34 34 w' w.heap.size (fun k_ => some k_ ≠ (Bj : Value).ownBlock ∧ some k_ ≠ (.slice AK Aa.length AJ : Value).ownBlock ∧ some k_ ≠ (s_.1 : Value).ownBlock) (.slice Ap Ai.length Ar) Ai) ∧ (Kd.R k34 34 w' w.heap.size (fun k_ => some k_ ≠ (Bj : Value).ownBlock ∧ some k_ ≠ (.slice AK Aa.length AJ : Value).ownBlock ∧ some k_ ≠ (.slice Ap Ai.length Ar : Value).ownBlock) s_.1 Af) ∧ (w'.heap[An]? = some (.cells #[.int .i64 a0_0, .int .i64 a0_1, .slice A0_2 l0_2.length c0_2] 24 (0, 0))) ∧ (w'.heap[Av]? = some (.cells #[.int .i64 a3_0, .int .i64 a3_1] 46 (0, 0))) ∧ (w'.heap[Az]? = some (.cells #[.int .i64 As, .int .i64 At, .slice AK Aa.length AJ] 29 (0, 0))) ∧ (w'.heap[Ae]? = some (.cells #[.int .i64 AC, .int .i64 AD, .slice Ap Ai.length Ar] 29 (0, 0))) ∧ (w'.heap[s_.2]? = some (.cells #[.int .i64 0, .int .i64 0, .slice none 0 0] 29 (0, 0))) ∧ (w.heap.size ≤ s_.2) ∧ (w.heap.size ≤ s_.2) ∧ (An ≠ s_.2) ∧ (s_.2 ≠ An) ∧ (Av ≠ s_.2) ∧ (s_.2 ≠ Av) ∧ (Az ≠ s_.2) ∧ (s_.2 ≠ Az) ∧ (Ae ≠ s_.2) ∧ (s_.2 ≠ Ae) ∧ (Below w.heap.size w w')) ?_ ?_
  rotate_left
  ·intro hCont
   refine two_ (i := 4) (j := 9) (Ni := some 42) (Nj := some 13) #[true, true, true, true, true, false, false, false, false, false, false, false] #[true, true, true, true, false, false, false, false, false, true, false, false] rfl rfl rfl rfl (two_of HT_.o (by kernel_rfl)) (by decide) (by decide) (fun K hK => ?_) (fun K hK => ?_)
   ·skip
    refine goes_ Try.func34 (by kernel_rfl) rfl #[.agg #[.int .i64 a3_0, .int .i64 a3_1]] (by rfl) rfl rfl (by (try simp only [List.map_toArray, List.map_cons, List.map_nil]); first | done | rfl | (simp only [List.length_drop, List.length_take]; rfl)) ?_
    with_reducible refine (laws_toCell.calls a3_0 a3_1 BS BT _ Gw.o).mono ?_
    rintro e HP ⟨rfl, hb⟩
    refine ⟨_, rfl, ?_⟩
    replace A9 := Z.m (Kd.Rb (vR A9) hb)
    replace Aj := Z.m (Kd.Rb (vR Aj) hb)
    replace Ax := Z.m (Kd.Rb (vR Ax) hb)
    replace A0 := kB A0 hb
    replace A1 := kB A1 hb
    replace A6 := kB A6 hb
    replace A7 := kB A7 hb
    replace HB := bB HB hb
    (try clear hb)
    refine hK.out _ _ ⟨(ql A7.o 0).trans rfl, (ql A7.o 1).trans rfl, (ql A7.o 2).trans rfl, (ql A1.o 0).trans rfl, (ql A1.o 1).trans rfl⟩ (fun hHeld => ?_)
    clear hK K
    refine norm_ (a' := ?_) ?_ ?_
    rotate_left
    ·show Act.put _ (some 42) _ = _
     simp only [Act.put, q1, q2, q3, i64_w, i32_w]
     rfl
    refine two_ (i := 5) (j := 9) (Ni := some 43) (Nj := some 13) #[true, true, true, true, true, true, false, false, false, false, false, false] #[true, true, true, true, true, false, false, false, false, true, false, false] rfl rfl rfl rfl (two_of HT_.o (by kernel_rfl)) (by decide) (by decide) (fun K hK => ?_) (fun K hK => ?_)
    ·skip
     refine goes_ Try.func35 (by kernel_rfl) rfl #[.agg #[.int .i64 AC, .int .i64 AD, .slice Ap Ai.length Ar], .int .i64 a1, .int .i64 a2, .agg #[.int .i64 BS, .int .i64 BT]] (by rfl) rfl rfl (by (try simp only [List.map_toArray, List.map_cons, List.map_nil]); first | done | rfl | (simp only [List.length_drop, List.length_take]; rfl)) ?_
     with_reducible refine (impl_PutCell.calls k AC AD _ _ Ai a1 a2 BS BT Ak Al Af B9 _ ?side1 ?side2 FC.o).mono ?_
     (case side1 => repeat (first | exact (Kd.RrZ Ax.o).2.2 | (with_reducible refine Kd.C_alloc ?_ _) | (with_reducible refine Kd.C_drewN ?_ _) | (with_reducible refine Kd.C_drew ?_)))
     (case side2 => exact (Kd.RrZ Ax.o).2.1)
     rintro e Hj ⟨BV, rfl, AV, hb⟩
     refine ⟨_, rfl, ?_⟩
     have Bb := Z.m (Kd.R_lower (Kd.R_new' (Kd.R_new' (Kd.R_new' AV (Kd.R_lt (vR A9))) (Kd.R_lt (vR Aj))) (Kd.R_lt (vR Ax))) (below_size (vB HB)))
     replace A9 := Z.m (Kd.R_elder' (vR A9) (Kd.R_base AV) hb)
     replace Aj := Z.m (Kd.R_elder' (vR Aj) (Kd.R_base AV) hb)
     replace Ax := Z.m (Kd.R_elder' (vR Ax) (Kd.R_base AV) hb)
     replace A0 := kB A0 hb
     replace A1 := kB A1 hb
     replace A6 := kB A6 hb
     replace A7 := kB A7 hb
     replace HB := bB HB hb
     (try clear hb); (try clear AV)
     refine hK.out _ _ ⟨(ql A7.o 0).trans rfl, (ql A7.o 1).trans rfl, (ql A7.o 2).trans rfl, (ql A1.o 0).trans rfl, (ql A1.o 1).trans rfl⟩ (fun hHeld => ?_)
     clear hK K
     refine norm_ (a' := ?_) ?_ ?_
     rotate_left
     ·show Act.put _ (some 43) _ = _
      simp only [Act.put, q1, q2, q3, i64_w, i32_w]
      rfl
     refine pure_ (i := 6) (N := some 37) (v := ?_) (a' := ?_) #[true, true, true, true, true, true, true, false, false, false, false, false] rfl rfl (any_of HT_.o (by kernel_rfl)) (fun _ _ _ h => h) (Or.inl ⟨by rfl, ?_⟩) ?_ ?_
     rotate_left
     ·intro w'
      go_simp
      with_reducible rfl
     rotate_left
     ·simp only [Act.put, q1, q2, q3, i64_w, i32_w]
      rfl
     refine pure_ (i := 7) (N := some 44) (v := ?_) (a' := ?_) #[true, true, true, true, true, true, true, true, false, false, false, false] rfl rfl (any_of HT_.o (by kernel_rfl)) (fun _ _ _ h => h) (Or.inl ⟨by rfl, ?_⟩) ?_ ?_
     rotate_left
     ·intro w'
      go_simp
      with_reducible rfl
     rotate_left
     ·simp only [Act.put, q1, q2, q3, i64_w, i32_w]
      rfl
     refine pure_ (i := 8) (N := some 45) (v := ?_) (a' := ?_) #[true, true, true, true, true, true, true, true, true, false, false, false] rfl rfl (any_of HT_.o (by kernel_rfl)) (fun _ _ _ h => h) (Or.inl ⟨by rfl, ?_⟩) ?_ ?_
     rotate_left
     ·intro w'
      go_simp
      with_reducible rfl
     rotate_left
     ·simp only [Act.put, q1, q2, q3, i64_w, i32_w]
      rfl
     refine one_ (i := 9) (N := some 13) #[true, true, true, true, true, true, true, true, true, true, false, false] rfl rfl (one_of HT_.o (by kernel_rfl)) (by decide) (fun K hK => ?_)
     refine box_step ?hg (N := 13) ?hd (cs := #[.int .i64 0, .int .i64 0, .slice none 0 0]) (t := 29) ?hr ?_; (case hd => rfl); (case hg => rfl); (case hr => first | (go_simp; done) | (go_simp; rfl))
     intro AQ hg Hk hbox hb
     have A8 := Z.m (hbox)
     have BW := gW (w := w) HB hg
     have BF := gW (w := w) HB hg
     have AE := neL A0 hg
     have AN := neG A0 hg
     have Am := neL A1 hg
     have AO := neG A1 hg
     have AB := neL A6 hg
     have AG := neG A6 hg
     have Ad := neL A7 hg
     have AH := neG A7 hg
     replace A9 := Z.m (Kd.Rb (vR A9) hb)
     replace Aj := Z.m (Kd.Rb (vR Aj) hb)
     replace Ax := Z.m (Kd.Rb (vR Ax) hb)
     replace Bb := Z.m (Kd.Rb (vR Bb) hb)
     replace A0 := kB A0 hb
     replace A1 := kB A1 hb
     replace A6 := kB A6 hb
     replace A7 := kB A7 hb
     replace HB := bB HB hb
     clear hb hbox hg
     refine hK.out _ _ ⟨(ql A7.o 0).trans rfl, (ql A7.o 1).trans rfl, (ql A7.o 2).trans rfl, (ql A1.o 0).trans rfl, (ql A1.o 1).trans rfl⟩ (fun hHeld => ?_)
     clear hK K
     refine norm_ (a' := ?_) ?_ ?_
     rotate_left
     ·show Act.put _ (some 13) _ = _
      simp only [Act.put, q1, q2, q3, i64_w, i32_w]
      rfl
     exact norm_ (by simp only [putAll, Act.put, q1, q2, q3]) (hCont (BV, AQ) _ ⟨hHeld, (by refine rK ?_; exact Kd.Rm A9.o (fun _ hk => ⟨hk.1.1, ⟨hk.1.2, hk.2⟩⟩)), (by refine rK ?_; exact Kd.Rm Aj.o (fun _ hk => ⟨hk.1.1, ⟨hk.1.2, hk.2⟩⟩)), (by refine rK ?_; exact Kd.Rm Ax.o (fun _ hk => ⟨hk.1.1, ⟨hk.1.2, hk.2⟩⟩)), (by refine rK ?_; exact Kd.Rm Bb.o (fun _ hk => ⟨hk.1.1.2, ⟨hk.1.2, hk.2⟩⟩)), (vK A0), (vK A1), (vK A6), (vK A7), (vK A8), BW.o, BF.o, AE.o, AN.o, Am.o, AO.o, AB.o, AG.o, Ad.o, AH.o, (vB HB)⟩)
    ·skip
     refine box_step ?hg (N := 13) ?hd (cs := #[.int .i64 0, .int .i64 0, .slice none 0 0]) (t := 29) ?hr ?_; (case hd => rfl); (case hg => rfl); (case hr => first | (go_simp; done) | (go_simp; rfl))
     intro AQ hg Hj hbox hb
     have A8 := Z.m (hbox)
     have BW := gW (w := w) HB hg
     have BF := gW (w := w) HB hg
     have AE := neL A0 hg
     have AN := neG A0 hg
     have Am := neL A1 hg
     have AO := neG A1 hg
     have AB := neL A6 hg
     have AG := neG A6 hg
     have Ad := neL A7 hg
     have AH := neG A7 hg
     replace A9 := Z.m (Kd.Rb (vR A9) hb)
     replace Aj := Z.m (Kd.Rb (vR Aj) hb)
     replace Ax := Z.m (Kd.Rb (vR Ax) hb)
     replace A0 := kB A0 hb
     replace A1 := kB A1 hb
     replace A6 := kB A6 hb
     replace A7 := kB A7 hb
     replace HB := bB HB hb
     clear hb hbox hg
     refine hK.out _ _ ⟨(ql A7.o 0).trans rfl, (ql A7.o 1).trans rfl, (ql A7.o 2).trans rfl, (ql A1.o 0).trans rfl, (ql A1.o 1).trans rfl⟩ (fun hHeld => ?_)
     clear hK K
     refine norm_ (a' := ?_) ?_ ?_
     rotate_left
     ·show Act.put _ (some 13) _ = _
      simp only [Act.put, q1, q2, q3, i64_w, i32_w]
      rfl
     refine one_ (i := 5) (N := some 43) #[true, true, true, true, true, true, false, false, false, true, false, false] rfl rfl (one_of HT_.o (by kernel_rfl)) (by decide) (fun K hK => ?_)
     refine goes_ Try.func35 (by kernel_rfl) rfl #[.agg #[.int .i64 AC, .int .i64 AD, .slice Ap Ai.length Ar], .int .i64 a1, .int .i64 a2, .agg #[.int .i64 BS, .int .i64 BT]] (by rfl) rfl rfl (by (try simp only [List.map_toArray, List.map_cons, List.map_nil]); first | done | rfl | (simp only [List.length_drop, List.length_take]; rfl)) ?_
     with_reducible refine (impl_PutCell.calls k AC AD _ _ Ai a1 a2 BS BT Ak Al Af B9 _ ?side1 ?side2 FC.o).mono ?_
     (case side1 => repeat (first | exact (Kd.RrZ Ax.o).2.2 | (with_reducible refine Kd.C_alloc ?_ _) | (with_reducible refine Kd.C_drewN ?_ _) | (with_reducible refine Kd.C_drew ?_)))
     (case side2 => exact (Kd.RrZ Ax.o).2.1)
     rintro e Hk ⟨BV, rfl, AV, hb⟩
     refine ⟨_, rfl, ?_⟩
     have Bb := Z.m (Kd.R_lower (Kd.R_new' (Kd.R_new' (Kd.R_new' AV (Kd.R_lt (vR A9))) (Kd.R_lt (vR Aj))) (Kd.R_lt (vR Ax))) (below_size (vB HB)))
     replace A9 := Z.m (Kd.R_elder' (vR A9) (Kd.R_base AV) hb)
     replace Aj := Z.m (Kd.R_elder' (vR Aj) (Kd.R_base AV) hb)
     replace Ax := Z.m (Kd.R_elder' (vR Ax) (Kd.R_base AV) hb)
     replace A0 := kB A0 hb
     replace A1 := kB A1 hb
     replace A6 := kB A6 hb
     replace A7 := kB A7 hb
     replace A8 := kB A8 hb
     replace HB := bB HB hb
     (try clear hb); (try clear AV)
     refine hK.out _ _ ⟨(ql A7.o 0).trans rfl, (ql A7.o 1).trans rfl, (ql A7.o 2).trans rfl, (ql A1.o 0).trans rfl, (ql A1.o 1).trans rfl⟩ (fun hHeld => ?_)
     clear hK K
     refine norm_ (a' := ?_) ?_ ?_
     rotate_left
     ·show Act.put _ (some 43) _ = _
      simp only [Act.put, q1, q2, q3, i64_w, i32_w]
      rfl
     refine pure_ (i := 6) (N := some 37) (v := ?_) (a' := ?_) #[true, true, true, true, true, true, true, false, false, true, false, false] rfl rfl (any_of HT_.o (by kernel_rfl)) (fun _ _ _ h => h) (Or.inl ⟨by rfl, ?_⟩) ?_ ?_
     rotate_left
     ·intro w'
      go_simp
      with_reducible rfl
     rotate_left
     ·simp only [Act.put, q1, q2, q3, i64_w, i32_w]
      rfl
     refine pure_ (i := 7) (N := some 44) (v := ?_) (a' := ?_) #[true, true, true, true, true, true, true, true, false, true, false, false] rfl rfl (any_of HT_.o (by kernel_rfl)) (fun _ _ _ h => h) (Or.inl ⟨by rfl, ?_⟩) ?_ ?_
     rotate_left
     ·intro w'
      go_simp
      with_reducible rfl
     rotate_left
     ·simp only [Act.put, q1, q2, q3, i64_w, i32_w]
      rfl
     refine pure_ (i := 8) (N := some 45) (v := ?_) (a' := ?_) #[true, true, true, true, true, true, true, true, true, true, false, false] rfl rfl (any_of HT_.o (by kernel_rfl)) (fun _ _ _ h => h) (Or.inl ⟨by rfl, ?_⟩) ?_ ?_
     rotate_left
     ·intro w'
      go_simp
      with_reducible rfl
     rotate_left
     ·simp only [Act.put, q1, q2, q3, i64_w, i32_w]
      rfl
     exact norm_ (by simp only [putAll, Act.put, q1, q2, q3]) (hCont (BV, AQ) _ ⟨hHeld, (by refine rK ?_; exact Kd.Rm A9.o (fun _ hk => ⟨hk.1.1, ⟨hk.1.2, hk.2⟩⟩)), (by refine rK ?_; exact Kd.Rm Aj.o (fun _ hk => ⟨hk.1.1, ⟨hk.1.2, hk.2⟩⟩)), (by refine rK ?_; exact Kd.Rm Ax.o (fun _ hk => ⟨hk.1.1, ⟨hk.1.2, hk.2⟩⟩)), (by refine rK ?_; exact Kd.Rm Bb.o (fun _ hk => ⟨hk.1.1.2, ⟨hk.1.2, hk.2⟩⟩)), (vK A0), (vK A1), (vK A6), (vK A7), (vK A8), BW.o, BF.o, AE.o, AN.o, Am.o, AO.o, AB.o, AG.o, Ad.o, AH.o, (vB HB)⟩)
   ·skip
    refine box_step ?hg (N := 13) ?hd (cs := #[.int .i64 0, .int .i64 0, .slice none 0 0]) (t := 29) ?hr ?_; (case hd => rfl); (case hg => rfl); (case hr => first | (go_simp; done) | (go_simp; rfl))
    intro AQ hg HP hbox hb
    have A8 := Z.m (hbox)
    have BW := gW (w := w) HB hg
    have BF := gW (w := w) HB hg
    have AE := neL A0 hg
    have AN := neG A0 hg
    have Am := neL A1 hg
    have AO := neG A1 hg
    have AB := neL A6 hg
    have AG := neG A6 hg
    have Ad := neL A7 hg
    have AH := neG A7 hg
    replace A9 := Z.m (Kd.Rb (vR A9) hb)
    replace Aj := Z.m (Kd.Rb (vR Aj) hb)
    replace Ax := Z.m (Kd.Rb (vR Ax) hb)
    replace A0 := kB A0 hb
    replace A1 := kB A1 hb
    replace A6 := kB A6 hb
    replace A7 := kB A7 hb
    replace HB := bB HB hb
    clear hb hbox hg
    refine hK.out _ _ ⟨(ql A7.o 0).trans rfl, (ql A7.o 1).trans rfl, (ql A7.o 2).trans rfl, (ql A1.o 0).trans rfl, (ql A1.o 1).trans rfl⟩ (fun hHeld => ?_)
    clear hK K
    refine norm_ (a' := ?_) ?_ ?_
    rotate_left
    ·show Act.put _ (some 13) _ = _
     simp only [Act.put, q1, q2, q3, i64_w, i32_w]
     rfl
    refine one_ (i := 4) (N := some 42) #[true, true, true, true, true, false, false, false, false, true, false, false] rfl rfl (one_of HT_.o (by kernel_rfl)) (by decide) (fun K hK => ?_)
    refine goes_ Try.func34 (by kernel_rfl) rfl #[.agg #[.int .i64 a3_0, .int .i64 a3_1]] (by rfl) rfl rfl (by (try simp only [List.map_toArray, List.map_cons, List.map_nil]); first | done | rfl | (simp only [List.length_drop, List.length_take]; rfl)) ?_
    with_reducible refine (laws_toCell.calls a3_0 a3_1 BS BT _ Gw.o).mono ?_
    rintro e Hj ⟨rfl, hb⟩
    refine ⟨_, rfl, ?_⟩
    replace A9 := Z.m (Kd.Rb (vR A9) hb)
    replace Aj := Z.m (Kd.Rb (vR Aj) hb)
    replace Ax := Z.m (Kd.Rb (vR Ax) hb)
    replace A0 := kB A0 hb
    replace A1 := kB A1 hb
    replace A6 := kB A6 hb
    replace A7 := kB A7 hb
    replace A8 := kB A8 hb
    replace HB := bB HB hb
    (try clear hb)
    refine hK.out _ _ ⟨(ql A7.o 0).trans rfl, (ql A7.o 1).trans rfl, (ql A7.o 2).trans rfl, (ql A1.o 0).trans rfl, (ql A1.o 1).trans rfl⟩ (fun hHeld => ?_)
    clear hK K
    refine norm_ (a' := ?_) ?_ ?_
    rotate_left
    ·show Act.put _ (some 42) _ = _
     simp only [Act.put, q1, q2, q3, i64_w, i32_w]
     rfl
    refine one_ (i := 5) (N := some 43) #[true, true, true, true, true, true, false, false, false, true, false, false] rfl rfl (one_of HT_.o (by kernel_rfl)) (by decide) (fun K hK => ?_)
    refine goes_ Try.func35 (by kernel_rfl) rfl #[.agg #[.int .i64 AC, .int .i64 AD, .slice Ap Ai.length Ar], .int .i64 a1, .int .i64 a2, .agg #[.int .i64 BS, .int .i64 BT]] (by rfl) rfl rfl (by (try simp only [List.map_toArray, List.map_cons, List.map_nil]); first | done | rfl | (simp only [List.length_drop, List.length_take]; rfl)) ?_
    with_reducible refine (impl_PutCell.calls k AC AD _ _ Ai a1 a2 BS BT Ak Al Af B9 _ ?side1 ?side2 FC.o).mono ?_
    (case side1 => repeat (first | exact (Kd.RrZ Ax.o).2.2 | (with_reducible refine Kd.C_alloc ?_ _) | (with_reducible refine Kd.C_drewN ?_ _) | (with_reducible refine Kd.C_drew ?_)))
    (case side2 => exact (Kd.RrZ Ax.o).2.1)
    rintro e Hk ⟨BV, rfl, AV, hb⟩
    refine ⟨_, rfl, ?_⟩
    have Bb := Z.m (Kd.R_lower (Kd.R_new' (Kd.R_new' (Kd.R_new' AV (Kd.R_lt (vR A9))) (Kd.R_lt (vR Aj))) (Kd.R_lt (vR Ax))) (below_size (vB HB)))
    replace A9 := Z.m (Kd.R_elder' (vR A9) (Kd.R_base AV) hb)
    replace Aj := Z.m (Kd.R_elder' (vR Aj) (Kd.R_base AV) hb)
    replace Ax := Z.m (Kd.R_elder' (vR Ax) (Kd.R_base AV) hb)
    replace A0 := kB A0 hb
    replace A1 := kB A1 hb
    replace A6 := kB A6 hb
    replace A7 := kB A7 hb
    replace A8 := kB A8 hb
    replace HB := bB HB hb
    (try clear hb); (try clear AV)
    refine hK.out _ _ ⟨(ql A7.o 0).trans rfl, (ql A7.o 1).trans rfl, (ql A7.o 2).trans rfl, (ql A1.o 0).trans rfl, (ql A1.o 1).trans rfl⟩ (fun hHeld => ?_)
    clear hK K
    refine norm_ (a' := ?_) ?_ ?_
    rotate_left
    ·show Act.put _ (some 43) _ = _
     simp only [Act.put, q1, q2, q3, i64_w, i32_w]
     rfl
    refine pure_ (i := 6) (N := some 37) (v := ?_) (a' := ?_) #[true, true, true, true, true, true, true, false, false, true, false, false] rfl rfl (any_of HT_.o (by kernel_rfl)) (fun _ _ _ h => h) (Or.inl ⟨by rfl, ?_⟩) ?_ ?_
    rotate_left
    ·intro w'
     go_simp
     with_reducible rfl
    rotate_left
    ·simp only [Act.put, q1, q2, q3, i64_w, i32_w]
     rfl
    refine pure_ (i := 7) (N := some 44) (v := ?_) (a' := ?_) #[true, true, true, true, true, true, true, true, false, true, false, false] rfl rfl (any_of HT_.o (by kernel_rfl)) (fun _ _ _ h => h) (Or.inl ⟨by rfl, ?_⟩) ?_ ?_
    rotate_left
    ·intro w'
     go_simp
     with_reducible rfl
    rotate_left
    ·simp only [Act.put, q1, q2, q3, i64_w, i32_w]
     rfl
    refine pure_ (i := 8) (N := some 45) (v := ?_) (a' := ?_) #[true, true, true, true, true, true, true, true, true, true, false, false] rfl rfl (any_of HT_.o (by kernel_rfl)) (fun _ _ _ h => h) (Or.inl ⟨by rfl, ?_⟩) ?_ ?_
    rotate_left
    ·intro w'
     go_simp
     with_reducible rfl
    rotate_left
    ·simp only [Act.put, q1, q2, q3, i64_w, i32_w]
     rfl
    exact norm_ (by simp only [putAll, Act.put, q1, q2, q3]) (hCont (BV, AQ) _ ⟨hHeld, (by refine rK ?_; exact Kd.Rm A9.o (fun _ hk => ⟨hk.1.1, ⟨hk.1.2, hk.2⟩⟩)), (by refine rK ?_; exact Kd.Rm Aj.o (fun _ hk => ⟨hk.1.1, ⟨hk.1.2, hk.2⟩⟩)), (by refine rK ?_; exact Kd.Rm Ax.o (fun _ hk => ⟨hk.1.1, ⟨hk.1.2, hk.2⟩⟩)), (by refine rK ?_; exact Kd.Rm Bb.o (fun _ hk => ⟨hk.1.1.2, ⟨hk.1.2, hk.2⟩⟩)), (vK A0), (vK A1), (vK A6), (vK A7), (vK A8), BW.o, BF.o, AE.o, AN.o, Am.o, AO.o, AB.o, AG.o, Ad.o, AH.o, (vB HB)⟩)
  rintro ⟨BV, AQ⟩ C2 ⟨hS_, h0_, h1_, h2_, h3_, h4_, h5_, h6_, h7_, h8_, h9_, h10_, h11_, h12_, h13_, h14_, h15_, h16_, h17_, h18_, h19_⟩
  have Bb : Z (Kd.R k34 34 C2 w.heap.size (fun k_ => some k_ ≠ (Bj : Value).ownBlock ∧ some k_ ≠ (.slice AK Aa.length AJ : Value).ownBlock ∧ some k_ ≠ (.slice Ap Ai.length Ar : Value).ownBlock) BV Af) := ⟨h3_⟩
  have A8 : Z (C2.heap[AQ]? = some (.cells #[.int .i64 0, .int .i64 0, .slice none 0 0] 29 (0, 0))) := ⟨h8_⟩
  have BW : Z (w.heap.size ≤ AQ) := ⟨h9_⟩
  have BF : Z (w.heap.size ≤ AQ) := ⟨h10_⟩
  have AE : Z (An ≠ AQ) := ⟨h11_⟩
  have AN : Z (AQ ≠ An) := ⟨h12_⟩
  have Am : Z (Av ≠ AQ) := ⟨h13_⟩
  have AO : Z (AQ ≠ Av) := ⟨h14_⟩
  have AB : Z (Az ≠ AQ) := ⟨h15_⟩
  have AG : Z (AQ ≠ Az) := ⟨h16_⟩
  have Ad : Z (Ae ≠ AQ) := ⟨h17_⟩
  have AH : Z (AQ ≠ Ae) := ⟨h18_⟩
  replace A9 : Z (Kd.R k34 34 C2 w.heap.size (fun k_ => some k_ ≠ (.slice AK Aa.length AJ : Value).ownBlock ∧ some k_ ≠ (.slice Ap Ai.length Ar : Value).ownBlock ∧ some k_ ≠ (BV : Value).ownBlock) Bj Bc) := ⟨h0_⟩
  replace Aj : Z (Kd.R k34 34 C2 w.heap.size (fun k_ => some k_ ≠ (Bj : Value).ownBlock ∧ some k_ ≠ (.slice Ap Ai.length Ar : Value).ownBlock ∧ some k_ ≠ (BV : Value).ownBlock) (.slice AK Aa.length AJ) Aa) := ⟨h1_⟩
  replace Ax : Z (Kd.R k34 34 C2 w.heap.size (fun k_ => some k_ ≠ (Bj : Value).ownBlock ∧ some k_ ≠ (.slice AK Aa.length AJ : Value).ownBlock ∧ some k_ ≠ (BV : Value).ownBlock) (.slice Ap Ai.length Ar) Ai) := ⟨h2_⟩
  replace A0 : Z (C2.heap[An]? = some (.cells #[.int .i64 a0_0, .int .i64 a0_1, .slice A0_2 l0_2.length c0_2] 24 (0, 0))) := ⟨h4_⟩
  replace A1 : Z (C2.heap[Av]? = some (.cells #[.int .i64 a3_0, .int .i64 a3_1] 46 (0, 0))) := ⟨h5_⟩
  replace A6 : Z (C2.heap[Az]? = some (.cells #[.int .i64 As, .int .i64 At, .slice AK Aa.length AJ] 29 (0, 0))) := ⟨h6_⟩
  replace A7 : Z (C2.heap[Ae]? = some (.cells #[.int .i64 AC, .int .i64 AD, .slice Ap Ai.length Ar] 29 (0, 0))) := ⟨h7_⟩
  replace HB : Z (Below w.heap.size w C2) := ⟨h19_⟩
  clear h0_ h1_ h2_ h3_ h4_ h5_ h6_ h7_ h8_ h9_ h10_ h11_ h12_ h13_ h14_ h15_ h16_ h17_ h18_ h19_
  have hHeld : C2.cell? ⟨Ae, 0, none⟩ = some (.int .i64 AC) ∧ C2.cell? ⟨Ae, 1, none⟩ = some (.int .i64 AD) ∧ C2.cell? ⟨Ae, 2, none⟩ = some (.slice Ap Ai.length Ar) ∧ C2.cell? ⟨Av, 0, none⟩ = some (.int .i64 a3_0) ∧ C2.cell? ⟨Av, 1, none⟩ = some (.int .i64 a3_1) := hS_
  obtain ⟨AX, AW, D6⟩ := Kd.R_slice Bb.o
  (first | subst D6 | (injection D6 with f1_ f2_ f3_; have f4_ := f1_.symm; have f5_ := f3_.symm; clear f1_ f2_ f3_; subst f4_; subst f5_))
  refine norm_ (a' := ?_) ?_ ?_
  rotate_left
  ·simp only [putAll, Act.put, q1, q2, q3]
   rfl
  refine one_ (i := 10) (N := none) #[true, true, true, true, true, true, true, true, true, true, true, false] rfl rfl (one_of HT_.o (by kernel_rfl)) (by decide) (fun K hK => ?_)
  have Hw : C2.cell? ⟨AQ, 0, none⟩ = some (.int .i64 0) := (ql A8.o 0).trans rfl
  have hfs50 := qz A8.o 0
  have Fm := AE.o
  have Fn := Am.o
  have Fo := AB.o
  have Fp := Ad.o
  have F4 := AN.o
  have F5 := AO.o
  have F6 := AG.o
  have F7 := AH.o
  have Hx : C2.cell? ⟨AQ, 1, none⟩ = some (.int .i64 0) := (ql A8.o 1).trans rfl
  have hfs51 := qz A8.o 1
  have Fq := AE.o
  have Fr := Am.o
  have Fs := AB.o
  have Ft := Ad.o
  have F8 := AN.o
  have F9 := AO.o
  have Fa := AG.o
  have Fb := AH.o
  have Hy : C2.cell? ⟨AQ, 2, none⟩ = some (.slice none 0 0) := (ql A8.o 2).trans rfl
  have hfs53 := qz A8.o 2
  have Fu := AE.o
  have Fv := Am.o
  have Fw := AB.o
  have Fx := Ad.o
  have Fc := AN.o
  have Fd := AO.o
  have Fe := AG.o
  have Ff := AH.o
  refine skip_ (w1 := ?_) ?hwx ?hnx ?_ ?_; (case hwx => rfl); (case hnx => rfl)
  rotate_left
  ·go_simp
   rfl
  refine hK.out _ _ ⟨(cx Ad.o ((cx Ad.o ((cx Ad.o (hHeld.1)))))), (cx Ad.o ((cx Ad.o ((cx Ad.o (hHeld.2.1)))))), (cx Ad.o ((cx Ad.o ((cx Ad.o (hHeld.2.2.1)))))), (cx Am.o ((cx Am.o ((cx Am.o (hHeld.2.2.2.1)))))), (cx Am.o ((cx Am.o ((cx Am.o (hHeld.2.2.2.2))))))⟩ (fun hHeld => ?_)
  clear hK K
  refine pure_ (i := 11) (N := some 14) (v := ?_) (a' := ?_) #[true, true, true, true, true, true, true, true, true, true, true, true] rfl rfl (any_of HT_.o (by kernel_rfl)) (fun _ _ _ h => h) (Or.inl ⟨by rfl, ?_⟩) ?_ ?_
  rotate_left
  ·intro w'
   go_simp
   with_reducible rfl
  rotate_left
  ·simp only [Act.put, q1, q2, q3, i64_w, i32_w]
   rfl
  refine done_ (done_of HT_.o (by kernel_rfl)) ?_
  go_upto_region 8 with (fail)
  go_cut [54] (fun v54 wc => ∃ (kq : Nat) (C0 : Bool), v54 = .bool C0 ∧ Z (laws_FnExactPutCell.j0 kq a1 a2 Ay B9 C0 a0_0 a0_1 l0_2 a3_0 a3_1 As At Aa AC AD Ai Ak Al Af = some true) ∧ Z (kq ≤ k) ∧ Z (Kd.R k34 34 wc w.heap.size (fun k_ => some k_ ≠ ((.slice Ap Ai.length Ar) : Value).ownBlock ∧ some k_ ≠ ((.slice AX Af.length AW) : Value).ownBlock) (.slice AK Aa.length AJ) Aa) ∧ Z (Kd.R k34 34 wc w.heap.size (fun k_ => some k_ ≠ ((.slice AK Aa.length AJ) : Value).ownBlock ∧ some k_ ≠ ((.slice AX Af.length AW) : Value).ownBlock) (.slice Ap Ai.length Ar) Ai) ∧ Z (Kd.R k34 34 wc w.heap.size (fun k_ => some k_ ≠ ((.slice AK Aa.length AJ) : Value).ownBlock ∧ some k_ ≠ ((.slice Ap Ai.length Ar) : Value).ownBlock) (.slice AX Af.length AW) Af) ∧ Z (wc.heap[An]? = some (.cells #[.int .i64 a0_0, .int .i64 a0_1, (.slice A0_2 l0_2.length c0_2)] 24 (0, 0))) ∧ Z (wc.heap[Av]? = some (.cells #[.int .i64 a3_0, .int .i64 a3_1] 46 (0, 0))) ∧ Z (wc.heap[Az]? = some (.cells #[.int .i64 As, .int .i64 At, (.slice AK Aa.length AJ)] 29 (0, 0))) ∧ Z (wc.heap[Ae]? = some (.cells #[.int .i64 AC, .int .i64 AD, (.slice Ap Ai.length Ar)] 29 (0, 0))) ∧ Z (wc.heap[AQ]? = some (.cells #[.int .i64 Ak, .int .i64 Al, (.slice AX Af.length AW)] 29 (0, 0))) ∧ Z (Below w.heap.size w wc))
  case first =>
   have H := CI.o
   clear CI
   replace H := Option.bind_eq_some_iff.mp H
   obtain ⟨Bg, CW, H⟩ := H
   replace H : (if Bg = true then (laws_FnExactPutCell.j0 k a1 a2 Ay B9 (B9 != Ay) a0_0 a0_1 l0_2 a3_0 a3_1 As At Aa AC AD Ai Ak Al Af) else (laws_FnExactPutCell.j0 k a1 a2 Ay B9 true a0_0 a0_1 l0_2 a3_0 a3_1 As At Aa AC AD Ai Ak Al Af)) = some true := H
   have Hm := Z.m CW
   clear CW
   by_cases c55 : Bg = true
   ·subst c55
    have H1 : (laws_FnExactPutCell.j0 k a1 a2 Ay B9 (B9 != Ay) a0_0 a0_1 l0_2 a3_0 a3_1 As At Aa AC AD Ai Ak Al Af) = some true := by rw [if_pos rfl] at H; exact H
    clear H
    have H := H1
    clear H1
    have H' := Z.m H
    clear H
    have GE := AN.o
    have GY := AE.o
    have GF := AO.o
    have GZ := Am.o
    have GG := AG.o
    have H0 := AB.o
    have GH := AH.o
    have H2 := Ad.o
    have Et := bc0 A8
    have Eu := bc1 A8
    have Ew := bc2 A8
    have EP := qz A8.o 0
    have EQ := qz A8.o 1
    have ER := qz A8.o 2
    have GI := AA.o
    have H3 := Ac.o
    have GJ := AF.o
    have H4 := Ah.o
    have GK := Ba.o
    have H5 := Be.o
    have Ex := bc0 A6
    have Ey := bc1 A6
    have Ez := bc2 A6
    have ES := qz A6.o 0
    have ET := qz A6.o 1
    have EU := qz A6.o 2
    go_wp2_with (first | ((with_reducible refine gc (f := 19) rfl ?_); refine gA (some 48) _ #[.agg #[.int .i64 Ak, .int .i64 Al, .slice AX Af.length AW], .agg #[.int .i64 As, .int .i64 At, .slice AK Aa.length AJ]] ?_ Try.func19; (with_reducible refine (laws_eqBoard.calls k Ak Al _ _ Af As At _ _ Aa true _ ?side1 ?side2 ?side3 ?side4 Hm.o).mono ?_); (case side1 => refine (Kd.RrZ (e := 34) (base := w.heap.size) (ok := fun k_ => (some k_ ≠ (Bj : Value).ownBlock ∧ (some k_ ≠ (.slice AK Aa.length AJ : Value).ownBlock ∧ some k_ ≠ (.slice Ap Ai.length Ar : Value).ownBlock))) (n := Af.length) (c := AW) ?_).2.2; exact (by refine rK ?_; exact (Kd.Rm (rf (rf (rf (Kd.Ry Bb.o A8.o (by decide))))) (fun _ h_ => h_.1)))); (case side2 => exact (Kd.RrZ Bb.o).2.1); (case side3 => refine (Kd.RrZ (e := 34) (base := w.heap.size) (ok := fun k_ => (some k_ ≠ (Bj : Value).ownBlock ∧ (some k_ ≠ (.slice Ap Ai.length Ar : Value).ownBlock ∧ some k_ ≠ (.slice AX Af.length AW : Value).ownBlock))) (n := Aa.length) (c := AJ) ?_).2.2; exact (by refine rK ?_; exact (Kd.Rm (rf (rf (rf (Kd.Ry Aj.o A8.o (by decide))))) (fun _ h_ => h_.1)))); (case side4 => exact (Kd.RrZ Aj.o).2.1); rintro e HX ⟨rfl, hb⟩; refine ⟨_, rfl, ?_⟩; replace A9 := Z.m (Kd.Rb (by refine rK ?_; exact (Kd.Rm (rf (rf (rf (Kd.Ry A9.o A8.o (by decide))))) (fun _ h_ => h_.1))) hb); replace Aj := Z.m (Kd.Rb (by refine rK ?_; exact (Kd.Rm (rf (rf (rf (Kd.Ry Aj.o A8.o (by decide))))) (fun _ h_ => h_.1))) hb); replace Ax := Z.m (Kd.Rb (by refine rK ?_; exact (Kd.Rm (rf (rf (rf (Kd.Ry Ax.o A8.o (by decide))))) (fun _ h_ => h_.1))) hb); replace Bb := Z.m (Kd.Rb (by refine rK ?_; exact (Kd.Rm (rf (rf (rf (Kd.Ry Bb.o A8.o (by decide))))) (fun _ h_ => h_.1))) hb); replace A0 := Z.m (qb (g := An) (o := .cells #[.int .i64 a0_0, .int .i64 a0_1, .slice A0_2 l0_2.length c0_2] 24 (0, 0)) (by refine bK ?_; (iterate 3 refine qF ?_ AE); exact A0.o) hb); replace A1 := Z.m (qb (g := Av) (o := .cells #[.int .i64 a3_0, .int .i64 a3_1] 46 (0, 0)) (by refine bK ?_; (iterate 3 refine qF ?_ Am); exact A1.o) hb); replace A6 := Z.m (qb (g := Az) (o := .cells #[.int .i64 As, .int .i64 At, .slice AK Aa.length AJ] 29 (0, 0)) (by refine bK ?_; (iterate 3 refine qF ?_ AB); exact A6.o) hb); replace A7 := Z.m (qb (g := Ae) (o := .cells #[.int .i64 AC, .int .i64 AD, .slice Ap Ai.length Ar] 29 (0, 0)) (by refine bK ?_; (iterate 3 refine qF ?_ Ad); exact A7.o) hb); replace A8 := Z.m (qb (g := AQ) (o := .cells #[.int .i64 Ak, .int .i64 Al, .slice AX Af.length AW] 29 (0, 0)) (by refine bK ?_; apply st3; refine bK ?_; exact A8.o) hb); replace HB := bB HB hb; (try clear hb); (try clear CN); (try clear hk); (try clear hi)))
    go_meet
    case rel => exact ⟨_, ((B9 != Ay)), (by first | rfl | (simp; done) | (simp [*]; done)), H', ⟨by first | omega | exact Nat.le_refl _⟩, ⟨by refine rK ?_; exact Kd.Rm Aj.o (fun _ hk => ⟨hk.2.1, hk.2.2⟩)⟩, ⟨by refine rK ?_; exact Kd.Rm Ax.o (fun _ hk => ⟨hk.2.1, hk.2.2⟩)⟩, ⟨by refine rK ?_; exact Kd.Rm Bb.o (fun _ hk => ⟨hk.2.1, hk.2.2⟩)⟩, ⟨vK A0⟩, ⟨vK A1⟩, ⟨vK A6⟩, ⟨vK A7⟩, ⟨vK A8⟩, ⟨vB HB⟩⟩
   ·(rw [if_neg c55] at H; exact absurd H (laws_FnExactPutCell.bad_j0 _ _ _ _ _ _ _ _ _ _ _ _ _ _ _ _ _ _ _))
  case rest =>
   clear CI
   obtain ⟨kq, C0, rfl, HA, CK, A4, A3, A2, A0, A1, A6, A7, A8, HB⟩ := hcut
   cases kq with
   | zero => exact absurd HA.o (by simp [laws_FnExactPutCell.j0])
   | succ kj17 =>
    have H := HA.o
    clear HA
    simp only [laws_FnExactPutCell.j0] at H
    by_cases c76 : C0 = true
    ·(rw [if_pos c76] at H; exact absurd H (by decide))
    ·replace c76 := Bool.eq_false_iff.mpr c76
     subst c76
     have H1 : ((laws_toBoard.f kj17 a0_0 a0_1 l0_2).bind fun bt436 => ((laws_eqBoard.f kj17 AC AD Ai bt436.1 bt436.2.1 bt436.2.2).bind fun Cd => (if Cd = true then ((laws_markBoard.f kj17 AC AD Ai 1).bind fun bt442 => (if bt442.1 < 0 then (laws_FnExactPutCell.j1 kj17 a1 a2 Ay true a0_0 a0_1 l0_2 a3_0 a3_1 As At Aa Ak Al Af) else ((laws_eqBoard.f kj17 Ak Al Af As At Aa).bind fun BN => (if BN = true then (laws_FnExactPutCell.j1 kj17 a1 a2 Ay (B9 != Ay) a0_0 a0_1 l0_2 a3_0 a3_1 As At Aa Ak Al Af) else (laws_FnExactPutCell.j1 kj17 a1 a2 Ay true a0_0 a0_1 l0_2 a3_0 a3_1 As At Aa Ak Al Af))))) else (some false)))) = some true := by rw [if_neg (show ¬ (false = true) by decide)] at H; exact H
     clear H
     have H := H1
     clear H1
     replace H := Option.bind_eq_some_iff.mp H
     obtain ⟨⟨Cr, Cs, Cb⟩, CX, H⟩ := H
     replace H : ((laws_eqBoard.f kj17 AC AD Ai Cr Cs Cb).bind fun Cd => (if Cd = true then ((laws_markBoard.f kj17 AC AD Ai 1).bind fun bt442 => (if bt442.1 < 0 then (laws_FnExactPutCell.j1 kj17 a1 a2 Ay true a0_0 a0_1 l0_2 a3_0 a3_1 As At Aa Ak Al Af) else ((laws_eqBoard.f kj17 Ak Al Af As At Aa).bind fun BN => (if BN = true then (laws_FnExactPutCell.j1 kj17 a1 a2 Ay (B9 != Ay) a0_0 a0_1 l0_2 a3_0 a3_1 As At Aa Ak Al Af) else (laws_FnExactPutCell.j1 kj17 a1 a2 Ay true a0_0 a0_1 l0_2 a3_0 a3_1 As At Aa Ak Al Af))))) else (some false))) = some true := H
     have Hn := Z.m CX
     clear CX
     replace H := Option.bind_eq_some_iff.mp H
     obtain ⟨Cd, CY, H⟩ := H
     replace H : (if Cd = true then ((laws_markBoard.f kj17 AC AD Ai 1).bind fun bt442 => (if bt442.1 < 0 then (laws_FnExactPutCell.j1 kj17 a1 a2 Ay true a0_0 a0_1 l0_2 a3_0 a3_1 As At Aa Ak Al Af) else ((laws_eqBoard.f kj17 Ak Al Af As At Aa).bind fun BN => (if BN = true then (laws_FnExactPutCell.j1 kj17 a1 a2 Ay (B9 != Ay) a0_0 a0_1 l0_2 a3_0 a3_1 As At Aa Ak Al Af) else (laws_FnExactPutCell.j1 kj17 a1 a2 Ay true a0_0 a0_1 l0_2 a3_0 a3_1 As At Aa Ak Al Af))))) else (some false)) = some true := H
     have Ho := Z.m CY
     clear CY
     by_cases c79 : Cd = true
     ·subst c79
      have H1 : ((laws_markBoard.f kj17 AC AD Ai 1).bind fun bt442 => (if bt442.1 < 0 then (laws_FnExactPutCell.j1 kj17 a1 a2 Ay true a0_0 a0_1 l0_2 a3_0 a3_1 As At Aa Ak Al Af) else ((laws_eqBoard.f kj17 Ak Al Af As At Aa).bind fun BN => (if BN = true then (laws_FnExactPutCell.j1 kj17 a1 a2 Ay (B9 != Ay) a0_0 a0_1 l0_2 a3_0 a3_1 As At Aa Ak Al Af) else (laws_FnExactPutCell.j1 kj17 a1 a2 Ay true a0_0 a0_1 l0_2 a3_0 a3_1 As At Aa Ak Al Af))))) = some true := by rw [if_pos rfl] at H; exact H
      clear H
      have H := H1
      clear H1
      replace H := Option.bind_eq_some_iff.mp H
      obtain ⟨⟨CO, AZ⟩, CZ, H⟩ := H
      replace H : (if CO < 0 then (laws_FnExactPutCell.j1 kj17 a1 a2 Ay true a0_0 a0_1 l0_2 a3_0 a3_1 As At Aa Ak Al Af) else ((laws_eqBoard.f kj17 Ak Al Af As At Aa).bind fun BN => (if BN = true then (laws_FnExactPutCell.j1 kj17 a1 a2 Ay (B9 != Ay) a0_0 a0_1 l0_2 a3_0 a3_1 As At Aa Ak Al Af) else (laws_FnExactPutCell.j1 kj17 a1 a2 Ay true a0_0 a0_1 l0_2 a3_0 a3_1 As At Aa Ak Al Af)))) = some true := H
      have Hp := Z.m CZ
      clear CZ
      have CJ := Z.m H
      clear H
      try go_wp2
      replace A4 := Z.m (Kd.R_drew A4.o)
      replace A3 := Z.m (Kd.R_drew A3.o)
      replace A2 := Z.m (Kd.R_drew A2.o)
      replace A0 := Z.m (blk_drew A0.o)
      replace A1 := Z.m (blk_drew A1.o)
      replace A6 := Z.m (blk_drew A6.o)
      replace A7 := Z.m (blk_drew A7.o)
      replace A8 := Z.m (blk_drew A8.o)
      replace HB := Z.m (qd HB.o)
      refine start_ (n := 5) (S := fun w' => w'.cell? ⟨Ae, 0, none⟩ = some (.int .i64 AC) ∧ w'.cell? ⟨Ae, 1, none⟩ = some (.int .i64 AD) ∧ w'.cell? ⟨Ae, 2, none⟩ = some (.slice Ap Ai.length Ar) ∧ w'.cell? ⟨An, 0, none⟩ = some (.int .i64 a0_0) ∧ w'.cell? ⟨An, 1, none⟩ = some (.int .i64 a0_1) ∧ w'.cell? ⟨An, 2, none⟩ = some (.slice A0_2 l0_2.length c0_2)) (ds := []) #[false, false, false, false, false] (by kernel_rfl) rfl rfl ⟨(ql A7.o 0).trans rfl, (ql A7.o 1).trans rfl, (ql A7.o 2).trans rfl, (ql A0.o 0).trans rfl, (ql A0.o 1).trans rfl, (ql A0.o 2).trans rfl⟩ (fun hHeld => ?_)
      generalize wc.drew = HY at A4 A3 A2 A0 A1 A6 A7 A8 HB hHeld ⊢
      refine take_ (i := 0) (N := some 55) (v := ?_) (a' := ?_) #[true, false, false, false, false] rfl rfl (by kernel_rfl) (fun _ _ _ h => h) (Or.inl ⟨by rfl, ?_⟩) hHeld ?_ ?_
      rotate_left
      ·rintro w' ⟨s0, s1, s2, s3, s4, s5⟩
       go_simp
       with_reducible rfl
      rotate_left
      ·simp only [Act.put, q1, q2, q3, i64_w, i32_w]
       rfl
      refine take_ (i := 1) (N := some 56) (v := ?_) (a' := ?_) #[true, true, false, false, false] rfl rfl (by kernel_rfl) (fun _ _ _ h => h) (Or.inl ⟨by rfl, ?_⟩) hHeld ?_ ?_
      rotate_left
      ·rintro w' ⟨s0, s1, s2, s3, s4, s5⟩
       go_simp
       with_reducible rfl
      rotate_left
      ·simp only [Act.put, q1, q2, q3, i64_w, i32_w]
       rfl
      refine one_ (i := 2) (N := some 57) #[true, true, true, false, false] rfl rfl (by kernel_rfl) (by decide) (fun K hK => ?_)
      refine goes_ Try.func17 (by kernel_rfl) rfl #[.agg #[.int .i64 a0_0, .int .i64 a0_1, .slice A0_2 l0_2.length c0_2]] (by rfl) rfl rfl (by (try simp only [List.map_toArray, List.map_cons, List.map_nil]); first | done | rfl | (simp only [List.length_drop, List.length_take]; rfl)) ?_
      with_reducible refine (laws_toBoard.calls kj17 a0_0 a0_1 _ _ l0_2 Cr Cs Cb _ ?side1 ?side2 Hn.o).mono ?_
      (case side1 => repeat (first | exact (Kd.C_below BK.o HB.o) | (with_reducible refine Kd.C_alloc ?_ _) | (with_reducible refine Kd.C_drewN ?_ _) | (with_reducible refine Kd.C_drew ?_)))
      (case side2 => exact BJ.o)
      rintro e HZ ⟨HF, rfl, AV, hb⟩
      refine ⟨_, rfl, ?_⟩
      have Bl := Z.m (Kd.R_lower (Kd.R_new' (Kd.R_new' (Kd.R_new' AV (Kd.R_lt (vR A4))) (Kd.R_lt (vR A3))) (Kd.R_lt (vR A2))) (below_size (vB HB)))
      replace A4 := Z.m (Kd.R_elder' (vR A4) (Kd.R_base AV) hb)
      replace A3 := Z.m (Kd.R_elder' (vR A3) (Kd.R_base AV) hb)
      replace A2 := Z.m (Kd.R_elder' (vR A2) (Kd.R_base AV) hb)
      replace A0 := kB A0 hb
      replace A1 := kB A1 hb
      replace A6 := kB A6 hb
      replace A7 := kB A7 hb
      replace A8 := kB A8 hb
      replace HB := bB HB hb
      (try clear hb); (try clear AV)
      obtain ⟨CH, CM, D7⟩ := Kd.R_slice Bl.o
      (first | subst D7 | (injection D7 with f1_ f2_ f3_; have f4_ := f1_.symm; have f5_ := f3_.symm; clear f1_ f2_ f3_; subst f4_; subst f5_))
      refine hK.out _ _ ⟨(ql A7.o 0).trans rfl, (ql A7.o 1).trans rfl, (ql A7.o 2).trans rfl, (ql A0.o 0).trans rfl, (ql A0.o 1).trans rfl, (ql A0.o 2).trans rfl⟩ (fun hHeld => ?_)
      clear hK K
      refine norm_ (a' := ?_) ?_ ?_
      rotate_left
      ·show Act.put _ (some 57) _ = _
       simp only [Act.put, q1, q2, q3, i64_w, i32_w]
       rfl
      refine one_ (i := 3) (N := some 58) #[true, true, true, true, false] rfl rfl (by kernel_rfl) (by decide) (fun K hK => ?_)
      refine goes_ Try.func19 (by kernel_rfl) rfl #[.agg #[.int .i64 AC, .int .i64 AD, .slice Ap Ai.length Ar], .agg #[.int .i64 Cr, .int .i64 Cs, .slice CH Cb.length CM]] (by rfl) rfl rfl (by (try simp only [List.map_toArray, List.map_cons, List.map_nil]); first | done | rfl | (simp only [List.length_drop, List.length_take]; rfl)) ?_
      with_reducible refine (laws_eqBoard.calls kj17 AC AD _ _ Ai Cr Cs _ _ Cb true _ ?side1 ?side2 ?side3 ?side4 Ho.o).mono ?_
      (case side1 => repeat (first | exact (Kd.RrZ A3.o).2.2 | (with_reducible refine Kd.C_alloc ?_ _) | (with_reducible refine Kd.C_drewN ?_ _) | (with_reducible refine Kd.C_drew ?_)))
      (case side2 => exact (Kd.RrZ A3.o).2.1)
      (case side3 => repeat (first | exact (Kd.RrZ Bl.o).2.2 | (with_reducible refine Kd.C_alloc ?_ _) | (with_reducible refine Kd.C_drewN ?_ _) | (with_reducible refine Kd.C_drew ?_)))
      (case side4 => exact (Kd.RrZ Bl.o).2.1)
      rintro e J0 ⟨rfl, hb⟩
      refine ⟨_, rfl, ?_⟩
      replace A4 := Z.m (Kd.Rb (vR A4) hb)
      replace A3 := Z.m (Kd.Rb (vR A3) hb)
      replace A2 := Z.m (Kd.Rb (vR A2) hb)
      replace Bl := Z.m (Kd.Rb (vR Bl) hb)
      replace A0 := kB A0 hb
      replace A1 := kB A1 hb
      replace A6 := kB A6 hb
      replace A7 := kB A7 hb
      replace A8 := kB A8 hb
      replace HB := bB HB hb
      (try clear hb)
      refine hK.out _ _ ⟨(ql A7.o 0).trans rfl, (ql A7.o 1).trans rfl, (ql A7.o 2).trans rfl, (ql A0.o 0).trans rfl, (ql A0.o 1).trans rfl, (ql A0.o 2).trans rfl⟩ (fun hHeld => ?_)
      clear hK K
      refine norm_ (a' := ?_) ?_ ?_
      rotate_left
      ·show Act.put _ (some 58) _ = _
       simp only [Act.put, q1, q2, q3, i64_w, i32_w]
       rfl
      refine pure_ (i := 4) (N := some 59) (v := ?_) (a' := ?_) #[true, true, true, true, true] rfl rfl (by kernel_rfl) (fun _ _ _ h => h) (Or.inl ⟨by rfl, ?_⟩) ?_ ?_
      rotate_left
      ·intro w'
       go_simp
       with_reducible rfl
      rotate_left
      ·simp only [Act.put, q1, q2, q3, i64_w, i32_w]
       rfl
      refine done_ (by kernel_rfl) ?_
      have GL := BX.o
      have H6 := Br.o
      have GM := BY.o
      have H7 := Bt.o
      have GN := Be.o
      have H8 := Ba.o
      have GO := Ad.o
      have H9 := AH.o
      have Cl := bc0 A7
      have Cm := bc1 A7
      have Cn := bc2 A7
      have Co := qz A7.o 0
      have Cp := qz A7.o 1
      have Cq := qz A7.o 2
      go_upto_region 14 with (first | ((with_reducible refine gc (f := 25) rfl ?_); refine gA (some 62) _ #[.agg #[.int .i64 AC, .int .i64 AD, .slice Ap Ai.length Ar], .int .i64 1] ?_ Try.func25; (with_reducible refine (laws_markBoard.calls kj17 AC AD (fun k_ => some k_ = (.slice Ap Ai.length Ar : Value).ownBlock) (.slice Ap Ai.length Ar) Ai 1 CO AZ w _ ?side1 ?side2 Hp.o).mono ?_); (case side1 => repeat (first | (with_reducible first | exact HB.o | apply qa | apply qn | apply qd | refine qx ?_ Ce.o | refine qx ?_ Cf.o | refine qx ?_ Bk.o | refine qx ?_ CC.o | refine qx ?_ BF.o) | exact HB.o)); (case side2 => exact Kd.Rg rfl A3.o); rintro e J1 ⟨rfl, Ec, hb, hkp⟩; refine ⟨_, rfl, ?_⟩; replace A4 := Z.m (Kd.Rm (ok' := fun k_ => some k_ ≠ (.slice Ap Ai.length Ar : Value).ownBlock ∧ some k_ ≠ (.slice AX Af.length AW : Value).ownBlock ∧ some k_ ≠ (.slice CH Cb.length CM : Value).ownBlock) (Kd.Rk (A4.o) hkp (fun k_ hk_ hs_ => (hk_.1.1) hs_)) (fun k_ hk_ => ⟨hk_.1.1.1, hk_.1.1.2, hk_.1.2⟩)); replace A2 := Z.m (Kd.Rm (ok' := fun k_ => some k_ ≠ (.slice AK Aa.length AJ : Value).ownBlock ∧ some k_ ≠ (.slice Ap Ai.length Ar : Value).ownBlock ∧ some k_ ≠ (.slice CH Cb.length CM : Value).ownBlock) (Kd.Rk (A2.o) hkp (fun k_ hk_ hs_ => (hk_.1.2) hs_)) (fun k_ hk_ => ⟨hk_.1.1.1, hk_.1.1.2, hk_.1.2⟩)); replace A0 := Z.m (qk (vK A0) hkp (fun hs_ => (fun e_ => (Kd.R_ne A3.o A0.o (by decide)) e_) hs_)); replace A1 := Z.m (qk (vK A1) hkp (fun hs_ => (fun e_ => (Kd.R_ne A3.o A1.o (by decide)) e_) hs_)); replace A6 := Z.m (qk (vK A6) hkp (fun hs_ => (fun e_ => (Kd.R_ne A3.o A6.o (by decide)) e_) hs_)); replace A7 := Z.m (qk (vK A7) hkp (fun hs_ => (fun e_ => (Kd.R_ne A3.o A7.o (by decide)) e_) hs_)); replace A8 := Z.m (qk (vK A8) hkp (fun hs_ => (fun e_ => (Kd.R_ne A3.o A8.o (by decide)) e_) hs_)); replace A3 := Z.m (Kd.Re rfl Ec (fun k_ e_ => A3.o.1 k_ e_)); replace Bl := Z.m (Kd.Rm (ok' := fun k_ => some k_ ≠ (.slice AK Aa.length AJ : Value).ownBlock ∧ some k_ ≠ (.slice Ap Ai.length Ar : Value).ownBlock ∧ some k_ ≠ (.slice AX Af.length AW : Value).ownBlock) (Kd.Rk (Bl.o) hkp (fun k_ hk_ hs_ => (hk_.1.2) hs_)) (fun k_ hk_ => ⟨hk_.1.1.1.2, hk_.1.1.2, hk_.1.2⟩)); replace HB := Z.m (hb); (try clear hb); (try clear hkp); (try clear Ec)))
      (try simp only [Act.put, q1, q2, q3])
      go_cut [75] (fun v75 wc => ∃ (kq : Nat) (C1 : Bool), v75 = .bool C1 ∧ Z (laws_FnExactPutCell.j1 kq a1 a2 Ay C1 a0_0 a0_1 l0_2 a3_0 a3_1 As At Aa Ak Al Af = some true) ∧ Z (kq ≤ kj17) ∧ Z (Kd.R k34 34 wc w.heap.size (fun k_ => some k_ ≠ ((.slice Ap Ai.length Ar) : Value).ownBlock ∧ some k_ ≠ ((.slice AX Af.length AW) : Value).ownBlock) (.slice AK Aa.length AJ) Aa) ∧ Z (Kd.R k34 34 wc w.heap.size (fun k_ => some k_ ≠ ((.slice AK Aa.length AJ) : Value).ownBlock ∧ some k_ ≠ ((.slice AX Af.length AW) : Value).ownBlock) (.slice Ap Ai.length Ar) AZ) ∧ Z (Kd.R k34 34 wc w.heap.size (fun k_ => some k_ ≠ ((.slice AK Aa.length AJ) : Value).ownBlock ∧ some k_ ≠ ((.slice Ap Ai.length Ar) : Value).ownBlock) (.slice AX Af.length AW) Af) ∧ Z (wc.heap[An]? = some (.cells #[.int .i64 a0_0, .int .i64 a0_1, (.slice A0_2 l0_2.length c0_2)] 24 (0, 0))) ∧ Z (wc.heap[Av]? = some (.cells #[.int .i64 a3_0, .int .i64 a3_1] 46 (0, 0))) ∧ Z (wc.heap[Az]? = some (.cells #[.int .i64 As, .int .i64 At, (.slice AK Aa.length AJ)] 29 (0, 0))) ∧ Z (wc.heap[Ae]? = some (.cells #[.int .i64 AC, .int .i64 AD, (.slice Ap Ai.length Ar)] 29 (0, 0))) ∧ Z (wc.heap[AQ]? = some (.cells #[.int .i64 Ak, .int .i64 Al, (.slice AX Af.length AW)] 29 (0, 0))) ∧ Z (Below w.heap.size w wc))
      case first =>
       have H := CJ.o
       clear CJ
       by_cases c92 : CO < 0
       ·rw [if_pos c92] at H
        have C4 := decide_eq_true c92
        clear c92
        (first | rw [C4] | (simp only [i64_w, i32_w]; rw [C4]) | skip)
        have H' := Z.m H
        clear H
        go_wp2
        go_meet
        case rel => exact ⟨_, (true), (by first | rfl | (simp; done) | (simp [*]; done)), H', ⟨by have := CK.o; first | omega | exact Nat.le_refl _⟩, ⟨by refine rK ?_; exact Kd.Rm A4.o (fun _ hk => ⟨hk.1, hk.2.1⟩)⟩, ⟨by refine rK ?_; exact Kd.Rm A3.o (fun _ hk => ⟨hk.1.1, hk.1.2⟩)⟩, ⟨by refine rK ?_; exact Kd.Rm A2.o (fun _ hk => ⟨hk.1, hk.2.1⟩)⟩, ⟨vK A0⟩, ⟨vK A1⟩, ⟨vK A6⟩, ⟨vK A7⟩, ⟨vK A8⟩, ⟨vB HB⟩⟩
       ·rw [if_neg c92] at H
        have C4 := decide_eq_false c92
        clear c92
        (first | rw [C4] | (simp only [i64_w, i32_w]; rw [C4]) | skip)
        replace H := Option.bind_eq_some_iff.mp H
        obtain ⟨BN, D0, H⟩ := H
        replace H : (if BN = true then (laws_FnExactPutCell.j1 kj17 a1 a2 Ay (B9 != Ay) a0_0 a0_1 l0_2 a3_0 a3_1 As At Aa Ak Al Af) else (laws_FnExactPutCell.j1 kj17 a1 a2 Ay true a0_0 a0_1 l0_2 a3_0 a3_1 As At Aa Ak Al Af)) = some true := H
        have Hq := Z.m D0
        clear D0
        by_cases c94 : BN = true
        ·subst c94
         have H1 : (laws_FnExactPutCell.j1 kj17 a1 a2 Ay (B9 != Ay) a0_0 a0_1 l0_2 a3_0 a3_1 As At Aa Ak Al Af) = some true := by rw [if_pos rfl] at H; exact H
         clear H
         have H := H1
         clear H1
         have H' := Z.m H
         clear H
         have GP := AN.o
         have Ha := AE.o
         have GQ := AO.o
         have Hb := Am.o
         have GR := AG.o
         have Hc := AB.o
         have GS := AH.o
         have Hd := Ad.o
         have EA := bc0 A8
         have EB := bc1 A8
         have EC := bc2 A8
         have EV := qz A8.o 0
         have EW := qz A8.o 1
         have EX := qz A8.o 2
         have FM := AA.o
         have G7 := Ac.o
         have FN := AF.o
         have G8 := Ah.o
         have FO := Ba.o
         have G9 := Be.o
         have D8 := bc0 A6
         have D9 := bc1 A6
         have Da := bc2 A6
         have Dq := qz A6.o 0
         have Dr := qz A6.o 1
         have Ds := qz A6.o 2
         go_wp2_with (first | (go_at_call 19; (with_reducible refine (laws_eqBoard.calls kj17 Ak Al _ _ Af As At _ _ Aa true _ ?side1 ?side2 ?side3 ?side4 Hq.o).mono ?_); (case side1 => repeat (first | exact (Kd.RrZ A2.o).2.2 | (with_reducible refine Kd.C_alloc ?_ _) | (with_reducible refine Kd.C_drewN ?_ _) | (with_reducible refine Kd.C_drew ?_))); (case side2 => exact (Kd.RrZ A2.o).2.1); (case side3 => repeat (first | exact (Kd.RrZ A4.o).2.2 | (with_reducible refine Kd.C_alloc ?_ _) | (with_reducible refine Kd.C_drewN ?_ _) | (with_reducible refine Kd.C_drew ?_))); (case side4 => exact (Kd.RrZ A4.o).2.1); rintro e HG ⟨rfl, hb⟩; replace A4 := Z.m (Kd.Rb (vR A4) hb); replace A3 := Z.m (Kd.Rb (vR A3) hb); replace A2 := Z.m (Kd.Rb (vR A2) hb); replace Bl := Z.m (Kd.Rb (vR Bl) hb); replace A0 := kB A0 hb; replace A1 := kB A1 hb; replace A6 := kB A6 hb; replace A7 := kB A7 hb; replace A8 := kB A8 hb; replace HB := bB HB hb; (try clear hb); (try clear CN); (try clear hk); (try clear hi)))
         go_meet
         case rel => exact ⟨_, ((B9 != Ay)), (by first | rfl | (simp; done) | (simp [*]; done)), H', ⟨by have := CK.o; first | omega | exact Nat.le_refl _⟩, ⟨by refine rK ?_; exact Kd.Rm A4.o (fun _ hk => ⟨hk.1, hk.2.1⟩)⟩, ⟨by refine rK ?_; exact Kd.Rm A3.o (fun _ hk => ⟨hk.1.1, hk.1.2⟩)⟩, ⟨by refine rK ?_; exact Kd.Rm A2.o (fun _ hk => ⟨hk.1, hk.2.1⟩)⟩, ⟨vK A0⟩, ⟨vK A1⟩, ⟨vK A6⟩, ⟨vK A7⟩, ⟨vK A8⟩, ⟨vB HB⟩⟩
        ·(rw [if_neg c94] at H; exact absurd H (laws_FnExactPutCell.bad_j1 _ _ _ _ _ _ _ _ _ _ _ _ _ _ _))
      case rest =>
       clear CJ
       (try clear c76); (try clear c79)
       (try clear Cl); (try clear Cm); (try clear Cn); (try clear Co); (try clear Cp); (try clear Cq)
       obtain ⟨kq, C1, rfl, HA, FE, A4, A3, A2, A0, A1, A6, A7, A8, HB⟩ := hcut
       have Ab := (Kd.RrZ A3.o).1
       rw [Ab] at A3
       (try simp only [Ab])
       (try simp only [Ab] at A0)
       (try simp only [Ab] at A1)
       (try simp only [Ab] at A6)
       (try simp only [Ab] at A7)
       (try simp only [Ab] at A8)
       (try simp only [Ab] at A4)
       (try simp only [Ab] at A2)
       cases kq with
       | zero => exact absurd HA.o (by simp [laws_FnExactPutCell.j1])
       | succ kj80 =>
        have H := HA.o
        clear HA
        simp only [laws_FnExactPutCell.j1] at H
        by_cases c115 : C1 = true
        ·(rw [if_pos c115] at H; exact absurd H (by decide))
        ·replace c115 := Bool.eq_false_iff.mpr c115
         subst c115
         have H1 : ((laws_markBoard.f kj80 Ak Al Af 1).bind fun bt445 => ((laws_heldBoard.f kj80 Ak Al bt445.2 1).bind fun BQ => (if BQ < 0 then (some false) else (if BQ = bt445.1 then ((laws_toBoard.f kj80 a0_0 a0_1 l0_2).bind fun bt448 => ((laws_toCell.f a3_0 a3_1).bind fun bt453 => ((impl_PutCell.f kj80 bt448.1 bt448.2.1 bt448.2.2 a1 a2 bt453.1 bt453.2).bind fun bt455 => ((laws_eqBoard.f kj80 bt455.1 bt455.2.1 bt455.2.2.1 As At Aa).bind fun Bn => (if Bn = true then (laws_FnExactPutCell.j2 kj80 bt445.1 (bt455.2.2.2 != Ay) Ak Al bt445.2) else (laws_FnExactPutCell.j2 kj80 bt445.1 true Ak Al bt445.2)))))) else (some false))))) = some true := by rw [if_neg (show ¬ (false = true) by decide)] at H; exact H
         clear H
         have H := H1
         clear H1
         replace H := Option.bind_eq_some_iff.mp H
         obtain ⟨⟨Bd, B0⟩, Cu, H⟩ := H
         replace H : ((laws_heldBoard.f kj80 Ak Al B0 1).bind fun BQ => (if BQ < 0 then (some false) else (if BQ = Bd then ((laws_toBoard.f kj80 a0_0 a0_1 l0_2).bind fun bt448 => ((laws_toCell.f a3_0 a3_1).bind fun bt453 => ((impl_PutCell.f kj80 bt448.1 bt448.2.1 bt448.2.2 a1 a2 bt453.1 bt453.2).bind fun bt455 => ((laws_eqBoard.f kj80 bt455.1 bt455.2.1 bt455.2.2.1 As At Aa).bind fun Bn => (if Bn = true then (laws_FnExactPutCell.j2 kj80 Bd (bt455.2.2.2 != Ay) Ak Al B0) else (laws_FnExactPutCell.j2 kj80 Bd true Ak Al B0)))))) else (some false)))) = some true := H
         have Fy := Z.m Cu
         clear Cu
         replace H := Option.bind_eq_some_iff.mp H
         obtain ⟨BQ, Cv, H⟩ := H
         replace H : (if BQ < 0 then (some false) else (if BQ = Bd then ((laws_toBoard.f kj80 a0_0 a0_1 l0_2).bind fun bt448 => ((laws_toCell.f a3_0 a3_1).bind fun bt453 => ((impl_PutCell.f kj80 bt448.1 bt448.2.1 bt448.2.2 a1 a2 bt453.1 bt453.2).bind fun bt455 => ((laws_eqBoard.f kj80 bt455.1 bt455.2.1 bt455.2.2.1 As At Aa).bind fun Bn => (if Bn = true then (laws_FnExactPutCell.j2 kj80 Bd (bt455.2.2.2 != Ay) Ak Al B0) else (laws_FnExactPutCell.j2 kj80 Bd true Ak Al B0)))))) else (some false))) = some true := H
         have Fz := Z.m Cv
         clear Cv
         by_cases c118 : BQ < 0
         ·(rw [if_pos c118] at H; exact absurd H (by decide))
         ·rw [if_neg c118] at H
          have CL := decide_eq_false c118
          (try simp only [Ab] at CL)
          clear c118
          by_cases c127 : BQ = Bd
          ·rw [if_pos c127] at H
           have FF := beq_iff_eq.mpr c127
           have FG := bne_eq_false_iff_eq.mpr c127
           clear c127
           replace H := Option.bind_eq_some_iff.mp H
           obtain ⟨⟨By, Bz, Bh⟩, Cw, H⟩ := H
           replace H : ((laws_toCell.f a3_0 a3_1).bind fun bt453 => ((impl_PutCell.f kj80 By Bz Bh a1 a2 bt453.1 bt453.2).bind fun bt455 => ((laws_eqBoard.f kj80 bt455.1 bt455.2.1 bt455.2.2.1 As At Aa).bind fun Bn => (if Bn = true then (laws_FnExactPutCell.j2 kj80 Bd (bt455.2.2.2 != Ay) Ak Al B0) else (laws_FnExactPutCell.j2 kj80 Bd true Ak Al B0))))) = some true := H
           have CR := Z.m Cw
           clear Cw
           replace H := Option.bind_eq_some_iff.mp H
           obtain ⟨⟨BA, BB⟩, Cx, H⟩ := H
           replace H : ((impl_PutCell.f kj80 By Bz Bh a1 a2 BA BB).bind fun bt455 => ((laws_eqBoard.f kj80 bt455.1 bt455.2.1 bt455.2.2.1 As At Aa).bind fun Bn => (if Bn = true then (laws_FnExactPutCell.j2 kj80 Bd (bt455.2.2.2 != Ay) Ak Al B0) else (laws_FnExactPutCell.j2 kj80 Bd true Ak Al B0)))) = some true := H
           have CG := Z.m Cx
           clear Cx
           replace H := Option.bind_eq_some_iff.mp H
           obtain ⟨⟨BO, BP, Bi, BR⟩, Cy, H⟩ := H
           replace H : ((laws_eqBoard.f kj80 BO BP Bi As At Aa).bind fun Bn => (if Bn = true then (laws_FnExactPutCell.j2 kj80 Bd (BR != Ay) Ak Al B0) else (laws_FnExactPutCell.j2 kj80 Bd true Ak Al B0))) = some true := H
           have C8 := Z.m Cy
           clear Cy
           have Ci := Z.m H
           clear H
           have FP := AN.o
           have Ga := AE.o
           have FQ := AO.o
           have Gb := Am.o
           have FR := AG.o
           have Gc := AB.o
           have FS := AH.o
           have Gd := Ad.o
           have Db := bc0 A8
           have Dc := bc1 A8
           have Dd := bc2 A8
           have Dt := qz A8.o 0
           have Du := qz A8.o 1
           have Dv := qz A8.o 2
           try go_wp2_with (first | ((with_reducible refine gc (f := 25) rfl ?_); refine gA (some 78) _ #[.agg #[.int .i64 Ak, .int .i64 Al, .slice AX Af.length AW], .int .i64 1] ?_ Try.func25; (with_reducible refine (laws_markBoard.calls kj80 Ak Al (fun k_ => some k_ = (.slice AX Af.length AW : Value).ownBlock) (.slice AX Af.length AW) Af 1 Bd B0 w _ ?side1 ?side2 Fy.o).mono ?_); (case side1 => repeat (first | (with_reducible first | exact HB.o | apply qa | apply qn | apply qd | refine qx ?_ Ce.o | refine qx ?_ Cf.o | refine qx ?_ Bk.o | refine qx ?_ CC.o | refine qx ?_ BF.o) | exact HB.o)); (case side2 => exact Kd.Rg rfl A2.o); rintro e HH ⟨rfl, Ec, hb, hkp⟩; refine ⟨_, rfl, ?_⟩; replace A4 := Z.m (Kd.Rm (ok' := fun k_ => some k_ ≠ (.slice Ap AZ.length Ar : Value).ownBlock ∧ some k_ ≠ (.slice AX Af.length AW : Value).ownBlock) (Kd.Rk (A4.o) hkp (fun k_ hk_ hs_ => (hk_.2) hs_)) (fun k_ hk_ => ⟨hk_.1.1, hk_.1.2⟩)); replace A3 := Z.m (Kd.Rm (ok' := fun k_ => some k_ ≠ (.slice AK Aa.length AJ : Value).ownBlock ∧ some k_ ≠ (.slice AX Af.length AW : Value).ownBlock) (Kd.Rk (A3.o) hkp (fun k_ hk_ hs_ => (hk_.2) hs_)) (fun k_ hk_ => ⟨hk_.1.1, hk_.1.2⟩)); replace A0 := Z.m (qk (vK A0) hkp (fun hs_ => (fun e_ => (Kd.R_ne A2.o A0.o (by decide)) e_) hs_)); replace A1 := Z.m (qk (vK A1) hkp (fun hs_ => (fun e_ => (Kd.R_ne A2.o A1.o (by decide)) e_) hs_)); replace A6 := Z.m (qk (vK A6) hkp (fun hs_ => (fun e_ => (Kd.R_ne A2.o A6.o (by decide)) e_) hs_)); replace A7 := Z.m (qk (vK A7) hkp (fun hs_ => (fun e_ => (Kd.R_ne A2.o A7.o (by decide)) e_) hs_)); replace A8 := Z.m (qk (vK A8) hkp (fun hs_ => (fun e_ => (Kd.R_ne A2.o A8.o (by decide)) e_) hs_)); replace A2 := Z.m (Kd.Re rfl Ec (fun k_ e_ => A2.o.1 k_ e_)); replace HB := Z.m (hb); (try clear hb); (try clear hkp); (try clear Ec); have De := bc0 A8; have Df := bc1 A8; have Dg := bc2 A8; have Dw := qz A8.o 0; have Dx := qz A8.o 1; have Dy := qz A8.o 2) | ((with_reducible refine gc (f := 26) rfl ?_); refine goesL_ (some 81) rfl rfl Try.func26 (by kernel_rfl) rfl #[.agg #[.int .i64 Ak, .int .i64 Al, .slice AX B0.length AW], .int .i64 1] rfl (by (try simp only [List.map_toArray, List.map_cons, List.map_nil]); first | done | (rw [show B0.length = Af.length from (Kd.RrZ A2.o).1.symm] <;> rfl) | rfl | (simp only [List.length_drop, List.length_take]; rfl)) ?_; (with_reducible refine (laws_heldBoard.calls kj80 Ak Al _ _ B0 1 BQ _ ?side1 ?side2 Fz.o).mono ?_); (case side1 => repeat (first | exact (Kd.RrZ A2.o).2.2 | (with_reducible refine Kd.C_alloc ?_ _) | (with_reducible refine Kd.C_drewN ?_ _) | (with_reducible refine Kd.C_drew ?_))); (case side2 => rw [show B0.length = Af.length from (Kd.RrZ A2.o).1.symm]; exact (Kd.RrZ A2.o).2.1); rintro e Gs ⟨rfl, hb⟩; refine ⟨_, rfl, ?_⟩; replace A4 := Z.m (Kd.Rb (vR A4) hb); replace A3 := Z.m (Kd.Rb (vR A3) hb); replace A2 := Z.m (Kd.Rb (vR A2) hb); replace A0 := kB A0 hb; replace A1 := kB A1 hb; replace A6 := kB A6 hb; replace A7 := kB A7 hb; replace A8 := kB A8 hb; replace HB := bB HB hb; (try clear hb); (try clear CN); (try clear hk); (try clear hi)))
           replace A4 := Z.m (Kd.R_drew A4.o)
           replace A3 := Z.m (Kd.R_drew A3.o)
           replace A2 := Z.m (Kd.R_drew A2.o)
           replace A0 := Z.m (blk_drew A0.o)
           replace A1 := Z.m (blk_drew A1.o)
           replace A6 := Z.m (blk_drew A6.o)
           replace A7 := Z.m (blk_drew A7.o)
           replace A8 := Z.m (blk_drew A8.o)
           replace HB := Z.m (qd HB.o)
           refine start_ (n := 13) (S := fun w' => w'.cell? ⟨An, 0, none⟩ = some (.int .i64 a0_0) ∧ w'.cell? ⟨An, 1, none⟩ = some (.int .i64 a0_1) ∧ w'.cell? ⟨An, 2, none⟩ = some (.slice A0_2 l0_2.length c0_2) ∧ w'.cell? ⟨Av, 0, none⟩ = some (.int .i64 a3_0) ∧ w'.cell? ⟨Av, 1, none⟩ = some (.int .i64 a3_1)) (ds := []) #[false, false, false, false, false, false, false, false, false, false, false, false, false] (by kernel_rfl) rfl rfl ⟨(ql A0.o 0).trans rfl, (ql A0.o 1).trans rfl, (ql A0.o 2).trans rfl, (ql A1.o 0).trans rfl, (ql A1.o 1).trans rfl⟩ (fun hHeld => ?_); refine with_tabW laws_FnExactPutCell.tab24 laws_FnExactPutCell.bits24 (fun HT_ HW_ => ?_)
           generalize Gs.drew = HI at A4 A3 A2 A0 A1 A6 A7 A8 HB hHeld ⊢
           refine pure_ (i := 2) (N := some 90) (v := ?_) (a' := ?_) #[false, false, true, false, false, false, false, false, false, false, false, false, false] rfl rfl (any_of HT_.o (by kernel_rfl)) (fun _ _ _ h => h) (Or.inl ⟨by rfl, ?_⟩) ?_ ?_
           rotate_left
           ·intro w'
            go_simp
            with_reducible rfl
           rotate_left
           ·simp only [Act.put, q1, q2, q3, i64_w, i32_w]
            rfl
           refine pure_ (i := 3) (N := some 91) (v := ?_) (a' := ?_) #[false, false, true, true, false, false, false, false, false, false, false, false, false] rfl rfl (any_of HT_.o (by kernel_rfl)) (fun _ _ _ h => h) (Or.inl ⟨by rfl, ?_⟩) ?_ ?_
           rotate_left
           ·intro w'
            go_simp
            with_reducible rfl
           rotate_left
           ·simp only [Act.put, q1, q2, q3, i64_w, i32_w]
            rfl
           refine take_ (i := 0) (N := some 88) (v := ?_) (a' := ?_) #[true, false, true, true, false, false, false, false, false, false, false, false, false] rfl rfl (take_ofW HT_.o HW_.o (by kernel_rfl)) (fun _ _ _ h => h) (Or.inl ⟨by rfl, ?_⟩) hHeld ?_ ?_
           rotate_left
           ·rintro w' ⟨s0, s1, s2, s3, s4⟩
            go_simp
            with_reducible rfl
           rotate_left
           ·simp only [Act.put, q1, q2, q3, i64_w, i32_w]
            rfl
           refine take_ (i := 4) (N := some 92) (v := ?_) (a' := ?_) #[true, false, true, true, true, false, false, false, false, false, false, false, false] rfl rfl (take_ofW HT_.o HW_.o (by kernel_rfl)) (fun _ _ _ h => h) (Or.inl ⟨by rfl, ?_⟩) hHeld ?_ ?_
           rotate_left
           ·rintro w' ⟨s0, s1, s2, s3, s4⟩
            go_simp
            with_reducible rfl
           rotate_left
           ·simp only [Act.put, q1, q2, q3, i64_w, i32_w]
            rfl
           refine join_ (σ := Value × Value × Nat) 2 #[true, true, true, true, true, true, true, true, true, true, true, false, false] (fun s_ => [(89, .agg #[.int .i64 By, .int .i64 Bz, s_.1]), (93, .agg #[.int .i64 BA, .int .i64 BB]), (94, .tuple #[.agg #[.int .i64 BO, .int .i64 BP, s_.2.1], .bool BR]), (18, .pointer (some ⟨s_.2.2, 0, none⟩)), (87, .tuple #[.agg #[.int .i64 BO, .int .i64 BP, s_.2.1], .bool BR]), (95, .agg #[.int .i64 BO, .int .i64 BP, s_.2.1]), (96, .bool BR)]) (fun s_ w' => (w'.cell? ⟨An, 0, none⟩ = some (.int .i64 a0_0) ∧ w'.cell? ⟨An, 1, none⟩ = some (.int .i64 a0_1) ∧ w'.cell? ⟨An, 2, none⟩ = some (.slice A0_2 l0_2.length c0_2) ∧ w'.cell? ⟨Av, 0, none⟩ = some (.int .i64 a3_0) ∧ w'.cell? ⟨Av, 1, none⟩ = some (.int .i64 a3_1)) ∧ (Kd.R k34 34 w' w.heap.size (fun k_ => some k_ ≠ (s_.2.1 : Value).ownBlock ∧ some k_ ≠ (.slice AK Aa.length AJ : Value).ownBlock ∧ some k_ ≠ (.slice Ap AZ.length Ar : Value).ownBlock ∧ some k_ ≠ (.slice AX Af.length AW : Value).ownBlock) s_.1 Bh) ∧ (Kd.R k34 34 w' w.heap.size (fun k_ => some k_ ≠ (s_.1 : Value).ownBlock ∧ some k_ ≠ (.slice AK Aa.length AJ : Value).ownBlock ∧ some k_ ≠ (.slice Ap AZ.length Ar : Value).ownBlock ∧ some k_ ≠ (.slice AX Af.length AW : Value).ownBlock) s_.2.1 Bi) ∧ (Kd.R k34 34 w' w.heap.size (fun k_ => some k_ ≠ (s_.1 : Value).ownBlock ∧ some k_ ≠ (s_.2.1 : Value).ownBlock ∧ some k_ ≠ (.slice Ap AZ.length Ar : Value).ownBlock ∧ some k_ ≠ (.slice AX Af.length AW : Value).ownBlock) (.slice AK Aa.length AJ) Aa) ∧ (Kd.R k34 34 w' w.heap.size (fun k_ => some k_ ≠ (s_.1 : Value).ownBlock ∧ some k_ ≠ (s_.2.1 : Value).ownBlock ∧ some k_ ≠ (.slice AK Aa.length AJ : Value).ownBlock ∧ some k_ ≠ (.slice AX Af.length AW : Value).ownBlock) (.slice Ap AZ.length Ar) AZ) ∧ (Kd.R k34 34 w' w.heap.size (fun k_ => some k_ ≠ (s_.1 : Value).ownBlock ∧ some k_ ≠ (s_.2.1 : Value).ownBlock ∧ some k_ ≠ (.slice AK Aa.length AJ : Value).ownBlock ∧ some k_ ≠ (.slice Ap AZ.length Ar : Value).ownBlock) (.slice AX Af.length AW) B0) ∧ (w'.heap[An]? = some (.cells #[.int .i64 a0_0, .int .i64 a0_1, .slice A0_2 l0_2.length c0_2] 24 (0, 0))) ∧ (w'.heap[Av]? = some (.cells #[.int .i64 a3_0, .int .i64 a3_1] 46 (0, 0))) ∧ (w'.heap[Az]? = some (.cells #[.int .i64 As, .int .i64 At, .slice AK Aa.length AJ] 29 (0, 0))) ∧ (w'.heap[Ae]? = some (.cells #[.int .i64 AC, .int .i64 AD, .slice Ap AZ.length Ar] 29 (0, 0))) ∧ (w'.heap[AQ]? = some (.cells #[.int .i64 Ak, .int .i64 Al, .slice AX Af.length AW] 29 (0, 0))) ∧ (w'.heap[s_.2.2]? = some (.cells #[.int .i64 0, .int .i64 0, .slice none 0 0] 29 (0, 0))) ∧ (w.heap.size ≤ s_.2.2) ∧ (w.heap.size ≤ s_.2.2) ∧ (An ≠ s_.2.2) ∧ (s_.2.2 ≠ An) ∧ (Av ≠ s_.2.2) ∧ (s_.2.2 ≠ Av) ∧ (Az ≠ s_.2.2) ∧ (s_.2.2 ≠ Az) ∧ (Ae ≠ s_.2.2) ∧ (s_.2.2 ≠ Ae) ∧ (AQ ≠ s_.2.2) ∧ (s_.2.2 ≠ AQ) ∧ (Below w.heap.size w w')) ?_ ?_
           rotate_left
           ·intro hCont
            refine two_ (i := 1) (j := 10) (Ni := some 89) (Nj := some 18) #[true, true, true, true, true, false, false, false, false, false, false, false, false] #[true, false, true, true, true, false, false, false, false, false, true, false, false] rfl rfl rfl rfl (two_of HT_.o (by kernel_rfl)) (by decide) (by decide) (fun K hK => ?_) (fun K hK => ?_)
            ·skip
             refine goes_ Try.func17 (by kernel_rfl) rfl #[.agg #[.int .i64 a0_0, .int .i64 a0_1, .slice A0_2 l0_2.length c0_2]] (by rfl) rfl rfl (by (try simp only [List.map_toArray, List.map_cons, List.map_nil]); first | done | rfl | (simp only [List.length_drop, List.length_take]; rfl)) ?_
             with_reducible refine (laws_toBoard.calls kj80 a0_0 a0_1 _ _ l0_2 By Bz Bh _ ?side1 ?side2 CR.o).mono ?_
             (case side1 => repeat (first | exact (Kd.C_below BK.o HB.o) | (with_reducible refine Kd.C_alloc ?_ _) | (with_reducible refine Kd.C_drewN ?_ _) | (with_reducible refine Kd.C_drew ?_)))
             (case side2 => exact BJ.o)
             rintro e Gt ⟨BZ, rfl, AV, hb⟩
             refine ⟨_, rfl, ?_⟩
             have Au := Z.m (Kd.R_lower (Kd.R_new' (Kd.R_new' (Kd.R_new' AV (Kd.R_lt (vR A4))) (Kd.R_lt (vR A3))) (Kd.R_lt (vR A2))) (below_size (vB HB)))
             replace A4 := Z.m (Kd.R_elder' (vR A4) (Kd.R_base AV) hb)
             replace A3 := Z.m (Kd.R_elder' (vR A3) (Kd.R_base AV) hb)
             replace A2 := Z.m (Kd.R_elder' (vR A2) (Kd.R_base AV) hb)
             replace A0 := kB A0 hb
             replace A1 := kB A1 hb
             replace A6 := kB A6 hb
             replace A7 := kB A7 hb
             replace A8 := kB A8 hb
             replace HB := bB HB hb
             (try clear hb); (try clear AV)
             refine hK.out _ _ ⟨(ql A0.o 0).trans rfl, (ql A0.o 1).trans rfl, (ql A0.o 2).trans rfl, (ql A1.o 0).trans rfl, (ql A1.o 1).trans rfl⟩ (fun hHeld => ?_)
             clear hK K
             refine norm_ (a' := ?_) ?_ ?_
             rotate_left
             ·show Act.put _ (some 89) _ = _
              simp only [Act.put, q1, q2, q3, i64_w, i32_w]
              rfl
             refine two_ (i := 5) (j := 10) (Ni := some 93) (Nj := some 18) #[true, true, true, true, true, true, false, false, false, false, false, false, false] #[true, true, true, true, true, false, false, false, false, false, true, false, false] rfl rfl rfl rfl (two_of HT_.o (by kernel_rfl)) (by decide) (by decide) (fun K hK => ?_) (fun K hK => ?_)
             ·skip
              refine goes_ Try.func34 (by kernel_rfl) rfl #[.agg #[.int .i64 a3_0, .int .i64 a3_1]] (by rfl) rfl rfl (by (try simp only [List.map_toArray, List.map_cons, List.map_nil]); first | done | rfl | (simp only [List.length_drop, List.length_take]; rfl)) ?_
              with_reducible refine (laws_toCell.calls a3_0 a3_1 BA BB _ CG.o).mono ?_
              rintro e Ed ⟨rfl, hb⟩
              refine ⟨_, rfl, ?_⟩
              replace A4 := Z.m (Kd.Rb (vR A4) hb)
              replace A3 := Z.m (Kd.Rb (vR A3) hb)
              replace A2 := Z.m (Kd.Rb (vR A2) hb)
              replace Au := Z.m (Kd.Rb (vR Au) hb)
              replace A0 := kB A0 hb
              replace A1 := kB A1 hb
              replace A6 := kB A6 hb
              replace A7 := kB A7 hb
              replace A8 := kB A8 hb
              replace HB := bB HB hb
              (try clear hb)
              obtain ⟨CB, CD, CE⟩ := Kd.R_slice Au.o
              (first | subst CE | (injection CE with f1_ f2_ f3_; have f4_ := f1_.symm; have f5_ := f3_.symm; clear f1_ f2_ f3_; subst f4_; subst f5_))
              refine hK.out _ _ ⟨(ql A0.o 0).trans rfl, (ql A0.o 1).trans rfl, (ql A0.o 2).trans rfl, (ql A1.o 0).trans rfl, (ql A1.o 1).trans rfl⟩ (fun hHeld => ?_)
              clear hK K
              refine norm_ (a' := ?_) ?_ ?_
              rotate_left
              ·show Act.put _ (some 93) _ = _
               simp only [Act.put, q1, q2, q3, i64_w, i32_w]
               rfl
              refine two_ (i := 6) (j := 10) (Ni := some 94) (Nj := some 18) #[true, true, true, true, true, true, true, false, false, false, false, false, false] #[true, true, true, true, true, true, false, false, false, false, true, false, false] rfl rfl rfl rfl (two_of HT_.o (by kernel_rfl)) (by decide) (by decide) (fun K hK => ?_) (fun K hK => ?_)
              ·skip
               refine goes_ Try.func35 (by kernel_rfl) rfl #[.agg #[.int .i64 By, .int .i64 Bz, .slice CB Bh.length CD], .int .i64 a1, .int .i64 a2, .agg #[.int .i64 BA, .int .i64 BB]] (by rfl) rfl rfl (by (try simp only [List.map_toArray, List.map_cons, List.map_nil]); first | done | rfl | (simp only [List.length_drop, List.length_take]; rfl)) ?_
               with_reducible refine (impl_PutCell.calls kj80 By Bz _ _ Bh a1 a2 BA BB BO BP Bi BR _ ?side1 ?side2 C8.o).mono ?_
               (case side1 => repeat (first | exact (Kd.RrZ Au.o).2.2 | (with_reducible refine Kd.C_alloc ?_ _) | (with_reducible refine Kd.C_drewN ?_ _) | (with_reducible refine Kd.C_drew ?_)))
               (case side2 => exact (Kd.RrZ Au.o).2.1)
               rintro e HJ ⟨BC, rfl, AV, hb⟩
               refine ⟨_, rfl, ?_⟩
               have B2 := Z.m (Kd.R_lower (Kd.R_new' (Kd.R_new' (Kd.R_new' (Kd.R_new' AV (Kd.R_lt (vR A4))) (Kd.R_lt (vR A3))) (Kd.R_lt (vR A2))) (Kd.R_lt (vR Au))) (below_size (vB HB)))
               replace A4 := Z.m (Kd.R_elder' (vR A4) (Kd.R_base AV) hb)
               replace A3 := Z.m (Kd.R_elder' (vR A3) (Kd.R_base AV) hb)
               replace A2 := Z.m (Kd.R_elder' (vR A2) (Kd.R_base AV) hb)
               replace Au := Z.m (Kd.R_elder' (vR Au) (Kd.R_base AV) hb)
               replace A0 := kB A0 hb
               replace A1 := kB A1 hb
               replace A6 := kB A6 hb
               replace A7 := kB A7 hb
               replace A8 := kB A8 hb
               replace HB := bB HB hb
               (try clear hb); (try clear AV)
               refine hK.out _ _ ⟨(ql A0.o 0).trans rfl, (ql A0.o 1).trans rfl, (ql A0.o 2).trans rfl, (ql A1.o 0).trans rfl, (ql A1.o 1).trans rfl⟩ (fun hHeld => ?_)
               clear hK K
               refine norm_ (a' := ?_) ?_ ?_
               rotate_left
               ·show Act.put _ (some 94) _ = _
                simp only [Act.put, q1, q2, q3, i64_w, i32_w]
                rfl
               refine pure_ (i := 7) (N := some 87) (v := ?_) (a' := ?_) #[true, true, true, true, true, true, true, true, false, false, false, false, false] rfl rfl (any_of HT_.o (by kernel_rfl)) (fun _ _ _ h => h) (Or.inl ⟨by rfl, ?_⟩) ?_ ?_
               rotate_left
               ·intro w'
                go_simp
                with_reducible rfl
               rotate_left
               ·simp only [Act.put, q1, q2, q3, i64_w, i32_w]
                rfl
               refine pure_ (i := 8) (N := some 95) (v := ?_) (a' := ?_) #[true, true, true, true, true, true, true, true, true, false, false, false, false] rfl rfl (any_of HT_.o (by kernel_rfl)) (fun _ _ _ h => h) (Or.inl ⟨by rfl, ?_⟩) ?_ ?_
               rotate_left
               ·intro w'
                go_simp
                with_reducible rfl
               rotate_left
               ·simp only [Act.put, q1, q2, q3, i64_w, i32_w]
                rfl
               refine pure_ (i := 9) (N := some 96) (v := ?_) (a' := ?_) #[true, true, true, true, true, true, true, true, true, true, false, false, false] rfl rfl (any_of HT_.o (by kernel_rfl)) (fun _ _ _ h => h) (Or.inl ⟨by rfl, ?_⟩) ?_ ?_
               rotate_left
               ·intro w'
                go_simp
                with_reducible rfl
               rotate_left
               ·simp only [Act.put, q1, q2, q3, i64_w, i32_w]
                rfl
               refine one_ (i := 10) (N := some 18) #[true, true, true, true, true, true, true, true, true, true, true, false, false] rfl rfl (one_of HT_.o (by kernel_rfl)) (by decide) (fun K hK => ?_)
               refine box_step ?hg (N := 18) ?hd (cs := #[.int .i64 0, .int .i64 0, .slice none 0 0]) (t := 29) ?hr ?_; (case hd => rfl); (case hg => rfl); (case hr => first | (go_simp; done) | (go_simp; rfl))
               intro AY hg CP hbox hb
               have Ao := Z.m (hbox)
               have BI := gW (w := w) HB hg
               have BG := gW (w := w) HB hg
               have Ag := neL A0 hg
               have AR := neG A0 hg
               have Aq := neL A1 hg
               have AS := neG A1 hg
               have AL := neL A6 hg
               have AT := neG A6 hg
               have AM := neL A7 hg
               have AU := neG A7 hg
               have AI := neL A8 hg
               have AP := neG A8 hg
               replace A4 := Z.m (Kd.Rb (vR A4) hb)
               replace A3 := Z.m (Kd.Rb (vR A3) hb)
               replace A2 := Z.m (Kd.Rb (vR A2) hb)
               replace Au := Z.m (Kd.Rb (vR Au) hb)
               replace B2 := Z.m (Kd.Rb (vR B2) hb)
               replace A0 := kB A0 hb
               replace A1 := kB A1 hb
               replace A6 := kB A6 hb
               replace A7 := kB A7 hb
               replace A8 := kB A8 hb
               replace HB := bB HB hb
               clear hb hbox hg
               refine hK.out _ _ ⟨(ql A0.o 0).trans rfl, (ql A0.o 1).trans rfl, (ql A0.o 2).trans rfl, (ql A1.o 0).trans rfl, (ql A1.o 1).trans rfl⟩ (fun hHeld => ?_)
               clear hK K
               refine norm_ (a' := ?_) ?_ ?_
               rotate_left
               ·show Act.put _ (some 18) _ = _
                simp only [Act.put, q1, q2, q3, i64_w, i32_w]
                rfl
               exact norm_ (by simp only [putAll, Act.put, q1, q2, q3]) (hCont (.slice CB Bh.length CD, BC, AY) _ ⟨hHeld, (by refine rK ?_; exact Kd.Rm Au.o (fun _ hk => ⟨hk.2, ⟨hk.1.1.1.2, ⟨hk.1.1.2, hk.1.2⟩⟩⟩)), (by refine rK ?_; exact Kd.Rm B2.o (fun _ hk => ⟨hk.2, ⟨hk.1.1.1.2, ⟨hk.1.1.2, hk.1.2⟩⟩⟩)), (by refine rK ?_; exact Kd.Rm A4.o (fun _ hk => ⟨hk.1.2, ⟨hk.2, ⟨hk.1.1.1, hk.1.1.2⟩⟩⟩)), (by refine rK ?_; exact Kd.Rm A3.o (fun _ hk => ⟨hk.1.2, ⟨hk.2, ⟨hk.1.1.1, hk.1.1.2⟩⟩⟩)), (by refine rK ?_; exact Kd.Rm A2.o (fun _ hk => ⟨hk.1.2, ⟨hk.2, ⟨hk.1.1.1, hk.1.1.2⟩⟩⟩)), (vK A0), (vK A1), (vK A6), (vK A7), (vK A8), (vK Ao), BI.o, BG.o, Ag.o, AR.o, Aq.o, AS.o, AL.o, AT.o, AM.o, AU.o, AI.o, AP.o, (vB HB)⟩)
              ·skip
               refine box_step ?hg (N := 18) ?hd (cs := #[.int .i64 0, .int .i64 0, .slice none 0 0]) (t := 29) ?hr ?_; (case hd => rfl); (case hg => rfl); (case hr => first | (go_simp; done) | (go_simp; rfl))
               intro AY hg Ee hbox hb
               have Ao := Z.m (hbox)
               have BI := gW (w := w) HB hg
               have BG := gW (w := w) HB hg
               have Ag := neL A0 hg
               have AR := neG A0 hg
               have Aq := neL A1 hg
               have AS := neG A1 hg
               have AL := neL A6 hg
               have AT := neG A6 hg
               have AM := neL A7 hg
               have AU := neG A7 hg
               have AI := neL A8 hg
               have AP := neG A8 hg
               replace A4 := Z.m (Kd.Rb (vR A4) hb)
               replace A3 := Z.m (Kd.Rb (vR A3) hb)
               replace A2 := Z.m (Kd.Rb (vR A2) hb)
               replace Au := Z.m (Kd.Rb (vR Au) hb)
               replace A0 := kB A0 hb
               replace A1 := kB A1 hb
               replace A6 := kB A6 hb
               replace A7 := kB A7 hb
               replace A8 := kB A8 hb
               replace HB := bB HB hb
               clear hb hbox hg
               obtain ⟨BD, BL, BM⟩ := Kd.R_slice Au.o
               (first | subst BM | (injection BM with f1_ f2_ f3_; have f4_ := f1_.symm; have f5_ := f3_.symm; clear f1_ f2_ f3_; subst f4_; subst f5_))
               refine hK.out _ _ ⟨(ql A0.o 0).trans rfl, (ql A0.o 1).trans rfl, (ql A0.o 2).trans rfl, (ql A1.o 0).trans rfl, (ql A1.o 1).trans rfl⟩ (fun hHeld => ?_)
               clear hK K
               refine norm_ (a' := ?_) ?_ ?_
               rotate_left
               ·show Act.put _ (some 18) _ = _
                simp only [Act.put, q1, q2, q3, i64_w, i32_w]
                rfl
               refine one_ (i := 6) (N := some 94) #[true, true, true, true, true, true, true, false, false, false, true, false, false] rfl rfl (one_of HT_.o (by kernel_rfl)) (by decide) (fun K hK => ?_)
               refine goes_ Try.func35 (by kernel_rfl) rfl #[.agg #[.int .i64 By, .int .i64 Bz, .slice BD Bh.length BL], .int .i64 a1, .int .i64 a2, .agg #[.int .i64 BA, .int .i64 BB]] (by rfl) rfl rfl (by (try simp only [List.map_toArray, List.map_cons, List.map_nil]); first | done | rfl | (simp only [List.length_drop, List.length_take]; rfl)) ?_
               with_reducible refine (impl_PutCell.calls kj80 By Bz _ _ Bh a1 a2 BA BB BO BP Bi BR _ ?side1 ?side2 C8.o).mono ?_
               (case side1 => repeat (first | exact (Kd.RrZ Au.o).2.2 | (with_reducible refine Kd.C_alloc ?_ _) | (with_reducible refine Kd.C_drewN ?_ _) | (with_reducible refine Kd.C_drew ?_)))
               (case side2 => exact (Kd.RrZ Au.o).2.1)
               rintro e CP ⟨BC, rfl, AV, hb⟩
               refine ⟨_, rfl, ?_⟩
               have B2 := Z.m (Kd.R_lower (Kd.R_new' (Kd.R_new' (Kd.R_new' (Kd.R_new' AV (Kd.R_lt (vR A4))) (Kd.R_lt (vR A3))) (Kd.R_lt (vR A2))) (Kd.R_lt (vR Au))) (below_size (vB HB)))
               replace A4 := Z.m (Kd.R_elder' (vR A4) (Kd.R_base AV) hb)
               replace A3 := Z.m (Kd.R_elder' (vR A3) (Kd.R_base AV) hb)
               replace A2 := Z.m (Kd.R_elder' (vR A2) (Kd.R_base AV) hb)
               replace Au := Z.m (Kd.R_elder' (vR Au) (Kd.R_base AV) hb)
               replace A0 := kB A0 hb
               replace A1 := kB A1 hb
               replace A6 := kB A6 hb
               replace A7 := kB A7 hb
               replace A8 := kB A8 hb
               replace Ao := kB Ao hb
               replace HB := bB HB hb
               (try clear hb); (try clear AV)
               refine hK.out _ _ ⟨(ql A0.o 0).trans rfl, (ql A0.o 1).trans rfl, (ql A0.o 2).trans rfl, (ql A1.o 0).trans rfl, (ql A1.o 1).trans rfl⟩ (fun hHeld => ?_)
               clear hK K
               refine norm_ (a' := ?_) ?_ ?_
               rotate_left
               ·show Act.put _ (some 94) _ = _
                simp only [Act.put, q1, q2, q3, i64_w, i32_w]
                rfl
               refine pure_ (i := 7) (N := some 87) (v := ?_) (a' := ?_) #[true, true, true, true, true, true, true, true, false, false, true, false, false] rfl rfl (any_of HT_.o (by kernel_rfl)) (fun _ _ _ h => h) (Or.inl ⟨by rfl, ?_⟩) ?_ ?_
               rotate_left
               ·intro w'
                go_simp
                with_reducible rfl
               rotate_left
               ·simp only [Act.put, q1, q2, q3, i64_w, i32_w]
                rfl
               refine pure_ (i := 8) (N := some 95) (v := ?_) (a' := ?_) #[true, true, true, true, true, true, true, true, true, false, true, false, false] rfl rfl (any_of HT_.o (by kernel_rfl)) (fun _ _ _ h => h) (Or.inl ⟨by rfl, ?_⟩) ?_ ?_
               rotate_left
               ·intro w'
                go_simp
                with_reducible rfl
               rotate_left
               ·simp only [Act.put, q1, q2, q3, i64_w, i32_w]
                rfl
               refine pure_ (i := 9) (N := some 96) (v := ?_) (a' := ?_) #[true, true, true, true, true, true, true, true, true, true, true, false, false] rfl rfl (any_of HT_.o (by kernel_rfl)) (fun _ _ _ h => h) (Or.inl ⟨by rfl, ?_⟩) ?_ ?_
               rotate_left
               ·intro w'
                go_simp
                with_reducible rfl
               rotate_left
               ·simp only [Act.put, q1, q2, q3, i64_w, i32_w]
                rfl
               exact norm_ (by simp only [putAll, Act.put, q1, q2, q3]) (hCont (.slice BD Bh.length BL, BC, AY) _ ⟨hHeld, (by refine rK ?_; exact Kd.Rm Au.o (fun _ hk => ⟨hk.2, ⟨hk.1.1.1.2, ⟨hk.1.1.2, hk.1.2⟩⟩⟩)), (by refine rK ?_; exact Kd.Rm B2.o (fun _ hk => ⟨hk.2, ⟨hk.1.1.1.2, ⟨hk.1.1.2, hk.1.2⟩⟩⟩)), (by refine rK ?_; exact Kd.Rm A4.o (fun _ hk => ⟨hk.1.2, ⟨hk.2, ⟨hk.1.1.1, hk.1.1.2⟩⟩⟩)), (by refine rK ?_; exact Kd.Rm A3.o (fun _ hk => ⟨hk.1.2, ⟨hk.2, ⟨hk.1.1.1, hk.1.1.2⟩⟩⟩)), (by refine rK ?_; exact Kd.Rm A2.o (fun _ hk => ⟨hk.1.2, ⟨hk.2, ⟨hk.1.1.1, hk.1.1.2⟩⟩⟩)), (vK A0), (vK A1), (vK A6), (vK A7), (vK A8), (vK Ao), BI.o, BG.o, Ag.o, AR.o, Aq.o, AS.o, AL.o, AT.o, AM.o, AU.o, AI.o, AP.o, (vB HB)⟩)
             ·skip
              refine box_step ?hg (N := 18) ?hd (cs := #[.int .i64 0, .int .i64 0, .slice none 0 0]) (t := 29) ?hr ?_; (case hd => rfl); (case hg => rfl); (case hr => first | (go_simp; done) | (go_simp; rfl))
              intro AY hg Ed hbox hb
              have Ao := Z.m (hbox)
              have BI := gW (w := w) HB hg
              have BG := gW (w := w) HB hg
              have Ag := neL A0 hg
              have AR := neG A0 hg
              have Aq := neL A1 hg
              have AS := neG A1 hg
              have AL := neL A6 hg
              have AT := neG A6 hg
              have AM := neL A7 hg
              have AU := neG A7 hg
              have AI := neL A8 hg
              have AP := neG A8 hg
              replace A4 := Z.m (Kd.Rb (vR A4) hb)
              replace A3 := Z.m (Kd.Rb (vR A3) hb)
              replace A2 := Z.m (Kd.Rb (vR A2) hb)
              replace Au := Z.m (Kd.Rb (vR Au) hb)
              replace A0 := kB A0 hb
              replace A1 := kB A1 hb
              replace A6 := kB A6 hb
              replace A7 := kB A7 hb
              replace A8 := kB A8 hb
              replace HB := bB HB hb
              clear hb hbox hg
              refine hK.out _ _ ⟨(ql A0.o 0).trans rfl, (ql A0.o 1).trans rfl, (ql A0.o 2).trans rfl, (ql A1.o 0).trans rfl, (ql A1.o 1).trans rfl⟩ (fun hHeld => ?_)
              clear hK K
              refine norm_ (a' := ?_) ?_ ?_
              rotate_left
              ·show Act.put _ (some 18) _ = _
               simp only [Act.put, q1, q2, q3, i64_w, i32_w]
               rfl
              refine one_ (i := 5) (N := some 93) #[true, true, true, true, true, true, false, false, false, false, true, false, false] rfl rfl (one_of HT_.o (by kernel_rfl)) (by decide) (fun K hK => ?_)
              refine goes_ Try.func34 (by kernel_rfl) rfl #[.agg #[.int .i64 a3_0, .int .i64 a3_1]] (by rfl) rfl rfl (by (try simp only [List.map_toArray, List.map_cons, List.map_nil]); first | done | rfl | (simp only [List.length_drop, List.length_take]; rfl)) ?_
              with_reducible refine (laws_toCell.calls a3_0 a3_1 BA BB _ CG.o).mono ?_
              rintro e Ee ⟨rfl, hb⟩
              refine ⟨_, rfl, ?_⟩
              replace A4 := Z.m (Kd.Rb (vR A4) hb)
              replace A3 := Z.m (Kd.Rb (vR A3) hb)
              replace A2 := Z.m (Kd.Rb (vR A2) hb)
              replace Au := Z.m (Kd.Rb (vR Au) hb)
              replace A0 := kB A0 hb
              replace A1 := kB A1 hb
              replace A6 := kB A6 hb
              replace A7 := kB A7 hb
              replace A8 := kB A8 hb
              replace Ao := kB Ao hb
              replace HB := bB HB hb
              (try clear hb)
              obtain ⟨BD, BL, BM⟩ := Kd.R_slice Au.o
              (first | subst BM | (injection BM with f1_ f2_ f3_; have f4_ := f1_.symm; have f5_ := f3_.symm; clear f1_ f2_ f3_; subst f4_; subst f5_))
              refine hK.out _ _ ⟨(ql A0.o 0).trans rfl, (ql A0.o 1).trans rfl, (ql A0.o 2).trans rfl, (ql A1.o 0).trans rfl, (ql A1.o 1).trans rfl⟩ (fun hHeld => ?_)
              clear hK K
              refine norm_ (a' := ?_) ?_ ?_
              rotate_left
              ·show Act.put _ (some 93) _ = _
               simp only [Act.put, q1, q2, q3, i64_w, i32_w]
               rfl
              refine one_ (i := 6) (N := some 94) #[true, true, true, true, true, true, true, false, false, false, true, false, false] rfl rfl (one_of HT_.o (by kernel_rfl)) (by decide) (fun K hK => ?_)
              refine goes_ Try.func35 (by kernel_rfl) rfl #[.agg #[.int .i64 By, .int .i64 Bz, .slice BD Bh.length BL], .int .i64 a1, .int .i64 a2, .agg #[.int .i64 BA, .int .i64 BB]] (by rfl) rfl rfl (by (try simp only [List.map_toArray, List.map_cons, List.map_nil]); first | done | rfl | (simp only [List.length_drop, List.length_take]; rfl)) ?_
              with_reducible refine (impl_PutCell.calls kj80 By Bz _ _ Bh a1 a2 BA BB BO BP Bi BR _ ?side1 ?side2 C8.o).mono ?_
              (case side1 => repeat (first | exact (Kd.RrZ Au.o).2.2 | (with_reducible refine Kd.C_alloc ?_ _) | (with_reducible refine Kd.C_drewN ?_ _) | (with_reducible refine Kd.C_drew ?_)))
              (case side2 => exact (Kd.RrZ Au.o).2.1)
              rintro e CP ⟨BC, rfl, AV, hb⟩
              refine ⟨_, rfl, ?_⟩
              have B2 := Z.m (Kd.R_lower (Kd.R_new' (Kd.R_new' (Kd.R_new' (Kd.R_new' AV (Kd.R_lt (vR A4))) (Kd.R_lt (vR A3))) (Kd.R_lt (vR A2))) (Kd.R_lt (vR Au))) (below_size (vB HB)))
              replace A4 := Z.m (Kd.R_elder' (vR A4) (Kd.R_base AV) hb)
              replace A3 := Z.m (Kd.R_elder' (vR A3) (Kd.R_base AV) hb)
              replace A2 := Z.m (Kd.R_elder' (vR A2) (Kd.R_base AV) hb)
              replace Au := Z.m (Kd.R_elder' (vR Au) (Kd.R_base AV) hb)
              replace A0 := kB A0 hb
              replace A1 := kB A1 hb
              replace A6 := kB A6 hb
              replace A7 := kB A7 hb
              replace A8 := kB A8 hb
              replace Ao := kB Ao hb
              replace HB := bB HB hb
              (try clear hb); (try clear AV)
              refine hK.out _ _ ⟨(ql A0.o 0).trans rfl, (ql A0.o 1).trans rfl, (ql A0.o 2).trans rfl, (ql A1.o 0).trans rfl, (ql A1.o 1).trans rfl⟩ (fun hHeld => ?_)
              clear hK K
              refine norm_ (a' := ?_) ?_ ?_
              rotate_left
              ·show Act.put _ (some 94) _ = _
               simp only [Act.put, q1, q2, q3, i64_w, i32_w]
               rfl
              refine pure_ (i := 7) (N := some 87) (v := ?_) (a' := ?_) #[true, true, true, true, true, true, true, true, false, false, true, false, false] rfl rfl (any_of HT_.o (by kernel_rfl)) (fun _ _ _ h => h) (Or.inl ⟨by rfl, ?_⟩) ?_ ?_
              rotate_left
              ·intro w'
               go_simp
               with_reducible rfl
              rotate_left
              ·simp only [Act.put, q1, q2, q3, i64_w, i32_w]
               rfl
              refine pure_ (i := 8) (N := some 95) (v := ?_) (a' := ?_) #[true, true, true, true, true, true, true, true, true, false, true, false, false] rfl rfl (any_of HT_.o (by kernel_rfl)) (fun _ _ _ h => h) (Or.inl ⟨by rfl, ?_⟩) ?_ ?_
              rotate_left
              ·intro w'
               go_simp
               with_reducible rfl
              rotate_left
              ·simp only [Act.put, q1, q2, q3, i64_w, i32_w]
               rfl
              refine pure_ (i := 9) (N := some 96) (v := ?_) (a' := ?_) #[true, true, true, true, true, true, true, true, true, true, true, false, false] rfl rfl (any_of HT_.o (by kernel_rfl)) (fun _ _ _ h => h) (Or.inl ⟨by rfl, ?_⟩) ?_ ?_
              rotate_left
              ·intro w'
               go_simp
               with_reducible rfl
              rotate_left
              ·simp only [Act.put, q1, q2, q3, i64_w, i32_w]
               rfl
              exact norm_ (by simp only [putAll, Act.put, q1, q2, q3]) (hCont (.slice BD Bh.length BL, BC, AY) _ ⟨hHeld, (by refine rK ?_; exact Kd.Rm Au.o (fun _ hk => ⟨hk.2, ⟨hk.1.1.1.2, ⟨hk.1.1.2, hk.1.2⟩⟩⟩)), (by refine rK ?_; exact Kd.Rm B2.o (fun _ hk => ⟨hk.2, ⟨hk.1.1.1.2, ⟨hk.1.1.2, hk.1.2⟩⟩⟩)), (by refine rK ?_; exact Kd.Rm A4.o (fun _ hk => ⟨hk.1.2, ⟨hk.2, ⟨hk.1.1.1, hk.1.1.2⟩⟩⟩)), (by refine rK ?_; exact Kd.Rm A3.o (fun _ hk => ⟨hk.1.2, ⟨hk.2, ⟨hk.1.1.1, hk.1.1.2⟩⟩⟩)), (by refine rK ?_; exact Kd.Rm A2.o (fun _ hk => ⟨hk.1.2, ⟨hk.2, ⟨hk.1.1.1, hk.1.1.2⟩⟩⟩)), (vK A0), (vK A1), (vK A6), (vK A7), (vK A8), (vK Ao), BI.o, BG.o, Ag.o, AR.o, Aq.o, AS.o, AL.o, AT.o, AM.o, AU.o, AI.o, AP.o, (vB HB)⟩)
            ·skip
             refine box_step ?hg (N := 18) ?hd (cs := #[.int .i64 0, .int .i64 0, .slice none 0 0]) (t := 29) ?hr ?_; (case hd => rfl); (case hg => rfl); (case hr => first | (go_simp; done) | (go_simp; rfl))
             intro AY hg Gt hbox hb
             have Ao := Z.m (hbox)
             have BI := gW (w := w) HB hg
             have BG := gW (w := w) HB hg
             have Ag := neL A0 hg
             have AR := neG A0 hg
             have Aq := neL A1 hg
             have AS := neG A1 hg
             have AL := neL A6 hg
             have AT := neG A6 hg
             have AM := neL A7 hg
             have AU := neG A7 hg
             have AI := neL A8 hg
             have AP := neG A8 hg
             replace A4 := Z.m (Kd.Rb (vR A4) hb)
             replace A3 := Z.m (Kd.Rb (vR A3) hb)
             replace A2 := Z.m (Kd.Rb (vR A2) hb)
             replace A0 := kB A0 hb
             replace A1 := kB A1 hb
             replace A6 := kB A6 hb
             replace A7 := kB A7 hb
             replace A8 := kB A8 hb
             replace HB := bB HB hb
             clear hb hbox hg
             refine hK.out _ _ ⟨(ql A0.o 0).trans rfl, (ql A0.o 1).trans rfl, (ql A0.o 2).trans rfl, (ql A1.o 0).trans rfl, (ql A1.o 1).trans rfl⟩ (fun hHeld => ?_)
             clear hK K
             refine norm_ (a' := ?_) ?_ ?_
             rotate_left
             ·show Act.put _ (some 18) _ = _
              simp only [Act.put, q1, q2, q3, i64_w, i32_w]
              rfl
             refine one_ (i := 1) (N := some 89) #[true, true, true, true, true, false, false, false, false, false, true, false, false] rfl rfl (one_of HT_.o (by kernel_rfl)) (by decide) (fun K hK => ?_)
             refine goes_ Try.func17 (by kernel_rfl) rfl #[.agg #[.int .i64 a0_0, .int .i64 a0_1, .slice A0_2 l0_2.length c0_2]] (by rfl) rfl rfl (by (try simp only [List.map_toArray, List.map_cons, List.map_nil]); first | done | rfl | (simp only [List.length_drop, List.length_take]; rfl)) ?_
             with_reducible refine (laws_toBoard.calls kj80 a0_0 a0_1 _ _ l0_2 By Bz Bh _ ?side1 ?side2 CR.o).mono ?_
             (case side1 => repeat (first | exact (Kd.C_below BK.o HB.o) | (with_reducible refine Kd.C_alloc ?_ _) | (with_reducible refine Kd.C_drewN ?_ _) | (with_reducible refine Kd.C_drew ?_)))
             (case side2 => exact BJ.o)
             rintro e Ed ⟨BZ, rfl, AV, hb⟩
             refine ⟨_, rfl, ?_⟩
             have Au := Z.m (Kd.R_lower (Kd.R_new' (Kd.R_new' (Kd.R_new' AV (Kd.R_lt (vR A4))) (Kd.R_lt (vR A3))) (Kd.R_lt (vR A2))) (below_size (vB HB)))
             replace A4 := Z.m (Kd.R_elder' (vR A4) (Kd.R_base AV) hb)
             replace A3 := Z.m (Kd.R_elder' (vR A3) (Kd.R_base AV) hb)
             replace A2 := Z.m (Kd.R_elder' (vR A2) (Kd.R_base AV) hb)
             replace A0 := kB A0 hb
             replace A1 := kB A1 hb
             replace A6 := kB A6 hb
             replace A7 := kB A7 hb
             replace A8 := kB A8 hb
             replace Ao := kB Ao hb
             replace HB := bB HB hb
             (try clear hb); (try clear AV)
             refine hK.out _ _ ⟨(ql A0.o 0).trans rfl, (ql A0.o 1).trans rfl, (ql A0.o 2).trans rfl, (ql A1.o 0).trans rfl, (ql A1.o 1).trans rfl⟩ (fun hHeld => ?_)
             clear hK K
             refine norm_ (a' := ?_) ?_ ?_
             rotate_left
             ·show Act.put _ (some 89) _ = _
              simp only [Act.put, q1, q2, q3, i64_w, i32_w]
              rfl
             refine one_ (i := 5) (N := some 93) #[true, true, true, true, true, true, false, false, false, false, true, false, false] rfl rfl (one_of HT_.o (by kernel_rfl)) (by decide) (fun K hK => ?_)
             refine goes_ Try.func34 (by kernel_rfl) rfl #[.agg #[.int .i64 a3_0, .int .i64 a3_1]] (by rfl) rfl rfl (by (try simp only [List.map_toArray, List.map_cons, List.map_nil]); first | done | rfl | (simp only [List.length_drop, List.length_take]; rfl)) ?_
             with_reducible refine (laws_toCell.calls a3_0 a3_1 BA BB _ CG.o).mono ?_
             rintro e Ee ⟨rfl, hb⟩
             refine ⟨_, rfl, ?_⟩
             replace A4 := Z.m (Kd.Rb (vR A4) hb)
             replace A3 := Z.m (Kd.Rb (vR A3) hb)
             replace A2 := Z.m (Kd.Rb (vR A2) hb)
             replace Au := Z.m (Kd.Rb (vR Au) hb)
             replace A0 := kB A0 hb
             replace A1 := kB A1 hb
             replace A6 := kB A6 hb
             replace A7 := kB A7 hb
             replace A8 := kB A8 hb
             replace Ao := kB Ao hb
             replace HB := bB HB hb
             (try clear hb)
             obtain ⟨BD, BL, BM⟩ := Kd.R_slice Au.o
             (first | subst BM | (injection BM with f1_ f2_ f3_; have f4_ := f1_.symm; have f5_ := f3_.symm; clear f1_ f2_ f3_; subst f4_; subst f5_))
             refine hK.out _ _ ⟨(ql A0.o 0).trans rfl, (ql A0.o 1).trans rfl, (ql A0.o 2).trans rfl, (ql A1.o 0).trans rfl, (ql A1.o 1).trans rfl⟩ (fun hHeld => ?_)
             clear hK K
             refine norm_ (a' := ?_) ?_ ?_
             rotate_left
             ·show Act.put _ (some 93) _ = _
              simp only [Act.put, q1, q2, q3, i64_w, i32_w]
              rfl
             refine one_ (i := 6) (N := some 94) #[true, true, true, true, true, true, true, false, false, false, true, false, false] rfl rfl (one_of HT_.o (by kernel_rfl)) (by decide) (fun K hK => ?_)
             refine goes_ Try.func35 (by kernel_rfl) rfl #[.agg #[.int .i64 By, .int .i64 Bz, .slice BD Bh.length BL], .int .i64 a1, .int .i64 a2, .agg #[.int .i64 BA, .int .i64 BB]] (by rfl) rfl rfl (by (try simp only [List.map_toArray, List.map_cons, List.map_nil]); first | done | rfl | (simp only [List.length_drop, List.length_take]; rfl)) ?_
             with_reducible refine (impl_PutCell.calls kj80 By Bz _ _ Bh a1 a2 BA BB BO BP Bi BR _ ?side1 ?side2 C8.o).mono ?_
             (case side1 => repeat (first | exact (Kd.RrZ Au.o).2.2 | (with_reducible refine Kd.C_alloc ?_ _) | (with_reducible refine Kd.C_drewN ?_ _) | (with_reducible refine Kd.C_drew ?_)))
             (case side2 => exact (Kd.RrZ Au.o).2.1)
             rintro e CP ⟨BC, rfl, AV, hb⟩
             refine ⟨_, rfl, ?_⟩
             have B2 := Z.m (Kd.R_lower (Kd.R_new' (Kd.R_new' (Kd.R_new' (Kd.R_new' AV (Kd.R_lt (vR A4))) (Kd.R_lt (vR A3))) (Kd.R_lt (vR A2))) (Kd.R_lt (vR Au))) (below_size (vB HB)))
             replace A4 := Z.m (Kd.R_elder' (vR A4) (Kd.R_base AV) hb)
             replace A3 := Z.m (Kd.R_elder' (vR A3) (Kd.R_base AV) hb)
             replace A2 := Z.m (Kd.R_elder' (vR A2) (Kd.R_base AV) hb)
             replace Au := Z.m (Kd.R_elder' (vR Au) (Kd.R_base AV) hb)
             replace A0 := kB A0 hb
             replace A1 := kB A1 hb
             replace A6 := kB A6 hb
             replace A7 := kB A7 hb
             replace A8 := kB A8 hb
             replace Ao := kB Ao hb
             replace HB := bB HB hb
             (try clear hb); (try clear AV)
             refine hK.out _ _ ⟨(ql A0.o 0).trans rfl, (ql A0.o 1).trans rfl, (ql A0.o 2).trans rfl, (ql A1.o 0).trans rfl, (ql A1.o 1).trans rfl⟩ (fun hHeld => ?_)
             clear hK K
             refine norm_ (a' := ?_) ?_ ?_
             rotate_left
             ·show Act.put _ (some 94) _ = _
              simp only [Act.put, q1, q2, q3, i64_w, i32_w]
              rfl
             refine pure_ (i := 7) (N := some 87) (v := ?_) (a' := ?_) #[true, true, true, true, true, true, true, true, false, false, true, false, false] rfl rfl (any_of HT_.o (by kernel_rfl)) (fun _ _ _ h => h) (Or.inl ⟨by rfl, ?_⟩) ?_ ?_
             rotate_left
             ·intro w'
              go_simp
              with_reducible rfl
             rotate_left
             ·simp only [Act.put, q1, q2, q3, i64_w, i32_w]
              rfl
             refine pure_ (i := 8) (N := some 95) (v := ?_) (a' := ?_) #[true, true, true, true, true, true, true, true, true, false, true, false, false] rfl rfl (any_of HT_.o (by kernel_rfl)) (fun _ _ _ h => h) (Or.inl ⟨by rfl, ?_⟩) ?_ ?_
             rotate_left
             ·intro w'
              go_simp
              with_reducible rfl
             rotate_left
             ·simp only [Act.put, q1, q2, q3, i64_w, i32_w]
              rfl
             refine pure_ (i := 9) (N := some 96) (v := ?_) (a' := ?_) #[true, true, true, true, true, true, true, true, true, true, true, false, false] rfl rfl (any_of HT_.o (by kernel_rfl)) (fun _ _ _ h => h) (Or.inl ⟨by rfl, ?_⟩) ?_ ?_
             rotate_left
             ·intro w'
              go_simp
              with_reducible rfl
             rotate_left
             ·simp only [Act.put, q1, q2, q3, i64_w, i32_w]
              rfl
             exact norm_ (by simp only [putAll, Act.put, q1, q2, q3]) (hCont (.slice BD Bh.length BL, BC, AY) _ ⟨hHeld, (by refine rK ?_; exact Kd.Rm Au.o (fun _ hk => ⟨hk.2, ⟨hk.1.1.1.2, ⟨hk.1.1.2, hk.1.2⟩⟩⟩)), (by refine rK ?_; exact Kd.Rm B2.o (fun _ hk => ⟨hk.2, ⟨hk.1.1.1.2, ⟨hk.1.1.2, hk.1.2⟩⟩⟩)), (by refine rK ?_; exact Kd.Rm A4.o (fun _ hk => ⟨hk.1.2, ⟨hk.2, ⟨hk.1.1.1, hk.1.1.2⟩⟩⟩)), (by refine rK ?_; exact Kd.Rm A3.o (fun _ hk => ⟨hk.1.2, ⟨hk.2, ⟨hk.1.1.1, hk.1.1.2⟩⟩⟩)), (by refine rK ?_; exact Kd.Rm A2.o (fun _ hk => ⟨hk.1.2, ⟨hk.2, ⟨hk.1.1.1, hk.1.1.2⟩⟩⟩)), (vK A0), (vK A1), (vK A6), (vK A7), (vK A8), (vK Ao), BI.o, BG.o, Ag.o, AR.o, Aq.o, AS.o, AL.o, AT.o, AM.o, AU.o, AI.o, AP.o, (vB HB)⟩)
           rintro ⟨BZ, BC, AY⟩ Bf ⟨hS_, h0_, h1_, h2_, h3_, h4_, h5_, h6_, h7_, h8_, h9_, h10_, h11_, h12_, h13_, h14_, h15_, h16_, h17_, h18_, h19_, h20_, h21_, h22_, h23_⟩
           have Au : Z (Kd.R k34 34 Bf w.heap.size (fun k_ => some k_ ≠ (BC : Value).ownBlock ∧ some k_ ≠ (.slice AK Aa.length AJ : Value).ownBlock ∧ some k_ ≠ (.slice Ap AZ.length Ar : Value).ownBlock ∧ some k_ ≠ (.slice AX Af.length AW : Value).ownBlock) BZ Bh) := ⟨h0_⟩
           have B2 : Z (Kd.R k34 34 Bf w.heap.size (fun k_ => some k_ ≠ (BZ : Value).ownBlock ∧ some k_ ≠ (.slice AK Aa.length AJ : Value).ownBlock ∧ some k_ ≠ (.slice Ap AZ.length Ar : Value).ownBlock ∧ some k_ ≠ (.slice AX Af.length AW : Value).ownBlock) BC Bi) := ⟨h1_⟩
           have Ao : Z (Bf.heap[AY]? = some (.cells #[.int .i64 0, .int .i64 0, .slice none 0 0] 29 (0, 0))) := ⟨h10_⟩
           have BI : Z (w.heap.size ≤ AY) := ⟨h11_⟩
           have BG : Z (w.heap.size ≤ AY) := ⟨h12_⟩
           have Ag : Z (An ≠ AY) := ⟨h13_⟩
           have AR : Z (AY ≠ An) := ⟨h14_⟩
           have Aq : Z (Av ≠ AY) := ⟨h15_⟩
           have AS : Z (AY ≠ Av) := ⟨h16_⟩
           have AL : Z (Az ≠ AY) := ⟨h17_⟩
           have AT : Z (AY ≠ Az) := ⟨h18_⟩
           have AM : Z (Ae ≠ AY) := ⟨h19_⟩
           have AU : Z (AY ≠ Ae) := ⟨h20_⟩
           have AI : Z (AQ ≠ AY) := ⟨h21_⟩
           have AP : Z (AY ≠ AQ) := ⟨h22_⟩
           replace A4 : Z (Kd.R k34 34 Bf w.heap.size (fun k_ => some k_ ≠ (BZ : Value).ownBlock ∧ some k_ ≠ (BC : Value).ownBlock ∧ some k_ ≠ (.slice Ap AZ.length Ar : Value).ownBlock ∧ some k_ ≠ (.slice AX Af.length AW : Value).ownBlock) (.slice AK Aa.length AJ) Aa) := ⟨h2_⟩
           replace A3 : Z (Kd.R k34 34 Bf w.heap.size (fun k_ => some k_ ≠ (BZ : Value).ownBlock ∧ some k_ ≠ (BC : Value).ownBlock ∧ some k_ ≠ (.slice AK Aa.length AJ : Value).ownBlock ∧ some k_ ≠ (.slice AX Af.length AW : Value).ownBlock) (.slice Ap AZ.length Ar) AZ) := ⟨h3_⟩
           replace A2 : Z (Kd.R k34 34 Bf w.heap.size (fun k_ => some k_ ≠ (BZ : Value).ownBlock ∧ some k_ ≠ (BC : Value).ownBlock ∧ some k_ ≠ (.slice AK Aa.length AJ : Value).ownBlock ∧ some k_ ≠ (.slice Ap AZ.length Ar : Value).ownBlock) (.slice AX Af.length AW) B0) := ⟨h4_⟩
           replace A0 : Z (Bf.heap[An]? = some (.cells #[.int .i64 a0_0, .int .i64 a0_1, .slice A0_2 l0_2.length c0_2] 24 (0, 0))) := ⟨h5_⟩
           replace A1 : Z (Bf.heap[Av]? = some (.cells #[.int .i64 a3_0, .int .i64 a3_1] 46 (0, 0))) := ⟨h6_⟩
           replace A6 : Z (Bf.heap[Az]? = some (.cells #[.int .i64 As, .int .i64 At, .slice AK Aa.length AJ] 29 (0, 0))) := ⟨h7_⟩
           replace A7 : Z (Bf.heap[Ae]? = some (.cells #[.int .i64 AC, .int .i64 AD, .slice Ap AZ.length Ar] 29 (0, 0))) := ⟨h8_⟩
           replace A8 : Z (Bf.heap[AQ]? = some (.cells #[.int .i64 Ak, .int .i64 Al, .slice AX Af.length AW] 29 (0, 0))) := ⟨h9_⟩
           replace HB : Z (Below w.heap.size w Bf) := ⟨h23_⟩
           clear h0_ h1_ h2_ h3_ h4_ h5_ h6_ h7_ h8_ h9_ h10_ h11_ h12_ h13_ h14_ h15_ h16_ h17_ h18_ h19_ h20_ h21_ h22_ h23_
           have hHeld : Bf.cell? ⟨An, 0, none⟩ = some (.int .i64 a0_0) ∧ Bf.cell? ⟨An, 1, none⟩ = some (.int .i64 a0_1) ∧ Bf.cell? ⟨An, 2, none⟩ = some (.slice A0_2 l0_2.length c0_2) ∧ Bf.cell? ⟨Av, 0, none⟩ = some (.int .i64 a3_0) ∧ Bf.cell? ⟨Av, 1, none⟩ = some (.int .i64 a3_1) := hS_
           obtain ⟨BE, Bm, CF⟩ := Kd.R_slice B2.o
           (first | subst CF | (injection CF with f1_ f2_ f3_; have f4_ := f1_.symm; have f5_ := f3_.symm; clear f1_ f2_ f3_; subst f4_; subst f5_))
           refine norm_ (a' := ?_) ?_ ?_
           rotate_left
           ·simp only [putAll, Act.put, q1, q2, q3]
            rfl
           refine one_ (i := 11) (N := none) #[true, true, true, true, true, true, true, true, true, true, true, true, false] rfl rfl (one_of HT_.o (by kernel_rfl)) (by decide) (fun K hK => ?_)
           have He : Bf.cell? ⟨AY, 0, none⟩ = some (.int .i64 0) := (ql Ao.o 0).trans rfl
           have hfs147 := qz Ao.o 0
           have DX := Ag.o
           have DY := Aq.o
           have DZ := AL.o
           have E0 := AM.o
           have E1 := AI.o
           have DI := AR.o
           have DJ := AS.o
           have DK := AT.o
           have DL := AU.o
           have DM := AP.o
           have Hf : Bf.cell? ⟨AY, 1, none⟩ = some (.int .i64 0) := (ql Ao.o 1).trans rfl
           have hfs148 := qz Ao.o 1
           have E2 := Ag.o
           have E3 := Aq.o
           have E4 := AL.o
           have E5 := AM.o
           have E6 := AI.o
           have DN := AR.o
           have DO := AS.o
           have DP := AT.o
           have DQ := AU.o
           have DR := AP.o
           have Hg : Bf.cell? ⟨AY, 2, none⟩ = some (.slice none 0 0) := (ql Ao.o 2).trans rfl
           have hfs150 := qz Ao.o 2
           have E7 := Ag.o
           have E8 := Aq.o
           have E9 := AL.o
           have Ea := AM.o
           have Eb := AI.o
           have DS := AR.o
           have DT := AS.o
           have DU := AT.o
           have DV := AU.o
           have DW := AP.o
           refine skip_ (w1 := ?_) ?hwx ?hnx ?_ ?_; (case hwx => rfl); (case hnx => rfl)
           rotate_left
           ·go_simp
            rfl
           refine hK.out _ _ ⟨(cx Ag.o ((cx Ag.o ((cx Ag.o (hHeld.1)))))), (cx Ag.o ((cx Ag.o ((cx Ag.o (hHeld.2.1)))))), (cx Ag.o ((cx Ag.o ((cx Ag.o (hHeld.2.2.1)))))), (cx Aq.o ((cx Aq.o ((cx Aq.o (hHeld.2.2.2.1)))))), (cx Aq.o ((cx Aq.o ((cx Aq.o (hHeld.2.2.2.2))))))⟩ (fun hHeld => ?_)
           clear hK K
           refine pure_ (i := 12) (N := some 19) (v := ?_) (a' := ?_) #[true, true, true, true, true, true, true, true, true, true, true, true, true] rfl rfl (any_of HT_.o (by kernel_rfl)) (fun _ _ _ h => h) (Or.inl ⟨by rfl, ?_⟩) ?_ ?_
           rotate_left
           ·intro w'
            go_simp
            with_reducible rfl
           rotate_left
           ·simp only [Act.put, q1, q2, q3, i64_w, i32_w]
            rfl
           refine done_ (done_of HT_.o (by kernel_rfl)) ?_
           go_upto_region 25 with (fail)
           go_cut [105] (fun v105 wc => ∃ (kq : Nat) (Bo : Bool), v105 = .bool Bo ∧ Z (laws_FnExactPutCell.j2 kq Bd Bo Ak Al B0 = some true) ∧ Z (kq ≤ kj80) ∧ Z (Kd.R k34 34 wc w.heap.size (fun k_ => some k_ ≠ ((.slice Ap AZ.length Ar) : Value).ownBlock ∧ some k_ ≠ ((.slice AX Af.length AW) : Value).ownBlock ∧ some k_ ≠ ((.slice BE Bi.length Bm) : Value).ownBlock) (.slice AK Aa.length AJ) Aa) ∧ Z (Kd.R k34 34 wc w.heap.size (fun k_ => some k_ ≠ ((.slice AK Aa.length AJ) : Value).ownBlock ∧ some k_ ≠ ((.slice AX Af.length AW) : Value).ownBlock ∧ some k_ ≠ ((.slice BE Bi.length Bm) : Value).ownBlock) (.slice Ap AZ.length Ar) AZ) ∧ Z (Kd.R k34 34 wc w.heap.size (fun k_ => some k_ ≠ ((.slice AK Aa.length AJ) : Value).ownBlock ∧ some k_ ≠ ((.slice Ap AZ.length Ar) : Value).ownBlock ∧ some k_ ≠ ((.slice BE Bi.length Bm) : Value).ownBlock) (.slice AX Af.length AW) B0) ∧ Z (Kd.R k34 34 wc w.heap.size (fun k_ => some k_ ≠ ((.slice AK Aa.length AJ) : Value).ownBlock ∧ some k_ ≠ ((.slice Ap AZ.length Ar) : Value).ownBlock ∧ some k_ ≠ ((.slice AX Af.length AW) : Value).ownBlock) (.slice BE Bi.length Bm) Bi) ∧ Z (wc.heap[An]? = some (.cells #[.int .i64 a0_0, .int .i64 a0_1, (.slice A0_2 l0_2.length c0_2)] 24 (0, 0))) ∧ Z (wc.heap[Av]? = some (.cells #[.int .i64 a3_0, .int .i64 a3_1] 46 (0, 0))) ∧ Z (wc.heap[Az]? = some (.cells #[.int .i64 As, .int .i64 At, (.slice AK Aa.length AJ)] 29 (0, 0))) ∧ Z (wc.heap[Ae]? = some (.cells #[.int .i64 AC, .int .i64 AD, (.slice Ap AZ.length Ar)] 29 (0, 0))) ∧ Z (wc.heap[AQ]? = some (.cells #[.int .i64 Ak, .int .i64 Al, (.slice AX Af.length AW)] 29 (0, 0))) ∧ Z (wc.heap[AY]? = some (.cells #[.int .i64 BO, .int .i64 BP, (.slice BE Bi.length Bm)] 29 (0, 0))) ∧ Z (Below w.heap.size w wc))
           case first =>
            have H := Ci.o
            clear Ci
            replace H := Option.bind_eq_some_iff.mp H
            obtain ⟨Bn, Cz, H⟩ := H
            replace H : (if Bn = true then (laws_FnExactPutCell.j2 kj80 Bd (BR != Ay) Ak Al B0) else (laws_FnExactPutCell.j2 kj80 Bd true Ak Al B0)) = some true := H
            have FB := Z.m Cz
            clear Cz
            by_cases c152 : Bn = true
            ·subst c152
             have H1 : (laws_FnExactPutCell.j2 kj80 Bd (BR != Ay) Ak Al B0) = some true := by rw [if_pos rfl] at H; exact H
             clear H
             have H := H1
             clear H1
             have H' := Z.m H
             clear H
             have FT := AR.o
             have Ge := Ag.o
             have FU := AS.o
             have Gf := Aq.o
             have FV := AT.o
             have Gg := AL.o
             have FW := AU.o
             have Gh := AM.o
             have FX := AP.o
             have Gi := AI.o
             have Dh := bc0 Ao
             have Di := bc1 Ao
             have Dj := bc2 Ao
             have Dz := qz Ao.o 0
             have DA := qz Ao.o 1
             have DB := qz Ao.o 2
             have FY := AA.o
             have Gj := Ac.o
             have FZ := AF.o
             have Gk := Ah.o
             have G0 := Ba.o
             have Gl := Be.o
             have G1 := AB.o
             have Gm := AG.o
             have Dk := bc0 A6
             have Dl := bc1 A6
             have Dm := bc2 A6
             have DC := qz A6.o 0
             have DD := qz A6.o 1
             have DE := qz A6.o 2
             go_wp2_with (first | ((with_reducible refine gc (f := 19) rfl ?_); refine gA (some 99) _ #[.agg #[.int .i64 BO, .int .i64 BP, .slice BE Bi.length Bm], .agg #[.int .i64 As, .int .i64 At, .slice AK Aa.length AJ]] ?_ Try.func19; (with_reducible refine (laws_eqBoard.calls kj80 BO BP _ _ Bi As At _ _ Aa true _ ?side1 ?side2 ?side3 ?side4 FB.o).mono ?_); (case side1 => refine (Kd.RrZ (e := 34) (base := w.heap.size) (ok := fun k_ => (some k_ ≠ (BZ : Value).ownBlock ∧ (some k_ ≠ (.slice AK Aa.length AJ : Value).ownBlock ∧ (some k_ ≠ (.slice Ap AZ.length Ar : Value).ownBlock ∧ some k_ ≠ (.slice AX Af.length AW : Value).ownBlock)))) (n := Bi.length) (c := Bm) ?_).2.2; exact (by refine rK ?_; exact (Kd.Rm (rf (rf (rf (Kd.Ry B2.o Ao.o (by decide))))) (fun _ h_ => h_.1)))); (case side2 => exact (Kd.RrZ B2.o).2.1); (case side3 => refine (Kd.RrZ (e := 34) (base := w.heap.size) (ok := fun k_ => (some k_ ≠ (BZ : Value).ownBlock ∧ (some k_ ≠ (.slice BE Bi.length Bm : Value).ownBlock ∧ (some k_ ≠ (.slice Ap AZ.length Ar : Value).ownBlock ∧ some k_ ≠ (.slice AX Af.length AW : Value).ownBlock)))) (n := Aa.length) (c := AJ) ?_).2.2; exact (by refine rK ?_; exact (Kd.Rm (rf (rf (rf (Kd.Ry A4.o Ao.o (by decide))))) (fun _ h_ => h_.1)))); (case side4 => exact (Kd.RrZ A4.o).2.1); rintro e HK ⟨rfl, hb⟩; refine ⟨_, rfl, ?_⟩; replace A4 := Z.m (Kd.Rb (by refine rK ?_; exact (Kd.Rm (rf (rf (rf (Kd.Ry A4.o Ao.o (by decide))))) (fun _ h_ => h_.1))) hb); replace A3 := Z.m (Kd.Rb (by refine rK ?_; exact (Kd.Rm (rf (rf (rf (Kd.Ry A3.o Ao.o (by decide))))) (fun _ h_ => h_.1))) hb); replace A2 := Z.m (Kd.Rb (by refine rK ?_; exact (Kd.Rm (rf (rf (rf (Kd.Ry A2.o Ao.o (by decide))))) (fun _ h_ => h_.1))) hb); replace Au := Z.m (Kd.Rb (by refine rK ?_; exact (Kd.Rm (rf (rf (rf (Kd.Ry Au.o Ao.o (by decide))))) (fun _ h_ => h_.1))) hb); replace B2 := Z.m (Kd.Rb (by refine rK ?_; exact (Kd.Rm (rf (rf (rf (Kd.Ry B2.o Ao.o (by decide))))) (fun _ h_ => h_.1))) hb); replace A0 := Z.m (qb (g := An) (o := .cells #[.int .i64 a0_0, .int .i64 a0_1, .slice A0_2 l0_2.length c0_2] 24 (0, 0)) (by refine bK ?_; (iterate 3 refine qF ?_ Ag); exact A0.o) hb); replace A1 := Z.m (qb (g := Av) (o := .cells #[.int .i64 a3_0, .int .i64 a3_1] 46 (0, 0)) (by refine bK ?_; (iterate 3 refine qF ?_ Aq); exact A1.o) hb); replace A6 := Z.m (qb (g := Az) (o := .cells #[.int .i64 As, .int .i64 At, .slice AK Aa.length AJ] 29 (0, 0)) (by refine bK ?_; (iterate 3 refine qF ?_ AL); exact A6.o) hb); replace A7 := Z.m (qb (g := Ae) (o := .cells #[.int .i64 AC, .int .i64 AD, .slice Ap AZ.length Ar] 29 (0, 0)) (by refine bK ?_; (iterate 3 refine qF ?_ AM); exact A7.o) hb); replace A8 := Z.m (qb (g := AQ) (o := .cells #[.int .i64 Ak, .int .i64 Al, .slice AX Af.length AW] 29 (0, 0)) (by refine bK ?_; (iterate 3 refine qF ?_ AI); exact A8.o) hb); replace Ao := Z.m (qb (g := AY) (o := .cells #[.int .i64 BO, .int .i64 BP, .slice BE Bi.length Bm] 29 (0, 0)) (by refine bK ?_; apply st3; refine bK ?_; exact Ao.o) hb); replace HB := bB HB hb; (try clear hb); (try clear CN); (try clear hk); (try clear hi)))
             go_meet
             case rel => exact ⟨_, ((BR != Ay)), (by first | rfl | (simp; done) | (simp [*]; done)), H', ⟨by have := CK.o; have := FE.o; first | omega | exact Nat.le_refl _⟩, ⟨by (try simp only [Ab]); refine rK ?_; exact Kd.Rm A4.o (fun _ hk => ⟨hk.2.2.1, ⟨hk.2.2.2, hk.2.1⟩⟩)⟩, ⟨by (try simp only [Ab]); refine rK ?_; exact Kd.Rm A3.o (fun _ hk => ⟨hk.2.2.1, ⟨hk.2.2.2, hk.2.1⟩⟩)⟩, ⟨by (try simp only [Ab]); refine rK ?_; exact Kd.Rm A2.o (fun _ hk => ⟨hk.2.2.1, ⟨hk.2.2.2, hk.2.1⟩⟩)⟩, ⟨by (try simp only [Ab]); refine rK ?_; exact Kd.Rm B2.o (fun _ hk => ⟨hk.2.1, ⟨hk.2.2.1, hk.2.2.2⟩⟩)⟩, ⟨by (try simp only [Ab]); refine bK ?_; exact A0.o⟩, ⟨by (try simp only [Ab]); refine bK ?_; exact A1.o⟩, ⟨by (try simp only [Ab]); refine bK ?_; exact A6.o⟩, ⟨by (try simp only [Ab]); refine bK ?_; exact A7.o⟩, ⟨by (try simp only [Ab]); refine bK ?_; exact A8.o⟩, ⟨by (try simp only [Ab]); refine bK ?_; exact Ao.o⟩, ⟨vB HB⟩⟩
            ·(rw [if_neg c152] at H; exact absurd H (laws_FnExactPutCell.bad_j2 _ _ _ _ _))
           case rest =>
            clear Ci
            obtain ⟨kq, Bo, rfl, HA, Gy, A4, A3, A2, Bp, A0, A1, A6, A7, A8, Ao, HB⟩ := hcut
            have Aw := (Kd.RrZ A2.o).1
            rw [Aw] at A2
            (try simp only [Aw])
            (try simp only [Aw] at A0)
            (try simp only [Aw] at A1)
            (try simp only [Aw] at A6)
            (try simp only [Aw] at A7)
            (try simp only [Aw] at A8)
            (try simp only [Aw] at Ao)
            (try simp only [Aw] at A4)
            (try simp only [Aw] at A3)
            (try simp only [Aw] at Bp)
            cases kq with
            | zero => exact absurd HA.o (by simp [laws_FnExactPutCell.j2])
            | succ kj130 =>
             have H := HA.o
             clear HA
             simp only [laws_FnExactPutCell.j2] at H
             by_cases c177 : Bo = true
             ·(rw [if_pos c177] at H; exact absurd H (by decide))
             ·replace c177 := Bool.eq_false_iff.mpr c177
              subst c177
              have H1 : ((laws_heldBoard.f kj130 Ak Al B0 1).bind fun C7 => (if C7 < 0 then (some false) else (if C7 = Bd then (some true) else (some false)))) = some true := by rw [if_neg (show ¬ (false = true) by decide)] at H; exact H
              clear H
              have H := H1
              clear H1
              replace H := Option.bind_eq_some_iff.mp H
              obtain ⟨C7, CA, H⟩ := H
              replace H : (if C7 < 0 then (some false) else (if C7 = Bd then (some true) else (some false))) = some true := H
              have FD := Z.m CA
              clear CA
              by_cases c179 : C7 < 0
              ·(rw [if_pos c179] at H; exact absurd H (by decide))
              ·rw [if_neg c179] at H
               have Cj := decide_eq_false c179
               (try simp only [Ab] at Cj)
               (try simp only [Aw] at Cj)
               clear c179
               by_cases c187 : C7 = Bd
               ·rw [if_pos c187] at H
                have FH := beq_iff_eq.mpr c187
                have FI := bne_eq_false_iff_eq.mpr c187
                clear c187
                clear H
                have G2 := AN.o
                have Gn := AE.o
                have G3 := AO.o
                have Go := Am.o
                have G4 := AG.o
                have Gp := AB.o
                have G5 := AH.o
                have Gq := Ad.o
                have G6 := AI.o
                have Gr := AP.o
                have Dn := bc0 A8
                have Do := bc1 A8
                have Dp := bc2 A8
                have DF := qz A8.o 0
                have DG := qz A8.o 1
                have DH := qz A8.o 2
                go_wp2_with (first | ((with_reducible refine gc (f := 26) rfl ?_); refine gA (some 108) _ #[.agg #[.int .i64 Ak, .int .i64 Al, .slice AX B0.length AW], .int .i64 1] ?_ Try.func26; (with_reducible refine (laws_heldBoard.calls kj130 Ak Al _ _ B0 1 C7 _ ?side1 ?side2 FD.o).mono ?_); (case side1 => repeat (first | exact (Kd.RrZ A2.o).2.2 | (with_reducible refine Kd.C_alloc ?_ _) | (with_reducible refine Kd.C_drewN ?_ _) | (with_reducible refine Kd.C_drew ?_))); (case side2 => exact (Kd.RrZ A2.o).2.1); rintro e HL ⟨rfl, hb⟩; refine ⟨_, rfl, ?_⟩; replace A4 := Z.m (Kd.Rb (vR A4) hb); replace A3 := Z.m (Kd.Rb (vR A3) hb); replace A2 := Z.m (Kd.Rb (vR A2) hb); replace Bp := Z.m (Kd.Rb (vR Bp) hb); replace A0 := kB A0 hb; replace A1 := kB A1 hb; replace A6 := kB A6 hb; replace A7 := kB A7 hb; replace A8 := kB A8 hb; replace Ao := kB Ao hb; replace HB := bB HB hb; (try clear hb); (try clear CN); (try clear hk); (try clear hi)))
                go_ret
                exact ⟨by first | rfl | (simp [eN, eS] <;> rfl) | (simp [*, eN, eS] <;> rfl), vB HB⟩
               ·(rw [if_neg c187] at H; exact absurd H (by decide))
          ·(rw [if_neg c127] at H; exact absurd H (by decide))
     ·(rw [if_neg c79] at H; exact absurd H (by decide))

end Go.Proofs.Yteodcegmkbcjjaa.PAll
