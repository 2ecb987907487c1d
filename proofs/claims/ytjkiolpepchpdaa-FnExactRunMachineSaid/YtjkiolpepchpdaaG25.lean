/- Began as a text that print.sh wrote (of the functions named below); turned and shortened by this session. -/
import Derived.Test.YtjkiolpepchpdaaG0
import Derived.Test.YtjkiolpepchpdaaG1
import Derived.Test.YtjkiolpepchpdaaG10
import Derived.Test.YtjkiolpepchpdaaG11
import Derived.Test.YtjkiolpepchpdaaG20
import Derived.Test.YtjkiolpepchpdaaG22
import Derived.Test.YtjkiolpepchpdaaG23
import Derived.Test.YtjkiolpepchpdaaG24
namespace Go.Proofs.Ytjkiolpepchpdaa.PAll
open Go.RowKit Go.Proofs.YtjkiolpepchpdaaW.PrintWords Go.Proofs.YtjkiolpepchpdaaW.PrintLast Go.Proofs.YtjkiolpepchpdaaW.PrintMore
attribute [local go_sem] max2_int min2_int max_two min_two max_three min_three max_four min_four   -- for this text's walks alone
set_option linter.unusedVariables false
set_option linter.unusedSimpArgs false

/-! ### laws_FnExactRunMachine: function 3 -/
mutual
def laws_FnExactRunMachine.j0 : Nat → Int → Int → Bool → Int → Bool → Bool → Int → Int → List (S93) → Int → Int → Int → Int → Int → Int → Int → List (S88) → Int → Int → Int → Int → Int → Int → Int → List (S88) → Int → Int → Int → Int → Int → Int → Int → List (S88) → Int → Int → Int → Int → Int → Option (Bool)
 | 0, _, _, _, _, _, _, _, _, _, _, _, _, _, _, _, _, _, _, _, _, _, _, _, _, _, _, _, _, _, _, _, _, _, _, _, _, _, _ => none
 | k + 1, x1, x7, x8, x11, x12, x54, x503000, x503001, x503002, x503003, x503004, x503005, x503006, x503007, x527000, x527001, x527002, x527003, x527004, x527005, x527006, x527007, x538000, x538001, x538002, x538003, x538004, x538005, x538006, x538007, x551000, x551001, x551002, x551003, x551004, x551005, x551006, x551007 => if x54 = true then (some false) else ((laws_toMachine.f k x503000 x503001 x503002 x503003 x503004 x503005 x503006 x503007).bind fun bt552 => ((laws_eqMachine.f k x538000 x538001 x538002 x538003 x538004 x538005 x538006 x538007 bt552.1 bt552.2.1 bt552.2.2.1 bt552.2.2.2.1 bt552.2.2.2.2.1 bt552.2.2.2.2.2.1 bt552.2.2.2.2.2.2.1 bt552.2.2.2.2.2.2.2).bind fun t562 => (if t562 = true then ((laws_markMachine.f k x538000 x538001 x538002 x538003 x538004 x538005 x538006 x538007 1).bind fun bt563 => (if bt563.1 < 0 then (laws_FnExactRunMachine.j1 k x1 x7 x8 true x503000 x503001 x503002 x503003 x503004 x503005 x503006 x503007 x527000 x527001 x527002 x527003 x527004 x527005 x527006 x527007 x551000 x551001 x551002 x551003 x551004 x551005 x551006 x551007) else ((laws_eqMachine.f k x551000 x551001 x551002 x551003 x551004 x551005 x551006 x551007 x527000 x527001 x527002 x527003 x527004 x527005 x527006 x527007).bind fun t565 => (if t565 = true then (if x11 = x7 then (laws_FnExactRunMachine.j1 k x1 x7 x8 (x12 != x8) x503000 x503001 x503002 x503003 x503004 x503005 x503006 x503007 x527000 x527001 x527002 x527003 x527004 x527005 x527006 x527007 x551000 x551001 x551002 x551003 x551004 x551005 x551006 x551007) else (laws_FnExactRunMachine.j1 k x1 x7 x8 true x503000 x503001 x503002 x503003 x503004 x503005 x503006 x503007 x527000 x527001 x527002 x527003 x527004 x527005 x527006 x527007 x551000 x551001 x551002 x551003 x551004 x551005 x551006 x551007)) else (laws_FnExactRunMachine.j1 k x1 x7 x8 true x503000 x503001 x503002 x503003 x503004 x503005 x503006 x503007 x527000 x527001 x527002 x527003 x527004 x527005 x527006 x527007 x551000 x551001 x551002 x551003 x551004 x551005 x551006 x551007))))) else (some false))))
def laws_FnExactRunMachine.j1 : Nat → Int → Int → Bool → Bool → Int → Int → List (S93) → Int → Int → Int → Int → Int → Int → Int → List (S88) → Int → Int → Int → Int → Int → Int → Int → List (S88) → Int → Int → Int → Int → Int → Option (Bool)
 | 0, _, _, _, _, _, _, _, _, _, _, _, _, _, _, _, _, _, _, _, _, _, _, _, _, _, _, _, _ => none
 | k + 1, x1, x7, x8, x80, x503000, x503001, x503002, x503003, x503004, x503005, x503006, x503007, x527000, x527001, x527002, x527003, x527004, x527005, x527006, x527007, x551000, x551001, x551002, x551003, x551004, x551005, x551006, x551007 => if x80 = true then (some false) else ((laws_markMachine.f k x551000 x551001 x551002 x551003 x551004 x551005 x551006 x551007 1).bind fun bt566 => ((laws_heldMachine.f k x551000 x551001 bt566.2 x551003 x551004 x551005 x551006 x551007 1).bind fun t568 => (if t568 < 0 then (some false) else (if t568 = bt566.1 then ((laws_toMachine.f k x503000 x503001 x503002 x503003 x503004 x503005 x503006 x503007).bind fun bt569 => ((impl_RunMachine.f k bt569.1 bt569.2.1 bt569.2.2.1 bt569.2.2.2.1 bt569.2.2.2.2.1 bt569.2.2.2.2.2.1 bt569.2.2.2.2.2.2.1 bt569.2.2.2.2.2.2.2 x1).bind fun bt579 => ((laws_eqMachine.f k bt579.1 bt579.2.1 bt579.2.2.1 bt579.2.2.2.1 bt579.2.2.2.2.1 bt579.2.2.2.2.2.1 bt579.2.2.2.2.2.2.1 bt579.2.2.2.2.2.2.2.1 x527000 x527001 x527002 x527003 x527004 x527005 x527006 x527007).bind fun t592 => (if t592 = true then (if bt579.2.2.2.2.2.2.2.2.1 = x7 then (laws_FnExactRunMachine.j2 k bt566.1 (bt579.2.2.2.2.2.2.2.2.2 != x8) x551000 x551001 bt566.2 x551003 x551004 x551005 x551006 x551007) else (laws_FnExactRunMachine.j2 k bt566.1 true x551000 x551001 bt566.2 x551003 x551004 x551005 x551006 x551007)) else (laws_FnExactRunMachine.j2 k bt566.1 true x551000 x551001 bt566.2 x551003 x551004 x551005 x551006 x551007))))) else (some false)))))
def laws_FnExactRunMachine.j2 : Nat → Int → Bool → Int → Int → List (S88) → Int → Int → Int → Int → Int → Option (Bool)
 | 0, _, _, _, _, _, _, _, _, _, _ => none
 | k + 1, x14, x113, x551000, x551001, x551002, x551003, x551004, x551005, x551006, x551007 => if x113 = true then (some false) else ((laws_heldMachine.f k x551000 x551001 x551002 x551003 x551004 x551005 x551006 x551007 1).bind fun t593 => (if t593 < 0 then (some false) else (if t593 = x14 then (some true) else (some false))))
end
def laws_FnExactRunMachine.f (k : Nat) (a0_0 : Int) (a0_1 : Int) (l0_2 : List (S93)) (a0_3 : Int) (a0_4 : Int) (a0_5 : Int) (a0_6 : Int) (a0_7 : Int) (a1 : Int) : Option (Bool) := (laws_szMachine.f a0_0 a0_1 l0_2 a0_3 a0_4 a0_5 a0_6 a0_7 1048576).bind fun t503 => (if t503 < 0 then (some true) else ((laws_toMachine.f k a0_0 a0_1 l0_2 a0_3 a0_4 a0_5 a0_6 a0_7).bind fun bt504 => ((spec_RunMachine.f k bt504.1 bt504.2.1 bt504.2.2.1 bt504.2.2.2.1 bt504.2.2.2.2.1 bt504.2.2.2.2.2.1 bt504.2.2.2.2.2.2.1 bt504.2.2.2.2.2.2.2 a1).bind fun bt514 => ((laws_toMachine.f k a0_0 a0_1 l0_2 a0_3 a0_4 a0_5 a0_6 a0_7).bind fun bt527 => ((impl_RunMachine.f k bt527.1 bt527.2.1 bt527.2.2.1 bt527.2.2.2.1 bt527.2.2.2.2.1 bt527.2.2.2.2.2.1 bt527.2.2.2.2.2.2.1 bt527.2.2.2.2.2.2.2 a1).bind fun bt538 => ((laws_eqMachine.f k bt538.1 bt538.2.1 bt538.2.2.1 bt538.2.2.2.1 bt538.2.2.2.2.1 bt538.2.2.2.2.2.1 bt538.2.2.2.2.2.2.1 bt538.2.2.2.2.2.2.2.1 bt514.1 bt514.2.1 bt514.2.2.1 bt514.2.2.2.1 bt514.2.2.2.2.1 bt514.2.2.2.2.2.1 bt514.2.2.2.2.2.2.1 bt514.2.2.2.2.2.2.2.1).bind fun t551 => (if t551 = true then (if bt538.2.2.2.2.2.2.2.2.1 = bt514.2.2.2.2.2.2.2.2.1 then (laws_FnExactRunMachine.j0 k a1 bt514.2.2.2.2.2.2.2.2.1 bt514.2.2.2.2.2.2.2.2.2 bt538.2.2.2.2.2.2.2.2.1 bt538.2.2.2.2.2.2.2.2.2 (bt538.2.2.2.2.2.2.2.2.2 != bt514.2.2.2.2.2.2.2.2.2) a0_0 a0_1 l0_2 a0_3 a0_4 a0_5 a0_6 a0_7 bt514.1 bt514.2.1 bt514.2.2.1 bt514.2.2.2.1 bt514.2.2.2.2.1 bt514.2.2.2.2.2.1 bt514.2.2.2.2.2.2.1 bt514.2.2.2.2.2.2.2.1 bt527.1 bt527.2.1 bt527.2.2.1 bt527.2.2.2.1 bt527.2.2.2.2.1 bt527.2.2.2.2.2.1 bt527.2.2.2.2.2.2.1 bt527.2.2.2.2.2.2.2 bt538.1 bt538.2.1 bt538.2.2.1 bt538.2.2.2.1 bt538.2.2.2.2.1 bt538.2.2.2.2.2.1 bt538.2.2.2.2.2.2.1 bt538.2.2.2.2.2.2.2.1) else (laws_FnExactRunMachine.j0 k a1 bt514.2.2.2.2.2.2.2.2.1 bt514.2.2.2.2.2.2.2.2.2 bt538.2.2.2.2.2.2.2.2.1 bt538.2.2.2.2.2.2.2.2.2 true a0_0 a0_1 l0_2 a0_3 a0_4 a0_5 a0_6 a0_7 bt514.1 bt514.2.1 bt514.2.2.1 bt514.2.2.2.1 bt514.2.2.2.2.1 bt514.2.2.2.2.2.1 bt514.2.2.2.2.2.2.1 bt514.2.2.2.2.2.2.2.1 bt527.1 bt527.2.1 bt527.2.2.1 bt527.2.2.2.1 bt527.2.2.2.2.1 bt527.2.2.2.2.2.1 bt527.2.2.2.2.2.2.1 bt527.2.2.2.2.2.2.2 bt538.1 bt538.2.1 bt538.2.2.1 bt538.2.2.2.1 bt538.2.2.2.2.1 bt538.2.2.2.2.2.1 bt538.2.2.2.2.2.2.1 bt538.2.2.2.2.2.2.2.1)) else (laws_FnExactRunMachine.j0 k a1 bt514.2.2.2.2.2.2.2.2.1 bt514.2.2.2.2.2.2.2.2.2 bt538.2.2.2.2.2.2.2.2.1 bt538.2.2.2.2.2.2.2.2.2 true a0_0 a0_1 l0_2 a0_3 a0_4 a0_5 a0_6 a0_7 bt514.1 bt514.2.1 bt514.2.2.1 bt514.2.2.2.1 bt514.2.2.2.2.1 bt514.2.2.2.2.2.1 bt514.2.2.2.2.2.2.1 bt514.2.2.2.2.2.2.2.1 bt527.1 bt527.2.1 bt527.2.2.1 bt527.2.2.2.1 bt527.2.2.2.2.1 bt527.2.2.2.2.2.1 bt527.2.2.2.2.2.2.1 bt527.2.2.2.2.2.2.2 bt538.1 bt538.2.1 bt538.2.2.1 bt538.2.2.2.1 bt538.2.2.2.2.1 bt538.2.2.2.2.2.1 bt538.2.2.2.2.2.2.1 bt538.2.2.2.2.2.2.2.1))))))))
theorem laws_FnExactRunMachine.bad_j0 (k : Nat) (y0 : Int) (y1 : Int) (y2 : Bool) (y3 : Int) (y4 : Bool) (y6 : Int) (y7 : Int) (y8 : List (S93)) (y9 : Int) (y10 : Int) (y11 : Int) (y12 : Int) (y13 : Int) (y14 : Int) (y15 : Int) (y16 : List (S88)) (y17 : Int) (y18 : Int) (y19 : Int) (y20 : Int) (y21 : Int) (y22 : Int) (y23 : Int) (y24 : List (S88)) (y25 : Int) (y26 : Int) (y27 : Int) (y28 : Int) (y29 : Int) (y30 : Int) (y31 : Int) (y32 : List (S88)) (y33 : Int) (y34 : Int) (y35 : Int) (y36 : Int) (y37 : Int) : ¬ laws_FnExactRunMachine.j0 k y0 y1 y2 y3 y4 true y6 y7 y8 y9 y10 y11 y12 y13 y14 y15 y16 y17 y18 y19 y20 y21 y22 y23 y24 y25 y26 y27 y28 y29 y30 y31 y32 y33 y34 y35 y36 y37 = some true := by
 cases k <;> simp [laws_FnExactRunMachine.j0]
theorem laws_FnExactRunMachine.bad_j1 (k : Nat) (y0 : Int) (y1 : Int) (y2 : Bool) (y4 : Int) (y5 : Int) (y6 : List (S93)) (y7 : Int) (y8 : Int) (y9 : Int) (y10 : Int) (y11 : Int) (y12 : Int) (y13 : Int) (y14 : List (S88)) (y15 : Int) (y16 : Int) (y17 : Int) (y18 : Int) (y19 : Int) (y20 : Int) (y21 : Int) (y22 : List (S88)) (y23 : Int) (y24 : Int) (y25 : Int) (y26 : Int) (y27 : Int) : ¬ laws_FnExactRunMachine.j1 k y0 y1 y2 true y4 y5 y6 y7 y8 y9 y10 y11 y12 y13 y14 y15 y16 y17 y18 y19 y20 y21 y22 y23 y24 y25 y26 y27 = some true := by
 cases k <;> simp [laws_FnExactRunMachine.j1]
theorem laws_FnExactRunMachine.bad_j2 (k : Nat) (y0 : Int) (y2 : Int) (y3 : Int) (y4 : List (S88)) (y5 : Int) (y6 : Int) (y7 : Int) (y8 : Int) (y9 : Int) : ¬ laws_FnExactRunMachine.j2 k y0 true y2 y3 y4 y5 y6 y7 y8 y9 = some true := by
 cases k <;> simp [laws_FnExactRunMachine.j2]
set_option maxHeartbeats 8000000 in
set_option maxRecDepth 100000 in
theorem laws_FnExactRunMachine.calls (k : Nat) (a0_0 : Int) (a0_1 : Int) (A0_2 : Option Addr) (c0_2 : Nat) (l0_2 : List (S93)) (a0_3 : Int) (a0_4 : Int) (a0_5 : Int) (a0_6 : Int) (a0_7 : Int) (a1 : Int) (w : World) (hr0_2 : Kd.C k93 w A0_2 l0_2.length l0_2) (hc0_2 : l0_2.length ≤ c0_2) (h : laws_FnExactRunMachine.f k a0_0 a0_1 l0_2 a0_3 a0_4 a0_5 a0_6 a0_7 a1 = some true) :
 Calls Try.prog 3 #[.agg #[.int .i64 a0_0, .int .i64 a0_1, .slice A0_2 l0_2.length c0_2, .int .i64 a0_3, .int .i64 a0_4, .int .i64 a0_5, .int .i64 a0_6, .int .i64 a0_7], .int .i64 a1] w fun e w' => e = .returned (.bool true) ∧ Below w.heap.size w w' := by
 have MO := Try.underlying26
 have MP := Try.underlying32
 have Bz := Z.m hr0_2
 have By := Z.m hc0_2
 clear hr0_2 hc0_2
 have HB := Z.m (Below.refl w.heap.size w)
 have H : ((laws_szMachine.f a0_0 a0_1 l0_2 a0_3 a0_4 a0_5 a0_6 a0_7 1048576).bind fun BS => (if BS < 0 then (some true) else ((laws_toMachine.f k a0_0 a0_1 l0_2 a0_3 a0_4 a0_5 a0_6 a0_7).bind fun bt504 => ((spec_RunMachine.f k bt504.1 bt504.2.1 bt504.2.2.1 bt504.2.2.2.1 bt504.2.2.2.2.1 bt504.2.2.2.2.2.1 bt504.2.2.2.2.2.2.1 bt504.2.2.2.2.2.2.2 a1).bind fun bt514 => ((laws_toMachine.f k a0_0 a0_1 l0_2 a0_3 a0_4 a0_5 a0_6 a0_7).bind fun bt527 => ((impl_RunMachine.f k bt527.1 bt527.2.1 bt527.2.2.1 bt527.2.2.2.1 bt527.2.2.2.2.1 bt527.2.2.2.2.2.1 bt527.2.2.2.2.2.2.1 bt527.2.2.2.2.2.2.2 a1).bind fun bt538 => ((laws_eqMachine.f k bt538.1 bt538.2.1 bt538.2.2.1 bt538.2.2.2.1 bt538.2.2.2.2.1 bt538.2.2.2.2.2.1 bt538.2.2.2.2.2.2.1 bt538.2.2.2.2.2.2.2.1 bt514.1 bt514.2.1 bt514.2.2.1 bt514.2.2.2.1 bt514.2.2.2.2.1 bt514.2.2.2.2.2.1 bt514.2.2.2.2.2.2.1 bt514.2.2.2.2.2.2.2.1).bind fun Bn => (if Bn = true then (if bt538.2.2.2.2.2.2.2.2.1 = bt514.2.2.2.2.2.2.2.2.1 then (laws_FnExactRunMachine.j0 k a1 bt514.2.2.2.2.2.2.2.2.1 bt514.2.2.2.2.2.2.2.2.2 bt538.2.2.2.2.2.2.2.2.1 bt538.2.2.2.2.2.2.2.2.2 (bt538.2.2.2.2.2.2.2.2.2 != bt514.2.2.2.2.2.2.2.2.2) a0_0 a0_1 l0_2 a0_3 a0_4 a0_5 a0_6 a0_7 bt514.1 bt514.2.1 bt514.2.2.1 bt514.2.2.2.1 bt514.2.2.2.2.1 bt514.2.2.2.2.2.1 bt514.2.2.2.2.2.2.1 bt514.2.2.2.2.2.2.2.1 bt527.1 bt527.2.1 bt527.2.2.1 bt527.2.2.2.1 bt527.2.2.2.2.1 bt527.2.2.2.2.2.1 bt527.2.2.2.2.2.2.1 bt527.2.2.2.2.2.2.2 bt538.1 bt538.2.1 bt538.2.2.1 bt538.2.2.2.1 bt538.2.2.2.2.1 bt538.2.2.2.2.2.1 bt538.2.2.2.2.2.2.1 bt538.2.2.2.2.2.2.2.1) else (laws_FnExactRunMachine.j0 k a1 bt514.2.2.2.2.2.2.2.2.1 bt514.2.2.2.2.2.2.2.2.2 bt538.2.2.2.2.2.2.2.2.1 bt538.2.2.2.2.2.2.2.2.2 true a0_0 a0_1 l0_2 a0_3 a0_4 a0_5 a0_6 a0_7 bt514.1 bt514.2.1 bt514.2.2.1 bt514.2.2.2.1 bt514.2.2.2.2.1 bt514.2.2.2.2.2.1 bt514.2.2.2.2.2.2.1 bt514.2.2.2.2.2.2.2.1 bt527.1 bt527.2.1 bt527.2.2.1 bt527.2.2.2.1 bt527.2.2.2.2.1 bt527.2.2.2.2.2.1 bt527.2.2.2.2.2.2.1 bt527.2.2.2.2.2.2.2 bt538.1 bt538.2.1 bt538.2.2.1 bt538.2.2.2.1 bt538.2.2.2.2.1 bt538.2.2.2.2.2.1 bt538.2.2.2.2.2.2.1 bt538.2.2.2.2.2.2.2.1)) else (laws_FnExactRunMachine.j0 k a1 bt514.2.2.2.2.2.2.2.2.1 bt514.2.2.2.2.2.2.2.2.2 bt538.2.2.2.2.2.2.2.2.1 bt538.2.2.2.2.2.2.2.2.2 true a0_0 a0_1 l0_2 a0_3 a0_4 a0_5 a0_6 a0_7 bt514.1 bt514.2.1 bt514.2.2.1 bt514.2.2.2.1 bt514.2.2.2.2.1 bt514.2.2.2.2.2.1 bt514.2.2.2.2.2.2.1 bt514.2.2.2.2.2.2.2.1 bt527.1 bt527.2.1 bt527.2.2.1 bt527.2.2.2.1 bt527.2.2.2.2.1 bt527.2.2.2.2.2.1 bt527.2.2.2.2.2.2.1 bt527.2.2.2.2.2.2.2 bt538.1 bt538.2.1 bt538.2.2.1 bt538.2.2.2.1 bt538.2.2.2.2.1 bt538.2.2.2.2.2.1 bt538.2.2.2.2.2.2.1 bt538.2.2.2.2.2.2.2.1))))))))) = some true := h
 clear h
 replace H := Option.bind_eq_some_iff.mp H
 obtain ⟨BS, LN, H⟩ := H
 replace H : (if BS < 0 then (some true) else ((laws_toMachine.f k a0_0 a0_1 l0_2 a0_3 a0_4 a0_5 a0_6 a0_7).bind fun bt504 => ((spec_RunMachine.f k bt504.1 bt504.2.1 bt504.2.2.1 bt504.2.2.2.1 bt504.2.2.2.2.1 bt504.2.2.2.2.2.1 bt504.2.2.2.2.2.2.1 bt504.2.2.2.2.2.2.2 a1).bind fun bt514 => ((laws_toMachine.f k a0_0 a0_1 l0_2 a0_3 a0_4 a0_5 a0_6 a0_7).bind fun bt527 => ((impl_RunMachine.f k bt527.1 bt527.2.1 bt527.2.2.1 bt527.2.2.2.1 bt527.2.2.2.2.1 bt527.2.2.2.2.2.1 bt527.2.2.2.2.2.2.1 bt527.2.2.2.2.2.2.2 a1).bind fun bt538 => ((laws_eqMachine.f k bt538.1 bt538.2.1 bt538.2.2.1 bt538.2.2.2.1 bt538.2.2.2.2.1 bt538.2.2.2.2.2.1 bt538.2.2.2.2.2.2.1 bt538.2.2.2.2.2.2.2.1 bt514.1 bt514.2.1 bt514.2.2.1 bt514.2.2.2.1 bt514.2.2.2.2.1 bt514.2.2.2.2.2.1 bt514.2.2.2.2.2.2.1 bt514.2.2.2.2.2.2.2.1).bind fun Bn => (if Bn = true then (if bt538.2.2.2.2.2.2.2.2.1 = bt514.2.2.2.2.2.2.2.2.1 then (laws_FnExactRunMachine.j0 k a1 bt514.2.2.2.2.2.2.2.2.1 bt514.2.2.2.2.2.2.2.2.2 bt538.2.2.2.2.2.2.2.2.1 bt538.2.2.2.2.2.2.2.2.2 (bt538.2.2.2.2.2.2.2.2.2 != bt514.2.2.2.2.2.2.2.2.2) a0_0 a0_1 l0_2 a0_3 a0_4 a0_5 a0_6 a0_7 bt514.1 bt514.2.1 bt514.2.2.1 bt514.2.2.2.1 bt514.2.2.2.2.1 bt514.2.2.2.2.2.1 bt514.2.2.2.2.2.2.1 bt514.2.2.2.2.2.2.2.1 bt527.1 bt527.2.1 bt527.2.2.1 bt527.2.2.2.1 bt527.2.2.2.2.1 bt527.2.2.2.2.2.1 bt527.2.2.2.2.2.2.1 bt527.2.2.2.2.2.2.2 bt538.1 bt538.2.1 bt538.2.2.1 bt538.2.2.2.1 bt538.2.2.2.2.1 bt538.2.2.2.2.2.1 bt538.2.2.2.2.2.2.1 bt538.2.2.2.2.2.2.2.1) else (laws_FnExactRunMachine.j0 k a1 bt514.2.2.2.2.2.2.2.2.1 bt514.2.2.2.2.2.2.2.2.2 bt538.2.2.2.2.2.2.2.2.1 bt538.2.2.2.2.2.2.2.2.2 true a0_0 a0_1 l0_2 a0_3 a0_4 a0_5 a0_6 a0_7 bt514.1 bt514.2.1 bt514.2.2.1 bt514.2.2.2.1 bt514.2.2.2.2.1 bt514.2.2.2.2.2.1 bt514.2.2.2.2.2.2.1 bt514.2.2.2.2.2.2.2.1 bt527.1 bt527.2.1 bt527.2.2.1 bt527.2.2.2.1 bt527.2.2.2.2.1 bt527.2.2.2.2.2.1 bt527.2.2.2.2.2.2.1 bt527.2.2.2.2.2.2.2 bt538.1 bt538.2.1 bt538.2.2.1 bt538.2.2.2.1 bt538.2.2.2.2.1 bt538.2.2.2.2.2.1 bt538.2.2.2.2.2.2.1 bt538.2.2.2.2.2.2.2.1)) else (laws_FnExactRunMachine.j0 k a1 bt514.2.2.2.2.2.2.2.2.1 bt514.2.2.2.2.2.2.2.2.2 bt538.2.2.2.2.2.2.2.2.1 bt538.2.2.2.2.2.2.2.2.2 true a0_0 a0_1 l0_2 a0_3 a0_4 a0_5 a0_6 a0_7 bt514.1 bt514.2.1 bt514.2.2.1 bt514.2.2.2.1 bt514.2.2.2.2.1 bt514.2.2.2.2.2.1 bt514.2.2.2.2.2.2.1 bt514.2.2.2.2.2.2.2.1 bt527.1 bt527.2.1 bt527.2.2.1 bt527.2.2.2.1 bt527.2.2.2.2.1 bt527.2.2.2.2.2.1 bt527.2.2.2.2.2.2.1 bt527.2.2.2.2.2.2.2 bt538.1 bt538.2.1 bt538.2.2.1 bt538.2.2.2.1 bt538.2.2.2.2.1 bt538.2.2.2.2.2.1 bt538.2.2.2.2.2.2.1 bt538.2.2.2.2.2.2.2.1)))))))) = some true := H
 have A3 := Z.m LN
 clear LN
 by_cases c4 : BS < 0
 ·rw [if_pos c4] at H
  have FP := decide_eq_true c4
  clear c4
  clear H
  go_enter Try.func3, Try.ntmps3
  go_wp2_with (first | ((with_reducible refine gq (N := 2) rfl ?_); refine be (N := 2) (cs := #[.int .i64 a0_0, .int .i64 a0_1, .slice A0_2 l0_2.length c0_2, .int .i64 a0_3, .int .i64 a0_4, .int .i64 a0_5, .int .i64 a0_6, .int .i64 a0_7]) (t := 26) ?_; intro AV hg w5 hbox hb; have A1 := Z.m (hbox); have BW := gW (w := w) HB hg; have BV := BW; replace HB := bB HB hb; clear hb hbox hg; have Kv := bc0 A1; have Kw := bc1 A1; have Kx := bc2 A1; have Ky := bc3 A1; have Kz := bc4 A1; have KA := bc5 A1; have KB := bc6 A1; have KC := bc7 A1; have KD := qz A1.o 0; have KE := qz A1.o 1; have KF := qz A1.o 2; have KG := qz A1.o 3; have KH := qz A1.o 4; have KI := qz A1.o 5; have KJ := qz A1.o 6; have KK := qz A1.o 7) | ((with_reducible refine gc (f := 10) rfl ?_); refine gA (some 21) _ #[.agg #[.int .i64 a0_0, .int .i64 a0_1, .slice A0_2 l0_2.length c0_2, .int .i64 a0_3, .int .i64 a0_4, .int .i64 a0_5, .int .i64 a0_6, .int .i64 a0_7], .int .i64 1048576] ?_ Try.func10; (with_reducible refine (laws_szMachine.calls a0_0 a0_1 _ _ l0_2 a0_3 a0_4 a0_5 a0_6 a0_7 1048576 BS _ ?side1 ?side2 A3.o).mono ?_); (case side1 => repeat (first | exact (Kd.C_below Bz.o HB.o) | (with_reducible refine Kd.C_alloc ?_ _) | (with_reducible refine Kd.C_drewN ?_ _) | (with_reducible refine Kd.C_drew ?_))); (case side2 => exact By.o); rintro e w7 ⟨rfl, hb⟩; refine ⟨_, rfl, ?_⟩; replace A1 := kB A1 hb; replace HB := bB HB hb; (try clear hb); (try clear BP); (try clear hk); (try clear hi)))
  go_ret
  exact ⟨by first | rfl | (simp [eN, eS] <;> rfl) | (simp [*, eN, eS] <;> rfl), vB HB⟩
 ·rw [if_neg c4] at H
  have FP := decide_eq_false c4
  clear c4
  replace H := Option.bind_eq_some_iff.mp H
  obtain ⟨⟨F0, F1, BA, F2, F3, F4, F5, F6⟩, LP, H⟩ := H
  replace H : ((spec_RunMachine.f k F0 F1 BA F2 F3 F4 F5 F6 a1).bind fun bt514 => ((laws_toMachine.f k a0_0 a0_1 l0_2 a0_3 a0_4 a0_5 a0_6 a0_7).bind fun bt527 => ((impl_RunMachine.f k bt527.1 bt527.2.1 bt527.2.2.1 bt527.2.2.2.1 bt527.2.2.2.2.1 bt527.2.2.2.2.2.1 bt527.2.2.2.2.2.2.1 bt527.2.2.2.2.2.2.2 a1).bind fun bt538 => ((laws_eqMachine.f k bt538.1 bt538.2.1 bt538.2.2.1 bt538.2.2.2.1 bt538.2.2.2.2.1 bt538.2.2.2.2.2.1 bt538.2.2.2.2.2.2.1 bt538.2.2.2.2.2.2.2.1 bt514.1 bt514.2.1 bt514.2.2.1 bt514.2.2.2.1 bt514.2.2.2.2.1 bt514.2.2.2.2.2.1 bt514.2.2.2.2.2.2.1 bt514.2.2.2.2.2.2.2.1).bind fun Bn => (if Bn = true then (if bt538.2.2.2.2.2.2.2.2.1 = bt514.2.2.2.2.2.2.2.2.1 then (laws_FnExactRunMachine.j0 k a1 bt514.2.2.2.2.2.2.2.2.1 bt514.2.2.2.2.2.2.2.2.2 bt538.2.2.2.2.2.2.2.2.1 bt538.2.2.2.2.2.2.2.2.2 (bt538.2.2.2.2.2.2.2.2.2 != bt514.2.2.2.2.2.2.2.2.2) a0_0 a0_1 l0_2 a0_3 a0_4 a0_5 a0_6 a0_7 bt514.1 bt514.2.1 bt514.2.2.1 bt514.2.2.2.1 bt514.2.2.2.2.1 bt514.2.2.2.2.2.1 bt514.2.2.2.2.2.2.1 bt514.2.2.2.2.2.2.2.1 bt527.1 bt527.2.1 bt527.2.2.1 bt527.2.2.2.1 bt527.2.2.2.2.1 bt527.2.2.2.2.2.1 bt527.2.2.2.2.2.2.1 bt527.2.2.2.2.2.2.2 bt538.1 bt538.2.1 bt538.2.2.1 bt538.2.2.2.1 bt538.2.2.2.2.1 bt538.2.2.2.2.2.1 bt538.2.2.2.2.2.2.1 bt538.2.2.2.2.2.2.2.1) else (laws_FnExactRunMachine.j0 k a1 bt514.2.2.2.2.2.2.2.2.1 bt514.2.2.2.2.2.2.2.2.2 bt538.2.2.2.2.2.2.2.2.1 bt538.2.2.2.2.2.2.2.2.2 true a0_0 a0_1 l0_2 a0_3 a0_4 a0_5 a0_6 a0_7 bt514.1 bt514.2.1 bt514.2.2.1 bt514.2.2.2.1 bt514.2.2.2.2.1 bt514.2.2.2.2.2.1 bt514.2.2.2.2.2.2.1 bt514.2.2.2.2.2.2.2.1 bt527.1 bt527.2.1 bt527.2.2.1 bt527.2.2.2.1 bt527.2.2.2.2.1 bt527.2.2.2.2.2.1 bt527.2.2.2.2.2.2.1 bt527.2.2.2.2.2.2.2 bt538.1 bt538.2.1 bt538.2.2.1 bt538.2.2.2.1 bt538.2.2.2.2.1 bt538.2.2.2.2.2.1 bt538.2.2.2.2.2.2.1 bt538.2.2.2.2.2.2.2.1)) else (laws_FnExactRunMachine.j0 k a1 bt514.2.2.2.2.2.2.2.2.1 bt514.2.2.2.2.2.2.2.2.2 bt538.2.2.2.2.2.2.2.2.1 bt538.2.2.2.2.2.2.2.2.2 true a0_0 a0_1 l0_2 a0_3 a0_4 a0_5 a0_6 a0_7 bt514.1 bt514.2.1 bt514.2.2.1 bt514.2.2.2.1 bt514.2.2.2.2.1 bt514.2.2.2.2.2.1 bt514.2.2.2.2.2.2.1 bt514.2.2.2.2.2.2.2.1 bt527.1 bt527.2.1 bt527.2.2.1 bt527.2.2.2.1 bt527.2.2.2.2.1 bt527.2.2.2.2.2.1 bt527.2.2.2.2.2.2.1 bt527.2.2.2.2.2.2.2 bt538.1 bt538.2.1 bt538.2.2.1 bt538.2.2.2.1 bt538.2.2.2.2.1 bt538.2.2.2.2.2.1 bt538.2.2.2.2.2.2.1 bt538.2.2.2.2.2.2.2.1)))))) = some true := H
  have A8 := Z.m LP
  clear LP
  replace H := Option.bind_eq_some_iff.mp H
  obtain ⟨⟨Al, Am, Ac, An, Ao, Ap, Aq, Ar, As, At⟩, LR, H⟩ := H
  replace H : ((laws_toMachine.f k a0_0 a0_1 l0_2 a0_3 a0_4 a0_5 a0_6 a0_7).bind fun bt527 => ((impl_RunMachine.f k bt527.1 bt527.2.1 bt527.2.2.1 bt527.2.2.2.1 bt527.2.2.2.2.1 bt527.2.2.2.2.2.1 bt527.2.2.2.2.2.2.1 bt527.2.2.2.2.2.2.2 a1).bind fun bt538 => ((laws_eqMachine.f k bt538.1 bt538.2.1 bt538.2.2.1 bt538.2.2.2.1 bt538.2.2.2.2.1 bt538.2.2.2.2.2.1 bt538.2.2.2.2.2.2.1 bt538.2.2.2.2.2.2.2.1 Al Am Ac An Ao Ap Aq Ar).bind fun Bn => (if Bn = true then (if bt538.2.2.2.2.2.2.2.2.1 = As then (laws_FnExactRunMachine.j0 k a1 As At bt538.2.2.2.2.2.2.2.2.1 bt538.2.2.2.2.2.2.2.2.2 (bt538.2.2.2.2.2.2.2.2.2 != At) a0_0 a0_1 l0_2 a0_3 a0_4 a0_5 a0_6 a0_7 Al Am Ac An Ao Ap Aq Ar bt527.1 bt527.2.1 bt527.2.2.1 bt527.2.2.2.1 bt527.2.2.2.2.1 bt527.2.2.2.2.2.1 bt527.2.2.2.2.2.2.1 bt527.2.2.2.2.2.2.2 bt538.1 bt538.2.1 bt538.2.2.1 bt538.2.2.2.1 bt538.2.2.2.2.1 bt538.2.2.2.2.2.1 bt538.2.2.2.2.2.2.1 bt538.2.2.2.2.2.2.2.1) else (laws_FnExactRunMachine.j0 k a1 As At bt538.2.2.2.2.2.2.2.2.1 bt538.2.2.2.2.2.2.2.2.2 true a0_0 a0_1 l0_2 a0_3 a0_4 a0_5 a0_6 a0_7 Al Am Ac An Ao Ap Aq Ar bt527.1 bt527.2.1 bt527.2.2.1 bt527.2.2.2.1 bt527.2.2.2.2.1 bt527.2.2.2.2.2.1 bt527.2.2.2.2.2.2.1 bt527.2.2.2.2.2.2.2 bt538.1 bt538.2.1 bt538.2.2.1 bt538.2.2.2.1 bt538.2.2.2.2.1 bt538.2.2.2.2.2.1 bt538.2.2.2.2.2.2.1 bt538.2.2.2.2.2.2.2.1)) else (laws_FnExactRunMachine.j0 k a1 As At bt538.2.2.2.2.2.2.2.2.1 bt538.2.2.2.2.2.2.2.2.2 true a0_0 a0_1 l0_2 a0_3 a0_4 a0_5 a0_6 a0_7 Al Am Ac An Ao Ap Aq Ar bt527.1 bt527.2.1 bt527.2.2.1 bt527.2.2.2.1 bt527.2.2.2.2.1 bt527.2.2.2.2.2.1 bt527.2.2.2.2.2.2.1 bt527.2.2.2.2.2.2.2 bt538.1 bt538.2.1 bt538.2.2.1 bt538.2.2.2.1 bt538.2.2.2.2.1 bt538.2.2.2.2.2.1 bt538.2.2.2.2.2.2.1 bt538.2.2.2.2.2.2.2.1))))) = some true := H
  have A9 := Z.m LR
  clear LR
  replace H := Option.bind_eq_some_iff.mp H
  obtain ⟨⟨AB, AC, Av, AD, AE, AF, AG, AH⟩, FC, H⟩ := H
  replace H : ((impl_RunMachine.f k AB AC Av AD AE AF AG AH a1).bind fun bt538 => ((laws_eqMachine.f k bt538.1 bt538.2.1 bt538.2.2.1 bt538.2.2.2.1 bt538.2.2.2.2.1 bt538.2.2.2.2.2.1 bt538.2.2.2.2.2.2.1 bt538.2.2.2.2.2.2.2.1 Al Am Ac An Ao Ap Aq Ar).bind fun Bn => (if Bn = true then (if bt538.2.2.2.2.2.2.2.2.1 = As then (laws_FnExactRunMachine.j0 k a1 As At bt538.2.2.2.2.2.2.2.2.1 bt538.2.2.2.2.2.2.2.2.2 (bt538.2.2.2.2.2.2.2.2.2 != At) a0_0 a0_1 l0_2 a0_3 a0_4 a0_5 a0_6 a0_7 Al Am Ac An Ao Ap Aq Ar AB AC Av AD AE AF AG AH bt538.1 bt538.2.1 bt538.2.2.1 bt538.2.2.2.1 bt538.2.2.2.2.1 bt538.2.2.2.2.2.1 bt538.2.2.2.2.2.2.1 bt538.2.2.2.2.2.2.2.1) else (laws_FnExactRunMachine.j0 k a1 As At bt538.2.2.2.2.2.2.2.2.1 bt538.2.2.2.2.2.2.2.2.2 true a0_0 a0_1 l0_2 a0_3 a0_4 a0_5 a0_6 a0_7 Al Am Ac An Ao Ap Aq Ar AB AC Av AD AE AF AG AH bt538.1 bt538.2.1 bt538.2.2.1 bt538.2.2.2.1 bt538.2.2.2.2.1 bt538.2.2.2.2.2.1 bt538.2.2.2.2.2.2.1 bt538.2.2.2.2.2.2.2.1)) else (laws_FnExactRunMachine.j0 k a1 As At bt538.2.2.2.2.2.2.2.2.1 bt538.2.2.2.2.2.2.2.2.2 true a0_0 a0_1 l0_2 a0_3 a0_4 a0_5 a0_6 a0_7 Al Am Ac An Ao Ap Aq Ar AB AC Av AD AE AF AG AH bt538.1 bt538.2.1 bt538.2.2.1 bt538.2.2.2.1 bt538.2.2.2.2.1 bt538.2.2.2.2.2.1 bt538.2.2.2.2.2.2.1 bt538.2.2.2.2.2.2.2.1)))) = some true := H
  have MJ := Z.m FC
  clear FC
  replace H := Option.bind_eq_some_iff.mp H
  obtain ⟨⟨Ad, Ae, Ak, Af, Ag, Ah, Ai, Aj, B2, B3⟩, D9, H⟩ := H
  replace H : ((laws_eqMachine.f k Ad Ae Ak Af Ag Ah Ai Aj Al Am Ac An Ao Ap Aq Ar).bind fun Bn => (if Bn = true then (if B2 = As then (laws_FnExactRunMachine.j0 k a1 As At B2 B3 (B3 != At) a0_0 a0_1 l0_2 a0_3 a0_4 a0_5 a0_6 a0_7 Al Am Ac An Ao Ap Aq Ar AB AC Av AD AE AF AG AH Ad Ae Ak Af Ag Ah Ai Aj) else (laws_FnExactRunMachine.j0 k a1 As At B2 B3 true a0_0 a0_1 l0_2 a0_3 a0_4 a0_5 a0_6 a0_7 Al Am Ac An Ao Ap Aq Ar AB AC Av AD AE AF AG AH Ad Ae Ak Af Ag Ah Ai Aj)) else (laws_FnExactRunMachine.j0 k a1 As At B2 B3 true a0_0 a0_1 l0_2 a0_3 a0_4 a0_5 a0_6 a0_7 Al Am Ac An Ao Ap Aq Ar AB AC Av AD AE AF AG AH Ad Ae Ak Af Ag Ah Ai Aj))) = some true := H
  have MK := Z.m D9
  clear D9
  have Fw := Z.m H
  clear H
  go_enter Try.func3, Try.ntmps3
  go_upto_region 8 with (first | ((with_reducible refine gq (N := 2) rfl ?_); refine be (N := 2) (cs := #[.int .i64 a0_0, .int .i64 a0_1, .slice A0_2 l0_2.length c0_2, .int .i64 a0_3, .int .i64 a0_4, .int .i64 a0_5, .int .i64 a0_6, .int .i64 a0_7]) (t := 26) ?_; intro AV hg N6 hbox hb; have A1 := Z.m (hbox); have BW := gW (w := w) HB hg; have BV := BW; replace HB := bB HB hb; clear hb hbox hg; have Da := bc0 A1; have Db := bc1 A1; have Dc := bc2 A1; have Dd := bc3 A1; have De := bc4 A1; have Df := bc5 A1; have Dg := bc6 A1; have Dh := bc7 A1; have E4 := qz A1.o 0; have E5 := qz A1.o 1; have E6 := qz A1.o 2; have E7 := qz A1.o 3; have E8 := qz A1.o 4; have E9 := qz A1.o 5; have Ea := qz A1.o 6; have Eb := qz A1.o 7) | ((with_reducible refine gc (f := 10) rfl ?_); refine gA (some 21) _ #[.agg #[.int .i64 a0_0, .int .i64 a0_1, .slice A0_2 l0_2.length c0_2, .int .i64 a0_3, .int .i64 a0_4, .int .i64 a0_5, .int .i64 a0_6, .int .i64 a0_7], .int .i64 1048576] ?_ Try.func10; (with_reducible refine (laws_szMachine.calls a0_0 a0_1 _ _ l0_2 a0_3 a0_4 a0_5 a0_6 a0_7 1048576 BS _ ?side1 ?side2 A3.o).mono ?_); (case side1 => repeat (first | exact (Kd.C_below Bz.o HB.o) | (with_reducible refine Kd.C_alloc ?_ _) | (with_reducible refine Kd.C_drewN ?_ _) | (with_reducible refine Kd.C_drew ?_))); (case side2 => exact By.o); rintro e N7 ⟨rfl, hb⟩; refine ⟨_, rfl, ?_⟩; replace A1 := kB A1 hb; replace HB := bB HB hb; (try clear hb); (try clear BP); (try clear hk); (try clear hi); have Di := bc0 A1; have Dj := bc1 A1; have Dk := bc2 A1; have Dl := bc3 A1; have Dm := bc4 A1; have Dn := bc5 A1; have Do := bc6 A1; have Dp := bc7 A1; have Ec := qz A1.o 0; have Ed := qz A1.o 1; have Ee := qz A1.o 2; have Ef := qz A1.o 3; have Eg := qz A1.o 4; have Eh := qz A1.o 5; have Ei := qz A1.o 6; have Ej := qz A1.o 7) | ((with_reducible refine gc (f := 12) rfl ?_); refine gA (some 26) _ #[.agg #[.int .i64 a0_0, .int .i64 a0_1, .slice A0_2 l0_2.length c0_2, .int .i64 a0_3, .int .i64 a0_4, .int .i64 a0_5, .int .i64 a0_6, .int .i64 a0_7]] ?_ Try.func12; (with_reducible refine (laws_toMachine.calls k a0_0 a0_1 _ _ l0_2 a0_3 a0_4 a0_5 a0_6 a0_7 F0 F1 BA F2 F3 F4 F5 F6 _ ?side1 ?side2 A8.o).mono ?_); (case side1 => repeat (first | exact (Kd.C_below Bz.o HB.o) | (with_reducible refine Kd.C_alloc ?_ _) | (with_reducible refine Kd.C_drewN ?_ _) | (with_reducible refine Kd.C_drew ?_))); (case side2 => exact By.o); rintro e N8 ⟨MQ, rfl, Bg, hb⟩; refine ⟨_, rfl, ?_⟩; have AP := Z.m (Kd.R_lower Bg (below_size (vB HB))); replace A1 := kB A1 hb; replace HB := bB HB hb; (try clear hb); (try clear BP); (try clear hk); (try clear hi); (try clear Bg); obtain ⟨BQ, BR, Kr⟩ := Kd.R_slice AP.o; subst Kr) | ((with_reducible refine gc (f := 11) rfl ?_); refine gA (some 28) _ #[.agg #[.int .i64 F0, .int .i64 F1, .slice BQ BA.length BR, .int .i64 F2, .int .i64 F3, .int .i64 F4, .int .i64 F5, .int .i64 F6], .int .i64 a1] ?_ Try.func11; (with_reducible refine (spec_RunMachine.calls k F0 F1 _ _ BA F2 F3 F4 F5 F6 a1 Al Am Ac An Ao Ap Aq Ar As At _ ?side1 ?side2 A9.o).mono ?_); (case side1 => repeat (first | exact (Kd.RrZ AP.o).2.2 | (with_reducible refine Kd.C_alloc ?_ _) | (with_reducible refine Kd.C_drewN ?_ _) | (with_reducible refine Kd.C_drew ?_))); (case side2 => exact (Kd.RrZ AP.o).2.1); rintro e N9 ⟨MR, rfl, Bg, hb⟩; refine ⟨_, rfl, ?_⟩; have AI := Z.m (Kd.R_lower (Kd.R_new' Bg (Kd.R_lt (vR AP))) (below_size (vB HB))); replace AP := Z.m (Kd.R_elder' (vR AP) (Kd.R_base Bg) hb); replace A1 := kB A1 hb; replace HB := bB HB hb; (try clear hb); (try clear BP); (try clear hk); (try clear hi); (try clear Bg)) | ((with_reducible refine gq (N := 6) rfl ?_); refine be (N := 6) (cs := #[.int .i64 0, .int .i64 0, .slice none 0 0, .int .i64 0, .int .i64 0, .int .i64 0, .int .i64 0, .int .i64 0]) (t := 32) ?_; intro Bm hg Na hbox hb; have A2 := Z.m (hbox); have FJ := gW (w := w) HB hg; have Fr := FJ; have AL := neL A1 hg; have AR := neG A1 hg; replace AP := Z.m (Kd.Rb (vR AP) hb); replace AI := Z.m (Kd.Rb (vR AI) hb); replace A1 := kB A1 hb; replace HB := bB HB hb; clear hb hbox hg; have LX := AR.o; have Ml := AL.o; have Dq := bc0 A2; have Dr := bc1 A2; have Ds := bc2 A2; have Dt := bc3 A2; have Du := bc4 A2; have Dv := bc5 A2; have Dw := bc6 A2; have Dx := bc7 A2; have Ek := qz A2.o 0; have El := qz A2.o 1; have Em := qz A2.o 2; have En := qz A2.o 3; have Eo := qz A2.o 4; have Ep := qz A2.o 5; have Er := qz A2.o 6; have Es := qz A2.o 7; obtain ⟨AQ, AJ, Ks⟩ := Kd.R_slice AI.o; subst Ks; have Dy := bc0 A1; have Dz := bc1 A1; have DA := bc2 A1; have DB := bc3 A1; have DC := bc4 A1; have DD := bc5 A1; have DE := bc6 A1; have DF := bc7 A1; have Et := qz A1.o 0; have Eu := qz A1.o 1; have Ew := qz A1.o 2; have Ex := qz A1.o 3; have Ey := qz A1.o 4; have Ez := qz A1.o 5; have EA := qz A1.o 6; have EB := qz A1.o 7) | ((with_reducible refine gc (f := 12) rfl ?_); refine gA (some 33) _ #[.agg #[.int .i64 a0_0, .int .i64 a0_1, .slice A0_2 l0_2.length c0_2, .int .i64 a0_3, .int .i64 a0_4, .int .i64 a0_5, .int .i64 a0_6, .int .i64 a0_7]] ?_ Try.func12; (with_reducible refine (laws_toMachine.calls k a0_0 a0_1 _ _ l0_2 a0_3 a0_4 a0_5 a0_6 a0_7 AB AC Av AD AE AF AG AH _ ?side1 ?side2 MJ.o).mono ?_); (case side1 => exact Kd.C_below Bz.o (vB HB)); (case side2 => exact By.o); rintro e Nb ⟨MS, rfl, Bg, hb⟩; refine ⟨_, rfl, ?_⟩; have AY := Z.m (Kd.R_lower (Kd.R_new' (Kd.R_new' Bg (Kd.R_lt (by refine rK ?_; exact (Kd.Rm (rf (rf (rf (rf (rf (rf (rf (rf (Kd.Ry AP.o A2.o (by decide)))))))))) (fun _ h_ => h_.1))))) (Kd.R_lt (by refine rK ?_; exact (Kd.Rm (rf (rf (rf (rf (rf (rf (rf (rf (Kd.Ry AI.o A2.o (by decide)))))))))) (fun _ h_ => h_.1))))) (below_size (vB HB))); replace AP := Z.m (Kd.R_elder' (by refine rK ?_; exact (Kd.Rm (rf (rf (rf (rf (rf (rf (rf (rf (Kd.Ry AP.o A2.o (by decide)))))))))) (fun _ h_ => h_.1))) (Kd.R_base Bg) hb); replace AI := Z.m (Kd.R_elder' (by refine rK ?_; exact (Kd.Rm (rf (rf (rf (rf (rf (rf (rf (rf (Kd.Ry AI.o A2.o (by decide)))))))))) (fun _ h_ => h_.1))) (Kd.R_base Bg) hb); replace A1 := Z.m (qb (g := AV) (o := .cells #[.int .i64 a0_0, .int .i64 a0_1, .slice A0_2 l0_2.length c0_2, .int .i64 a0_3, .int .i64 a0_4, .int .i64 a0_5, .int .i64 a0_6, .int .i64 a0_7] 26 (0, 0)) (by refine bK ?_; (iterate 8 refine qF ?_ AL); exact A1.o) hb); replace A2 := Z.m (qb (g := Bm) (o := .cells #[.int .i64 Al, .int .i64 Am, .slice AQ Ac.length AJ, .int .i64 An, .int .i64 Ao, .int .i64 Ap, .int .i64 Aq, .int .i64 Ar] 32 (0, 0)) (by refine bK ?_; apply st8; refine bK ?_; exact A2.o) hb); replace HB := bB HB hb; (try clear hb); (try clear BP); (try clear hk); (try clear hi); (try clear Bg)) | ((with_reducible refine gq (N := 9) rfl ?_); refine be (N := 9) (cs := #[.int .i64 0, .int .i64 0, .slice none 0 0, .int .i64 0, .int .i64 0, .int .i64 0, .int .i64 0, .int .i64 0]) (t := 32) ?_; intro AZ hg Nc hbox hb; have A5 := Z.m (hbox); have FL := gW (w := w) HB hg; have Fs := FL; have Bj := neL A1 hg; have Bq := neG A1 hg; have AN := neL A2 hg; have AS := neG A2 hg; replace AP := Z.m (Kd.Rb (vR AP) hb); replace AI := Z.m (Kd.Rb (vR AI) hb); replace AY := Z.m (Kd.Rb (vR AY) hb); replace A1 := kB A1 hb; replace A2 := kB A2 hb; replace HB := bB HB hb; clear hb hbox hg; have LY := Bq.o; have Mm := Bj.o; have LZ := AS.o; have Mn := AN.o; have DG := bc0 A5; have DH := bc1 A5; have DI := bc2 A5; have DJ := bc3 A5; have DK := bc4 A5; have DL := bc5 A5; have DM := bc6 A5; have DN := bc7 A5; have EC := qz A5.o 0; have ED := qz A5.o 1; have EE := qz A5.o 2; have EF := qz A5.o 3; have EG := qz A5.o 4; have EH := qz A5.o 5; have EI := qz A5.o 6; have EJ := qz A5.o 7; obtain ⟨Az, Ay, Kt⟩ := Kd.R_slice AY.o; subst Kt) | ((with_reducible refine gc (f := 13) rfl ?_); refine gA (some 37) _ #[.agg #[.int .i64 AB, .int .i64 AC, .slice Az Av.length Ay, .int .i64 AD, .int .i64 AE, .int .i64 AF, .int .i64 AG, .int .i64 AH], .int .i64 a1] ?_ Try.func13; (with_reducible refine (impl_RunMachine.calls k AB AC _ _ Av AD AE AF AG AH a1 Ad Ae Ak Af Ag Ah Ai Aj B2 B3 _ ?side1 ?side2 MK.o).mono ?_); (case side1 => refine (Kd.RrZ (e := 88) (base := w.heap.size) (ok := fun k_ => ((True ∧ some k_ ≠ (.slice BQ BA.length BR : Value).ownBlock) ∧ some k_ ≠ (.slice AQ Ac.length AJ : Value).ownBlock)) (n := Av.length) (c := Ay) ?_).2.2; exact (by refine rK ?_; exact (Kd.Rm (rf (rf (rf (rf (rf (rf (rf (rf (Kd.Ry AY.o A5.o (by decide)))))))))) (fun _ h_ => h_.1)))); (case side2 => exact (Kd.RrZ AY.o).2.1); rintro e Nd ⟨MT, rfl, Bg, hb⟩; refine ⟨_, rfl, ?_⟩; have B7 := Z.m (Kd.R_lower (Kd.R_new' (Kd.R_new' (Kd.R_new' Bg (Kd.R_lt (by refine rK ?_; exact (Kd.Rm (rf (rf (rf (rf (rf (rf (rf (rf (Kd.Ry AP.o A5.o (by decide)))))))))) (fun _ h_ => h_.1))))) (Kd.R_lt (by refine rK ?_; exact (Kd.Rm (rf (rf (rf (rf (rf (rf (rf (rf (Kd.Ry AI.o A5.o (by decide)))))))))) (fun _ h_ => h_.1))))) (Kd.R_lt (by refine rK ?_; exact (Kd.Rm (rf (rf (rf (rf (rf (rf (rf (rf (Kd.Ry AY.o A5.o (by decide)))))))))) (fun _ h_ => h_.1))))) (below_size (vB HB))); replace AP := Z.m (Kd.R_elder' (by refine rK ?_; exact (Kd.Rm (rf (rf (rf (rf (rf (rf (rf (rf (Kd.Ry AP.o A5.o (by decide)))))))))) (fun _ h_ => h_.1))) (Kd.R_base Bg) hb); replace AI := Z.m (Kd.R_elder' (by refine rK ?_; exact (Kd.Rm (rf (rf (rf (rf (rf (rf (rf (rf (Kd.Ry AI.o A5.o (by decide)))))))))) (fun _ h_ => h_.1))) (Kd.R_base Bg) hb); replace AY := Z.m (Kd.R_elder' (by refine rK ?_; exact (Kd.Rm (rf (rf (rf (rf (rf (rf (rf (rf (Kd.Ry AY.o A5.o (by decide)))))))))) (fun _ h_ => h_.1))) (Kd.R_base Bg) hb); replace A1 := Z.m (qb (g := AV) (o := .cells #[.int .i64 a0_0, .int .i64 a0_1, .slice A0_2 l0_2.length c0_2, .int .i64 a0_3, .int .i64 a0_4, .int .i64 a0_5, .int .i64 a0_6, .int .i64 a0_7] 26 (0, 0)) (by refine bK ?_; (iterate 8 refine qF ?_ Bj); exact A1.o) hb); replace A2 := Z.m (qb (g := Bm) (o := .cells #[.int .i64 Al, .int .i64 Am, .slice AQ Ac.length AJ, .int .i64 An, .int .i64 Ao, .int .i64 Ap, .int .i64 Aq, .int .i64 Ar] 32 (0, 0)) (by refine bK ?_; (iterate 8 refine qF ?_ AN); exact A2.o) hb); replace A5 := Z.m (qb (g := AZ) (o := .cells #[.int .i64 AB, .int .i64 AC, .slice Az Av.length Ay, .int .i64 AD, .int .i64 AE, .int .i64 AF, .int .i64 AG, .int .i64 AH] 32 (0, 0)) (by refine bK ?_; apply st8; refine bK ?_; exact A5.o) hb); replace HB := bB HB hb; (try clear hb); (try clear BP); (try clear hk); (try clear hi); (try clear Bg)) | ((with_reducible refine gq (N := 10) rfl ?_); refine be (N := 10) (cs := #[.int .i64 0, .int .i64 0, .slice none 0 0, .int .i64 0, .int .i64 0, .int .i64 0, .int .i64 0, .int .i64 0]) (t := 32) ?_; intro Bw hg Nf hbox hb; have A0 := Z.m (hbox); have FM := gW (w := w) HB hg; have Ft := FM; have AM := neL A1 hg; have AW := neG A1 hg; have Aw := neL A2 hg; have AO := neG A2 hg; have Ax := neL A5 hg; have AT := neG A5 hg; replace AP := Z.m (Kd.Rb (vR AP) hb); replace AI := Z.m (Kd.Rb (vR AI) hb); replace AY := Z.m (Kd.Rb (vR AY) hb); replace B7 := Z.m (Kd.Rb (vR B7) hb); replace A1 := kB A1 hb; replace A2 := kB A2 hb; replace A5 := kB A5 hb; replace HB := bB HB hb; clear hb hbox hg; have M0 := AW.o; have Mo := AM.o; have M1 := AO.o; have Mp := Aw.o; have M2 := AT.o; have Mq := Ax.o; have DO := bc0 A0; have DP := bc1 A0; have DQ := bc2 A0; have DR := bc3 A0; have DS := bc4 A0; have DT := bc5 A0; have DU := bc6 A0; have DV := bc7 A0; have EK := qz A0.o 0; have EL := qz A0.o 1; have EM := qz A0.o 2; have EN := qz A0.o 3; have EO := qz A0.o 4; have EP := qz A0.o 5; have EQ := qz A0.o 6; have ER := qz A0.o 7; obtain ⟨AK, AA, Ku⟩ := Kd.R_slice B7.o; subst Ku))
  (try simp only [Act.put, q1, q2, q3])
  go_cut [54] (fun v54 wc => ∃ (kq : Nat) (BI : Bool), v54 = .bool BI ∧ Z (laws_FnExactRunMachine.j0 kq a1 As At B2 B3 BI a0_0 a0_1 l0_2 a0_3 a0_4 a0_5 a0_6 a0_7 Al Am Ac An Ao Ap Aq Ar AB AC Av AD AE AF AG AH Ad Ae Ak Af Ag Ah Ai Aj = some true) ∧ Z (kq ≤ k) ∧ Z (Kd.R k88 88 wc w.heap.size (fun k_ => some k_ ≠ ((.slice Az Av.length Ay) : Value).ownBlock ∧ some k_ ≠ ((.slice AK Ak.length AA) : Value).ownBlock) (.slice AQ Ac.length AJ) Ac) ∧ Z (Kd.R k88 88 wc w.heap.size (fun k_ => some k_ ≠ ((.slice AQ Ac.length AJ) : Value).ownBlock ∧ some k_ ≠ ((.slice AK Ak.length AA) : Value).ownBlock) (.slice Az Av.length Ay) Av) ∧ Z (Kd.R k88 88 wc w.heap.size (fun k_ => some k_ ≠ ((.slice AQ Ac.length AJ) : Value).ownBlock ∧ some k_ ≠ ((.slice Az Av.length Ay) : Value).ownBlock) (.slice AK Ak.length AA) Ak) ∧ Z (wc.heap[AV]? = some (.cells #[.int .i64 a0_0, .int .i64 a0_1, (.slice A0_2 l0_2.length c0_2), .int .i64 a0_3, .int .i64 a0_4, .int .i64 a0_5, .int .i64 a0_6, .int .i64 a0_7] 26 (0, 0))) ∧ Z (wc.heap[Bm]? = some (.cells #[.int .i64 Al, .int .i64 Am, (.slice AQ Ac.length AJ), .int .i64 An, .int .i64 Ao, .int .i64 Ap, .int .i64 Aq, .int .i64 Ar] 32 (0, 0))) ∧ Z (wc.heap[AZ]? = some (.cells #[.int .i64 AB, .int .i64 AC, (.slice Az Av.length Ay), .int .i64 AD, .int .i64 AE, .int .i64 AF, .int .i64 AG, .int .i64 AH] 32 (0, 0))) ∧ Z (wc.heap[Bw]? = some (.cells #[.int .i64 Ad, .int .i64 Ae, (.slice AK Ak.length AA), .int .i64 Af, .int .i64 Ag, .int .i64 Ah, .int .i64 Ai, .int .i64 Aj] 32 (0, 0))) ∧ Z (Below w.heap.size w wc))
  case first =>
   have H := Fw.o
   clear Fw
   replace H := Option.bind_eq_some_iff.mp H
   obtain ⟨Bn, FE, H⟩ := H
   replace H : (if Bn = true then (if B2 = As then (laws_FnExactRunMachine.j0 k a1 As At B2 B3 (B3 != At) a0_0 a0_1 l0_2 a0_3 a0_4 a0_5 a0_6 a0_7 Al Am Ac An Ao Ap Aq Ar AB AC Av AD AE AF AG AH Ad Ae Ak Af Ag Ah Ai Aj) else (laws_FnExactRunMachine.j0 k a1 As At B2 B3 true a0_0 a0_1 l0_2 a0_3 a0_4 a0_5 a0_6 a0_7 Al Am Ac An Ao Ap Aq Ar AB AC Av AD AE AF AG AH Ad Ae Ak Af Ag Ah Ai Aj)) else (laws_FnExactRunMachine.j0 k a1 As At B2 B3 true a0_0 a0_1 l0_2 a0_3 a0_4 a0_5 a0_6 a0_7 Al Am Ac An Ao Ap Aq Ar AB AC Av AD AE AF AG AH Ad Ae Ak Af Ag Ah Ai Aj)) = some true := H
   have LO := Z.m FE
   clear FE
   by_cases c39 : Bn = true
   ·subst c39
    have H1 : (if B2 = As then (laws_FnExactRunMachine.j0 k a1 As At B2 B3 (B3 != At) a0_0 a0_1 l0_2 a0_3 a0_4 a0_5 a0_6 a0_7 Al Am Ac An Ao Ap Aq Ar AB AC Av AD AE AF AG AH Ad Ae Ak Af Ag Ah Ai Aj) else (laws_FnExactRunMachine.j0 k a1 As At B2 B3 true a0_0 a0_1 l0_2 a0_3 a0_4 a0_5 a0_6 a0_7 Al Am Ac An Ao Ap Aq Ar AB AC Av AD AE AF AG AH Ad Ae Ak Af Ag Ah Ai Aj)) = some true := by rw [if_pos rfl] at H; exact H
    clear H
    have H := H1
    clear H1
    by_cases c40 : B2 = As
    ·rw [if_pos c40] at H
     have Fu := beq_iff_eq.mpr c40
     have LU := bne_eq_false_iff_eq.mpr c40
     clear c40
     (first | rw [Fu] | (simp only [i64_w, i32_w]; rw [Fu]) | skip)
     have H' := Z.m H
     clear H
     have M3 := AW.o
     have Mr := AM.o
     have M4 := AO.o
     have Ms := Aw.o
     have M5 := AT.o
     have Mt := Ax.o
     have HL := bc0 A0
     have HM := bc1 A0
     have HN := bc2 A0
     have HO := bc3 A0
     have HP := bc4 A0
     have HQ := bc5 A0
     have HR := bc6 A0
     have HS := bc7 A0
     have Jx := qz A0.o 0
     have Jy := qz A0.o 1
     have Jz := qz A0.o 2
     have JA := qz A0.o 3
     have JB := qz A0.o 4
     have JC := qz A0.o 5
     have JD := qz A0.o 6
     have JE := qz A0.o 7
     have M6 := AR.o
     have Mu := AL.o
     have M7 := AN.o
     have Mv := AS.o
     have HT := bc0 A2
     have HU := bc1 A2
     have HV := bc2 A2
     have HW := bc3 A2
     have HX := bc4 A2
     have HY := bc5 A2
     have HZ := bc6 A2
     have J0 := bc7 A2
     have JF := qz A2.o 0
     have JG := qz A2.o 1
     have JH := qz A2.o 2
     have JI := qz A2.o 3
     have JJ := qz A2.o 4
     have JK := qz A2.o 5
     have JL := qz A2.o 6
     have JM := qz A2.o 7
     go_wp2_with (first | ((with_reducible refine gc (f := 14) rfl ?_); refine gA (some 43) _ #[.agg #[.int .i64 Ad, .int .i64 Ae, .slice AK Ak.length AA, .int .i64 Af, .int .i64 Ag, .int .i64 Ah, .int .i64 Ai, .int .i64 Aj], .agg #[.int .i64 Al, .int .i64 Am, .slice AQ Ac.length AJ, .int .i64 An, .int .i64 Ao, .int .i64 Ap, .int .i64 Aq, .int .i64 Ar]] ?_ Try.func14; (with_reducible refine (laws_eqMachine.calls k Ad Ae _ _ Ak Af Ag Ah Ai Aj Al Am _ _ Ac An Ao Ap Aq Ar true _ ?side1 ?side2 ?side3 ?side4 LO.o).mono ?_); (case side1 => refine (Kd.RrZ (e := 88) (base := w.heap.size) (ok := fun k_ => (((True ∧ some k_ ≠ (.slice BQ BA.length BR : Value).ownBlock) ∧ some k_ ≠ (.slice AQ Ac.length AJ : Value).ownBlock) ∧ some k_ ≠ (.slice Az Av.length Ay : Value).ownBlock)) (n := Ak.length) (c := AA) ?_).2.2; exact (by refine rK ?_; exact (Kd.Rm (rf (rf (rf (rf (rf (rf (rf (rf (Kd.Ry B7.o A0.o (by decide)))))))))) (fun _ h_ => h_.1)))); (case side2 => exact (Kd.RrZ B7.o).2.1); (case side3 => refine (Kd.RrZ (e := 88) (base := w.heap.size) (ok := fun k_ => (((True ∧ some k_ ≠ (.slice BQ BA.length BR : Value).ownBlock) ∧ some k_ ≠ (.slice Az Av.length Ay : Value).ownBlock) ∧ some k_ ≠ (.slice AK Ak.length AA : Value).ownBlock)) (n := Ac.length) (c := AJ) ?_).2.2; exact (by refine rK ?_; exact (Kd.Rm (rf (rf (rf (rf (rf (rf (rf (rf (Kd.Ry AI.o A0.o (by decide)))))))))) (fun _ h_ => h_.1)))); (case side4 => exact (Kd.RrZ AI.o).2.1); rintro e Ng ⟨rfl, hb⟩; refine ⟨_, rfl, ?_⟩; replace AP := Z.m (Kd.Rb (by refine rK ?_; exact (Kd.Rm (rf (rf (rf (rf (rf (rf (rf (rf (Kd.Ry AP.o A0.o (by decide)))))))))) (fun _ h_ => h_.1))) hb); replace AI := Z.m (Kd.Rb (by refine rK ?_; exact (Kd.Rm (rf (rf (rf (rf (rf (rf (rf (rf (Kd.Ry AI.o A0.o (by decide)))))))))) (fun _ h_ => h_.1))) hb); replace AY := Z.m (Kd.Rb (by refine rK ?_; exact (Kd.Rm (rf (rf (rf (rf (rf (rf (rf (rf (Kd.Ry AY.o A0.o (by decide)))))))))) (fun _ h_ => h_.1))) hb); replace B7 := Z.m (Kd.Rb (by refine rK ?_; exact (Kd.Rm (rf (rf (rf (rf (rf (rf (rf (rf (Kd.Ry B7.o A0.o (by decide)))))))))) (fun _ h_ => h_.1))) hb); replace A1 := Z.m (qb (g := AV) (o := .cells #[.int .i64 a0_0, .int .i64 a0_1, .slice A0_2 l0_2.length c0_2, .int .i64 a0_3, .int .i64 a0_4, .int .i64 a0_5, .int .i64 a0_6, .int .i64 a0_7] 26 (0, 0)) (by refine bK ?_; (iterate 8 refine qF ?_ AM); exact A1.o) hb); replace A2 := Z.m (qb (g := Bm) (o := .cells #[.int .i64 Al, .int .i64 Am, .slice AQ Ac.length AJ, .int .i64 An, .int .i64 Ao, .int .i64 Ap, .int .i64 Aq, .int .i64 Ar] 32 (0, 0)) (by refine bK ?_; (iterate 8 refine qF ?_ Aw); exact A2.o) hb); replace A5 := Z.m (qb (g := AZ) (o := .cells #[.int .i64 AB, .int .i64 AC, .slice Az Av.length Ay, .int .i64 AD, .int .i64 AE, .int .i64 AF, .int .i64 AG, .int .i64 AH] 32 (0, 0)) (by refine bK ?_; (iterate 8 refine qF ?_ Ax); exact A5.o) hb); replace A0 := Z.m (qb (g := Bw) (o := .cells #[.int .i64 Ad, .int .i64 Ae, .slice AK Ak.length AA, .int .i64 Af, .int .i64 Ag, .int .i64 Ah, .int .i64 Ai, .int .i64 Aj] 32 (0, 0)) (by refine bK ?_; apply st8; refine bK ?_; exact A0.o) hb); replace HB := bB HB hb; (try clear hb); (try clear BP); (try clear hk); (try clear hi)))
     go_meet
     case rel => exact ⟨_, ((B3 != At)), (by first | rfl | (simp; done) | (simp [*]; done)), H', ⟨by first | omega | exact Nat.le_refl _⟩, ⟨by refine rK ?_; exact Kd.Rm AI.o (fun _ hk => ⟨hk.1.2, hk.2⟩)⟩, ⟨by refine rK ?_; exact Kd.Rm AY.o (fun _ hk => ⟨hk.1.2, hk.2⟩)⟩, ⟨by refine rK ?_; exact Kd.Rm B7.o (fun _ hk => ⟨hk.1.2, hk.2⟩)⟩, ⟨vK A1⟩, ⟨vK A2⟩, ⟨vK A5⟩, ⟨vK A0⟩, ⟨vB HB⟩⟩
    ·(rw [if_neg c40] at H; exact absurd H (laws_FnExactRunMachine.bad_j0 _ _ _ _ _ _ _ _ _ _ _ _ _ _ _ _ _ _ _ _ _ _ _ _ _ _ _ _ _ _ _ _ _ _ _ _ _ _))
   ·replace c39 := Bool.eq_false_iff.mpr c39
    subst c39
    have H1 : (laws_FnExactRunMachine.j0 k a1 As At B2 B3 true a0_0 a0_1 l0_2 a0_3 a0_4 a0_5 a0_6 a0_7 Al Am Ac An Ao Ap Aq Ar AB AC Av AD AE AF AG AH Ad Ae Ak Af Ag Ah Ai Aj) = some true := by rw [if_neg (show ¬ (false = true) by decide)] at H; exact H
    clear H
    have H := H1
    clear H1
    have H' := Z.m H
    clear H
    have M8 := AW.o
    have Mw := AM.o
    have M9 := AO.o
    have Mx := Aw.o
    have Ma := AT.o
    have My := Ax.o
    have J1 := bc0 A0
    have J2 := bc1 A0
    have J3 := bc2 A0
    have J4 := bc3 A0
    have J5 := bc4 A0
    have J6 := bc5 A0
    have J7 := bc6 A0
    have J8 := bc7 A0
    have JN := qz A0.o 0
    have JO := qz A0.o 1
    have JP := qz A0.o 2
    have JQ := qz A0.o 3
    have JR := qz A0.o 4
    have JS := qz A0.o 5
    have JT := qz A0.o 6
    have JU := qz A0.o 7
    have Mb := AR.o
    have Mz := AL.o
    have Mc := AN.o
    have MA := AS.o
    have J9 := bc0 A2
    have Ja := bc1 A2
    have Jb := bc2 A2
    have Jc := bc3 A2
    have Jd := bc4 A2
    have Je := bc5 A2
    have Jf := bc6 A2
    have Jg := bc7 A2
    have JV := qz A2.o 0
    have JW := qz A2.o 1
    have JX := qz A2.o 2
    have JY := qz A2.o 3
    have JZ := qz A2.o 4
    have K0 := qz A2.o 5
    have K1 := qz A2.o 6
    have K2 := qz A2.o 7
    go_wp2_with (first | ((with_reducible refine gc (f := 14) rfl ?_); refine gA (some 43) _ #[.agg #[.int .i64 Ad, .int .i64 Ae, .slice AK Ak.length AA, .int .i64 Af, .int .i64 Ag, .int .i64 Ah, .int .i64 Ai, .int .i64 Aj], .agg #[.int .i64 Al, .int .i64 Am, .slice AQ Ac.length AJ, .int .i64 An, .int .i64 Ao, .int .i64 Ap, .int .i64 Aq, .int .i64 Ar]] ?_ Try.func14; (with_reducible refine (laws_eqMachine.calls k Ad Ae _ _ Ak Af Ag Ah Ai Aj Al Am _ _ Ac An Ao Ap Aq Ar false _ ?side1 ?side2 ?side3 ?side4 LO.o).mono ?_); (case side1 => refine (Kd.RrZ (e := 88) (base := w.heap.size) (ok := fun k_ => (((True ∧ some k_ ≠ (.slice BQ BA.length BR : Value).ownBlock) ∧ some k_ ≠ (.slice AQ Ac.length AJ : Value).ownBlock) ∧ some k_ ≠ (.slice Az Av.length Ay : Value).ownBlock)) (n := Ak.length) (c := AA) ?_).2.2; exact (by refine rK ?_; exact (Kd.Rm (rf (rf (rf (rf (rf (rf (rf (rf (Kd.Ry B7.o A0.o (by decide)))))))))) (fun _ h_ => h_.1)))); (case side2 => exact (Kd.RrZ B7.o).2.1); (case side3 => refine (Kd.RrZ (e := 88) (base := w.heap.size) (ok := fun k_ => (((True ∧ some k_ ≠ (.slice BQ BA.length BR : Value).ownBlock) ∧ some k_ ≠ (.slice Az Av.length Ay : Value).ownBlock) ∧ some k_ ≠ (.slice AK Ak.length AA : Value).ownBlock)) (n := Ac.length) (c := AJ) ?_).2.2; exact (by refine rK ?_; exact (Kd.Rm (rf (rf (rf (rf (rf (rf (rf (rf (Kd.Ry AI.o A0.o (by decide)))))))))) (fun _ h_ => h_.1)))); (case side4 => exact (Kd.RrZ AI.o).2.1); rintro e Nh ⟨rfl, hb⟩; refine ⟨_, rfl, ?_⟩; replace AP := Z.m (Kd.Rb (by refine rK ?_; exact (Kd.Rm (rf (rf (rf (rf (rf (rf (rf (rf (Kd.Ry AP.o A0.o (by decide)))))))))) (fun _ h_ => h_.1))) hb); replace AI := Z.m (Kd.Rb (by refine rK ?_; exact (Kd.Rm (rf (rf (rf (rf (rf (rf (rf (rf (Kd.Ry AI.o A0.o (by decide)))))))))) (fun _ h_ => h_.1))) hb); replace AY := Z.m (Kd.Rb (by refine rK ?_; exact (Kd.Rm (rf (rf (rf (rf (rf (rf (rf (rf (Kd.Ry AY.o A0.o (by decide)))))))))) (fun _ h_ => h_.1))) hb); replace B7 := Z.m (Kd.Rb (by refine rK ?_; exact (Kd.Rm (rf (rf (rf (rf (rf (rf (rf (rf (Kd.Ry B7.o A0.o (by decide)))))))))) (fun _ h_ => h_.1))) hb); replace A1 := Z.m (qb (g := AV) (o := .cells #[.int .i64 a0_0, .int .i64 a0_1, .slice A0_2 l0_2.length c0_2, .int .i64 a0_3, .int .i64 a0_4, .int .i64 a0_5, .int .i64 a0_6, .int .i64 a0_7] 26 (0, 0)) (by refine bK ?_; (iterate 8 refine qF ?_ AM); exact A1.o) hb); replace A2 := Z.m (qb (g := Bm) (o := .cells #[.int .i64 Al, .int .i64 Am, .slice AQ Ac.length AJ, .int .i64 An, .int .i64 Ao, .int .i64 Ap, .int .i64 Aq, .int .i64 Ar] 32 (0, 0)) (by refine bK ?_; (iterate 8 refine qF ?_ Aw); exact A2.o) hb); replace A5 := Z.m (qb (g := AZ) (o := .cells #[.int .i64 AB, .int .i64 AC, .slice Az Av.length Ay, .int .i64 AD, .int .i64 AE, .int .i64 AF, .int .i64 AG, .int .i64 AH] 32 (0, 0)) (by refine bK ?_; (iterate 8 refine qF ?_ Ax); exact A5.o) hb); replace A0 := Z.m (qb (g := Bw) (o := .cells #[.int .i64 Ad, .int .i64 Ae, .slice AK Ak.length AA, .int .i64 Af, .int .i64 Ag, .int .i64 Ah, .int .i64 Ai, .int .i64 Aj] 32 (0, 0)) (by refine bK ?_; apply st8; refine bK ?_; exact A0.o) hb); replace HB := bB HB hb; (try clear hb); (try clear BP); (try clear hk); (try clear hi)))
    go_meet
    case rel => exact ⟨_, (true), (by first | rfl | (simp; done) | (simp [*]; done)), H', ⟨by first | omega | exact Nat.le_refl _⟩, ⟨by refine rK ?_; exact Kd.Rm AI.o (fun _ hk => ⟨hk.1.2, hk.2⟩)⟩, ⟨by refine rK ?_; exact Kd.Rm AY.o (fun _ hk => ⟨hk.1.2, hk.2⟩)⟩, ⟨by refine rK ?_; exact Kd.Rm B7.o (fun _ hk => ⟨hk.1.2, hk.2⟩)⟩, ⟨vK A1⟩, ⟨vK A2⟩, ⟨vK A5⟩, ⟨vK A0⟩, ⟨vB HB⟩⟩
  case rest =>
   clear Fw
   (try clear FP)
   (try clear Da); (try clear Db); (try clear Dc); (try clear Dd); (try clear De); (try clear Df); (try clear Dg); (try clear Dh)
   (try clear Di); (try clear Dj); (try clear Dk); (try clear Dl); (try clear Dm); (try clear Dn); (try clear Do); (try clear Dp)
   (try clear Dq); (try clear Dr); (try clear Ds); (try clear Dt); (try clear Du); (try clear Dv); (try clear Dw); (try clear Dx)
   (try clear Dy); (try clear Dz); (try clear DA); (try clear DB); (try clear DC); (try clear DD); (try clear DE); (try clear DF)
   (try clear DG); (try clear DH); (try clear DI); (try clear DJ); (try clear DK); (try clear DL); (try clear DM); (try clear DN)
   (try clear DO); (try clear DP); (try clear DQ); (try clear DR); (try clear DS); (try clear DT); (try clear DU); (try clear DV)
   (try clear E4); (try clear E5); (try clear E6); (try clear E7); (try clear E8); (try clear E9); (try clear Ea); (try clear Eb)
   (try clear Ec); (try clear Ed); (try clear Ee); (try clear Ef); (try clear Eg); (try clear Eh); (try clear Ei); (try clear Ej)
   (try clear Ek); (try clear El); (try clear Em); (try clear En); (try clear Eo); (try clear Ep); (try clear Er); (try clear Es)
   (try clear Et); (try clear Eu); (try clear Ew); (try clear Ex); (try clear Ey); (try clear Ez); (try clear EA); (try clear EB)
   (try clear EC); (try clear ED); (try clear EE); (try clear EF); (try clear EG); (try clear EH); (try clear EI); (try clear EJ)
   (try clear EK); (try clear EL); (try clear EM); (try clear EN); (try clear EO); (try clear EP); (try clear EQ); (try clear ER)
   obtain ⟨kq, BI, rfl, HA, BY, A6, A7, A4, A1, A2, A5, A0, HB⟩ := hcut
   cases kq with
   | zero => exact absurd HA.o (by simp [laws_FnExactRunMachine.j0])
   | succ kj11 =>
    have H := HA.o
    clear HA
    simp only [laws_FnExactRunMachine.j0] at H
    by_cases c65 : BI = true
    ·(rw [if_pos c65] at H; exact absurd H (by decide))
    ·replace c65 := Bool.eq_false_iff.mpr c65
     subst c65
     have H1 : ((laws_toMachine.f kj11 a0_0 a0_1 l0_2 a0_3 a0_4 a0_5 a0_6 a0_7).bind fun bt552 => ((laws_eqMachine.f kj11 AB AC Av AD AE AF AG AH bt552.1 bt552.2.1 bt552.2.2.1 bt552.2.2.2.1 bt552.2.2.2.2.1 bt552.2.2.2.2.2.1 bt552.2.2.2.2.2.2.1 bt552.2.2.2.2.2.2.2).bind fun BU => (if BU = true then ((laws_markMachine.f kj11 AB AC Av AD AE AF AG AH 1).bind fun bt563 => (if bt563.1 < 0 then (laws_FnExactRunMachine.j1 kj11 a1 As At true a0_0 a0_1 l0_2 a0_3 a0_4 a0_5 a0_6 a0_7 Al Am Ac An Ao Ap Aq Ar Ad Ae Ak Af Ag Ah Ai Aj) else ((laws_eqMachine.f kj11 Ad Ae Ak Af Ag Ah Ai Aj Al Am Ac An Ao Ap Aq Ar).bind fun Bu => (if Bu = true then (if B2 = As then (laws_FnExactRunMachine.j1 kj11 a1 As At (B3 != At) a0_0 a0_1 l0_2 a0_3 a0_4 a0_5 a0_6 a0_7 Al Am Ac An Ao Ap Aq Ar Ad Ae Ak Af Ag Ah Ai Aj) else (laws_FnExactRunMachine.j1 kj11 a1 As At true a0_0 a0_1 l0_2 a0_3 a0_4 a0_5 a0_6 a0_7 Al Am Ac An Ao Ap Aq Ar Ad Ae Ak Af Ag Ah Ai Aj)) else (laws_FnExactRunMachine.j1 kj11 a1 As At true a0_0 a0_1 l0_2 a0_3 a0_4 a0_5 a0_6 a0_7 Al Am Ac An Ao Ap Aq Ar Ad Ae Ak Af Ag Ah Ai Aj))))) else (some false)))) = some true := by rw [if_neg (show ¬ (false = true) by decide)] at H; exact H
     clear H
     have H := H1
     clear H1
     replace H := Option.bind_eq_some_iff.mp H
     obtain ⟨⟨F7, F8, BT, F9, Fa, Fb, Fc, Fd⟩, FF, H⟩ := H
     replace H : ((laws_eqMachine.f kj11 AB AC Av AD AE AF AG AH F7 F8 BT F9 Fa Fb Fc Fd).bind fun BU => (if BU = true then ((laws_markMachine.f kj11 AB AC Av AD AE AF AG AH 1).bind fun bt563 => (if bt563.1 < 0 then (laws_FnExactRunMachine.j1 kj11 a1 As At true a0_0 a0_1 l0_2 a0_3 a0_4 a0_5 a0_6 a0_7 Al Am Ac An Ao Ap Aq Ar Ad Ae Ak Af Ag Ah Ai Aj) else ((laws_eqMachine.f kj11 Ad Ae Ak Af Ag Ah Ai Aj Al Am Ac An Ao Ap Aq Ar).bind fun Bu => (if Bu = true then (if B2 = As then (laws_FnExactRunMachine.j1 kj11 a1 As At (B3 != At) a0_0 a0_1 l0_2 a0_3 a0_4 a0_5 a0_6 a0_7 Al Am Ac An Ao Ap Aq Ar Ad Ae Ak Af Ag Ah Ai Aj) else (laws_FnExactRunMachine.j1 kj11 a1 As At true a0_0 a0_1 l0_2 a0_3 a0_4 a0_5 a0_6 a0_7 Al Am Ac An Ao Ap Aq Ar Ad Ae Ak Af Ag Ah Ai Aj)) else (laws_FnExactRunMachine.j1 kj11 a1 As At true a0_0 a0_1 l0_2 a0_3 a0_4 a0_5 a0_6 a0_7 Al Am Ac An Ao Ap Aq Ar Ad Ae Ak Af Ag Ah Ai Aj))))) else (some false))) = some true := H
     have ML := Z.m FF
     clear FF
     replace H := Option.bind_eq_some_iff.mp H
     obtain ⟨BU, FG, H⟩ := H
     replace H : (if BU = true then ((laws_markMachine.f kj11 AB AC Av AD AE AF AG AH 1).bind fun bt563 => (if bt563.1 < 0 then (laws_FnExactRunMachine.j1 kj11 a1 As At true a0_0 a0_1 l0_2 a0_3 a0_4 a0_5 a0_6 a0_7 Al Am Ac An Ao Ap Aq Ar Ad Ae Ak Af Ag Ah Ai Aj) else ((laws_eqMachine.f kj11 Ad Ae Ak Af Ag Ah Ai Aj Al Am Ac An Ao Ap Aq Ar).bind fun Bu => (if Bu = true then (if B2 = As then (laws_FnExactRunMachine.j1 kj11 a1 As At (B3 != At) a0_0 a0_1 l0_2 a0_3 a0_4 a0_5 a0_6 a0_7 Al Am Ac An Ao Ap Aq Ar Ad Ae Ak Af Ag Ah Ai Aj) else (laws_FnExactRunMachine.j1 kj11 a1 As At true a0_0 a0_1 l0_2 a0_3 a0_4 a0_5 a0_6 a0_7 Al Am Ac An Ao Ap Aq Ar Ad Ae Ak Af Ag Ah Ai Aj)) else (laws_FnExactRunMachine.j1 kj11 a1 As At true a0_0 a0_1 l0_2 a0_3 a0_4 a0_5 a0_6 a0_7 Al Am Ac An Ao Ap Aq Ar Ad Ae Ak Af Ag Ah Ai Aj))))) else (some false)) = some true := H
     have MM := Z.m FG
     clear FG
     by_cases c68 : BU = true
     ·subst c68
      have H1 : ((laws_markMachine.f kj11 AB AC Av AD AE AF AG AH 1).bind fun bt563 => (if bt563.1 < 0 then (laws_FnExactRunMachine.j1 kj11 a1 As At true a0_0 a0_1 l0_2 a0_3 a0_4 a0_5 a0_6 a0_7 Al Am Ac An Ao Ap Aq Ar Ad Ae Ak Af Ag Ah Ai Aj) else ((laws_eqMachine.f kj11 Ad Ae Ak Af Ag Ah Ai Aj Al Am Ac An Ao Ap Aq Ar).bind fun Bu => (if Bu = true then (if B2 = As then (laws_FnExactRunMachine.j1 kj11 a1 As At (B3 != At) a0_0 a0_1 l0_2 a0_3 a0_4 a0_5 a0_6 a0_7 Al Am Ac An Ao Ap Aq Ar Ad Ae Ak Af Ag Ah Ai Aj) else (laws_FnExactRunMachine.j1 kj11 a1 As At true a0_0 a0_1 l0_2 a0_3 a0_4 a0_5 a0_6 a0_7 Al Am Ac An Ao Ap Aq Ar Ad Ae Ak Af Ag Ah Ai Aj)) else (laws_FnExactRunMachine.j1 kj11 a1 As At true a0_0 a0_1 l0_2 a0_3 a0_4 a0_5 a0_6 a0_7 Al Am Ac An Ao Ap Aq Ar Ad Ae Ak Af Ag Ah Ai Aj))))) = some true := by rw [if_pos rfl] at H; exact H
      clear H
      have H := H1
      clear H1
      replace H := Option.bind_eq_some_iff.mp H
      obtain ⟨⟨FB, Bl⟩, FH, H⟩ := H
      replace H : (if FB < 0 then (laws_FnExactRunMachine.j1 kj11 a1 As At true a0_0 a0_1 l0_2 a0_3 a0_4 a0_5 a0_6 a0_7 Al Am Ac An Ao Ap Aq Ar Ad Ae Ak Af Ag Ah Ai Aj) else ((laws_eqMachine.f kj11 Ad Ae Ak Af Ag Ah Ai Aj Al Am Ac An Ao Ap Aq Ar).bind fun Bu => (if Bu = true then (if B2 = As then (laws_FnExactRunMachine.j1 kj11 a1 As At (B3 != At) a0_0 a0_1 l0_2 a0_3 a0_4 a0_5 a0_6 a0_7 Al Am Ac An Ao Ap Aq Ar Ad Ae Ak Af Ag Ah Ai Aj) else (laws_FnExactRunMachine.j1 kj11 a1 As At true a0_0 a0_1 l0_2 a0_3 a0_4 a0_5 a0_6 a0_7 Al Am Ac An Ao Ap Aq Ar Ad Ae Ak Af Ag Ah Ai Aj)) else (laws_FnExactRunMachine.j1 kj11 a1 As At true a0_0 a0_1 l0_2 a0_3 a0_4 a0_5 a0_6 a0_7 Al Am Ac An Ao Ap Aq Ar Ad Ae Ak Af Ag Ah Ai Aj)))) = some true := H
      have MN := Z.m FH
      clear FH
      have Fx := Z.m H
      clear H
      try go_wp2
      replace A6 := Z.m (Kd.R_drew A6.o)
      replace A7 := Z.m (Kd.R_drew A7.o)
      replace A4 := Z.m (Kd.R_drew A4.o)
      replace A1 := Z.m (blk_drew A1.o)
      replace A2 := Z.m (blk_drew A2.o)
      replace A5 := Z.m (blk_drew A5.o)
      replace A0 := Z.m (blk_drew A0.o)
      replace HB := Z.m (qd HB.o)
      refine start_ (n := 5) (S := fun w' => w'.cell? ⟨AZ, 0, none⟩ = some (.int .i64 AB) ∧ w'.cell? ⟨AZ, 1, none⟩ = some (.int .i64 AC) ∧ w'.cell? ⟨AZ, 2, none⟩ = some (.slice Az Av.length Ay) ∧ w'.cell? ⟨AZ, 3, none⟩ = some (.int .i64 AD) ∧ w'.cell? ⟨AZ, 4, none⟩ = some (.int .i64 AE) ∧ w'.cell? ⟨AZ, 5, none⟩ = some (.int .i64 AF) ∧ w'.cell? ⟨AZ, 6, none⟩ = some (.int .i64 AG) ∧ w'.cell? ⟨AZ, 7, none⟩ = some (.int .i64 AH) ∧ w'.cell? ⟨AV, 0, none⟩ = some (.int .i64 a0_0) ∧ w'.cell? ⟨AV, 1, none⟩ = some (.int .i64 a0_1) ∧ w'.cell? ⟨AV, 2, none⟩ = some (.slice A0_2 l0_2.length c0_2) ∧ w'.cell? ⟨AV, 3, none⟩ = some (.int .i64 a0_3) ∧ w'.cell? ⟨AV, 4, none⟩ = some (.int .i64 a0_4) ∧ w'.cell? ⟨AV, 5, none⟩ = some (.int .i64 a0_5) ∧ w'.cell? ⟨AV, 6, none⟩ = some (.int .i64 a0_6) ∧ w'.cell? ⟨AV, 7, none⟩ = some (.int .i64 a0_7)) (ds := []) #[false, false, false, false, false] (by kernel_rfl) rfl rfl ⟨(ql A5.o 0).trans rfl, (ql A5.o 1).trans rfl, (ql A5.o 2).trans rfl, (ql A5.o 3).trans rfl, (ql A5.o 4).trans rfl, (ql A5.o 5).trans rfl, (ql A5.o 6).trans rfl, (ql A5.o 7).trans rfl, (ql A1.o 0).trans rfl, (ql A1.o 1).trans rfl, (ql A1.o 2).trans rfl, (ql A1.o 3).trans rfl, (ql A1.o 4).trans rfl, (ql A1.o 5).trans rfl, (ql A1.o 6).trans rfl, (ql A1.o 7).trans rfl⟩ (fun hHeld => ?_)
      generalize wc.drew = Ni at A6 A7 A4 A1 A2 A5 A0 HB hHeld ⊢
      refine take_ (i := 0) (N := some 55) (v := ?_) (a' := ?_) #[true, false, false, false, false] rfl rfl (by kernel_rfl) (fun _ _ _ h => h) (Or.inl ⟨by rfl, ?_⟩) hHeld ?_ ?_
      rotate_left
      ·rintro w' ⟨s0, s1, s2, s3, s4, s5, s6, s7, s8, s9, s10, s11, s12, s13, s14, s15⟩
       go_simp
       with_reducible rfl
      rotate_left
      ·simp only [Act.put, q1, q2, q3, i64_w, i32_w]
       rfl
      refine take_ (i := 1) (N := some 56) (v := ?_) (a' := ?_) #[true, true, false, false, false] rfl rfl (by kernel_rfl) (fun _ _ _ h => h) (Or.inl ⟨by rfl, ?_⟩) hHeld ?_ ?_
      rotate_left
      ·rintro w' ⟨s0, s1, s2, s3, s4, s5, s6, s7, s8, s9, s10, s11, s12, s13, s14, s15⟩
       go_simp
       with_reducible rfl
      rotate_left
      ·simp only [Act.put, q1, q2, q3, i64_w, i32_w]
       rfl
      refine one_ (i := 2) (N := some 57) #[true, true, true, false, false] rfl rfl (by kernel_rfl) (by decide) (fun K hK => ?_)
      refine goes_ Try.func12 (by kernel_rfl) rfl #[.agg #[.int .i64 a0_0, .int .i64 a0_1, .slice A0_2 l0_2.length c0_2, .int .i64 a0_3, .int .i64 a0_4, .int .i64 a0_5, .int .i64 a0_6, .int .i64 a0_7]] (by rfl) rfl rfl (by (try simp only [List.map_toArray, List.map_cons, List.map_nil]); first | done | rfl | (simp only [List.length_drop, List.length_take]; rfl)) ?_
      with_reducible refine (laws_toMachine.calls kj11 a0_0 a0_1 _ _ l0_2 a0_3 a0_4 a0_5 a0_6 a0_7 F7 F8 BT F9 Fa Fb Fc Fd _ ?side1 ?side2 ML.o).mono ?_
      (case side1 => repeat (first | exact (Kd.C_below Bz.o HB.o) | (with_reducible refine Kd.C_alloc ?_ _) | (with_reducible refine Kd.C_drewN ?_ _) | (with_reducible refine Kd.C_drew ?_)))
      (case side2 => exact By.o)
      rintro e Nj ⟨MU, rfl, Bg, hb⟩
      refine ⟨_, rfl, ?_⟩
      have Bi := Z.m (Kd.R_lower (Kd.R_new' (Kd.R_new' (Kd.R_new' Bg (Kd.R_lt (vR A6))) (Kd.R_lt (vR A7))) (Kd.R_lt (vR A4))) (below_size (vB HB)))
      replace A6 := Z.m (Kd.R_elder' (vR A6) (Kd.R_base Bg) hb)
      replace A7 := Z.m (Kd.R_elder' (vR A7) (Kd.R_base Bg) hb)
      replace A4 := Z.m (Kd.R_elder' (vR A4) (Kd.R_base Bg) hb)
      replace A1 := kB A1 hb
      replace A2 := kB A2 hb
      replace A5 := kB A5 hb
      replace A0 := kB A0 hb
      replace HB := bB HB hb
      (try clear hb); (try clear Bg)
      obtain ⟨Fv, FA, FS⟩ := Kd.R_slice Bi.o
      (first | subst FS | (injection FS with f1_ f2_ f3_; have f4_ := f1_.symm; have f5_ := f3_.symm; clear f1_ f2_ f3_; subst f4_; subst f5_))
      refine hK.out _ _ ⟨(ql A5.o 0).trans rfl, (ql A5.o 1).trans rfl, (ql A5.o 2).trans rfl, (ql A5.o 3).trans rfl, (ql A5.o 4).trans rfl, (ql A5.o 5).trans rfl, (ql A5.o 6).trans rfl, (ql A5.o 7).trans rfl, (ql A1.o 0).trans rfl, (ql A1.o 1).trans rfl, (ql A1.o 2).trans rfl, (ql A1.o 3).trans rfl, (ql A1.o 4).trans rfl, (ql A1.o 5).trans rfl, (ql A1.o 6).trans rfl, (ql A1.o 7).trans rfl⟩ (fun hHeld => ?_)
      clear hK K
      refine norm_ (a' := ?_) ?_ ?_
      rotate_left
      ·show Act.put _ (some 57) _ = _
       simp only [Act.put, q1, q2, q3, i64_w, i32_w]
       rfl
      refine one_ (i := 3) (N := some 58) #[true, true, true, true, false] rfl rfl (by kernel_rfl) (by decide) (fun K hK => ?_)
      refine goes_ Try.func14 (by kernel_rfl) rfl #[.agg #[.int .i64 AB, .int .i64 AC, .slice Az Av.length Ay, .int .i64 AD, .int .i64 AE, .int .i64 AF, .int .i64 AG, .int .i64 AH], .agg #[.int .i64 F7, .int .i64 F8, .slice Fv BT.length FA, .int .i64 F9, .int .i64 Fa, .int .i64 Fb, .int .i64 Fc, .int .i64 Fd]] (by rfl) rfl rfl (by (try simp only [List.map_toArray, List.map_cons, List.map_nil]); first | done | rfl | (simp only [List.length_drop, List.length_take]; rfl)) ?_
      with_reducible refine (laws_eqMachine.calls kj11 AB AC _ _ Av AD AE AF AG AH F7 F8 _ _ BT F9 Fa Fb Fc Fd true _ ?side1 ?side2 ?side3 ?side4 MM.o).mono ?_
      (case side1 => repeat (first | exact (Kd.RrZ A7.o).2.2 | (with_reducible refine Kd.C_alloc ?_ _) | (with_reducible refine Kd.C_drewN ?_ _) | (with_reducible refine Kd.C_drew ?_)))
      (case side2 => exact (Kd.RrZ A7.o).2.1)
      (case side3 => repeat (first | exact (Kd.RrZ Bi.o).2.2 | (with_reducible refine Kd.C_alloc ?_ _) | (with_reducible refine Kd.C_drewN ?_ _) | (with_reducible refine Kd.C_drew ?_)))
      (case side4 => exact (Kd.RrZ Bi.o).2.1)
      rintro e Nk ⟨rfl, hb⟩
      refine ⟨_, rfl, ?_⟩
      replace A6 := Z.m (Kd.Rb (vR A6) hb)
      replace A7 := Z.m (Kd.Rb (vR A7) hb)
      replace A4 := Z.m (Kd.Rb (vR A4) hb)
      replace Bi := Z.m (Kd.Rb (vR Bi) hb)
      replace A1 := kB A1 hb
      replace A2 := kB A2 hb
      replace A5 := kB A5 hb
      replace A0 := kB A0 hb
      replace HB := bB HB hb
      (try clear hb)
      refine hK.out _ _ ⟨(ql A5.o 0).trans rfl, (ql A5.o 1).trans rfl, (ql A5.o 2).trans rfl, (ql A5.o 3).trans rfl, (ql A5.o 4).trans rfl, (ql A5.o 5).trans rfl, (ql A5.o 6).trans rfl, (ql A5.o 7).trans rfl, (ql A1.o 0).trans rfl, (ql A1.o 1).trans rfl, (ql A1.o 2).trans rfl, (ql A1.o 3).trans rfl, (ql A1.o 4).trans rfl, (ql A1.o 5).trans rfl, (ql A1.o 6).trans rfl, (ql A1.o 7).trans rfl⟩ (fun hHeld => ?_)
      clear hK K
      refine norm_ (a' := ?_) ?_ ?_
      rotate_left
      ·show Act.put _ (some 58) _ = _
       simp only [Act.put, q1, q2, q3, i64_w, i32_w]
       rfl
      refine pure_ (i := 4) (N := some 59) (v := ?_) (a' := ?_) #[true, true, true, true, true] rfl rfl (by kernel_rfl) (fun _ _ _ h => h) (Or.inl ⟨by rfl, ?_⟩) ?_ ?_
      rotate_left
      ·intro w'
       go_simp
       with_reducible rfl
      rotate_left
      ·simp only [Act.put, q1, q2, q3, i64_w, i32_w]
       rfl
      refine done_ (by kernel_rfl) ?_
      have Md := Bq.o
      have MB := Bj.o
      have Me := AS.o
      have MC := AN.o
      have Mf := Ax.o
      have MD := AT.o
      have DW := bc0 A5
      have DX := bc1 A5
      have DY := bc2 A5
      have DZ := bc3 A5
      have E0 := bc4 A5
      have E1 := bc5 A5
      have E2 := bc6 A5
      have E3 := bc7 A5
      have ES := qz A5.o 0
      have ET := qz A5.o 1
      have EU := qz A5.o 2
      have EV := qz A5.o 3
      have EW := qz A5.o 4
      have EX := qz A5.o 5
      have EY := qz A5.o 6
      have EZ := qz A5.o 7
      go_upto_region 14 with (first | ((with_reducible refine gc (f := 15) rfl ?_); refine gA (some 62) _ #[.agg #[.int .i64 AB, .int .i64 AC, .slice Az Av.length Ay, .int .i64 AD, .int .i64 AE, .int .i64 AF, .int .i64 AG, .int .i64 AH], .int .i64 1] ?_ Try.func15; (with_reducible refine (laws_markMachine.calls kj11 AB AC (fun k_ => some k_ = (.slice Az Av.length Ay : Value).ownBlock) (.slice Az Av.length Ay) Av AD AE AF AG AH 1 FB Bl w _ ?side1 ?side2 MN.o).mono ?_); (case side1 => repeat (first | (with_reducible first | exact HB.o | apply qa | apply qn | apply qd | refine qx ?_ BV.o | refine qx ?_ Fr.o | refine qx ?_ Fs.o | refine qx ?_ Ft.o) | exact HB.o)); (case side2 => exact Kd.Rg rfl A7.o); rintro e Nl ⟨rfl, HK, hb, hkp⟩; refine ⟨_, rfl, ?_⟩; replace A6 := Z.m (Kd.Rm (ok' := fun k_ => some k_ ≠ (.slice Az Av.length Ay : Value).ownBlock ∧ some k_ ≠ (.slice AK Ak.length AA : Value).ownBlock ∧ some k_ ≠ (.slice Fv BT.length FA : Value).ownBlock) (Kd.Rk (A6.o) hkp (fun k_ hk_ hs_ => (hk_.1.1) hs_)) (fun k_ hk_ => ⟨hk_.1.1.1, hk_.1.1.2, hk_.1.2⟩)); replace A4 := Z.m (Kd.Rm (ok' := fun k_ => some k_ ≠ (.slice AQ Ac.length AJ : Value).ownBlock ∧ some k_ ≠ (.slice Az Av.length Ay : Value).ownBlock ∧ some k_ ≠ (.slice Fv BT.length FA : Value).ownBlock) (Kd.Rk (A4.o) hkp (fun k_ hk_ hs_ => (hk_.1.2) hs_)) (fun k_ hk_ => ⟨hk_.1.1.1, hk_.1.1.2, hk_.1.2⟩)); replace A1 := Z.m (qk (vK A1) hkp (fun hs_ => (fun e_ => (Kd.R_ne A7.o A1.o (by decide)) e_) hs_)); replace A2 := Z.m (qk (vK A2) hkp (fun hs_ => (fun e_ => (Kd.R_ne A7.o A2.o (by decide)) e_) hs_)); replace A5 := Z.m (qk (vK A5) hkp (fun hs_ => (fun e_ => (Kd.R_ne A7.o A5.o (by decide)) e_) hs_)); replace A0 := Z.m (qk (vK A0) hkp (fun hs_ => (fun e_ => (Kd.R_ne A7.o A0.o (by decide)) e_) hs_)); replace A7 := Z.m (Kd.Re rfl HK (fun k_ e_ => A7.o.1 k_ e_)); replace Bi := Z.m (Kd.Rm (ok' := fun k_ => some k_ ≠ (.slice AQ Ac.length AJ : Value).ownBlock ∧ some k_ ≠ (.slice Az Av.length Ay : Value).ownBlock ∧ some k_ ≠ (.slice AK Ak.length AA : Value).ownBlock) (Kd.Rk (Bi.o) hkp (fun k_ hk_ hs_ => (hk_.1.2) hs_)) (fun k_ hk_ => ⟨hk_.1.1.1.2, hk_.1.1.2, hk_.1.2⟩)); replace HB := Z.m (hb); (try clear hb); (try clear hkp); (try clear HK)))
      (try simp only [Act.put, q1, q2, q3])
      go_cut [80] (fun v80 wc => ∃ (kq : Nat) (BJ : Bool), v80 = .bool BJ ∧ Z (laws_FnExactRunMachine.j1 kq a1 As At BJ a0_0 a0_1 l0_2 a0_3 a0_4 a0_5 a0_6 a0_7 Al Am Ac An Ao Ap Aq Ar Ad Ae Ak Af Ag Ah Ai Aj = some true) ∧ Z (kq ≤ kj11) ∧ Z (Kd.R k88 88 wc w.heap.size (fun k_ => some k_ ≠ ((.slice Az Av.length Ay) : Value).ownBlock ∧ some k_ ≠ ((.slice AK Ak.length AA) : Value).ownBlock) (.slice AQ Ac.length AJ) Ac) ∧ Z (Kd.R k88 88 wc w.heap.size (fun k_ => some k_ ≠ ((.slice AQ Ac.length AJ) : Value).ownBlock ∧ some k_ ≠ ((.slice AK Ak.length AA) : Value).ownBlock) (.slice Az Av.length Ay) Bl) ∧ Z (Kd.R k88 88 wc w.heap.size (fun k_ => some k_ ≠ ((.slice AQ Ac.length AJ) : Value).ownBlock ∧ some k_ ≠ ((.slice Az Av.length Ay) : Value).ownBlock) (.slice AK Ak.length AA) Ak) ∧ Z (wc.heap[AV]? = some (.cells #[.int .i64 a0_0, .int .i64 a0_1, (.slice A0_2 l0_2.length c0_2), .int .i64 a0_3, .int .i64 a0_4, .int .i64 a0_5, .int .i64 a0_6, .int .i64 a0_7] 26 (0, 0))) ∧ Z (wc.heap[Bm]? = some (.cells #[.int .i64 Al, .int .i64 Am, (.slice AQ Ac.length AJ), .int .i64 An, .int .i64 Ao, .int .i64 Ap, .int .i64 Aq, .int .i64 Ar] 32 (0, 0))) ∧ Z (wc.heap[AZ]? = some (.cells #[.int .i64 AB, .int .i64 AC, (.slice Az Av.length Ay), .int .i64 AD, .int .i64 AE, .int .i64 AF, .int .i64 AG, .int .i64 AH] 32 (0, 0))) ∧ Z (wc.heap[Bw]? = some (.cells #[.int .i64 Ad, .int .i64 Ae, (.slice AK Ak.length AA), .int .i64 Af, .int .i64 Ag, .int .i64 Ah, .int .i64 Ai, .int .i64 Aj] 32 (0, 0))) ∧ Z (Below w.heap.size w wc))
      case first =>
       have H := Fx.o
       clear Fx
       by_cases c80 : FB < 0
       ·rw [if_pos c80] at H
        have BL := decide_eq_true c80
        clear c80
        (first | rw [BL] | (simp only [i64_w, i32_w]; rw [BL]) | skip)
        have H' := Z.m H
        clear H
        go_wp2
        go_meet
        case rel => exact ⟨_, (true), (by first | rfl | (simp; done) | (simp [*]; done)), H', ⟨by have := BY.o; first | omega | exact Nat.le_refl _⟩, ⟨by refine rK ?_; exact Kd.Rm A6.o (fun _ hk => ⟨hk.1, hk.2.1⟩)⟩, ⟨by refine rK ?_; exact Kd.Rm A7.o (fun _ hk => ⟨hk.1.1, hk.1.2⟩)⟩, ⟨by refine rK ?_; exact Kd.Rm A4.o (fun _ hk => ⟨hk.1, hk.2.1⟩)⟩, ⟨vK A1⟩, ⟨vK A2⟩, ⟨vK A5⟩, ⟨vK A0⟩, ⟨vB HB⟩⟩
       ·rw [if_neg c80] at H
        have BL := decide_eq_false c80
        clear c80
        (first | rw [BL] | (simp only [i64_w, i32_w]; rw [BL]) | skip)
        replace H := Option.bind_eq_some_iff.mp H
        obtain ⟨Bu, FI, H⟩ := H
        replace H : (if Bu = true then (if B2 = As then (laws_FnExactRunMachine.j1 kj11 a1 As At (B3 != At) a0_0 a0_1 l0_2 a0_3 a0_4 a0_5 a0_6 a0_7 Al Am Ac An Ao Ap Aq Ar Ad Ae Ak Af Ag Ah Ai Aj) else (laws_FnExactRunMachine.j1 kj11 a1 As At true a0_0 a0_1 l0_2 a0_3 a0_4 a0_5 a0_6 a0_7 Al Am Ac An Ao Ap Aq Ar Ad Ae Ak Af Ag Ah Ai Aj)) else (laws_FnExactRunMachine.j1 kj11 a1 As At true a0_0 a0_1 l0_2 a0_3 a0_4 a0_5 a0_6 a0_7 Al Am Ac An Ao Ap Aq Ar Ad Ae Ak Af Ag Ah Ai Aj)) = some true := H
        have LQ := Z.m FI
        clear FI
        by_cases c82 : Bu = true
        ·subst c82
         have H1 : (if B2 = As then (laws_FnExactRunMachine.j1 kj11 a1 As At (B3 != At) a0_0 a0_1 l0_2 a0_3 a0_4 a0_5 a0_6 a0_7 Al Am Ac An Ao Ap Aq Ar Ad Ae Ak Af Ag Ah Ai Aj) else (laws_FnExactRunMachine.j1 kj11 a1 As At true a0_0 a0_1 l0_2 a0_3 a0_4 a0_5 a0_6 a0_7 Al Am Ac An Ao Ap Aq Ar Ad Ae Ak Af Ag Ah Ai Aj)) = some true := by rw [if_pos rfl] at H; exact H
         clear H
         have H := H1
         clear H1
         by_cases c83 : B2 = As
         ·rw [if_pos c83] at H
          have LV := beq_iff_eq.mpr c83
          have LW := bne_eq_false_iff_eq.mpr c83
          clear c83
          have H' := Z.m H
          clear H
          have Mg := AW.o
          have ME := AM.o
          have Mh := AO.o
          have MF := Aw.o
          have Mi := AT.o
          have MG := Ax.o
          have Jh := bc0 A0
          have Ji := bc1 A0
          have Jj := bc2 A0
          have Jk := bc3 A0
          have Jl := bc4 A0
          have Jm := bc5 A0
          have Jn := bc6 A0
          have Jo := bc7 A0
          have K3 := qz A0.o 0
          have K4 := qz A0.o 1
          have K5 := qz A0.o 2
          have K6 := qz A0.o 3
          have K7 := qz A0.o 4
          have K8 := qz A0.o 5
          have K9 := qz A0.o 6
          have Ka := qz A0.o 7
          have Mj := AR.o
          have MH := AL.o
          have Mk := AN.o
          have MI := AS.o
          have Jp := bc0 A2
          have Jq := bc1 A2
          have Jr := bc2 A2
          have Js := bc3 A2
          have Jt := bc4 A2
          have Ju := bc5 A2
          have Jv := bc6 A2
          have Jw := bc7 A2
          have Kb := qz A2.o 0
          have Kc := qz A2.o 1
          have Ke := qz A2.o 2
          have Kf := qz A2.o 3
          have Kg := qz A2.o 4
          have Kh := qz A2.o 5
          have Ki := qz A2.o 6
          have Kj := qz A2.o 7
          go_wp2_with (first | (go_at_call 14; (with_reducible refine (laws_eqMachine.calls kj11 Ad Ae _ _ Ak Af Ag Ah Ai Aj Al Am _ _ Ac An Ao Ap Aq Ar true _ ?side1 ?side2 ?side3 ?side4 LQ.o).mono ?_); (case side1 => repeat (first | exact (Kd.RrZ A4.o).2.2 | (with_reducible refine Kd.C_alloc ?_ _) | (with_reducible refine Kd.C_drewN ?_ _) | (with_reducible refine Kd.C_drew ?_))); (case side2 => exact (Kd.RrZ A4.o).2.1); (case side3 => repeat (first | exact (Kd.RrZ A6.o).2.2 | (with_reducible refine Kd.C_alloc ?_ _) | (with_reducible refine Kd.C_drewN ?_ _) | (with_reducible refine Kd.C_drew ?_))); (case side4 => exact (Kd.RrZ A6.o).2.1); rintro e Nm ⟨rfl, hb⟩; replace A6 := Z.m (Kd.Rb (vR A6) hb); replace A7 := Z.m (Kd.Rb (vR A7) hb); replace A4 := Z.m (Kd.Rb (vR A4) hb); replace Bi := Z.m (Kd.Rb (vR Bi) hb); replace A1 := kB A1 hb; replace A2 := kB A2 hb; replace A5 := kB A5 hb; replace A0 := kB A0 hb; replace HB := bB HB hb; (try clear hb); (try clear BP); (try clear hk); (try clear hi)))
          go_meet
          case rel => exact ⟨_, ((B3 != At)), (by first | rfl | (simp; done) | (simp [*]; done)), H', ⟨by have := BY.o; first | omega | exact Nat.le_refl _⟩, ⟨by refine rK ?_; exact Kd.Rm A6.o (fun _ hk => ⟨hk.1, hk.2.1⟩)⟩, ⟨by refine rK ?_; exact Kd.Rm A7.o (fun _ hk => ⟨hk.1.1, hk.1.2⟩)⟩, ⟨by refine rK ?_; exact Kd.Rm A4.o (fun _ hk => ⟨hk.1, hk.2.1⟩)⟩, ⟨vK A1⟩, ⟨vK A2⟩, ⟨vK A5⟩, ⟨vK A0⟩, ⟨vB HB⟩⟩
         ·(rw [if_neg c83] at H; exact absurd H (laws_FnExactRunMachine.bad_j1 _ _ _ _ _ _ _ _ _ _ _ _ _ _ _ _ _ _ _ _ _ _ _ _ _ _ _ _))
        ·replace c82 := Bool.eq_false_iff.mpr c82
         subst c82
         have H1 : (laws_FnExactRunMachine.j1 kj11 a1 As At true a0_0 a0_1 l0_2 a0_3 a0_4 a0_5 a0_6 a0_7 Al Am Ac An Ao Ap Aq Ar Ad Ae Ak Af Ag Ah Ai Aj) = some true := by rw [if_neg (show ¬ (false = true) by decide)] at H; exact H
         clear H
         have H := H1
         clear H1
         have H' := Z.m H
         clear H
         have KL := AW.o
         have Lh := AM.o
         have KM := AO.o
         have Li := Aw.o
         have KN := AT.o
         have Lj := Ax.o
         have FT := bc0 A0
         have FU := bc1 A0
         have FV := bc2 A0
         have FW := bc3 A0
         have FX := bc4 A0
         have FY := bc5 A0
         have FZ := bc6 A0
         have G0 := bc7 A0
         have GN := qz A0.o 0
         have GO := qz A0.o 1
         have GP := qz A0.o 2
         have GQ := qz A0.o 3
         have GR := qz A0.o 4
         have GS := qz A0.o 5
         have GT := qz A0.o 6
         have GU := qz A0.o 7
         have KO := AR.o
         have Lk := AL.o
         have KP := AN.o
         have Ll := AS.o
         have G1 := bc0 A2
         have G2 := bc1 A2
         have G3 := bc2 A2
         have G4 := bc3 A2
         have G5 := bc4 A2
         have G6 := bc5 A2
         have G7 := bc6 A2
         have G8 := bc7 A2
         have GV := qz A2.o 0
         have GW := qz A2.o 1
         have GX := qz A2.o 2
         have GY := qz A2.o 3
         have GZ := qz A2.o 4
         have H0 := qz A2.o 5
         have H2 := qz A2.o 6
         have H3 := qz A2.o 7
         go_wp2_with (first | (go_at_call 14; (with_reducible refine (laws_eqMachine.calls kj11 Ad Ae _ _ Ak Af Ag Ah Ai Aj Al Am _ _ Ac An Ao Ap Aq Ar false _ ?side1 ?side2 ?side3 ?side4 LQ.o).mono ?_); (case side1 => repeat (first | exact (Kd.RrZ A4.o).2.2 | (with_reducible refine Kd.C_alloc ?_ _) | (with_reducible refine Kd.C_drewN ?_ _) | (with_reducible refine Kd.C_drew ?_))); (case side2 => exact (Kd.RrZ A4.o).2.1); (case side3 => repeat (first | exact (Kd.RrZ A6.o).2.2 | (with_reducible refine Kd.C_alloc ?_ _) | (with_reducible refine Kd.C_drewN ?_ _) | (with_reducible refine Kd.C_drew ?_))); (case side4 => exact (Kd.RrZ A6.o).2.1); rintro e MX ⟨rfl, hb⟩; replace A6 := Z.m (Kd.Rb (vR A6) hb); replace A7 := Z.m (Kd.Rb (vR A7) hb); replace A4 := Z.m (Kd.Rb (vR A4) hb); replace Bi := Z.m (Kd.Rb (vR Bi) hb); replace A1 := kB A1 hb; replace A2 := kB A2 hb; replace A5 := kB A5 hb; replace A0 := kB A0 hb; replace HB := bB HB hb; (try clear hb); (try clear BP); (try clear hk); (try clear hi)))
         go_meet
         case rel => exact ⟨_, (true), (by first | rfl | (simp; done) | (simp [*]; done)), H', ⟨by have := BY.o; first | omega | exact Nat.le_refl _⟩, ⟨by refine rK ?_; exact Kd.Rm A6.o (fun _ hk => ⟨hk.1, hk.2.1⟩)⟩, ⟨by refine rK ?_; exact Kd.Rm A7.o (fun _ hk => ⟨hk.1.1, hk.1.2⟩)⟩, ⟨by refine rK ?_; exact Kd.Rm A4.o (fun _ hk => ⟨hk.1, hk.2.1⟩)⟩, ⟨vK A1⟩, ⟨vK A2⟩, ⟨vK A5⟩, ⟨vK A0⟩, ⟨vB HB⟩⟩
      case rest =>
       clear Fx
       (try clear c65); (try clear c68)
       (try clear DW); (try clear DX); (try clear DY); (try clear DZ); (try clear E0); (try clear E1); (try clear E2); (try clear E3)
       (try clear ES); (try clear ET); (try clear EU); (try clear EV); (try clear EW); (try clear EX); (try clear EY); (try clear EZ)
       obtain ⟨kq, BJ, rfl, HA, FO, A6, A7, A4, A1, A2, A5, A0, HB⟩ := hcut
       have Aa := (Kd.RrZ A7.o).1
       rw [Aa] at A7
       (try simp only [Aa])
       (try simp only [Aa] at A1)
       (try simp only [Aa] at A2)
       (try simp only [Aa] at A5)
       (try simp only [Aa] at A0)
       (try simp only [Aa] at A6)
       (try simp only [Aa] at A4)
       cases kq with
       | zero => exact absurd HA.o (by simp [laws_FnExactRunMachine.j1])
       | succ kj69 =>
        have H := HA.o
        clear HA
        simp only [laws_FnExactRunMachine.j1] at H
        by_cases c108 : BJ = true
        ·(rw [if_pos c108] at H; exact absurd H (by decide))
        ·replace c108 := Bool.eq_false_iff.mpr c108
         subst c108
         have H1 : ((laws_markMachine.f kj69 Ad Ae Ak Af Ag Ah Ai Aj 1).bind fun bt566 => ((laws_heldMachine.f kj69 Ad Ae bt566.2 Af Ag Ah Ai Aj 1).bind fun Bx => (if Bx < 0 then (some false) else (if Bx = bt566.1 then ((laws_toMachine.f kj69 a0_0 a0_1 l0_2 a0_3 a0_4 a0_5 a0_6 a0_7).bind fun bt569 => ((impl_RunMachine.f kj69 bt569.1 bt569.2.1 bt569.2.2.1 bt569.2.2.2.1 bt569.2.2.2.2.1 bt569.2.2.2.2.2.1 bt569.2.2.2.2.2.2.1 bt569.2.2.2.2.2.2.2 a1).bind fun bt579 => ((laws_eqMachine.f kj69 bt579.1 bt579.2.1 bt579.2.2.1 bt579.2.2.2.1 bt579.2.2.2.2.1 bt579.2.2.2.2.2.1 bt579.2.2.2.2.2.2.1 bt579.2.2.2.2.2.2.2.1 Al Am Ac An Ao Ap Aq Ar).bind fun Bv => (if Bv = true then (if bt579.2.2.2.2.2.2.2.2.1 = As then (laws_FnExactRunMachine.j2 kj69 bt566.1 (bt579.2.2.2.2.2.2.2.2.2 != At) Ad Ae bt566.2 Af Ag Ah Ai Aj) else (laws_FnExactRunMachine.j2 kj69 bt566.1 true Ad Ae bt566.2 Af Ag Ah Ai Aj)) else (laws_FnExactRunMachine.j2 kj69 bt566.1 true Ad Ae bt566.2 Af Ag Ah Ai Aj))))) else (some false))))) = some true := by rw [if_neg (show ¬ (false = true) by decide)] at H; exact H
         clear H
         have H := H1
         clear H1
         replace H := Option.bind_eq_some_iff.mp H
         obtain ⟨⟨AX, AU⟩, Fl, H⟩ := H
         replace H : ((laws_heldMachine.f kj69 Ad Ae AU Af Ag Ah Ai Aj 1).bind fun Bx => (if Bx < 0 then (some false) else (if Bx = AX then ((laws_toMachine.f kj69 a0_0 a0_1 l0_2 a0_3 a0_4 a0_5 a0_6 a0_7).bind fun bt569 => ((impl_RunMachine.f kj69 bt569.1 bt569.2.1 bt569.2.2.1 bt569.2.2.2.1 bt569.2.2.2.2.1 bt569.2.2.2.2.2.1 bt569.2.2.2.2.2.2.1 bt569.2.2.2.2.2.2.2 a1).bind fun bt579 => ((laws_eqMachine.f kj69 bt579.1 bt579.2.1 bt579.2.2.1 bt579.2.2.2.1 bt579.2.2.2.2.1 bt579.2.2.2.2.2.1 bt579.2.2.2.2.2.2.1 bt579.2.2.2.2.2.2.2.1 Al Am Ac An Ao Ap Aq Ar).bind fun Bv => (if Bv = true then (if bt579.2.2.2.2.2.2.2.2.1 = As then (laws_FnExactRunMachine.j2 kj69 AX (bt579.2.2.2.2.2.2.2.2.2 != At) Ad Ae AU Af Ag Ah Ai Aj) else (laws_FnExactRunMachine.j2 kj69 AX true Ad Ae AU Af Ag Ah Ai Aj)) else (laws_FnExactRunMachine.j2 kj69 AX true Ad Ae AU Af Ag Ah Ai Aj))))) else (some false)))) = some true := H
         have Kk := Z.m Fl
         clear Fl
         replace H := Option.bind_eq_some_iff.mp H
         obtain ⟨Bx, Fm, H⟩ := H
         replace H : (if Bx < 0 then (some false) else (if Bx = AX then ((laws_toMachine.f kj69 a0_0 a0_1 l0_2 a0_3 a0_4 a0_5 a0_6 a0_7).bind fun bt569 => ((impl_RunMachine.f kj69 bt569.1 bt569.2.1 bt569.2.2.1 bt569.2.2.2.1 bt569.2.2.2.2.1 bt569.2.2.2.2.2.1 bt569.2.2.2.2.2.2.1 bt569.2.2.2.2.2.2.2 a1).bind fun bt579 => ((laws_eqMachine.f kj69 bt579.1 bt579.2.1 bt579.2.2.1 bt579.2.2.2.1 bt579.2.2.2.2.1 bt579.2.2.2.2.2.1 bt579.2.2.2.2.2.2.1 bt579.2.2.2.2.2.2.2.1 Al Am Ac An Ao Ap Aq Ar).bind fun Bv => (if Bv = true then (if bt579.2.2.2.2.2.2.2.2.1 = As then (laws_FnExactRunMachine.j2 kj69 AX (bt579.2.2.2.2.2.2.2.2.2 != At) Ad Ae AU Af Ag Ah Ai Aj) else (laws_FnExactRunMachine.j2 kj69 AX true Ad Ae AU Af Ag Ah Ai Aj)) else (laws_FnExactRunMachine.j2 kj69 AX true Ad Ae AU Af Ag Ah Ai Aj))))) else (some false))) = some true := H
         have D9 := Z.m Fm
         clear Fm
         by_cases c111 : Bx < 0
         ·(rw [if_pos c111] at H; exact absurd H (by decide))
         ·rw [if_neg c111] at H
          have BZ := decide_eq_false c111
          (try simp only [Aa] at BZ)
          clear c111
          by_cases c119 : Bx = AX
          ·rw [if_pos c119] at H
           have Fy := beq_iff_eq.mpr c119
           have Fz := bne_eq_false_iff_eq.mpr c119
           clear c119
           replace H := Option.bind_eq_some_iff.mp H
           obtain ⟨⟨Fe, Ff, BN, Fg, Fh, Fi, Fj, Fk⟩, Fn, H⟩ := H
           replace H : ((impl_RunMachine.f kj69 Fe Ff BN Fg Fh Fi Fj Fk a1).bind fun bt579 => ((laws_eqMachine.f kj69 bt579.1 bt579.2.1 bt579.2.2.1 bt579.2.2.2.1 bt579.2.2.2.2.1 bt579.2.2.2.2.2.1 bt579.2.2.2.2.2.2.1 bt579.2.2.2.2.2.2.2.1 Al Am Ac An Ao Ap Aq Ar).bind fun Bv => (if Bv = true then (if bt579.2.2.2.2.2.2.2.2.1 = As then (laws_FnExactRunMachine.j2 kj69 AX (bt579.2.2.2.2.2.2.2.2.2 != At) Ad Ae AU Af Ag Ah Ai Aj) else (laws_FnExactRunMachine.j2 kj69 AX true Ad Ae AU Af Ag Ah Ai Aj)) else (laws_FnExactRunMachine.j2 kj69 AX true Ad Ae AU Af Ag Ah Ai Aj)))) = some true := H
           have Kl := Z.m Fn
           clear Fn
           replace H := Option.bind_eq_some_iff.mp H
           obtain ⟨⟨BB, BC, Bf, BD, BE, BF, BG, BH, D7, D8⟩, Fo, H⟩ := H
           replace H : ((laws_eqMachine.f kj69 BB BC Bf BD BE BF BG BH Al Am Ac An Ao Ap Aq Ar).bind fun Bv => (if Bv = true then (if D7 = As then (laws_FnExactRunMachine.j2 kj69 AX (D8 != At) Ad Ae AU Af Ag Ah Ai Aj) else (laws_FnExactRunMachine.j2 kj69 AX true Ad Ae AU Af Ag Ah Ai Aj)) else (laws_FnExactRunMachine.j2 kj69 AX true Ad Ae AU Af Ag Ah Ai Aj))) = some true := H
           have Km := Z.m Fo
           clear Fo
           have BX := Z.m H
           clear H
           have KQ := AW.o
           have Lm := AM.o
           have KR := AO.o
           have Ln := Aw.o
           have KS := AT.o
           have Lo := Ax.o
           have C3 := bc0 A0
           have C4 := bc1 A0
           have C5 := bc2 A0
           have C6 := bc3 A0
           have C7 := bc4 A0
           have C8 := bc5 A0
           have C9 := bc6 A0
           have Ca := bc7 A0
           have CB := qz A0.o 0
           have CC := qz A0.o 1
           have CD := qz A0.o 2
           have CE := qz A0.o 3
           have CF := qz A0.o 4
           have CG := qz A0.o 5
           have CH := qz A0.o 6
           have CI := qz A0.o 7
           go_upto_region 25 with (first | ((with_reducible refine gc (f := 15) rfl ?_); refine gA (some 83) _ #[.agg #[.int .i64 Ad, .int .i64 Ae, .slice AK Ak.length AA, .int .i64 Af, .int .i64 Ag, .int .i64 Ah, .int .i64 Ai, .int .i64 Aj], .int .i64 1] ?_ Try.func15; (with_reducible refine (laws_markMachine.calls kj69 Ad Ae (fun k_ => some k_ = (.slice AK Ak.length AA : Value).ownBlock) (.slice AK Ak.length AA) Ak Af Ag Ah Ai Aj 1 AX AU w _ ?side1 ?side2 Kk.o).mono ?_); (case side1 => repeat (first | (with_reducible first | exact HB.o | apply qa | apply qn | apply qd | refine qx ?_ BV.o | refine qx ?_ Fr.o | refine qx ?_ Fs.o | refine qx ?_ Ft.o) | exact HB.o)); (case side2 => exact Kd.Rg rfl A4.o); rintro e MY ⟨rfl, HK, hb, hkp⟩; refine ⟨_, rfl, ?_⟩; replace A6 := Z.m (Kd.Rm (ok' := fun k_ => some k_ ≠ (.slice Az Bl.length Ay : Value).ownBlock ∧ some k_ ≠ (.slice AK Ak.length AA : Value).ownBlock) (Kd.Rk (A6.o) hkp (fun k_ hk_ hs_ => (hk_.2) hs_)) (fun k_ hk_ => ⟨hk_.1.1, hk_.1.2⟩)); replace A7 := Z.m (Kd.Rm (ok' := fun k_ => some k_ ≠ (.slice AQ Ac.length AJ : Value).ownBlock ∧ some k_ ≠ (.slice AK Ak.length AA : Value).ownBlock) (Kd.Rk (A7.o) hkp (fun k_ hk_ hs_ => (hk_.2) hs_)) (fun k_ hk_ => ⟨hk_.1.1, hk_.1.2⟩)); replace A1 := Z.m (qk (vK A1) hkp (fun hs_ => (fun e_ => (Kd.R_ne A4.o A1.o (by decide)) e_) hs_)); replace A2 := Z.m (qk (vK A2) hkp (fun hs_ => (fun e_ => (Kd.R_ne A4.o A2.o (by decide)) e_) hs_)); replace A5 := Z.m (qk (vK A5) hkp (fun hs_ => (fun e_ => (Kd.R_ne A4.o A5.o (by decide)) e_) hs_)); replace A0 := Z.m (qk (vK A0) hkp (fun hs_ => (fun e_ => (Kd.R_ne A4.o A0.o (by decide)) e_) hs_)); replace A4 := Z.m (Kd.Re rfl HK (fun k_ e_ => A4.o.1 k_ e_)); replace HB := Z.m (hb); (try clear hb); (try clear hkp); (try clear HK); have Cb := bc0 A0; have Cd := bc1 A0; have Ce := bc2 A0; have Cf := bc3 A0; have Cg := bc4 A0; have Ch := bc5 A0; have Ci := bc6 A0; have Cj := bc7 A0; have CJ := qz A0.o 0; have CK := qz A0.o 1; have CL := qz A0.o 2; have CM := qz A0.o 3; have CN := qz A0.o 4; have CO := qz A0.o 5; have CP := qz A0.o 6; have CQ := qz A0.o 7) | ((with_reducible refine gc (f := 16) rfl ?_); refine goesL_ (some 86) rfl rfl Try.func16 (by kernel_rfl) rfl #[.agg #[.int .i64 Ad, .int .i64 Ae, .slice AK AU.length AA, .int .i64 Af, .int .i64 Ag, .int .i64 Ah, .int .i64 Ai, .int .i64 Aj], .int .i64 1] rfl (by (try simp only [List.map_toArray, List.map_cons, List.map_nil]); first | done | (rw [show AU.length = Ak.length from (Kd.RrZ A4.o).1.symm] <;> rfl) | rfl | (simp only [List.length_drop, List.length_take]; rfl)) ?_; (with_reducible refine (laws_heldMachine.calls kj69 Ad Ae _ _ AU Af Ag Ah Ai Aj 1 Bx _ ?side1 ?side2 D9.o).mono ?_); (case side1 => repeat (first | exact (Kd.RrZ A4.o).2.2 | (with_reducible refine Kd.C_alloc ?_ _) | (with_reducible refine Kd.C_drewN ?_ _) | (with_reducible refine Kd.C_drew ?_))); (case side2 => rw [show AU.length = Ak.length from (Kd.RrZ A4.o).1.symm]; exact (Kd.RrZ A4.o).2.1); rintro e MZ ⟨rfl, hb⟩; refine ⟨_, rfl, ?_⟩; replace A6 := Z.m (Kd.Rb (vR A6) hb); replace A7 := Z.m (Kd.Rb (vR A7) hb); replace A4 := Z.m (Kd.Rb (vR A4) hb); replace A1 := kB A1 hb; replace A2 := kB A2 hb; replace A5 := kB A5 hb; replace A0 := kB A0 hb; replace HB := bB HB hb; (try clear hb); (try clear BP); (try clear hk); (try clear hi); have KT := AL.o; have Lp := AR.o; have KU := Bj.o; have Lq := Bq.o; have Cl := bc0 A1; have Cm := bc1 A1; have Cn := bc2 A1; have Co := bc3 A1; have Cp := bc4 A1; have Cq := bc5 A1; have Cr := bc6 A1; have Cs := bc7 A1; have CR := qz A1.o 0; have CS := qz A1.o 1; have CT := qz A1.o 2; have CU := qz A1.o 3; have CV := qz A1.o 4; have CW := qz A1.o 5; have CX := qz A1.o 6; have CY := qz A1.o 7) | ((with_reducible refine gc (f := 12) rfl ?_); refine gA (some 94) _ #[.agg #[.int .i64 a0_0, .int .i64 a0_1, .slice A0_2 l0_2.length c0_2, .int .i64 a0_3, .int .i64 a0_4, .int .i64 a0_5, .int .i64 a0_6, .int .i64 a0_7]] ?_ Try.func12; (with_reducible refine (laws_toMachine.calls kj69 a0_0 a0_1 _ _ l0_2 a0_3 a0_4 a0_5 a0_6 a0_7 Fe Ff BN Fg Fh Fi Fj Fk _ ?side1 ?side2 Kl.o).mono ?_); (case side1 => repeat (first | exact (Kd.C_below Bz.o HB.o) | (with_reducible refine Kd.C_alloc ?_ _) | (with_reducible refine Kd.C_drewN ?_ _) | (with_reducible refine Kd.C_drew ?_))); (case side2 => exact By.o); rintro e N0 ⟨MV, rfl, Bg, hb⟩; refine ⟨_, rfl, ?_⟩; have Be := Z.m (Kd.R_lower (Kd.R_new' (Kd.R_new' (Kd.R_new' Bg (Kd.R_lt (vR A6))) (Kd.R_lt (vR A7))) (Kd.R_lt (vR A4))) (below_size (vB HB))); replace A6 := Z.m (Kd.R_elder' (vR A6) (Kd.R_base Bg) hb); replace A7 := Z.m (Kd.R_elder' (vR A7) (Kd.R_base Bg) hb); replace A4 := Z.m (Kd.R_elder' (vR A4) (Kd.R_base Bg) hb); replace A1 := kB A1 hb; replace A2 := kB A2 hb; replace A5 := kB A5 hb; replace A0 := kB A0 hb; replace HB := bB HB hb; (try clear hb); (try clear BP); (try clear hk); (try clear hi); (try clear Bg); obtain ⟨BK, BM, FQ⟩ := Kd.R_slice Be.o; subst FQ) | ((with_reducible refine gc (f := 13) rfl ?_); refine gA (some 96) _ #[.agg #[.int .i64 Fe, .int .i64 Ff, .slice BK BN.length BM, .int .i64 Fg, .int .i64 Fh, .int .i64 Fi, .int .i64 Fj, .int .i64 Fk], .int .i64 a1] ?_ Try.func13; (with_reducible refine (impl_RunMachine.calls kj69 Fe Ff _ _ BN Fg Fh Fi Fj Fk a1 BB BC Bf BD BE BF BG BH D7 D8 _ ?side1 ?side2 Km.o).mono ?_); (case side1 => repeat (first | exact (Kd.RrZ Be.o).2.2 | (with_reducible refine Kd.C_alloc ?_ _) | (with_reducible refine Kd.C_drewN ?_ _) | (with_reducible refine Kd.C_drew ?_))); (case side2 => exact (Kd.RrZ Be.o).2.1); rintro e N1 ⟨MW, rfl, Bg, hb⟩; refine ⟨_, rfl, ?_⟩; have B8 := Z.m (Kd.R_lower (Kd.R_new' (Kd.R_new' (Kd.R_new' (Kd.R_new' Bg (Kd.R_lt (vR A6))) (Kd.R_lt (vR A7))) (Kd.R_lt (vR A4))) (Kd.R_lt (vR Be))) (below_size (vB HB))); replace A6 := Z.m (Kd.R_elder' (vR A6) (Kd.R_base Bg) hb); replace A7 := Z.m (Kd.R_elder' (vR A7) (Kd.R_base Bg) hb); replace A4 := Z.m (Kd.R_elder' (vR A4) (Kd.R_base Bg) hb); replace Be := Z.m (Kd.R_elder' (vR Be) (Kd.R_base Bg) hb); replace A1 := kB A1 hb; replace A2 := kB A2 hb; replace A5 := kB A5 hb; replace A0 := kB A0 hb; replace HB := bB HB hb; (try clear hb); (try clear BP); (try clear hk); (try clear hi); (try clear Bg)) | ((with_reducible refine gq (N := 16) rfl ?_); refine be (N := 16) (cs := #[.int .i64 0, .int .i64 0, .slice none 0 0, .int .i64 0, .int .i64 0, .int .i64 0, .int .i64 0, .int .i64 0]) (t := 32) ?_; intro C2 hg N2 hbox hb; have Ab := Z.m (hbox); have FN := gW (w := w) HB hg; have LS := FN; have Ba := neL A1 hg; have Br := neG A1 hg; have Bb := neL A2 hg; have Bs := neG A2 hg; have Bc := neL A5 hg; have Bt := neG A5 hg; have B0 := neL A0 hg; have Bk := neG A0 hg; replace A6 := Z.m (Kd.Rb (vR A6) hb); replace A7 := Z.m (Kd.Rb (vR A7) hb); replace A4 := Z.m (Kd.Rb (vR A4) hb); replace Be := Z.m (Kd.Rb (vR Be) hb); replace B8 := Z.m (Kd.Rb (vR B8) hb); replace A1 := kB A1 hb; replace A2 := kB A2 hb; replace A5 := kB A5 hb; replace A0 := kB A0 hb; replace HB := bB HB hb; clear hb hbox hg; have KV := Br.o; have Lr := Ba.o; have KW := Bs.o; have Ls := Bb.o; have KX := Bt.o; have Lt := Bc.o; have KY := Bk.o; have Lu := B0.o; have Ct := bc0 Ab; have Cu := bc1 Ab; have Cv := bc2 Ab; have Cw := bc3 Ab; have Cx := bc4 Ab; have Cy := bc5 Ab; have Cz := bc6 Ab; have CA := bc7 Ab; have CZ := qz Ab.o 0; have D0 := qz Ab.o 1; have D1 := qz Ab.o 2; have D2 := qz Ab.o 3; have D3 := qz Ab.o 4; have D4 := qz Ab.o 5; have D5 := qz Ab.o 6; have D6 := qz Ab.o 7; obtain ⟨Bh, Bd, FR⟩ := Kd.R_slice B8.o; subst FR))
           (try simp only [Act.put, q1, q2, q3])
           go_cut [113] (fun v113 wc => ∃ (kq : Nat) (Bo : Bool), v113 = .bool Bo ∧ Z (laws_FnExactRunMachine.j2 kq AX Bo Ad Ae AU Af Ag Ah Ai Aj = some true) ∧ Z (kq ≤ kj69) ∧ Z (Kd.R k88 88 wc w.heap.size (fun k_ => some k_ ≠ ((.slice Az Bl.length Ay) : Value).ownBlock ∧ some k_ ≠ ((.slice AK Ak.length AA) : Value).ownBlock ∧ some k_ ≠ ((.slice Bh Bf.length Bd) : Value).ownBlock) (.slice AQ Ac.length AJ) Ac) ∧ Z (Kd.R k88 88 wc w.heap.size (fun k_ => some k_ ≠ ((.slice AQ Ac.length AJ) : Value).ownBlock ∧ some k_ ≠ ((.slice AK Ak.length AA) : Value).ownBlock ∧ some k_ ≠ ((.slice Bh Bf.length Bd) : Value).ownBlock) (.slice Az Bl.length Ay) Bl) ∧ Z (Kd.R k88 88 wc w.heap.size (fun k_ => some k_ ≠ ((.slice AQ Ac.length AJ) : Value).ownBlock ∧ some k_ ≠ ((.slice Az Bl.length Ay) : Value).ownBlock ∧ some k_ ≠ ((.slice Bh Bf.length Bd) : Value).ownBlock) (.slice AK Ak.length AA) AU) ∧ Z (Kd.R k88 88 wc w.heap.size (fun k_ => some k_ ≠ ((.slice AQ Ac.length AJ) : Value).ownBlock ∧ some k_ ≠ ((.slice Az Bl.length Ay) : Value).ownBlock ∧ some k_ ≠ ((.slice AK Ak.length AA) : Value).ownBlock) (.slice Bh Bf.length Bd) Bf) ∧ Z (wc.heap[AV]? = some (.cells #[.int .i64 a0_0, .int .i64 a0_1, (.slice A0_2 l0_2.length c0_2), .int .i64 a0_3, .int .i64 a0_4, .int .i64 a0_5, .int .i64 a0_6, .int .i64 a0_7] 26 (0, 0))) ∧ Z (wc.heap[Bm]? = some (.cells #[.int .i64 Al, .int .i64 Am, (.slice AQ Ac.length AJ), .int .i64 An, .int .i64 Ao, .int .i64 Ap, .int .i64 Aq, .int .i64 Ar] 32 (0, 0))) ∧ Z (wc.heap[AZ]? = some (.cells #[.int .i64 AB, .int .i64 AC, (.slice Az Bl.length Ay), .int .i64 AD, .int .i64 AE, .int .i64 AF, .int .i64 AG, .int .i64 AH] 32 (0, 0))) ∧ Z (wc.heap[Bw]? = some (.cells #[.int .i64 Ad, .int .i64 Ae, (.slice AK Ak.length AA), .int .i64 Af, .int .i64 Ag, .int .i64 Ah, .int .i64 Ai, .int .i64 Aj] 32 (0, 0))) ∧ Z (wc.heap[C2]? = some (.cells #[.int .i64 BB, .int .i64 BC, (.slice Bh Bf.length Bd), .int .i64 BD, .int .i64 BE, .int .i64 BF, .int .i64 BG, .int .i64 BH] 32 (0, 0))) ∧ Z (Below w.heap.size w wc))
           case first =>
            have H := BX.o
            clear BX
            replace H := Option.bind_eq_some_iff.mp H
            obtain ⟨Bv, Fp, H⟩ := H
            replace H : (if Bv = true then (if D7 = As then (laws_FnExactRunMachine.j2 kj69 AX (D8 != At) Ad Ae AU Af Ag Ah Ai Aj) else (laws_FnExactRunMachine.j2 kj69 AX true Ad Ae AU Af Ag Ah Ai Aj)) else (laws_FnExactRunMachine.j2 kj69 AX true Ad Ae AU Af Ag Ah Ai Aj)) = some true := H
            have FD := Z.m Fp
            clear Fp
            by_cases c144 : Bv = true
            ·subst c144
             have H1 : (if D7 = As then (laws_FnExactRunMachine.j2 kj69 AX (D8 != At) Ad Ae AU Af Ag Ah Ai Aj) else (laws_FnExactRunMachine.j2 kj69 AX true Ad Ae AU Af Ag Ah Ai Aj)) = some true := by rw [if_pos rfl] at H; exact H
             clear H
             have H := H1
             clear H1
             by_cases c145 : D7 = As
             ·rw [if_pos c145] at H
              have C0 := beq_iff_eq.mpr c145
              have Ko := bne_eq_false_iff_eq.mpr c145
              clear c145
              (first | rw [C0] | (simp only [i64_w, i32_w]; rw [C0]) | skip)
              have H' := Z.m H
              clear H
              have KZ := Br.o
              have Lv := Ba.o
              have L0 := Bs.o
              have Lw := Bb.o
              have L1 := Bt.o
              have Lx := Bc.o
              have L2 := Bk.o
              have Ly := B0.o
              have G9 := bc0 Ab
              have Ga := bc1 Ab
              have Gb := bc2 Ab
              have Gc := bc3 Ab
              have Gd := bc4 Ab
              have Ge := bc5 Ab
              have Gf := bc6 Ab
              have Gg := bc7 Ab
              have H4 := qz Ab.o 0
              have H5 := qz Ab.o 1
              have H6 := qz Ab.o 2
              have H7 := qz Ab.o 3
              have H8 := qz Ab.o 4
              have H9 := qz Ab.o 5
              have Ha := qz Ab.o 6
              have Hb := qz Ab.o 7
              have L3 := AR.o
              have Lz := AL.o
              have L4 := AN.o
              have LA := AS.o
              have L5 := Aw.o
              have LB := AO.o
              have Gh := bc0 A2
              have Gi := bc1 A2
              have Gj := bc2 A2
              have Gk := bc3 A2
              have Gl := bc4 A2
              have Gm := bc5 A2
              have Gn := bc6 A2
              have Go := bc7 A2
              have Hc := qz A2.o 0
              have Hd := qz A2.o 1
              have He := qz A2.o 2
              have Hf := qz A2.o 3
              have Hg := qz A2.o 4
              have Hh := qz A2.o 5
              have Hi := qz A2.o 6
              have Hj := qz A2.o 7
              go_wp2_with (first | ((with_reducible refine gc (f := 14) rfl ?_); refine gA (some 102) _ #[.agg #[.int .i64 BB, .int .i64 BC, .slice Bh Bf.length Bd, .int .i64 BD, .int .i64 BE, .int .i64 BF, .int .i64 BG, .int .i64 BH], .agg #[.int .i64 Al, .int .i64 Am, .slice AQ Ac.length AJ, .int .i64 An, .int .i64 Ao, .int .i64 Ap, .int .i64 Aq, .int .i64 Ar]] ?_ Try.func14; (with_reducible refine (laws_eqMachine.calls kj69 BB BC _ _ Bf BD BE BF BG BH Al Am _ _ Ac An Ao Ap Aq Ar true _ ?side1 ?side2 ?side3 ?side4 FD.o).mono ?_); (case side1 => refine (Kd.RrZ (e := 88) (base := w.heap.size) (ok := fun k_ => ((((True ∧ some k_ ≠ (.slice AQ Ac.length AJ : Value).ownBlock) ∧ some k_ ≠ (.slice Az Bl.length Ay : Value).ownBlock) ∧ some k_ ≠ (.slice AK Ak.length AA : Value).ownBlock) ∧ some k_ ≠ (.slice BK BN.length BM : Value).ownBlock)) (n := Bf.length) (c := Bd) ?_).2.2; exact (by refine rK ?_; exact (Kd.Rm (rf (rf (rf (rf (rf (rf (rf (rf (Kd.Ry B8.o Ab.o (by decide)))))))))) (fun _ h_ => h_.1)))); (case side2 => exact (Kd.RrZ B8.o).2.1); (case side3 => refine (Kd.RrZ (e := 88) (base := w.heap.size) (ok := fun k_ => (((some k_ ≠ (.slice Az Bl.length Ay : Value).ownBlock ∧ some k_ ≠ (.slice AK Ak.length AA : Value).ownBlock) ∧ some k_ ≠ (.slice BK BN.length BM : Value).ownBlock) ∧ some k_ ≠ (.slice Bh Bf.length Bd : Value).ownBlock)) (n := Ac.length) (c := AJ) ?_).2.2; exact (by refine rK ?_; exact (Kd.Rm (rf (rf (rf (rf (rf (rf (rf (rf (Kd.Ry A6.o Ab.o (by decide)))))))))) (fun _ h_ => h_.1)))); (case side4 => exact (Kd.RrZ A6.o).2.1); rintro e N3 ⟨rfl, hb⟩; refine ⟨_, rfl, ?_⟩; replace A6 := Z.m (Kd.Rb (by refine rK ?_; exact (Kd.Rm (rf (rf (rf (rf (rf (rf (rf (rf (Kd.Ry A6.o Ab.o (by decide)))))))))) (fun _ h_ => h_.1))) hb); replace A7 := Z.m (Kd.Rb (by refine rK ?_; exact (Kd.Rm (rf (rf (rf (rf (rf (rf (rf (rf (Kd.Ry A7.o Ab.o (by decide)))))))))) (fun _ h_ => h_.1))) hb); replace A4 := Z.m (Kd.Rb (by refine rK ?_; exact (Kd.Rm (rf (rf (rf (rf (rf (rf (rf (rf (Kd.Ry A4.o Ab.o (by decide)))))))))) (fun _ h_ => h_.1))) hb); replace Be := Z.m (Kd.Rb (by refine rK ?_; exact (Kd.Rm (rf (rf (rf (rf (rf (rf (rf (rf (Kd.Ry Be.o Ab.o (by decide)))))))))) (fun _ h_ => h_.1))) hb); replace B8 := Z.m (Kd.Rb (by refine rK ?_; exact (Kd.Rm (rf (rf (rf (rf (rf (rf (rf (rf (Kd.Ry B8.o Ab.o (by decide)))))))))) (fun _ h_ => h_.1))) hb); replace A1 := Z.m (qb (g := AV) (o := .cells #[.int .i64 a0_0, .int .i64 a0_1, .slice A0_2 l0_2.length c0_2, .int .i64 a0_3, .int .i64 a0_4, .int .i64 a0_5, .int .i64 a0_6, .int .i64 a0_7] 26 (0, 0)) (by refine bK ?_; (iterate 8 refine qF ?_ Ba); exact A1.o) hb); replace A2 := Z.m (qb (g := Bm) (o := .cells #[.int .i64 Al, .int .i64 Am, .slice AQ Ac.length AJ, .int .i64 An, .int .i64 Ao, .int .i64 Ap, .int .i64 Aq, .int .i64 Ar] 32 (0, 0)) (by refine bK ?_; (iterate 8 refine qF ?_ Bb); exact A2.o) hb); replace A5 := Z.m (qb (g := AZ) (o := .cells #[.int .i64 AB, .int .i64 AC, .slice Az Bl.length Ay, .int .i64 AD, .int .i64 AE, .int .i64 AF, .int .i64 AG, .int .i64 AH] 32 (0, 0)) (by refine bK ?_; (iterate 8 refine qF ?_ Bc); exact A5.o) hb); replace A0 := Z.m (qb (g := Bw) (o := .cells #[.int .i64 Ad, .int .i64 Ae, .slice AK Ak.length AA, .int .i64 Af, .int .i64 Ag, .int .i64 Ah, .int .i64 Ai, .int .i64 Aj] 32 (0, 0)) (by refine bK ?_; (iterate 8 refine qF ?_ B0); exact A0.o) hb); replace Ab := Z.m (qb (g := C2) (o := .cells #[.int .i64 BB, .int .i64 BC, .slice Bh Bf.length Bd, .int .i64 BD, .int .i64 BE, .int .i64 BF, .int .i64 BG, .int .i64 BH] 32 (0, 0)) (by refine bK ?_; apply st8; refine bK ?_; exact Ab.o) hb); replace HB := bB HB hb; (try clear hb); (try clear BP); (try clear hk); (try clear hi)))
              go_meet
              case rel => exact ⟨_, ((D8 != At)), (by first | rfl | (simp; done) | (simp [*]; done)), H', ⟨by have := BY.o; have := FO.o; first | omega | exact Nat.le_refl _⟩, ⟨by (try simp only [Aa]); refine rK ?_; exact Kd.Rm A6.o (fun _ hk => ⟨hk.1.1.1, ⟨hk.1.1.2, hk.2⟩⟩)⟩, ⟨by (try simp only [Aa]); refine rK ?_; exact Kd.Rm A7.o (fun _ hk => ⟨hk.1.1.1, ⟨hk.1.1.2, hk.2⟩⟩)⟩, ⟨by (try simp only [Aa]); refine rK ?_; exact Kd.Rm A4.o (fun _ hk => ⟨hk.1.1.1, ⟨hk.1.1.2, hk.2⟩⟩)⟩, ⟨by (try simp only [Aa]); refine rK ?_; exact Kd.Rm B8.o (fun _ hk => ⟨hk.1.1.1.2, ⟨hk.1.1.2, hk.1.2⟩⟩)⟩, ⟨by (try simp only [Aa]); refine bK ?_; exact A1.o⟩, ⟨by (try simp only [Aa]); refine bK ?_; exact A2.o⟩, ⟨by (try simp only [Aa]); refine bK ?_; exact A5.o⟩, ⟨by (try simp only [Aa]); refine bK ?_; exact A0.o⟩, ⟨by (try simp only [Aa]); refine bK ?_; exact Ab.o⟩, ⟨vB HB⟩⟩
             ·(rw [if_neg c145] at H; exact absurd H (laws_FnExactRunMachine.bad_j2 _ _ _ _ _ _ _ _ _ _))
            ·replace c144 := Bool.eq_false_iff.mpr c144
             subst c144
             have H1 : (laws_FnExactRunMachine.j2 kj69 AX true Ad Ae AU Af Ag Ah Ai Aj) = some true := by rw [if_neg (show ¬ (false = true) by decide)] at H; exact H
             clear H
             have H := H1
             clear H1
             have H' := Z.m H
             clear H
             have L6 := Br.o
             have LC := Ba.o
             have L7 := Bs.o
             have LD := Bb.o
             have L8 := Bt.o
             have LE := Bc.o
             have L9 := Bk.o
             have LF := B0.o
             have Gp := bc0 Ab
             have Gq := bc1 Ab
             have Gr := bc2 Ab
             have Gs := bc3 Ab
             have Gt := bc4 Ab
             have Gu := bc5 Ab
             have Gv := bc6 Ab
             have Gw := bc7 Ab
             have Hk := qz Ab.o 0
             have Hl := qz Ab.o 1
             have Hm := qz Ab.o 2
             have Hn := qz Ab.o 3
             have Ho := qz Ab.o 4
             have Hp := qz Ab.o 5
             have Hq := qz Ab.o 6
             have Hr := qz Ab.o 7
             have La := AR.o
             have LG := AL.o
             have Lb := AN.o
             have LH := AS.o
             have Lc := Aw.o
             have LI := AO.o
             have Gx := bc0 A2
             have Gy := bc1 A2
             have Gz := bc2 A2
             have GA := bc3 A2
             have GB := bc4 A2
             have GC := bc5 A2
             have GD := bc6 A2
             have GE := bc7 A2
             have Hs := qz A2.o 0
             have Ht := qz A2.o 1
             have Hu := qz A2.o 2
             have Hv := qz A2.o 3
             have Hw := qz A2.o 4
             have Hx := qz A2.o 5
             have Hy := qz A2.o 6
             have Hz := qz A2.o 7
             go_wp2_with (first | ((with_reducible refine gc (f := 14) rfl ?_); refine gA (some 102) _ #[.agg #[.int .i64 BB, .int .i64 BC, .slice Bh Bf.length Bd, .int .i64 BD, .int .i64 BE, .int .i64 BF, .int .i64 BG, .int .i64 BH], .agg #[.int .i64 Al, .int .i64 Am, .slice AQ Ac.length AJ, .int .i64 An, .int .i64 Ao, .int .i64 Ap, .int .i64 Aq, .int .i64 Ar]] ?_ Try.func14; (with_reducible refine (laws_eqMachine.calls kj69 BB BC _ _ Bf BD BE BF BG BH Al Am _ _ Ac An Ao Ap Aq Ar false _ ?side1 ?side2 ?side3 ?side4 FD.o).mono ?_); (case side1 => refine (Kd.RrZ (e := 88) (base := w.heap.size) (ok := fun k_ => ((((True ∧ some k_ ≠ (.slice AQ Ac.length AJ : Value).ownBlock) ∧ some k_ ≠ (.slice Az Bl.length Ay : Value).ownBlock) ∧ some k_ ≠ (.slice AK Ak.length AA : Value).ownBlock) ∧ some k_ ≠ (.slice BK BN.length BM : Value).ownBlock)) (n := Bf.length) (c := Bd) ?_).2.2; exact (by refine rK ?_; exact (Kd.Rm (rf (rf (rf (rf (rf (rf (rf (rf (Kd.Ry B8.o Ab.o (by decide)))))))))) (fun _ h_ => h_.1)))); (case side2 => exact (Kd.RrZ B8.o).2.1); (case side3 => refine (Kd.RrZ (e := 88) (base := w.heap.size) (ok := fun k_ => (((some k_ ≠ (.slice Az Bl.length Ay : Value).ownBlock ∧ some k_ ≠ (.slice AK Ak.length AA : Value).ownBlock) ∧ some k_ ≠ (.slice BK BN.length BM : Value).ownBlock) ∧ some k_ ≠ (.slice Bh Bf.length Bd : Value).ownBlock)) (n := Ac.length) (c := AJ) ?_).2.2; exact (by refine rK ?_; exact (Kd.Rm (rf (rf (rf (rf (rf (rf (rf (rf (Kd.Ry A6.o Ab.o (by decide)))))))))) (fun _ h_ => h_.1)))); (case side4 => exact (Kd.RrZ A6.o).2.1); rintro e N4 ⟨rfl, hb⟩; refine ⟨_, rfl, ?_⟩; replace A6 := Z.m (Kd.Rb (by refine rK ?_; exact (Kd.Rm (rf (rf (rf (rf (rf (rf (rf (rf (Kd.Ry A6.o Ab.o (by decide)))))))))) (fun _ h_ => h_.1))) hb); replace A7 := Z.m (Kd.Rb (by refine rK ?_; exact (Kd.Rm (rf (rf (rf (rf (rf (rf (rf (rf (Kd.Ry A7.o Ab.o (by decide)))))))))) (fun _ h_ => h_.1))) hb); replace A4 := Z.m (Kd.Rb (by refine rK ?_; exact (Kd.Rm (rf (rf (rf (rf (rf (rf (rf (rf (Kd.Ry A4.o Ab.o (by decide)))))))))) (fun _ h_ => h_.1))) hb); replace Be := Z.m (Kd.Rb (by refine rK ?_; exact (Kd.Rm (rf (rf (rf (rf (rf (rf (rf (rf (Kd.Ry Be.o Ab.o (by decide)))))))))) (fun _ h_ => h_.1))) hb); replace B8 := Z.m (Kd.Rb (by refine rK ?_; exact (Kd.Rm (rf (rf (rf (rf (rf (rf (rf (rf (Kd.Ry B8.o Ab.o (by decide)))))))))) (fun _ h_ => h_.1))) hb); replace A1 := Z.m (qb (g := AV) (o := .cells #[.int .i64 a0_0, .int .i64 a0_1, .slice A0_2 l0_2.length c0_2, .int .i64 a0_3, .int .i64 a0_4, .int .i64 a0_5, .int .i64 a0_6, .int .i64 a0_7] 26 (0, 0)) (by refine bK ?_; (iterate 8 refine qF ?_ Ba); exact A1.o) hb); replace A2 := Z.m (qb (g := Bm) (o := .cells #[.int .i64 Al, .int .i64 Am, .slice AQ Ac.length AJ, .int .i64 An, .int .i64 Ao, .int .i64 Ap, .int .i64 Aq, .int .i64 Ar] 32 (0, 0)) (by refine bK ?_; (iterate 8 refine qF ?_ Bb); exact A2.o) hb); replace A5 := Z.m (qb (g := AZ) (o := .cells #[.int .i64 AB, .int .i64 AC, .slice Az Bl.length Ay, .int .i64 AD, .int .i64 AE, .int .i64 AF, .int .i64 AG, .int .i64 AH] 32 (0, 0)) (by refine bK ?_; (iterate 8 refine qF ?_ Bc); exact A5.o) hb); replace A0 := Z.m (qb (g := Bw) (o := .cells #[.int .i64 Ad, .int .i64 Ae, .slice AK Ak.length AA, .int .i64 Af, .int .i64 Ag, .int .i64 Ah, .int .i64 Ai, .int .i64 Aj] 32 (0, 0)) (by refine bK ?_; (iterate 8 refine qF ?_ B0); exact A0.o) hb); replace Ab := Z.m (qb (g := C2) (o := .cells #[.int .i64 BB, .int .i64 BC, .slice Bh Bf.length Bd, .int .i64 BD, .int .i64 BE, .int .i64 BF, .int .i64 BG, .int .i64 BH] 32 (0, 0)) (by refine bK ?_; apply st8; refine bK ?_; exact Ab.o) hb); replace HB := bB HB hb; (try clear hb); (try clear BP); (try clear hk); (try clear hi)))
             go_meet
             case rel => exact ⟨_, (true), (by first | rfl | (simp; done) | (simp [*]; done)), H', ⟨by have := BY.o; have := FO.o; first | omega | exact Nat.le_refl _⟩, ⟨by (try simp only [Aa]); refine rK ?_; exact Kd.Rm A6.o (fun _ hk => ⟨hk.1.1.1, ⟨hk.1.1.2, hk.2⟩⟩)⟩, ⟨by (try simp only [Aa]); refine rK ?_; exact Kd.Rm A7.o (fun _ hk => ⟨hk.1.1.1, ⟨hk.1.1.2, hk.2⟩⟩)⟩, ⟨by (try simp only [Aa]); refine rK ?_; exact Kd.Rm A4.o (fun _ hk => ⟨hk.1.1.1, ⟨hk.1.1.2, hk.2⟩⟩)⟩, ⟨by (try simp only [Aa]); refine rK ?_; exact Kd.Rm B8.o (fun _ hk => ⟨hk.1.1.1.2, ⟨hk.1.1.2, hk.1.2⟩⟩)⟩, ⟨by (try simp only [Aa]); refine bK ?_; exact A1.o⟩, ⟨by (try simp only [Aa]); refine bK ?_; exact A2.o⟩, ⟨by (try simp only [Aa]); refine bK ?_; exact A5.o⟩, ⟨by (try simp only [Aa]); refine bK ?_; exact A0.o⟩, ⟨by (try simp only [Aa]); refine bK ?_; exact Ab.o⟩, ⟨vB HB⟩⟩
           case rest =>
            clear BX
            (try clear c108); (try clear BZ); (try clear Fy); (try clear Fz)
            (try clear C3); (try clear C4); (try clear C5); (try clear C6); (try clear C7); (try clear C8); (try clear C9); (try clear Ca)
            (try clear Cb); (try clear Cd); (try clear Ce); (try clear Cf); (try clear Cg); (try clear Ch); (try clear Ci); (try clear Cj)
            (try clear Cl); (try clear Cm); (try clear Cn); (try clear Co); (try clear Cp); (try clear Cq); (try clear Cr); (try clear Cs)
            (try clear Ct); (try clear Cu); (try clear Cv); (try clear Cw); (try clear Cx); (try clear Cy); (try clear Cz); (try clear CA)
            (try clear CB); (try clear CC); (try clear CD); (try clear CE); (try clear CF); (try clear CG); (try clear CH); (try clear CI)
            (try clear CJ); (try clear CK); (try clear CL); (try clear CM); (try clear CN); (try clear CO); (try clear CP); (try clear CQ)
            (try clear CR); (try clear CS); (try clear CT); (try clear CU); (try clear CV); (try clear CW); (try clear CX); (try clear CY)
            (try clear CZ); (try clear D0); (try clear D1); (try clear D2); (try clear D3); (try clear D4); (try clear D5); (try clear D6)
            obtain ⟨kq, Bo, rfl, HA, LT, A6, A7, A4, Bp, A1, A2, A5, A0, Ab, HB⟩ := hcut
            have Au := (Kd.RrZ A4.o).1
            rw [Au] at A4
            (try simp only [Au])
            (try simp only [Au] at A1)
            (try simp only [Au] at A2)
            (try simp only [Au] at A5)
            (try simp only [Au] at A0)
            (try simp only [Au] at Ab)
            (try simp only [Au] at A6)
            (try simp only [Au] at A7)
            (try simp only [Au] at Bp)
            cases kq with
            | zero => exact absurd HA.o (by simp [laws_FnExactRunMachine.j2])
            | succ kj121 =>
             have H := HA.o
             clear HA
             simp only [laws_FnExactRunMachine.j2] at H
             by_cases c176 : Bo = true
             ·(rw [if_pos c176] at H; exact absurd H (by decide))
             ·replace c176 := Bool.eq_false_iff.mpr c176
              subst c176
              have H1 : ((laws_heldMachine.f kj121 Ad Ae AU Af Ag Ah Ai Aj 1).bind fun BO => (if BO < 0 then (some false) else (if BO = AX then (some true) else (some false)))) = some true := by rw [if_neg (show ¬ (false = true) by decide)] at H; exact H
              clear H
              have H := H1
              clear H1
              replace H := Option.bind_eq_some_iff.mp H
              obtain ⟨BO, Fq, H⟩ := H
              replace H : (if BO < 0 then (some false) else (if BO = AX then (some true) else (some false))) = some true := H
              have Kn := Z.m Fq
              clear Fq
              by_cases c178 : BO < 0
              ·(rw [if_pos c178] at H; exact absurd H (by decide))
              ·rw [if_neg c178] at H
               have C1 := decide_eq_false c178
               (try simp only [Aa] at C1)
               (try simp only [Au] at C1)
               clear c178
               by_cases c185 : BO = AX
               ·rw [if_pos c185] at H
                have Kp := beq_iff_eq.mpr c185
                have Kq := bne_eq_false_iff_eq.mpr c185
                clear c185
                clear H
                have Ld := AW.o
                have LJ := AM.o
                have Le := AO.o
                have LK := Aw.o
                have Lf := AT.o
                have LL := Ax.o
                have Lg := B0.o
                have LM := Bk.o
                have GF := bc0 A0
                have GG := bc1 A0
                have GH := bc2 A0
                have GI := bc3 A0
                have GJ := bc4 A0
                have GK := bc5 A0
                have GL := bc6 A0
                have GM := bc7 A0
                have HC := qz A0.o 0
                have HD := qz A0.o 1
                have HE := qz A0.o 2
                have HF := qz A0.o 3
                have HG := qz A0.o 4
                have HH := qz A0.o 5
                have HI := qz A0.o 6
                have HJ := qz A0.o 7
                go_wp2_with (first | ((with_reducible refine gc (f := 16) rfl ?_); refine gA (some 116) _ #[.agg #[.int .i64 Ad, .int .i64 Ae, .slice AK AU.length AA, .int .i64 Af, .int .i64 Ag, .int .i64 Ah, .int .i64 Ai, .int .i64 Aj], .int .i64 1] ?_ Try.func16; (with_reducible refine (laws_heldMachine.calls kj121 Ad Ae _ _ AU Af Ag Ah Ai Aj 1 BO _ ?side1 ?side2 Kn.o).mono ?_); (case side1 => repeat (first | exact (Kd.RrZ A4.o).2.2 | (with_reducible refine Kd.C_alloc ?_ _) | (with_reducible refine Kd.C_drewN ?_ _) | (with_reducible refine Kd.C_drew ?_))); (case side2 => exact (Kd.RrZ A4.o).2.1); rintro e N5 ⟨rfl, hb⟩; refine ⟨_, rfl, ?_⟩; replace A6 := Z.m (Kd.Rb (vR A6) hb); replace A7 := Z.m (Kd.Rb (vR A7) hb); replace A4 := Z.m (Kd.Rb (vR A4) hb); replace Bp := Z.m (Kd.Rb (vR Bp) hb); replace A1 := kB A1 hb; replace A2 := kB A2 hb; replace A5 := kB A5 hb; replace A0 := kB A0 hb; replace Ab := kB Ab hb; replace HB := bB HB hb; (try clear hb); (try clear BP); (try clear hk); (try clear hi)))
                go_ret
                exact ⟨by first | rfl | (simp [eN, eS] <;> rfl) | (simp [*, eN, eS] <;> rfl), vB HB⟩
               ·(rw [if_neg c185] at H; exact absurd H (by decide))
          ·(rw [if_neg c119] at H; exact absurd H (by decide))
     ·(rw [if_neg c68] at H; exact absurd H (by decide))

end Go.Proofs.Ytjkiolpepchpdaa.PAll
