/- Began as a text that print.sh wrote (of the functions named below); turned and shortened by this session. -/
import Derived.Test.YtjkiolpepchpdaaG0
import Derived.Test.YtjkiolpepchpdaaG1
import Derived.Test.YtjkiolpepchpdaaG11
import Derived.Test.YtjkiolpepchpdaaG22
import Derived.Test.YtjkiolpepchpdaaG23
import Derived.Test.YtjkiolpepchpdaaG24
import Derived.Test.YtjkiolpepchpdaaG26
namespace Go.Proofs.Ytjkiolpepchpdaa.PAll
open Go.RowKit Go.Proofs.YtjkiolpepchpdaaW.PrintWords Go.Proofs.YtjkiolpepchpdaaW.PrintLast Go.Proofs.YtjkiolpepchpdaaW.PrintMore
attribute [local go_sem] max2_int min2_int max_two min_two max_three min_three max_four min_four   -- for this text's walks alone
set_option linter.unusedVariables false
set_option linter.unusedSimpArgs false

/-! ### laws_FnExactRunToEnd: function 4 -/
mutual
def laws_FnExactRunToEnd.j0 : Nat → Int → Bool → Int → Bool → Bool → Int → Int → List (S93) → Int → Int → Int → Int → Int → Int → Int → List (S88) → Int → Int → Int → Int → Int → Int → Int → List (S88) → Int → Int → Int → Int → Int → Int → Int → List (S88) → Int → Int → Int → Int → Int → Option (Bool)
 | 0, _, _, _, _, _, _, _, _, _, _, _, _, _, _, _, _, _, _, _, _, _, _, _, _, _, _, _, _, _, _, _, _, _, _, _, _, _ => none
 | k + 1, x5, x6, x9, x10, x50, x626000, x626001, x626002, x626003, x626004, x626005, x626006, x626007, x650000, x650001, x650002, x650003, x650004, x650005, x650006, x650007, x661000, x661001, x661002, x661003, x661004, x661005, x661006, x661007, x674000, x674001, x674002, x674003, x674004, x674005, x674006, x674007 => if x50 = true then (some false) else ((laws_toMachine.f k x626000 x626001 x626002 x626003 x626004 x626005 x626006 x626007).bind fun bt675 => ((laws_eqMachine.f k x661000 x661001 x661002 x661003 x661004 x661005 x661006 x661007 bt675.1 bt675.2.1 bt675.2.2.1 bt675.2.2.2.1 bt675.2.2.2.2.1 bt675.2.2.2.2.2.1 bt675.2.2.2.2.2.2.1 bt675.2.2.2.2.2.2.2).bind fun t685 => (if t685 = true then ((laws_markMachine.f k x661000 x661001 x661002 x661003 x661004 x661005 x661006 x661007 1).bind fun bt686 => (if bt686.1 < 0 then (laws_FnExactRunToEnd.j1 k x5 x6 true x626000 x626001 x626002 x626003 x626004 x626005 x626006 x626007 x650000 x650001 x650002 x650003 x650004 x650005 x650006 x650007 x674000 x674001 x674002 x674003 x674004 x674005 x674006 x674007) else ((laws_eqMachine.f k x674000 x674001 x674002 x674003 x674004 x674005 x674006 x674007 x650000 x650001 x650002 x650003 x650004 x650005 x650006 x650007).bind fun t688 => (if t688 = true then (if x9 = x5 then (laws_FnExactRunToEnd.j1 k x5 x6 (x10 != x6) x626000 x626001 x626002 x626003 x626004 x626005 x626006 x626007 x650000 x650001 x650002 x650003 x650004 x650005 x650006 x650007 x674000 x674001 x674002 x674003 x674004 x674005 x674006 x674007) else (laws_FnExactRunToEnd.j1 k x5 x6 true x626000 x626001 x626002 x626003 x626004 x626005 x626006 x626007 x650000 x650001 x650002 x650003 x650004 x650005 x650006 x650007 x674000 x674001 x674002 x674003 x674004 x674005 x674006 x674007)) else (laws_FnExactRunToEnd.j1 k x5 x6 true x626000 x626001 x626002 x626003 x626004 x626005 x626006 x626007 x650000 x650001 x650002 x650003 x650004 x650005 x650006 x650007 x674000 x674001 x674002 x674003 x674004 x674005 x674006 x674007))))) else (some false))))
def laws_FnExactRunToEnd.j1 : Nat → Int → Bool → Bool → Int → Int → List (S93) → Int → Int → Int → Int → Int → Int → Int → List (S88) → Int → Int → Int → Int → Int → Int → Int → List (S88) → Int → Int → Int → Int → Int → Option (Bool)
 | 0, _, _, _, _, _, _, _, _, _, _, _, _, _, _, _, _, _, _, _, _, _, _, _, _, _, _, _ => none
 | k + 1, x5, x6, x76, x626000, x626001, x626002, x626003, x626004, x626005, x626006, x626007, x650000, x650001, x650002, x650003, x650004, x650005, x650006, x650007, x674000, x674001, x674002, x674003, x674004, x674005, x674006, x674007 => if x76 = true then (some false) else ((laws_markMachine.f k x674000 x674001 x674002 x674003 x674004 x674005 x674006 x674007 1).bind fun bt689 => ((laws_heldMachine.f k x674000 x674001 bt689.2 x674003 x674004 x674005 x674006 x674007 1).bind fun t691 => (if t691 < 0 then (some false) else (if t691 = bt689.1 then ((laws_toMachine.f k x626000 x626001 x626002 x626003 x626004 x626005 x626006 x626007).bind fun bt692 => ((impl_RunToEnd.f k bt692.1 bt692.2.1 bt692.2.2.1 bt692.2.2.2.1 bt692.2.2.2.2.1 bt692.2.2.2.2.2.1 bt692.2.2.2.2.2.2.1 bt692.2.2.2.2.2.2.2).bind fun bt702 => ((laws_eqMachine.f k bt702.1 bt702.2.1 bt702.2.2.1 bt702.2.2.2.1 bt702.2.2.2.2.1 bt702.2.2.2.2.2.1 bt702.2.2.2.2.2.2.1 bt702.2.2.2.2.2.2.2.1 x650000 x650001 x650002 x650003 x650004 x650005 x650006 x650007).bind fun t715 => (if t715 = true then (if bt702.2.2.2.2.2.2.2.2.1 = x5 then (laws_FnExactRunToEnd.j2 k bt689.1 (bt702.2.2.2.2.2.2.2.2.2 != x6) x674000 x674001 bt689.2 x674003 x674004 x674005 x674006 x674007) else (laws_FnExactRunToEnd.j2 k bt689.1 true x674000 x674001 bt689.2 x674003 x674004 x674005 x674006 x674007)) else (laws_FnExactRunToEnd.j2 k bt689.1 true x674000 x674001 bt689.2 x674003 x674004 x674005 x674006 x674007))))) else (some false)))))
def laws_FnExactRunToEnd.j2 : Nat → Int → Bool → Int → Int → List (S88) → Int → Int → Int → Int → Int → Option (Bool)
 | 0, _, _, _, _, _, _, _, _, _, _ => none
 | k + 1, x12, x108, x674000, x674001, x674002, x674003, x674004, x674005, x674006, x674007 => if x108 = true then (some false) else ((laws_heldMachine.f k x674000 x674001 x674002 x674003 x674004 x674005 x674006 x674007 1).bind fun t716 => (if t716 < 0 then (some false) else (if t716 = x12 then (some true) else (some false))))
end
def laws_FnExactRunToEnd.f (k : Nat) (a0_0 : Int) (a0_1 : Int) (l0_2 : List (S93)) (a0_3 : Int) (a0_4 : Int) (a0_5 : Int) (a0_6 : Int) (a0_7 : Int) : Option (Bool) := (laws_szMachine.f a0_0 a0_1 l0_2 a0_3 a0_4 a0_5 a0_6 a0_7 1048576).bind fun t626 => (if t626 < 0 then (some true) else ((laws_toMachine.f k a0_0 a0_1 l0_2 a0_3 a0_4 a0_5 a0_6 a0_7).bind fun bt627 => ((spec_RunToEnd.f k bt627.1 bt627.2.1 bt627.2.2.1 bt627.2.2.2.1 bt627.2.2.2.2.1 bt627.2.2.2.2.2.1 bt627.2.2.2.2.2.2.1 bt627.2.2.2.2.2.2.2).bind fun bt637 => ((laws_toMachine.f k a0_0 a0_1 l0_2 a0_3 a0_4 a0_5 a0_6 a0_7).bind fun bt650 => ((impl_RunToEnd.f k bt650.1 bt650.2.1 bt650.2.2.1 bt650.2.2.2.1 bt650.2.2.2.2.1 bt650.2.2.2.2.2.1 bt650.2.2.2.2.2.2.1 bt650.2.2.2.2.2.2.2).bind fun bt661 => ((laws_eqMachine.f k bt661.1 bt661.2.1 bt661.2.2.1 bt661.2.2.2.1 bt661.2.2.2.2.1 bt661.2.2.2.2.2.1 bt661.2.2.2.2.2.2.1 bt661.2.2.2.2.2.2.2.1 bt637.1 bt637.2.1 bt637.2.2.1 bt637.2.2.2.1 bt637.2.2.2.2.1 bt637.2.2.2.2.2.1 bt637.2.2.2.2.2.2.1 bt637.2.2.2.2.2.2.2.1).bind fun t674 => (if t674 = true then (if bt661.2.2.2.2.2.2.2.2.1 = bt637.2.2.2.2.2.2.2.2.1 then (laws_FnExactRunToEnd.j0 k bt637.2.2.2.2.2.2.2.2.1 bt637.2.2.2.2.2.2.2.2.2 bt661.2.2.2.2.2.2.2.2.1 bt661.2.2.2.2.2.2.2.2.2 (bt661.2.2.2.2.2.2.2.2.2 != bt637.2.2.2.2.2.2.2.2.2) a0_0 a0_1 l0_2 a0_3 a0_4 a0_5 a0_6 a0_7 bt637.1 bt637.2.1 bt637.2.2.1 bt637.2.2.2.1 bt637.2.2.2.2.1 bt637.2.2.2.2.2.1 bt637.2.2.2.2.2.2.1 bt637.2.2.2.2.2.2.2.1 bt650.1 bt650.2.1 bt650.2.2.1 bt650.2.2.2.1 bt650.2.2.2.2.1 bt650.2.2.2.2.2.1 bt650.2.2.2.2.2.2.1 bt650.2.2.2.2.2.2.2 bt661.1 bt661.2.1 bt661.2.2.1 bt661.2.2.2.1 bt661.2.2.2.2.1 bt661.2.2.2.2.2.1 bt661.2.2.2.2.2.2.1 bt661.2.2.2.2.2.2.2.1) else (laws_FnExactRunToEnd.j0 k bt637.2.2.2.2.2.2.2.2.1 bt637.2.2.2.2.2.2.2.2.2 bt661.2.2.2.2.2.2.2.2.1 bt661.2.2.2.2.2.2.2.2.2 true a0_0 a0_1 l0_2 a0_3 a0_4 a0_5 a0_6 a0_7 bt637.1 bt637.2.1 bt637.2.2.1 bt637.2.2.2.1 bt637.2.2.2.2.1 bt637.2.2.2.2.2.1 bt637.2.2.2.2.2.2.1 bt637.2.2.2.2.2.2.2.1 bt650.1 bt650.2.1 bt650.2.2.1 bt650.2.2.2.1 bt650.2.2.2.2.1 bt650.2.2.2.2.2.1 bt650.2.2.2.2.2.2.1 bt650.2.2.2.2.2.2.2 bt661.1 bt661.2.1 bt661.2.2.1 bt661.2.2.2.1 bt661.2.2.2.2.1 bt661.2.2.2.2.2.1 bt661.2.2.2.2.2.2.1 bt661.2.2.2.2.2.2.2.1)) else (laws_FnExactRunToEnd.j0 k bt637.2.2.2.2.2.2.2.2.1 bt637.2.2.2.2.2.2.2.2.2 bt661.2.2.2.2.2.2.2.2.1 bt661.2.2.2.2.2.2.2.2.2 true a0_0 a0_1 l0_2 a0_3 a0_4 a0_5 a0_6 a0_7 bt637.1 bt637.2.1 bt637.2.2.1 bt637.2.2.2.1 bt637.2.2.2.2.1 bt637.2.2.2.2.2.1 bt637.2.2.2.2.2.2.1 bt637.2.2.2.2.2.2.2.1 bt650.1 bt650.2.1 bt650.2.2.1 bt650.2.2.2.1 bt650.2.2.2.2.1 bt650.2.2.2.2.2.1 bt650.2.2.2.2.2.2.1 bt650.2.2.2.2.2.2.2 bt661.1 bt661.2.1 bt661.2.2.1 bt661.2.2.2.1 bt661.2.2.2.2.1 bt661.2.2.2.2.2.1 bt661.2.2.2.2.2.2.1 bt661.2.2.2.2.2.2.2.1))))))))
theorem laws_FnExactRunToEnd.bad_j0 (k : Nat) (y0 : Int) (y1 : Bool) (y2 : Int) (y3 : Bool) (y5 : Int) (y6 : Int) (y7 : List (S93)) (y8 : Int) (y9 : Int) (y10 : Int) (y11 : Int) (y12 : Int) (y13 : Int) (y14 : Int) (y15 : List (S88)) (y16 : Int) (y17 : Int) (y18 : Int) (y19 : Int) (y20 : Int) (y21 : Int) (y22 : Int) (y23 : List (S88)) (y24 : Int) (y25 : Int) (y26 : Int) (y27 : Int) (y28 : Int) (y29 : Int) (y30 : Int) (y31 : List (S88)) (y32 : Int) (y33 : Int) (y34 : Int) (y35 : Int) (y36 : Int) : ¬ laws_FnExactRunToEnd.j0 k y0 y1 y2 y3 true y5 y6 y7 y8 y9 y10 y11 y12 y13 y14 y15 y16 y17 y18 y19 y20 y21 y22 y23 y24 y25 y26 y27 y28 y29 y30 y31 y32 y33 y34 y35 y36 = some true := by
 cases k <;> simp [laws_FnExactRunToEnd.j0]
theorem laws_FnExactRunToEnd.bad_j1 (k : Nat) (y0 : Int) (y1 : Bool) (y3 : Int) (y4 : Int) (y5 : List (S93)) (y6 : Int) (y7 : Int) (y8 : Int) (y9 : Int) (y10 : Int) (y11 : Int) (y12 : Int) (y13 : List (S88)) (y14 : Int) (y15 : Int) (y16 : Int) (y17 : Int) (y18 : Int) (y19 : Int) (y20 : Int) (y21 : List (S88)) (y22 : Int) (y23 : Int) (y24 : Int) (y25 : Int) (y26 : Int) : ¬ laws_FnExactRunToEnd.j1 k y0 y1 true y3 y4 y5 y6 y7 y8 y9 y10 y11 y12 y13 y14 y15 y16 y17 y18 y19 y20 y21 y22 y23 y24 y25 y26 = some true := by
 cases k <;> simp [laws_FnExactRunToEnd.j1]
theorem laws_FnExactRunToEnd.bad_j2 (k : Nat) (y0 : Int) (y2 : Int) (y3 : Int) (y4 : List (S88)) (y5 : Int) (y6 : Int) (y7 : Int) (y8 : Int) (y9 : Int) : ¬ laws_FnExactRunToEnd.j2 k y0 true y2 y3 y4 y5 y6 y7 y8 y9 = some true := by
 cases k <;> simp [laws_FnExactRunToEnd.j2]
set_option maxHeartbeats 8000000 in
set_option maxRecDepth 100000 in
theorem laws_FnExactRunToEnd.calls (k : Nat) (a0_0 : Int) (a0_1 : Int) (A0_2 : Option Addr) (c0_2 : Nat) (l0_2 : List (S93)) (a0_3 : Int) (a0_4 : Int) (a0_5 : Int) (a0_6 : Int) (a0_7 : Int) (w : World) (hr0_2 : Kd.C k93 w A0_2 l0_2.length l0_2) (hc0_2 : l0_2.length ≤ c0_2) (h : laws_FnExactRunToEnd.f k a0_0 a0_1 l0_2 a0_3 a0_4 a0_5 a0_6 a0_7 = some true) :
 Calls Try.prog 4 #[.agg #[.int .i64 a0_0, .int .i64 a0_1, .slice A0_2 l0_2.length c0_2, .int .i64 a0_3, .int .i64 a0_4, .int .i64 a0_5, .int .i64 a0_6, .int .i64 a0_7]] w fun e w' => e = .returned (.bool true) ∧ Below w.heap.size w w' := by
 have MO := Try.underlying26
 have MP := Try.underlying32
 have BA := Z.m hr0_2
 have Bz := Z.m hc0_2
 clear hr0_2 hc0_2
 have HB := Z.m (Below.refl w.heap.size w)
 have H : ((laws_szMachine.f a0_0 a0_1 l0_2 a0_3 a0_4 a0_5 a0_6 a0_7 1048576).bind fun BT => (if BT < 0 then (some true) else ((laws_toMachine.f k a0_0 a0_1 l0_2 a0_3 a0_4 a0_5 a0_6 a0_7).bind fun bt627 => ((spec_RunToEnd.f k bt627.1 bt627.2.1 bt627.2.2.1 bt627.2.2.2.1 bt627.2.2.2.2.1 bt627.2.2.2.2.2.1 bt627.2.2.2.2.2.2.1 bt627.2.2.2.2.2.2.2).bind fun bt637 => ((laws_toMachine.f k a0_0 a0_1 l0_2 a0_3 a0_4 a0_5 a0_6 a0_7).bind fun bt650 => ((impl_RunToEnd.f k bt650.1 bt650.2.1 bt650.2.2.1 bt650.2.2.2.1 bt650.2.2.2.2.1 bt650.2.2.2.2.2.1 bt650.2.2.2.2.2.2.1 bt650.2.2.2.2.2.2.2).bind fun bt661 => ((laws_eqMachine.f k bt661.1 bt661.2.1 bt661.2.2.1 bt661.2.2.2.1 bt661.2.2.2.2.1 bt661.2.2.2.2.2.1 bt661.2.2.2.2.2.2.1 bt661.2.2.2.2.2.2.2.1 bt637.1 bt637.2.1 bt637.2.2.1 bt637.2.2.2.1 bt637.2.2.2.2.1 bt637.2.2.2.2.2.1 bt637.2.2.2.2.2.2.1 bt637.2.2.2.2.2.2.2.1).bind fun Bo => (if Bo = true then (if bt661.2.2.2.2.2.2.2.2.1 = bt637.2.2.2.2.2.2.2.2.1 then (laws_FnExactRunToEnd.j0 k bt637.2.2.2.2.2.2.2.2.1 bt637.2.2.2.2.2.2.2.2.2 bt661.2.2.2.2.2.2.2.2.1 bt661.2.2.2.2.2.2.2.2.2 (bt661.2.2.2.2.2.2.2.2.2 != bt637.2.2.2.2.2.2.2.2.2) a0_0 a0_1 l0_2 a0_3 a0_4 a0_5 a0_6 a0_7 bt637.1 bt637.2.1 bt637.2.2.1 bt637.2.2.2.1 bt637.2.2.2.2.1 bt637.2.2.2.2.2.1 bt637.2.2.2.2.2.2.1 bt637.2.2.2.2.2.2.2.1 bt650.1 bt650.2.1 bt650.2.2.1 bt650.2.2.2.1 bt650.2.2.2.2.1 bt650.2.2.2.2.2.1 bt650.2.2.2.2.2.2.1 bt650.2.2.2.2.2.2.2 bt661.1 bt661.2.1 bt661.2.2.1 bt661.2.2.2.1 bt661.2.2.2.2.1 bt661.2.2.2.2.2.1 bt661.2.2.2.2.2.2.1 bt661.2.2.2.2.2.2.2.1) else (laws_FnExactRunToEnd.j0 k bt637.2.2.2.2.2.2.2.2.1 bt637.2.2.2.2.2.2.2.2.2 bt661.2.2.2.2.2.2.2.2.1 bt661.2.2.2.2.2.2.2.2.2 true a0_0 a0_1 l0_2 a0_3 a0_4 a0_5 a0_6 a0_7 bt637.1 bt637.2.1 bt637.2.2.1 bt637.2.2.2.1 bt637.2.2.2.2.1 bt637.2.2.2.2.2.1 bt637.2.2.2.2.2.2.1 bt637.2.2.2.2.2.2.2.1 bt650.1 bt650.2.1 bt650.2.2.1 bt650.2.2.2.1 bt650.2.2.2.2.1 bt650.2.2.2.2.2.1 bt650.2.2.2.2.2.2.1 bt650.2.2.2.2.2.2.2 bt661.1 bt661.2.1 bt661.2.2.1 bt661.2.2.2.1 bt661.2.2.2.2.1 bt661.2.2.2.2.2.1 bt661.2.2.2.2.2.2.1 bt661.2.2.2.2.2.2.2.1)) else (laws_FnExactRunToEnd.j0 k bt637.2.2.2.2.2.2.2.2.1 bt637.2.2.2.2.2.2.2.2.2 bt661.2.2.2.2.2.2.2.2.1 bt661.2.2.2.2.2.2.2.2.2 true a0_0 a0_1 l0_2 a0_3 a0_4 a0_5 a0_6 a0_7 bt637.1 bt637.2.1 bt637.2.2.1 bt637.2.2.2.1 bt637.2.2.2.2.1 bt637.2.2.2.2.2.1 bt637.2.2.2.2.2.2.1 bt637.2.2.2.2.2.2.2.1 bt650.1 bt650.2.1 bt650.2.2.1 bt650.2.2.2.1 bt650.2.2.2.2.1 bt650.2.2.2.2.2.1 bt650.2.2.2.2.2.2.1 bt650.2.2.2.2.2.2.2 bt661.1 bt661.2.1 bt661.2.2.1 bt661.2.2.2.1 bt661.2.2.2.2.1 bt661.2.2.2.2.2.1 bt661.2.2.2.2.2.2.1 bt661.2.2.2.2.2.2.2.1))))))))) = some true := h
 clear h
 replace H := Option.bind_eq_some_iff.mp H
 obtain ⟨BT, LN, H⟩ := H
 replace H : (if BT < 0 then (some true) else ((laws_toMachine.f k a0_0 a0_1 l0_2 a0_3 a0_4 a0_5 a0_6 a0_7).bind fun bt627 => ((spec_RunToEnd.f k bt627.1 bt627.2.1 bt627.2.2.1 bt627.2.2.2.1 bt627.2.2.2.2.1 bt627.2.2.2.2.2.1 bt627.2.2.2.2.2.2.1 bt627.2.2.2.2.2.2.2).bind fun bt637 => ((laws_toMachine.f k a0_0 a0_1 l0_2 a0_3 a0_4 a0_5 a0_6 a0_7).bind fun bt650 => ((impl_RunToEnd.f k bt650.1 bt650.2.1 bt650.2.2.1 bt650.2.2.2.1 bt650.2.2.2.2.1 bt650.2.2.2.2.2.1 bt650.2.2.2.2.2.2.1 bt650.2.2.2.2.2.2.2).bind fun bt661 => ((laws_eqMachine.f k bt661.1 bt661.2.1 bt661.2.2.1 bt661.2.2.2.1 bt661.2.2.2.2.1 bt661.2.2.2.2.2.1 bt661.2.2.2.2.2.2.1 bt661.2.2.2.2.2.2.2.1 bt637.1 bt637.2.1 bt637.2.2.1 bt637.2.2.2.1 bt637.2.2.2.2.1 bt637.2.2.2.2.2.1 bt637.2.2.2.2.2.2.1 bt637.2.2.2.2.2.2.2.1).bind fun Bo => (if Bo = true then (if bt661.2.2.2.2.2.2.2.2.1 = bt637.2.2.2.2.2.2.2.2.1 then (laws_FnExactRunToEnd.j0 k bt637.2.2.2.2.2.2.2.2.1 bt637.2.2.2.2.2.2.2.2.2 bt661.2.2.2.2.2.2.2.2.1 bt661.2.2.2.2.2.2.2.2.2 (bt661.2.2.2.2.2.2.2.2.2 != bt637.2.2.2.2.2.2.2.2.2) a0_0 a0_1 l0_2 a0_3 a0_4 a0_5 a0_6 a0_7 bt637.1 bt637.2.1 bt637.2.2.1 bt637.2.2.2.1 bt637.2.2.2.2.1 bt637.2.2.2.2.2.1 bt637.2.2.2.2.2.2.1 bt637.2.2.2.2.2.2.2.1 bt650.1 bt650.2.1 bt650.2.2.1 bt650.2.2.2.1 bt650.2.2.2.2.1 bt650.2.2.2.2.2.1 bt650.2.2.2.2.2.2.1 bt650.2.2.2.2.2.2.2 bt661.1 bt661.2.1 bt661.2.2.1 bt661.2.2.2.1 bt661.2.2.2.2.1 bt661.2.2.2.2.2.1 bt661.2.2.2.2.2.2.1 bt661.2.2.2.2.2.2.2.1) else (laws_FnExactRunToEnd.j0 k bt637.2.2.2.2.2.2.2.2.1 bt637.2.2.2.2.2.2.2.2.2 bt661.2.2.2.2.2.2.2.2.1 bt661.2.2.2.2.2.2.2.2.2 true a0_0 a0_1 l0_2 a0_3 a0_4 a0_5 a0_6 a0_7 bt637.1 bt637.2.1 bt637.2.2.1 bt637.2.2.2.1 bt637.2.2.2.2.1 bt637.2.2.2.2.2.1 bt637.2.2.2.2.2.2.1 bt637.2.2.2.2.2.2.2.1 bt650.1 bt650.2.1 bt650.2.2.1 bt650.2.2.2.1 bt650.2.2.2.2.1 bt650.2.2.2.2.2.1 bt650.2.2.2.2.2.2.1 bt650.2.2.2.2.2.2.2 bt661.1 bt661.2.1 bt661.2.2.1 bt661.2.2.2.1 bt661.2.2.2.2.1 bt661.2.2.2.2.2.1 bt661.2.2.2.2.2.2.1 bt661.2.2.2.2.2.2.2.1)) else (laws_FnExactRunToEnd.j0 k bt637.2.2.2.2.2.2.2.2.1 bt637.2.2.2.2.2.2.2.2.2 bt661.2.2.2.2.2.2.2.2.1 bt661.2.2.2.2.2.2.2.2.2 true a0_0 a0_1 l0_2 a0_3 a0_4 a0_5 a0_6 a0_7 bt637.1 bt637.2.1 bt637.2.2.1 bt637.2.2.2.1 bt637.2.2.2.2.1 bt637.2.2.2.2.2.1 bt637.2.2.2.2.2.2.1 bt637.2.2.2.2.2.2.2.1 bt650.1 bt650.2.1 bt650.2.2.1 bt650.2.2.2.1 bt650.2.2.2.2.1 bt650.2.2.2.2.2.1 bt650.2.2.2.2.2.2.1 bt650.2.2.2.2.2.2.2 bt661.1 bt661.2.1 bt661.2.2.1 bt661.2.2.2.1 bt661.2.2.2.2.1 bt661.2.2.2.2.2.1 bt661.2.2.2.2.2.2.1 bt661.2.2.2.2.2.2.2.1)))))))) = some true := H
 have A2 := Z.m LN
 clear LN
 by_cases c3 : BT < 0
 ·rw [if_pos c3] at H
  have FQ := decide_eq_true c3
  clear c3
  clear H
  go_enter Try.func4, Try.ntmps4
  go_wp2_with (first | ((with_reducible refine gq (N := 1) rfl ?_); refine be (N := 1) (cs := #[.int .i64 a0_0, .int .i64 a0_1, .slice A0_2 l0_2.length c0_2, .int .i64 a0_3, .int .i64 a0_4, .int .i64 a0_5, .int .i64 a0_6, .int .i64 a0_7]) (t := 26) ?_; intro AW hg w4 hbox hb; have A1 := Z.m (hbox); have BX := gW (w := w) HB hg; have BW := BX; replace HB := bB HB hb; clear hb hbox hg; have Kx := bc0 A1; have Ky := bc1 A1; have Kz := bc2 A1; have KA := bc3 A1; have KB := bc4 A1; have KC := bc5 A1; have KD := bc6 A1; have KE := bc7 A1; have KF := qz A1.o 0; have KG := qz A1.o 1; have KH := qz A1.o 2; have KI := qz A1.o 3; have KJ := qz A1.o 4; have KK := qz A1.o 5; have KL := qz A1.o 6; have KM := qz A1.o 7) | ((with_reducible refine gc (f := 10) rfl ?_); refine gA (some 19) _ #[.agg #[.int .i64 a0_0, .int .i64 a0_1, .slice A0_2 l0_2.length c0_2, .int .i64 a0_3, .int .i64 a0_4, .int .i64 a0_5, .int .i64 a0_6, .int .i64 a0_7], .int .i64 1048576] ?_ Try.func10; (with_reducible refine (laws_szMachine.calls a0_0 a0_1 _ _ l0_2 a0_3 a0_4 a0_5 a0_6 a0_7 1048576 BT _ ?side1 ?side2 A2.o).mono ?_); (case side1 => repeat (first | exact (Kd.C_below BA.o HB.o) | (with_reducible refine Kd.C_alloc ?_ _) | (with_reducible refine Kd.C_drewN ?_ _) | (with_reducible refine Kd.C_drew ?_))); (case side2 => exact Bz.o); rintro e w6 ⟨rfl, hb⟩; refine ⟨_, rfl, ?_⟩; replace A1 := kB A1 hb; replace HB := bB HB hb; (try clear hb); (try clear BQ); (try clear hk); (try clear hi)))
  go_ret
  exact ⟨by first | rfl | (simp [eN, eS] <;> rfl) | (simp [*, eN, eS] <;> rfl), vB HB⟩
 ·rw [if_neg c3] at H
  have FQ := decide_eq_false c3
  clear c3
  replace H := Option.bind_eq_some_iff.mp H
  obtain ⟨⟨F0, F1, BB, F2, F3, F4, F5, F6⟩, LP, H⟩ := H
  replace H : ((spec_RunToEnd.f k F0 F1 BB F2 F3 F4 F5 F6).bind fun bt637 => ((laws_toMachine.f k a0_0 a0_1 l0_2 a0_3 a0_4 a0_5 a0_6 a0_7).bind fun bt650 => ((impl_RunToEnd.f k bt650.1 bt650.2.1 bt650.2.2.1 bt650.2.2.2.1 bt650.2.2.2.2.1 bt650.2.2.2.2.2.1 bt650.2.2.2.2.2.2.1 bt650.2.2.2.2.2.2.2).bind fun bt661 => ((laws_eqMachine.f k bt661.1 bt661.2.1 bt661.2.2.1 bt661.2.2.2.1 bt661.2.2.2.2.1 bt661.2.2.2.2.2.1 bt661.2.2.2.2.2.2.1 bt661.2.2.2.2.2.2.2.1 bt637.1 bt637.2.1 bt637.2.2.1 bt637.2.2.2.1 bt637.2.2.2.2.1 bt637.2.2.2.2.2.1 bt637.2.2.2.2.2.2.1 bt637.2.2.2.2.2.2.2.1).bind fun Bo => (if Bo = true then (if bt661.2.2.2.2.2.2.2.2.1 = bt637.2.2.2.2.2.2.2.2.1 then (laws_FnExactRunToEnd.j0 k bt637.2.2.2.2.2.2.2.2.1 bt637.2.2.2.2.2.2.2.2.2 bt661.2.2.2.2.2.2.2.2.1 bt661.2.2.2.2.2.2.2.2.2 (bt661.2.2.2.2.2.2.2.2.2 != bt637.2.2.2.2.2.2.2.2.2) a0_0 a0_1 l0_2 a0_3 a0_4 a0_5 a0_6 a0_7 bt637.1 bt637.2.1 bt637.2.2.1 bt637.2.2.2.1 bt637.2.2.2.2.1 bt637.2.2.2.2.2.1 bt637.2.2.2.2.2.2.1 bt637.2.2.2.2.2.2.2.1 bt650.1 bt650.2.1 bt650.2.2.1 bt650.2.2.2.1 bt650.2.2.2.2.1 bt650.2.2.2.2.2.1 bt650.2.2.2.2.2.2.1 bt650.2.2.2.2.2.2.2 bt661.1 bt661.2.1 bt661.2.2.1 bt661.2.2.2.1 bt661.2.2.2.2.1 bt661.2.2.2.2.2.1 bt661.2.2.2.2.2.2.1 bt661.2.2.2.2.2.2.2.1) else (laws_FnExactRunToEnd.j0 k bt637.2.2.2.2.2.2.2.2.1 bt637.2.2.2.2.2.2.2.2.2 bt661.2.2.2.2.2.2.2.2.1 bt661.2.2.2.2.2.2.2.2.2 true a0_0 a0_1 l0_2 a0_3 a0_4 a0_5 a0_6 a0_7 bt637.1 bt637.2.1 bt637.2.2.1 bt637.2.2.2.1 bt637.2.2.2.2.1 bt637.2.2.2.2.2.1 bt637.2.2.2.2.2.2.1 bt637.2.2.2.2.2.2.2.1 bt650.1 bt650.2.1 bt650.2.2.1 bt650.2.2.2.1 bt650.2.2.2.2.1 bt650.2.2.2.2.2.1 bt650.2.2.2.2.2.2.1 bt650.2.2.2.2.2.2.2 bt661.1 bt661.2.1 bt661.2.2.1 bt661.2.2.2.1 bt661.2.2.2.2.1 bt661.2.2.2.2.2.1 bt661.2.2.2.2.2.2.1 bt661.2.2.2.2.2.2.2.1)) else (laws_FnExactRunToEnd.j0 k bt637.2.2.2.2.2.2.2.2.1 bt637.2.2.2.2.2.2.2.2.2 bt661.2.2.2.2.2.2.2.2.1 bt661.2.2.2.2.2.2.2.2.2 true a0_0 a0_1 l0_2 a0_3 a0_4 a0_5 a0_6 a0_7 bt637.1 bt637.2.1 bt637.2.2.1 bt637.2.2.2.1 bt637.2.2.2.2.1 bt637.2.2.2.2.2.1 bt637.2.2.2.2.2.2.1 bt637.2.2.2.2.2.2.2.1 bt650.1 bt650.2.1 bt650.2.2.1 bt650.2.2.2.1 bt650.2.2.2.2.1 bt650.2.2.2.2.2.1 bt650.2.2.2.2.2.2.1 bt650.2.2.2.2.2.2.2 bt661.1 bt661.2.1 bt661.2.2.1 bt661.2.2.2.1 bt661.2.2.2.2.1 bt661.2.2.2.2.2.1 bt661.2.2.2.2.2.2.1 bt661.2.2.2.2.2.2.2.1)))))) = some true := H
  have A7 := Z.m LP
  clear LP
  replace H := Option.bind_eq_some_iff.mp H
  obtain ⟨⟨Am, An, Ad, Ao, Ap, Aq, Ar, As, At, Au⟩, FI, H⟩ := H
  replace H : ((laws_toMachine.f k a0_0 a0_1 l0_2 a0_3 a0_4 a0_5 a0_6 a0_7).bind fun bt650 => ((impl_RunToEnd.f k bt650.1 bt650.2.1 bt650.2.2.1 bt650.2.2.2.1 bt650.2.2.2.2.1 bt650.2.2.2.2.2.1 bt650.2.2.2.2.2.2.1 bt650.2.2.2.2.2.2.2).bind fun bt661 => ((laws_eqMachine.f k bt661.1 bt661.2.1 bt661.2.2.1 bt661.2.2.2.1 bt661.2.2.2.2.1 bt661.2.2.2.2.2.1 bt661.2.2.2.2.2.2.1 bt661.2.2.2.2.2.2.2.1 Am An Ad Ao Ap Aq Ar As).bind fun Bo => (if Bo = true then (if bt661.2.2.2.2.2.2.2.2.1 = At then (laws_FnExactRunToEnd.j0 k At Au bt661.2.2.2.2.2.2.2.2.1 bt661.2.2.2.2.2.2.2.2.2 (bt661.2.2.2.2.2.2.2.2.2 != Au) a0_0 a0_1 l0_2 a0_3 a0_4 a0_5 a0_6 a0_7 Am An Ad Ao Ap Aq Ar As bt650.1 bt650.2.1 bt650.2.2.1 bt650.2.2.2.1 bt650.2.2.2.2.1 bt650.2.2.2.2.2.1 bt650.2.2.2.2.2.2.1 bt650.2.2.2.2.2.2.2 bt661.1 bt661.2.1 bt661.2.2.1 bt661.2.2.2.1 bt661.2.2.2.2.1 bt661.2.2.2.2.2.1 bt661.2.2.2.2.2.2.1 bt661.2.2.2.2.2.2.2.1) else (laws_FnExactRunToEnd.j0 k At Au bt661.2.2.2.2.2.2.2.2.1 bt661.2.2.2.2.2.2.2.2.2 true a0_0 a0_1 l0_2 a0_3 a0_4 a0_5 a0_6 a0_7 Am An Ad Ao Ap Aq Ar As bt650.1 bt650.2.1 bt650.2.2.1 bt650.2.2.2.1 bt650.2.2.2.2.1 bt650.2.2.2.2.2.1 bt650.2.2.2.2.2.2.1 bt650.2.2.2.2.2.2.2 bt661.1 bt661.2.1 bt661.2.2.1 bt661.2.2.2.1 bt661.2.2.2.2.1 bt661.2.2.2.2.2.1 bt661.2.2.2.2.2.2.1 bt661.2.2.2.2.2.2.2.1)) else (laws_FnExactRunToEnd.j0 k At Au bt661.2.2.2.2.2.2.2.2.1 bt661.2.2.2.2.2.2.2.2.2 true a0_0 a0_1 l0_2 a0_3 a0_4 a0_5 a0_6 a0_7 Am An Ad Ao Ap Aq Ar As bt650.1 bt650.2.1 bt650.2.2.1 bt650.2.2.2.1 bt650.2.2.2.2.1 bt650.2.2.2.2.2.1 bt650.2.2.2.2.2.2.1 bt650.2.2.2.2.2.2.2 bt661.1 bt661.2.1 bt661.2.2.1 bt661.2.2.2.1 bt661.2.2.2.2.1 bt661.2.2.2.2.2.1 bt661.2.2.2.2.2.2.1 bt661.2.2.2.2.2.2.2.1))))) = some true := H
  have A8 := Z.m FI
  clear FI
  replace H := Option.bind_eq_some_iff.mp H
  obtain ⟨⟨AC, AD, Aw, AE, AF, AG, AH, AI⟩, LQ, H⟩ := H
  replace H : ((impl_RunToEnd.f k AC AD Aw AE AF AG AH AI).bind fun bt661 => ((laws_eqMachine.f k bt661.1 bt661.2.1 bt661.2.2.1 bt661.2.2.2.1 bt661.2.2.2.2.1 bt661.2.2.2.2.2.1 bt661.2.2.2.2.2.2.1 bt661.2.2.2.2.2.2.2.1 Am An Ad Ao Ap Aq Ar As).bind fun Bo => (if Bo = true then (if bt661.2.2.2.2.2.2.2.2.1 = At then (laws_FnExactRunToEnd.j0 k At Au bt661.2.2.2.2.2.2.2.2.1 bt661.2.2.2.2.2.2.2.2.2 (bt661.2.2.2.2.2.2.2.2.2 != Au) a0_0 a0_1 l0_2 a0_3 a0_4 a0_5 a0_6 a0_7 Am An Ad Ao Ap Aq Ar As AC AD Aw AE AF AG AH AI bt661.1 bt661.2.1 bt661.2.2.1 bt661.2.2.2.1 bt661.2.2.2.2.1 bt661.2.2.2.2.2.1 bt661.2.2.2.2.2.2.1 bt661.2.2.2.2.2.2.2.1) else (laws_FnExactRunToEnd.j0 k At Au bt661.2.2.2.2.2.2.2.2.1 bt661.2.2.2.2.2.2.2.2.2 true a0_0 a0_1 l0_2 a0_3 a0_4 a0_5 a0_6 a0_7 Am An Ad Ao Ap Aq Ar As AC AD Aw AE AF AG AH AI bt661.1 bt661.2.1 bt661.2.2.1 bt661.2.2.2.1 bt661.2.2.2.2.1 bt661.2.2.2.2.2.1 bt661.2.2.2.2.2.2.1 bt661.2.2.2.2.2.2.2.1)) else (laws_FnExactRunToEnd.j0 k At Au bt661.2.2.2.2.2.2.2.2.1 bt661.2.2.2.2.2.2.2.2.2 true a0_0 a0_1 l0_2 a0_3 a0_4 a0_5 a0_6 a0_7 Am An Ad Ao Ap Aq Ar As AC AD Aw AE AF AG AH AI bt661.1 bt661.2.1 bt661.2.2.1 bt661.2.2.2.1 bt661.2.2.2.2.1 bt661.2.2.2.2.2.1 bt661.2.2.2.2.2.2.1 bt661.2.2.2.2.2.2.2.1)))) = some true := H
  have A9 := Z.m LQ
  clear LQ
  replace H := Option.bind_eq_some_iff.mp H
  obtain ⟨⟨Ae, Af, Al, Ag, Ah, Ai, Aj, Ak, B3, B7⟩, FC, H⟩ := H
  replace H : ((laws_eqMachine.f k Ae Af Al Ag Ah Ai Aj Ak Am An Ad Ao Ap Aq Ar As).bind fun Bo => (if Bo = true then (if B3 = At then (laws_FnExactRunToEnd.j0 k At Au B3 B7 (B7 != Au) a0_0 a0_1 l0_2 a0_3 a0_4 a0_5 a0_6 a0_7 Am An Ad Ao Ap Aq Ar As AC AD Aw AE AF AG AH AI Ae Af Al Ag Ah Ai Aj Ak) else (laws_FnExactRunToEnd.j0 k At Au B3 B7 true a0_0 a0_1 l0_2 a0_3 a0_4 a0_5 a0_6 a0_7 Am An Ad Ao Ap Aq Ar As AC AD Aw AE AF AG AH AI Ae Af Al Ag Ah Ai Aj Ak)) else (laws_FnExactRunToEnd.j0 k At Au B3 B7 true a0_0 a0_1 l0_2 a0_3 a0_4 a0_5 a0_6 a0_7 Am An Ad Ao Ap Aq Ar As AC AD Aw AE AF AG AH AI Ae Af Al Ag Ah Ai Aj Ak))) = some true := H
  have MK := Z.m FC
  clear FC
  have Fw := Z.m H
  clear H
  go_enter Try.func4, Try.ntmps4
  go_upto_region 8 with (first | ((with_reducible refine gq (N := 1) rfl ?_); refine be (N := 1) (cs := #[.int .i64 a0_0, .int .i64 a0_1, .slice A0_2 l0_2.length c0_2, .int .i64 a0_3, .int .i64 a0_4, .int .i64 a0_5, .int .i64 a0_6, .int .i64 a0_7]) (t := 26) ?_; intro AW hg N6 hbox hb; have A1 := Z.m (hbox); have BX := gW (w := w) HB hg; have BW := BX; replace HB := bB HB hb; clear hb hbox hg; have Da := bc0 A1; have Db := bc1 A1; have Dc := bc2 A1; have Dd := bc3 A1; have De := bc4 A1; have Df := bc5 A1; have Dg := bc6 A1; have Dh := bc7 A1; have E4 := qz A1.o 0; have E5 := qz A1.o 1; have E6 := qz A1.o 2; have E7 := qz A1.o 3; have E8 := qz A1.o 4; have E9 := qz A1.o 5; have Ea := qz A1.o 6; have Eb := qz A1.o 7) | ((with_reducible refine gc (f := 10) rfl ?_); refine gA (some 19) _ #[.agg #[.int .i64 a0_0, .int .i64 a0_1, .slice A0_2 l0_2.length c0_2, .int .i64 a0_3, .int .i64 a0_4, .int .i64 a0_5, .int .i64 a0_6, .int .i64 a0_7], .int .i64 1048576] ?_ Try.func10; (with_reducible refine (laws_szMachine.calls a0_0 a0_1 _ _ l0_2 a0_3 a0_4 a0_5 a0_6 a0_7 1048576 BT _ ?side1 ?side2 A2.o).mono ?_); (case side1 => repeat (first | exact (Kd.C_below BA.o HB.o) | (with_reducible refine Kd.C_alloc ?_ _) | (with_reducible refine Kd.C_drewN ?_ _) | (with_reducible refine Kd.C_drew ?_))); (case side2 => exact Bz.o); rintro e N7 ⟨rfl, hb⟩; refine ⟨_, rfl, ?_⟩; replace A1 := kB A1 hb; replace HB := bB HB hb; (try clear hb); (try clear BQ); (try clear hk); (try clear hi); have Di := bc0 A1; have Dj := bc1 A1; have Dk := bc2 A1; have Dl := bc3 A1; have Dm := bc4 A1; have Dn := bc5 A1; have Do := bc6 A1; have Dp := bc7 A1; have Ec := qz A1.o 0; have Ed := qz A1.o 1; have Ee := qz A1.o 2; have Ef := qz A1.o 3; have Eg := qz A1.o 4; have Eh := qz A1.o 5; have Ei := qz A1.o 6; have Ej := qz A1.o 7) | ((with_reducible refine gc (f := 12) rfl ?_); refine gA (some 24) _ #[.agg #[.int .i64 a0_0, .int .i64 a0_1, .slice A0_2 l0_2.length c0_2, .int .i64 a0_3, .int .i64 a0_4, .int .i64 a0_5, .int .i64 a0_6, .int .i64 a0_7]] ?_ Try.func12; (with_reducible refine (laws_toMachine.calls k a0_0 a0_1 _ _ l0_2 a0_3 a0_4 a0_5 a0_6 a0_7 F0 F1 BB F2 F3 F4 F5 F6 _ ?side1 ?side2 A7.o).mono ?_); (case side1 => repeat (first | exact (Kd.C_below BA.o HB.o) | (with_reducible refine Kd.C_alloc ?_ _) | (with_reducible refine Kd.C_drewN ?_ _) | (with_reducible refine Kd.C_drew ?_))); (case side2 => exact Bz.o); rintro e N8 ⟨MQ, rfl, Bh, hb⟩; refine ⟨_, rfl, ?_⟩; have AQ := Z.m (Kd.R_lower Bh (below_size (vB HB))); replace A1 := kB A1 hb; replace HB := bB HB hb; (try clear hb); (try clear BQ); (try clear hk); (try clear hi); (try clear Bh); obtain ⟨BR, BS, Kt⟩ := Kd.R_slice AQ.o; subst Kt) | ((with_reducible refine gc (f := 17) rfl ?_); refine gA (some 25) _ #[.agg #[.int .i64 F0, .int .i64 F1, .slice BR BB.length BS, .int .i64 F2, .int .i64 F3, .int .i64 F4, .int .i64 F5, .int .i64 F6]] ?_ Try.func17; (with_reducible refine (spec_RunToEnd.calls k F0 F1 _ _ BB F2 F3 F4 F5 F6 Am An Ad Ao Ap Aq Ar As At Au _ ?side1 ?side2 A8.o).mono ?_); (case side1 => repeat (first | exact (Kd.RrZ AQ.o).2.2 | (with_reducible refine Kd.C_alloc ?_ _) | (with_reducible refine Kd.C_drewN ?_ _) | (with_reducible refine Kd.C_drew ?_))); (case side2 => exact (Kd.RrZ AQ.o).2.1); rintro e N9 ⟨MR, rfl, Bh, hb⟩; refine ⟨_, rfl, ?_⟩; have AJ := Z.m (Kd.R_lower (Kd.R_new' Bh (Kd.R_lt (vR AQ))) (below_size (vB HB))); replace AQ := Z.m (Kd.R_elder' (vR AQ) (Kd.R_base Bh) hb); replace A1 := kB A1 hb; replace HB := bB HB hb; (try clear hb); (try clear BQ); (try clear hk); (try clear hi); (try clear Bh)) | ((with_reducible refine gq (N := 4) rfl ?_); refine be (N := 4) (cs := #[.int .i64 0, .int .i64 0, .slice none 0 0, .int .i64 0, .int .i64 0, .int .i64 0, .int .i64 0, .int .i64 0]) (t := 32) ?_; intro Bn hg Na hbox hb; have A3 := Z.m (hbox); have FL := gW (w := w) HB hg; have Fr := FL; have AM := neL A1 hg; have AS := neG A1 hg; replace AQ := Z.m (Kd.Rb (vR AQ) hb); replace AJ := Z.m (Kd.Rb (vR AJ) hb); replace A1 := kB A1 hb; replace HB := bB HB hb; clear hb hbox hg; have LW := AS.o; have Ml := AM.o; have Dq := bc0 A3; have Dr := bc1 A3; have Ds := bc2 A3; have Dt := bc3 A3; have Du := bc4 A3; have Dv := bc5 A3; have Dw := bc6 A3; have Dx := bc7 A3; have Ek := qz A3.o 0; have El := qz A3.o 1; have Em := qz A3.o 2; have En := qz A3.o 3; have Eo := qz A3.o 4; have Ep := qz A3.o 5; have Er := qz A3.o 6; have Es := qz A3.o 7; obtain ⟨AR, AK, Ku⟩ := Kd.R_slice AJ.o; subst Ku; have Dy := bc0 A1; have Dz := bc1 A1; have DA := bc2 A1; have DB := bc3 A1; have DC := bc4 A1; have DD := bc5 A1; have DE := bc6 A1; have DF := bc7 A1; have Et := qz A1.o 0; have Eu := qz A1.o 1; have Ew := qz A1.o 2; have Ex := qz A1.o 3; have Ey := qz A1.o 4; have Ez := qz A1.o 5; have EA := qz A1.o 6; have EB := qz A1.o 7) | ((with_reducible refine gc (f := 12) rfl ?_); refine gA (some 30) _ #[.agg #[.int .i64 a0_0, .int .i64 a0_1, .slice A0_2 l0_2.length c0_2, .int .i64 a0_3, .int .i64 a0_4, .int .i64 a0_5, .int .i64 a0_6, .int .i64 a0_7]] ?_ Try.func12; (with_reducible refine (laws_toMachine.calls k a0_0 a0_1 _ _ l0_2 a0_3 a0_4 a0_5 a0_6 a0_7 AC AD Aw AE AF AG AH AI _ ?side1 ?side2 A9.o).mono ?_); (case side1 => exact Kd.C_below BA.o (vB HB)); (case side2 => exact Bz.o); rintro e Nb ⟨MS, rfl, Bh, hb⟩; refine ⟨_, rfl, ?_⟩; have AZ := Z.m (Kd.R_lower (Kd.R_new' (Kd.R_new' Bh (Kd.R_lt (by refine rK ?_; exact (Kd.Rm (rf (rf (rf (rf (rf (rf (rf (rf (Kd.Ry AQ.o A3.o (by decide)))))))))) (fun _ h_ => h_.1))))) (Kd.R_lt (by refine rK ?_; exact (Kd.Rm (rf (rf (rf (rf (rf (rf (rf (rf (Kd.Ry AJ.o A3.o (by decide)))))))))) (fun _ h_ => h_.1))))) (below_size (vB HB))); replace AQ := Z.m (Kd.R_elder' (by refine rK ?_; exact (Kd.Rm (rf (rf (rf (rf (rf (rf (rf (rf (Kd.Ry AQ.o A3.o (by decide)))))))))) (fun _ h_ => h_.1))) (Kd.R_base Bh) hb); replace AJ := Z.m (Kd.R_elder' (by refine rK ?_; exact (Kd.Rm (rf (rf (rf (rf (rf (rf (rf (rf (Kd.Ry AJ.o A3.o (by decide)))))))))) (fun _ h_ => h_.1))) (Kd.R_base Bh) hb); replace A1 := Z.m (qb (g := AW) (o := .cells #[.int .i64 a0_0, .int .i64 a0_1, .slice A0_2 l0_2.length c0_2, .int .i64 a0_3, .int .i64 a0_4, .int .i64 a0_5, .int .i64 a0_6, .int .i64 a0_7] 26 (0, 0)) (by refine bK ?_; (iterate 8 refine qF ?_ AM); exact A1.o) hb); replace A3 := Z.m (qb (g := Bn) (o := .cells #[.int .i64 Am, .int .i64 An, .slice AR Ad.length AK, .int .i64 Ao, .int .i64 Ap, .int .i64 Aq, .int .i64 Ar, .int .i64 As] 32 (0, 0)) (by refine bK ?_; apply st8; refine bK ?_; exact A3.o) hb); replace HB := bB HB hb; (try clear hb); (try clear BQ); (try clear hk); (try clear hi); (try clear Bh)) | ((with_reducible refine gq (N := 7) rfl ?_); refine be (N := 7) (cs := #[.int .i64 0, .int .i64 0, .slice none 0 0, .int .i64 0, .int .i64 0, .int .i64 0, .int .i64 0, .int .i64 0]) (t := 32) ?_; intro B0 hg Nc hbox hb; have A5 := Z.m (hbox); have FM := gW (w := w) HB hg; have Fs := FM; have Bk := neL A1 hg; have Br := neG A1 hg; have AO := neL A3 hg; have AT := neG A3 hg; replace AQ := Z.m (Kd.Rb (vR AQ) hb); replace AJ := Z.m (Kd.Rb (vR AJ) hb); replace AZ := Z.m (Kd.Rb (vR AZ) hb); replace A1 := kB A1 hb; replace A3 := kB A3 hb; replace HB := bB HB hb; clear hb hbox hg; have LX := Br.o; have Mm := Bk.o; have LY := AT.o; have Mn := AO.o; have DG := bc0 A5; have DH := bc1 A5; have DI := bc2 A5; have DJ := bc3 A5; have DK := bc4 A5; have DL := bc5 A5; have DM := bc6 A5; have DN := bc7 A5; have EC := qz A5.o 0; have ED := qz A5.o 1; have EE := qz A5.o 2; have EF := qz A5.o 3; have EG := qz A5.o 4; have EH := qz A5.o 5; have EI := qz A5.o 6; have EJ := qz A5.o 7; obtain ⟨AA, Az, Kv⟩ := Kd.R_slice AZ.o; subst Kv) | ((with_reducible refine gc (f := 18) rfl ?_); refine gA (some 33) _ #[.agg #[.int .i64 AC, .int .i64 AD, .slice AA Aw.length Az, .int .i64 AE, .int .i64 AF, .int .i64 AG, .int .i64 AH, .int .i64 AI]] ?_ Try.func18; (with_reducible refine (impl_RunToEnd.calls k AC AD _ _ Aw AE AF AG AH AI Ae Af Al Ag Ah Ai Aj Ak B3 B7 _ ?side1 ?side2 MK.o).mono ?_); (case side1 => refine (Kd.RrZ (e := 88) (base := w.heap.size) (ok := fun k_ => ((True ∧ some k_ ≠ (.slice BR BB.length BS : Value).ownBlock) ∧ some k_ ≠ (.slice AR Ad.length AK : Value).ownBlock)) (n := Aw.length) (c := Az) ?_).2.2; exact (by refine rK ?_; exact (Kd.Rm (rf (rf (rf (rf (rf (rf (rf (rf (Kd.Ry AZ.o A5.o (by decide)))))))))) (fun _ h_ => h_.1)))); (case side2 => exact (Kd.RrZ AZ.o).2.1); rintro e Nd ⟨MT, rfl, Bh, hb⟩; refine ⟨_, rfl, ?_⟩; have B8 := Z.m (Kd.R_lower (Kd.R_new' (Kd.R_new' (Kd.R_new' Bh (Kd.R_lt (by refine rK ?_; exact (Kd.Rm (rf (rf (rf (rf (rf (rf (rf (rf (Kd.Ry AQ.o A5.o (by decide)))))))))) (fun _ h_ => h_.1))))) (Kd.R_lt (by refine rK ?_; exact (Kd.Rm (rf (rf (rf (rf (rf (rf (rf (rf (Kd.Ry AJ.o A5.o (by decide)))))))))) (fun _ h_ => h_.1))))) (Kd.R_lt (by refine rK ?_; exact (Kd.Rm (rf (rf (rf (rf (rf (rf (rf (rf (Kd.Ry AZ.o A5.o (by decide)))))))))) (fun _ h_ => h_.1))))) (below_size (vB HB))); replace AQ := Z.m (Kd.R_elder' (by refine rK ?_; exact (Kd.Rm (rf (rf (rf (rf (rf (rf (rf (rf (Kd.Ry AQ.o A5.o (by decide)))))))))) (fun _ h_ => h_.1))) (Kd.R_base Bh) hb); replace AJ := Z.m (Kd.R_elder' (by refine rK ?_; exact (Kd.Rm (rf (rf (rf (rf (rf (rf (rf (rf (Kd.Ry AJ.o A5.o (by decide)))))))))) (fun _ h_ => h_.1))) (Kd.R_base Bh) hb); replace AZ := Z.m (Kd.R_elder' (by refine rK ?_; exact (Kd.Rm (rf (rf (rf (rf (rf (rf (rf (rf (Kd.Ry AZ.o A5.o (by decide)))))))))) (fun _ h_ => h_.1))) (Kd.R_base Bh) hb); replace A1 := Z.m (qb (g := AW) (o := .cells #[.int .i64 a0_0, .int .i64 a0_1, .slice A0_2 l0_2.length c0_2, .int .i64 a0_3, .int .i64 a0_4, .int .i64 a0_5, .int .i64 a0_6, .int .i64 a0_7] 26 (0, 0)) (by refine bK ?_; (iterate 8 refine qF ?_ Bk); exact A1.o) hb); replace A3 := Z.m (qb (g := Bn) (o := .cells #[.int .i64 Am, .int .i64 An, .slice AR Ad.length AK, .int .i64 Ao, .int .i64 Ap, .int .i64 Aq, .int .i64 Ar, .int .i64 As] 32 (0, 0)) (by refine bK ?_; (iterate 8 refine qF ?_ AO); exact A3.o) hb); replace A5 := Z.m (qb (g := B0) (o := .cells #[.int .i64 AC, .int .i64 AD, .slice AA Aw.length Az, .int .i64 AE, .int .i64 AF, .int .i64 AG, .int .i64 AH, .int .i64 AI] 32 (0, 0)) (by refine bK ?_; apply st8; refine bK ?_; exact A5.o) hb); replace HB := bB HB hb; (try clear hb); (try clear BQ); (try clear hk); (try clear hi); (try clear Bh)) | ((with_reducible refine gq (N := 8) rfl ?_); refine be (N := 8) (cs := #[.int .i64 0, .int .i64 0, .slice none 0 0, .int .i64 0, .int .i64 0, .int .i64 0, .int .i64 0, .int .i64 0]) (t := 32) ?_; intro Bx hg Nf hbox hb; have A0 := Z.m (hbox); have FN := gW (w := w) HB hg; have Ft := FN; have AN := neL A1 hg; have AX := neG A1 hg; have Ax := neL A3 hg; have AP := neG A3 hg; have Ay := neL A5 hg; have AU := neG A5 hg; replace AQ := Z.m (Kd.Rb (vR AQ) hb); replace AJ := Z.m (Kd.Rb (vR AJ) hb); replace AZ := Z.m (Kd.Rb (vR AZ) hb); replace B8 := Z.m (Kd.Rb (vR B8) hb); replace A1 := kB A1 hb; replace A3 := kB A3 hb; replace A5 := kB A5 hb; replace HB := bB HB hb; clear hb hbox hg; have LZ := AX.o; have Mo := AN.o; have M0 := AP.o; have Mp := Ax.o; have M1 := AU.o; have Mq := Ay.o; have DO := bc0 A0; have DP := bc1 A0; have DQ := bc2 A0; have DR := bc3 A0; have DS := bc4 A0; have DT := bc5 A0; have DU := bc6 A0; have DV := bc7 A0; have EK := qz A0.o 0; have EL := qz A0.o 1; have EM := qz A0.o 2; have EN := qz A0.o 3; have EO := qz A0.o 4; have EP := qz A0.o 5; have EQ := qz A0.o 6; have ER := qz A0.o 7; obtain ⟨AL, AB, Kw⟩ := Kd.R_slice B8.o; subst Kw))
  (try simp only [Act.put, q1, q2, q3])
  go_cut [50] (fun v50 wc => ∃ (kq : Nat) (BJ : Bool), v50 = .bool BJ ∧ Z (laws_FnExactRunToEnd.j0 kq At Au B3 B7 BJ a0_0 a0_1 l0_2 a0_3 a0_4 a0_5 a0_6 a0_7 Am An Ad Ao Ap Aq Ar As AC AD Aw AE AF AG AH AI Ae Af Al Ag Ah Ai Aj Ak = some true) ∧ Z (kq ≤ k) ∧ Z (Kd.R k88 88 wc w.heap.size (fun k_ => some k_ ≠ ((.slice AA Aw.length Az) : Value).ownBlock ∧ some k_ ≠ ((.slice AL Al.length AB) : Value).ownBlock) (.slice AR Ad.length AK) Ad) ∧ Z (Kd.R k88 88 wc w.heap.size (fun k_ => some k_ ≠ ((.slice AR Ad.length AK) : Value).ownBlock ∧ some k_ ≠ ((.slice AL Al.length AB) : Value).ownBlock) (.slice AA Aw.length Az) Aw) ∧ Z (Kd.R k88 88 wc w.heap.size (fun k_ => some k_ ≠ ((.slice AR Ad.length AK) : Value).ownBlock ∧ some k_ ≠ ((.slice AA Aw.length Az) : Value).ownBlock) (.slice AL Al.length AB) Al) ∧ Z (wc.heap[AW]? = some (.cells #[.int .i64 a0_0, .int .i64 a0_1, (.slice A0_2 l0_2.length c0_2), .int .i64 a0_3, .int .i64 a0_4, .int .i64 a0_5, .int .i64 a0_6, .int .i64 a0_7] 26 (0, 0))) ∧ Z (wc.heap[Bn]? = some (.cells #[.int .i64 Am, .int .i64 An, (.slice AR Ad.length AK), .int .i64 Ao, .int .i64 Ap, .int .i64 Aq, .int .i64 Ar, .int .i64 As] 32 (0, 0))) ∧ Z (wc.heap[B0]? = some (.cells #[.int .i64 AC, .int .i64 AD, (.slice AA Aw.length Az), .int .i64 AE, .int .i64 AF, .int .i64 AG, .int .i64 AH, .int .i64 AI] 32 (0, 0))) ∧ Z (wc.heap[Bx]? = some (.cells #[.int .i64 Ae, .int .i64 Af, (.slice AL Al.length AB), .int .i64 Ag, .int .i64 Ah, .int .i64 Ai, .int .i64 Aj, .int .i64 Ak] 32 (0, 0))) ∧ Z (Below w.heap.size w wc))
  case first =>
   have H := Fw.o
   clear Fw
   replace H := Option.bind_eq_some_iff.mp H
   obtain ⟨Bo, FE, H⟩ := H
   replace H : (if Bo = true then (if B3 = At then (laws_FnExactRunToEnd.j0 k At Au B3 B7 (B7 != Au) a0_0 a0_1 l0_2 a0_3 a0_4 a0_5 a0_6 a0_7 Am An Ad Ao Ap Aq Ar As AC AD Aw AE AF AG AH AI Ae Af Al Ag Ah Ai Aj Ak) else (laws_FnExactRunToEnd.j0 k At Au B3 B7 true a0_0 a0_1 l0_2 a0_3 a0_4 a0_5 a0_6 a0_7 Am An Ad Ao Ap Aq Ar As AC AD Aw AE AF AG AH AI Ae Af Al Ag Ah Ai Aj Ak)) else (laws_FnExactRunToEnd.j0 k At Au B3 B7 true a0_0 a0_1 l0_2 a0_3 a0_4 a0_5 a0_6 a0_7 Am An Ad Ao Ap Aq Ar As AC AD Aw AE AF AG AH AI Ae Af Al Ag Ah Ai Aj Ak)) = some true := H
   have LO := Z.m FE
   clear FE
   by_cases c38 : Bo = true
   ·subst c38
    have H1 : (if B3 = At then (laws_FnExactRunToEnd.j0 k At Au B3 B7 (B7 != Au) a0_0 a0_1 l0_2 a0_3 a0_4 a0_5 a0_6 a0_7 Am An Ad Ao Ap Aq Ar As AC AD Aw AE AF AG AH AI Ae Af Al Ag Ah Ai Aj Ak) else (laws_FnExactRunToEnd.j0 k At Au B3 B7 true a0_0 a0_1 l0_2 a0_3 a0_4 a0_5 a0_6 a0_7 Am An Ad Ao Ap Aq Ar As AC AD Aw AE AF AG AH AI Ae Af Al Ag Ah Ai Aj Ak)) = some true := by rw [if_pos rfl] at H; exact H
    clear H
    have H := H1
    clear H1
    by_cases c39 : B3 = At
    ·rw [if_pos c39] at H
     have Fu := beq_iff_eq.mpr c39
     have LT := bne_eq_false_iff_eq.mpr c39
     clear c39
     (first | rw [Fu] | (simp only [i64_w, i32_w]; rw [Fu]) | skip)
     have H' := Z.m H
     clear H
     have M2 := AX.o
     have Mr := AN.o
     have M3 := AP.o
     have Ms := Ax.o
     have M4 := AU.o
     have Mt := Ay.o
     have HM := bc0 A0
     have HN := bc1 A0
     have HO := bc2 A0
     have HP := bc3 A0
     have HQ := bc4 A0
     have HR := bc5 A0
     have HS := bc6 A0
     have HT := bc7 A0
     have Jy := qz A0.o 0
     have Jz := qz A0.o 1
     have JA := qz A0.o 2
     have JB := qz A0.o 3
     have JC := qz A0.o 4
     have JD := qz A0.o 5
     have JE := qz A0.o 6
     have JF := qz A0.o 7
     have M5 := AS.o
     have Mu := AM.o
     have M6 := AO.o
     have Mv := AT.o
     have HU := bc0 A3
     have HV := bc1 A3
     have HW := bc2 A3
     have HX := bc3 A3
     have HY := bc4 A3
     have HZ := bc5 A3
     have J0 := bc6 A3
     have J1 := bc7 A3
     have JG := qz A3.o 0
     have JH := qz A3.o 1
     have JI := qz A3.o 2
     have JJ := qz A3.o 3
     have JK := qz A3.o 4
     have JL := qz A3.o 5
     have JM := qz A3.o 6
     have JN := qz A3.o 7
     go_wp2_with (first | ((with_reducible refine gc (f := 14) rfl ?_); refine gA (some 39) _ #[.agg #[.int .i64 Ae, .int .i64 Af, .slice AL Al.length AB, .int .i64 Ag, .int .i64 Ah, .int .i64 Ai, .int .i64 Aj, .int .i64 Ak], .agg #[.int .i64 Am, .int .i64 An, .slice AR Ad.length AK, .int .i64 Ao, .int .i64 Ap, .int .i64 Aq, .int .i64 Ar, .int .i64 As]] ?_ Try.func14; (with_reducible refine (laws_eqMachine.calls k Ae Af _ _ Al Ag Ah Ai Aj Ak Am An _ _ Ad Ao Ap Aq Ar As true _ ?side1 ?side2 ?side3 ?side4 LO.o).mono ?_); (case side1 => refine (Kd.RrZ (e := 88) (base := w.heap.size) (ok := fun k_ => (((True ∧ some k_ ≠ (.slice BR BB.length BS : Value).ownBlock) ∧ some k_ ≠ (.slice AR Ad.length AK : Value).ownBlock) ∧ some k_ ≠ (.slice AA Aw.length Az : Value).ownBlock)) (n := Al.length) (c := AB) ?_).2.2; exact (by refine rK ?_; exact (Kd.Rm (rf (rf (rf (rf (rf (rf (rf (rf (Kd.Ry B8.o A0.o (by decide)))))))))) (fun _ h_ => h_.1)))); (case side2 => exact (Kd.RrZ B8.o).2.1); (case side3 => refine (Kd.RrZ (e := 88) (base := w.heap.size) (ok := fun k_ => (((True ∧ some k_ ≠ (.slice BR BB.length BS : Value).ownBlock) ∧ some k_ ≠ (.slice AA Aw.length Az : Value).ownBlock) ∧ some k_ ≠ (.slice AL Al.length AB : Value).ownBlock)) (n := Ad.length) (c := AK) ?_).2.2; exact (by refine rK ?_; exact (Kd.Rm (rf (rf (rf (rf (rf (rf (rf (rf (Kd.Ry AJ.o A0.o (by decide)))))))))) (fun _ h_ => h_.1)))); (case side4 => exact (Kd.RrZ AJ.o).2.1); rintro e Ng ⟨rfl, hb⟩; refine ⟨_, rfl, ?_⟩; replace AQ := Z.m (Kd.Rb (by refine rK ?_; exact (Kd.Rm (rf (rf (rf (rf (rf (rf (rf (rf (Kd.Ry AQ.o A0.o (by decide)))))))))) (fun _ h_ => h_.1))) hb); replace AJ := Z.m (Kd.Rb (by refine rK ?_; exact (Kd.Rm (rf (rf (rf (rf (rf (rf (rf (rf (Kd.Ry AJ.o A0.o (by decide)))))))))) (fun _ h_ => h_.1))) hb); replace AZ := Z.m (Kd.Rb (by refine rK ?_; exact (Kd.Rm (rf (rf (rf (rf (rf (rf (rf (rf (Kd.Ry AZ.o A0.o (by decide)))))))))) (fun _ h_ => h_.1))) hb); replace B8 := Z.m (Kd.Rb (by refine rK ?_; exact (Kd.Rm (rf (rf (rf (rf (rf (rf (rf (rf (Kd.Ry B8.o A0.o (by decide)))))))))) (fun _ h_ => h_.1))) hb); replace A1 := Z.m (qb (g := AW) (o := .cells #[.int .i64 a0_0, .int .i64 a0_1, .slice A0_2 l0_2.length c0_2, .int .i64 a0_3, .int .i64 a0_4, .int .i64 a0_5, .int .i64 a0_6, .int .i64 a0_7] 26 (0, 0)) (by refine bK ?_; (iterate 8 refine qF ?_ AN); exact A1.o) hb); replace A3 := Z.m (qb (g := Bn) (o := .cells #[.int .i64 Am, .int .i64 An, .slice AR Ad.length AK, .int .i64 Ao, .int .i64 Ap, .int .i64 Aq, .int .i64 Ar, .int .i64 As] 32 (0, 0)) (by refine bK ?_; (iterate 8 refine qF ?_ Ax); exact A3.o) hb); replace A5 := Z.m (qb (g := B0) (o := .cells #[.int .i64 AC, .int .i64 AD, .slice AA Aw.length Az, .int .i64 AE, .int .i64 AF, .int .i64 AG, .int .i64 AH, .int .i64 AI] 32 (0, 0)) (by refine bK ?_; (iterate 8 refine qF ?_ Ay); exact A5.o) hb); replace A0 := Z.m (qb (g := Bx) (o := .cells #[.int .i64 Ae, .int .i64 Af, .slice AL Al.length AB, .int .i64 Ag, .int .i64 Ah, .int .i64 Ai, .int .i64 Aj, .int .i64 Ak] 32 (0, 0)) (by refine bK ?_; apply st8; refine bK ?_; exact A0.o) hb); replace HB := bB HB hb; (try clear hb); (try clear BQ); (try clear hk); (try clear hi)))
     go_meet
     case rel => exact ⟨_, ((B7 != Au)), (by first | rfl | (simp; done) | (simp [*]; done)), H', ⟨by first | omega | exact Nat.le_refl _⟩, ⟨by refine rK ?_; exact Kd.Rm AJ.o (fun _ hk => ⟨hk.1.2, hk.2⟩)⟩, ⟨by refine rK ?_; exact Kd.Rm AZ.o (fun _ hk => ⟨hk.1.2, hk.2⟩)⟩, ⟨by refine rK ?_; exact Kd.Rm B8.o (fun _ hk => ⟨hk.1.2, hk.2⟩)⟩, ⟨vK A1⟩, ⟨vK A3⟩, ⟨vK A5⟩, ⟨vK A0⟩, ⟨vB HB⟩⟩
    ·(rw [if_neg c39] at H; exact absurd H (laws_FnExactRunToEnd.bad_j0 _ _ _ _ _ _ _ _ _ _ _ _ _ _ _ _ _ _ _ _ _ _ _ _ _ _ _ _ _ _ _ _ _ _ _ _ _))
   ·replace c38 := Bool.eq_false_iff.mpr c38
    subst c38
    have H1 : (laws_FnExactRunToEnd.j0 k At Au B3 B7 true a0_0 a0_1 l0_2 a0_3 a0_4 a0_5 a0_6 a0_7 Am An Ad Ao Ap Aq Ar As AC AD Aw AE AF AG AH AI Ae Af Al Ag Ah Ai Aj Ak) = some true := by rw [if_neg (show ¬ (false = true) by decide)] at H; exact H
    clear H
    have H := H1
    clear H1
    have H' := Z.m H
    clear H
    have M7 := AX.o
    have Mw := AN.o
    have M8 := AP.o
    have Mx := Ax.o
    have M9 := AU.o
    have My := Ay.o
    have J2 := bc0 A0
    have J3 := bc1 A0
    have J4 := bc2 A0
    have J5 := bc3 A0
    have J6 := bc4 A0
    have J7 := bc5 A0
    have J8 := bc6 A0
    have J9 := bc7 A0
    have JO := qz A0.o 0
    have JP := qz A0.o 1
    have JQ := qz A0.o 2
    have JR := qz A0.o 3
    have JS := qz A0.o 4
    have JT := qz A0.o 5
    have JU := qz A0.o 6
    have JV := qz A0.o 7
    have Ma := AS.o
    have Mz := AM.o
    have Mb := AO.o
    have MA := AT.o
    have Ja := bc0 A3
    have Jb := bc1 A3
    have Jc := bc2 A3
    have Jd := bc3 A3
    have Je := bc4 A3
    have Jf := bc5 A3
    have Jg := bc6 A3
    have Jh := bc7 A3
    have JW := qz A3.o 0
    have JX := qz A3.o 1
    have JY := qz A3.o 2
    have JZ := qz A3.o 3
    have K0 := qz A3.o 4
    have K1 := qz A3.o 5
    have K2 := qz A3.o 6
    have K3 := qz A3.o 7
    go_wp2_with (first | ((with_reducible refine gc (f := 14) rfl ?_); refine gA (some 39) _ #[.agg #[.int .i64 Ae, .int .i64 Af, .slice AL Al.length AB, .int .i64 Ag, .int .i64 Ah, .int .i64 Ai, .int .i64 Aj, .int .i64 Ak], .agg #[.int .i64 Am, .int .i64 An, .slice AR Ad.length AK, .int .i64 Ao, .int .i64 Ap, .int .i64 Aq, .int .i64 Ar, .int .i64 As]] ?_ Try.func14; (with_reducible refine (laws_eqMachine.calls k Ae Af _ _ Al Ag Ah Ai Aj Ak Am An _ _ Ad Ao Ap Aq Ar As false _ ?side1 ?side2 ?side3 ?side4 LO.o).mono ?_); (case side1 => refine (Kd.RrZ (e := 88) (base := w.heap.size) (ok := fun k_ => (((True ∧ some k_ ≠ (.slice BR BB.length BS : Value).ownBlock) ∧ some k_ ≠ (.slice AR Ad.length AK : Value).ownBlock) ∧ some k_ ≠ (.slice AA Aw.length Az : Value).ownBlock)) (n := Al.length) (c := AB) ?_).2.2; exact (by refine rK ?_; exact (Kd.Rm (rf (rf (rf (rf (rf (rf (rf (rf (Kd.Ry B8.o A0.o (by decide)))))))))) (fun _ h_ => h_.1)))); (case side2 => exact (Kd.RrZ B8.o).2.1); (case side3 => refine (Kd.RrZ (e := 88) (base := w.heap.size) (ok := fun k_ => (((True ∧ some k_ ≠ (.slice BR BB.length BS : Value).ownBlock) ∧ some k_ ≠ (.slice AA Aw.length Az : Value).ownBlock) ∧ some k_ ≠ (.slice AL Al.length AB : Value).ownBlock)) (n := Ad.length) (c := AK) ?_).2.2; exact (by refine rK ?_; exact (Kd.Rm (rf (rf (rf (rf (rf (rf (rf (rf (Kd.Ry AJ.o A0.o (by decide)))))))))) (fun _ h_ => h_.1)))); (case side4 => exact (Kd.RrZ AJ.o).2.1); rintro e Nh ⟨rfl, hb⟩; refine ⟨_, rfl, ?_⟩; replace AQ := Z.m (Kd.Rb (by refine rK ?_; exact (Kd.Rm (rf (rf (rf (rf (rf (rf (rf (rf (Kd.Ry AQ.o A0.o (by decide)))))))))) (fun _ h_ => h_.1))) hb); replace AJ := Z.m (Kd.Rb (by refine rK ?_; exact (Kd.Rm (rf (rf (rf (rf (rf (rf (rf (rf (Kd.Ry AJ.o A0.o (by decide)))))))))) (fun _ h_ => h_.1))) hb); replace AZ := Z.m (Kd.Rb (by refine rK ?_; exact (Kd.Rm (rf (rf (rf (rf (rf (rf (rf (rf (Kd.Ry AZ.o A0.o (by decide)))))))))) (fun _ h_ => h_.1))) hb); replace B8 := Z.m (Kd.Rb (by refine rK ?_; exact (Kd.Rm (rf (rf (rf (rf (rf (rf (rf (rf (Kd.Ry B8.o A0.o (by decide)))))))))) (fun _ h_ => h_.1))) hb); replace A1 := Z.m (qb (g := AW) (o := .cells #[.int .i64 a0_0, .int .i64 a0_1, .slice A0_2 l0_2.length c0_2, .int .i64 a0_3, .int .i64 a0_4, .int .i64 a0_5, .int .i64 a0_6, .int .i64 a0_7] 26 (0, 0)) (by refine bK ?_; (iterate 8 refine qF ?_ AN); exact A1.o) hb); replace A3 := Z.m (qb (g := Bn) (o := .cells #[.int .i64 Am, .int .i64 An, .slice AR Ad.length AK, .int .i64 Ao, .int .i64 Ap, .int .i64 Aq, .int .i64 Ar, .int .i64 As] 32 (0, 0)) (by refine bK ?_; (iterate 8 refine qF ?_ Ax); exact A3.o) hb); replace A5 := Z.m (qb (g := B0) (o := .cells #[.int .i64 AC, .int .i64 AD, .slice AA Aw.length Az, .int .i64 AE, .int .i64 AF, .int .i64 AG, .int .i64 AH, .int .i64 AI] 32 (0, 0)) (by refine bK ?_; (iterate 8 refine qF ?_ Ay); exact A5.o) hb); replace A0 := Z.m (qb (g := Bx) (o := .cells #[.int .i64 Ae, .int .i64 Af, .slice AL Al.length AB, .int .i64 Ag, .int .i64 Ah, .int .i64 Ai, .int .i64 Aj, .int .i64 Ak] 32 (0, 0)) (by refine bK ?_; apply st8; refine bK ?_; exact A0.o) hb); replace HB := bB HB hb; (try clear hb); (try clear BQ); (try clear hk); (try clear hi)))
    go_meet
    case rel => exact ⟨_, (true), (by first | rfl | (simp; done) | (simp [*]; done)), H', ⟨by first | omega | exact Nat.le_refl _⟩, ⟨by refine rK ?_; exact Kd.Rm AJ.o (fun _ hk => ⟨hk.1.2, hk.2⟩)⟩, ⟨by refine rK ?_; exact Kd.Rm AZ.o (fun _ hk => ⟨hk.1.2, hk.2⟩)⟩, ⟨by refine rK ?_; exact Kd.Rm B8.o (fun _ hk => ⟨hk.1.2, hk.2⟩)⟩, ⟨vK A1⟩, ⟨vK A3⟩, ⟨vK A5⟩, ⟨vK A0⟩, ⟨vB HB⟩⟩
  case rest =>
   clear Fw
   (try clear FQ)
   (try clear Da); (try clear Db); (try clear Dc); (try clear Dd); (try clear De); (try clear Df); (try clear Dg); (try clear Dh)
   (try clear Di); (try clear Dj); (try clear Dk); (try clear Dl); (try clear Dm); (try clear Dn); (try clear Do); (try clear Dp)
   (try clear Dq); (try clear Dr); (try clear Ds); (try clear Dt); (try clear Du); (try clear Dv); (try clear Dw); (try clear Dx)
   (try clear Dy); (try clear Dz); (try clear DA); (try clear DB); (try clear DC); (try clear DD); (try clear DE); (try clear DF)
   (try clear DG); (try clear DH); (try clear DI); (try clear DJ); (try clear DK); (try clear DL); (try clear DM); (try clear DN)
   (try clear DO); (try clear DP); (try clear DQ); (try clear DR); (try clear DS); (try clear DT); (try clear DU); (try clear DV)
   (try clear E4); (try clear E5); (try clear E6); (try clear E7); (try clear E8); (try clear E9); (try clear Ea); (try clear Eb)
   (try clear Ec); (try clear Ed); (try clear Ee); (try clear Ef); (try clear Eg); (try clear Eh); (try clear Ei); (try clear Ej)
   (try clear Ek); (try clear El); (try clear Em); (try clear En); (try clear Eo); (try clear Ep); (try clear Er); (try clear Es)
   (try clear Et); (try clear Eu); (try clear Ew); (try clear Ex); (try clear Ey); (try clear Ez); (try clear EA); (try clear EB)
   (try clear EC); (try clear ED); (try clear EE); (try clear EF); (try clear EG); (try clear EH); (try clear EI); (try clear EJ)
   (try clear EK); (try clear EL); (try clear EM); (try clear EN); (try clear EO); (try clear EP); (try clear EQ); (try clear ER)
   obtain ⟨kq, BJ, rfl, HA, BZ, A6, Aa, A4, A1, A3, A5, A0, HB⟩ := hcut
   cases kq with
   | zero => exact absurd HA.o (by simp [laws_FnExactRunToEnd.j0])
   | succ kj10 =>
    have H := HA.o
    clear HA
    simp only [laws_FnExactRunToEnd.j0] at H
    by_cases c64 : BJ = true
    ·(rw [if_pos c64] at H; exact absurd H (by decide))
    ·replace c64 := Bool.eq_false_iff.mpr c64
     subst c64
     have H1 : ((laws_toMachine.f kj10 a0_0 a0_1 l0_2 a0_3 a0_4 a0_5 a0_6 a0_7).bind fun bt675 => ((laws_eqMachine.f kj10 AC AD Aw AE AF AG AH AI bt675.1 bt675.2.1 bt675.2.2.1 bt675.2.2.2.1 bt675.2.2.2.2.1 bt675.2.2.2.2.2.1 bt675.2.2.2.2.2.2.1 bt675.2.2.2.2.2.2.2).bind fun BV => (if BV = true then ((laws_markMachine.f kj10 AC AD Aw AE AF AG AH AI 1).bind fun bt686 => (if bt686.1 < 0 then (laws_FnExactRunToEnd.j1 kj10 At Au true a0_0 a0_1 l0_2 a0_3 a0_4 a0_5 a0_6 a0_7 Am An Ad Ao Ap Aq Ar As Ae Af Al Ag Ah Ai Aj Ak) else ((laws_eqMachine.f kj10 Ae Af Al Ag Ah Ai Aj Ak Am An Ad Ao Ap Aq Ar As).bind fun Bv => (if Bv = true then (if B3 = At then (laws_FnExactRunToEnd.j1 kj10 At Au (B7 != Au) a0_0 a0_1 l0_2 a0_3 a0_4 a0_5 a0_6 a0_7 Am An Ad Ao Ap Aq Ar As Ae Af Al Ag Ah Ai Aj Ak) else (laws_FnExactRunToEnd.j1 kj10 At Au true a0_0 a0_1 l0_2 a0_3 a0_4 a0_5 a0_6 a0_7 Am An Ad Ao Ap Aq Ar As Ae Af Al Ag Ah Ai Aj Ak)) else (laws_FnExactRunToEnd.j1 kj10 At Au true a0_0 a0_1 l0_2 a0_3 a0_4 a0_5 a0_6 a0_7 Am An Ad Ao Ap Aq Ar As Ae Af Al Ag Ah Ai Aj Ak))))) else (some false)))) = some true := by rw [if_neg (show ¬ (false = true) by decide)] at H; exact H
     clear H
     have H := H1
     clear H1
     replace H := Option.bind_eq_some_iff.mp H
     obtain ⟨⟨F7, F8, BU, F9, Fa, Fb, Fc, Fd⟩, FF, H⟩ := H
     replace H : ((laws_eqMachine.f kj10 AC AD Aw AE AF AG AH AI F7 F8 BU F9 Fa Fb Fc Fd).bind fun BV => (if BV = true then ((laws_markMachine.f kj10 AC AD Aw AE AF AG AH AI 1).bind fun bt686 => (if bt686.1 < 0 then (laws_FnExactRunToEnd.j1 kj10 At Au true a0_0 a0_1 l0_2 a0_3 a0_4 a0_5 a0_6 a0_7 Am An Ad Ao Ap Aq Ar As Ae Af Al Ag Ah Ai Aj Ak) else ((laws_eqMachine.f kj10 Ae Af Al Ag Ah Ai Aj Ak Am An Ad Ao Ap Aq Ar As).bind fun Bv => (if Bv = true then (if B3 = At then (laws_FnExactRunToEnd.j1 kj10 At Au (B7 != Au) a0_0 a0_1 l0_2 a0_3 a0_4 a0_5 a0_6 a0_7 Am An Ad Ao Ap Aq Ar As Ae Af Al Ag Ah Ai Aj Ak) else (laws_FnExactRunToEnd.j1 kj10 At Au true a0_0 a0_1 l0_2 a0_3 a0_4 a0_5 a0_6 a0_7 Am An Ad Ao Ap Aq Ar As Ae Af Al Ag Ah Ai Aj Ak)) else (laws_FnExactRunToEnd.j1 kj10 At Au true a0_0 a0_1 l0_2 a0_3 a0_4 a0_5 a0_6 a0_7 Am An Ad Ao Ap Aq Ar As Ae Af Al Ag Ah Ai Aj Ak))))) else (some false))) = some true := H
     have ML := Z.m FF
     clear FF
     replace H := Option.bind_eq_some_iff.mp H
     obtain ⟨BV, FG, H⟩ := H
     replace H : (if BV = true then ((laws_markMachine.f kj10 AC AD Aw AE AF AG AH AI 1).bind fun bt686 => (if bt686.1 < 0 then (laws_FnExactRunToEnd.j1 kj10 At Au true a0_0 a0_1 l0_2 a0_3 a0_4 a0_5 a0_6 a0_7 Am An Ad Ao Ap Aq Ar As Ae Af Al Ag Ah Ai Aj Ak) else ((laws_eqMachine.f kj10 Ae Af Al Ag Ah Ai Aj Ak Am An Ad Ao Ap Aq Ar As).bind fun Bv => (if Bv = true then (if B3 = At then (laws_FnExactRunToEnd.j1 kj10 At Au (B7 != Au) a0_0 a0_1 l0_2 a0_3 a0_4 a0_5 a0_6 a0_7 Am An Ad Ao Ap Aq Ar As Ae Af Al Ag Ah Ai Aj Ak) else (laws_FnExactRunToEnd.j1 kj10 At Au true a0_0 a0_1 l0_2 a0_3 a0_4 a0_5 a0_6 a0_7 Am An Ad Ao Ap Aq Ar As Ae Af Al Ag Ah Ai Aj Ak)) else (laws_FnExactRunToEnd.j1 kj10 At Au true a0_0 a0_1 l0_2 a0_3 a0_4 a0_5 a0_6 a0_7 Am An Ad Ao Ap Aq Ar As Ae Af Al Ag Ah Ai Aj Ak))))) else (some false)) = some true := H
     have MM := Z.m FG
     clear FG
     by_cases c67 : BV = true
     ·subst c67
      have H1 : ((laws_markMachine.f kj10 AC AD Aw AE AF AG AH AI 1).bind fun bt686 => (if bt686.1 < 0 then (laws_FnExactRunToEnd.j1 kj10 At Au true a0_0 a0_1 l0_2 a0_3 a0_4 a0_5 a0_6 a0_7 Am An Ad Ao Ap Aq Ar As Ae Af Al Ag Ah Ai Aj Ak) else ((laws_eqMachine.f kj10 Ae Af Al Ag Ah Ai Aj Ak Am An Ad Ao Ap Aq Ar As).bind fun Bv => (if Bv = true then (if B3 = At then (laws_FnExactRunToEnd.j1 kj10 At Au (B7 != Au) a0_0 a0_1 l0_2 a0_3 a0_4 a0_5 a0_6 a0_7 Am An Ad Ao Ap Aq Ar As Ae Af Al Ag Ah Ai Aj Ak) else (laws_FnExactRunToEnd.j1 kj10 At Au true a0_0 a0_1 l0_2 a0_3 a0_4 a0_5 a0_6 a0_7 Am An Ad Ao Ap Aq Ar As Ae Af Al Ag Ah Ai Aj Ak)) else (laws_FnExactRunToEnd.j1 kj10 At Au true a0_0 a0_1 l0_2 a0_3 a0_4 a0_5 a0_6 a0_7 Am An Ad Ao Ap Aq Ar As Ae Af Al Ag Ah Ai Aj Ak))))) = some true := by rw [if_pos rfl] at H; exact H
      clear H
      have H := H1
      clear H1
      replace H := Option.bind_eq_some_iff.mp H
      obtain ⟨⟨FB, Bm⟩, FH, H⟩ := H
      replace H : (if FB < 0 then (laws_FnExactRunToEnd.j1 kj10 At Au true a0_0 a0_1 l0_2 a0_3 a0_4 a0_5 a0_6 a0_7 Am An Ad Ao Ap Aq Ar As Ae Af Al Ag Ah Ai Aj Ak) else ((laws_eqMachine.f kj10 Ae Af Al Ag Ah Ai Aj Ak Am An Ad Ao Ap Aq Ar As).bind fun Bv => (if Bv = true then (if B3 = At then (laws_FnExactRunToEnd.j1 kj10 At Au (B7 != Au) a0_0 a0_1 l0_2 a0_3 a0_4 a0_5 a0_6 a0_7 Am An Ad Ao Ap Aq Ar As Ae Af Al Ag Ah Ai Aj Ak) else (laws_FnExactRunToEnd.j1 kj10 At Au true a0_0 a0_1 l0_2 a0_3 a0_4 a0_5 a0_6 a0_7 Am An Ad Ao Ap Aq Ar As Ae Af Al Ag Ah Ai Aj Ak)) else (laws_FnExactRunToEnd.j1 kj10 At Au true a0_0 a0_1 l0_2 a0_3 a0_4 a0_5 a0_6 a0_7 Am An Ad Ao Ap Aq Ar As Ae Af Al Ag Ah Ai Aj Ak)))) = some true := H
      have MN := Z.m FH
      clear FH
      have Fx := Z.m H
      clear H
      try go_wp2
      replace A6 := Z.m (Kd.R_drew A6.o)
      replace Aa := Z.m (Kd.R_drew Aa.o)
      replace A4 := Z.m (Kd.R_drew A4.o)
      replace A1 := Z.m (blk_drew A1.o)
      replace A3 := Z.m (blk_drew A3.o)
      replace A5 := Z.m (blk_drew A5.o)
      replace A0 := Z.m (blk_drew A0.o)
      replace HB := Z.m (qd HB.o)
      refine start_ (n := 5) (S := fun w' => w'.cell? ⟨B0, 0, none⟩ = some (.int .i64 AC) ∧ w'.cell? ⟨B0, 1, none⟩ = some (.int .i64 AD) ∧ w'.cell? ⟨B0, 2, none⟩ = some (.slice AA Aw.length Az) ∧ w'.cell? ⟨B0, 3, none⟩ = some (.int .i64 AE) ∧ w'.cell? ⟨B0, 4, none⟩ = some (.int .i64 AF) ∧ w'.cell? ⟨B0, 5, none⟩ = some (.int .i64 AG) ∧ w'.cell? ⟨B0, 6, none⟩ = some (.int .i64 AH) ∧ w'.cell? ⟨B0, 7, none⟩ = some (.int .i64 AI) ∧ w'.cell? ⟨AW, 0, none⟩ = some (.int .i64 a0_0) ∧ w'.cell? ⟨AW, 1, none⟩ = some (.int .i64 a0_1) ∧ w'.cell? ⟨AW, 2, none⟩ = some (.slice A0_2 l0_2.length c0_2) ∧ w'.cell? ⟨AW, 3, none⟩ = some (.int .i64 a0_3) ∧ w'.cell? ⟨AW, 4, none⟩ = some (.int .i64 a0_4) ∧ w'.cell? ⟨AW, 5, none⟩ = some (.int .i64 a0_5) ∧ w'.cell? ⟨AW, 6, none⟩ = some (.int .i64 a0_6) ∧ w'.cell? ⟨AW, 7, none⟩ = some (.int .i64 a0_7)) (ds := []) #[false, false, false, false, false] (by kernel_rfl) rfl rfl ⟨(ql A5.o 0).trans rfl, (ql A5.o 1).trans rfl, (ql A5.o 2).trans rfl, (ql A5.o 3).trans rfl, (ql A5.o 4).trans rfl, (ql A5.o 5).trans rfl, (ql A5.o 6).trans rfl, (ql A5.o 7).trans rfl, (ql A1.o 0).trans rfl, (ql A1.o 1).trans rfl, (ql A1.o 2).trans rfl, (ql A1.o 3).trans rfl, (ql A1.o 4).trans rfl, (ql A1.o 5).trans rfl, (ql A1.o 6).trans rfl, (ql A1.o 7).trans rfl⟩ (fun hHeld => ?_)
      generalize wc.drew = Ni at A6 Aa A4 A1 A3 A5 A0 HB hHeld ⊢
      refine take_ (i := 0) (N := some 51) (v := ?_) (a' := ?_) #[true, false, false, false, false] rfl rfl (by kernel_rfl) (fun _ _ _ h => h) (Or.inl ⟨by rfl, ?_⟩) hHeld ?_ ?_
      rotate_left
      ·rintro w' ⟨s0, s1, s2, s3, s4, s5, s6, s7, s8, s9, s10, s11, s12, s13, s14, s15⟩
       go_simp
       with_reducible rfl
      rotate_left
      ·simp only [Act.put, q1, q2, q3, i64_w, i32_w]
       rfl
      refine take_ (i := 1) (N := some 52) (v := ?_) (a' := ?_) #[true, true, false, false, false] rfl rfl (by kernel_rfl) (fun _ _ _ h => h) (Or.inl ⟨by rfl, ?_⟩) hHeld ?_ ?_
      rotate_left
      ·rintro w' ⟨s0, s1, s2, s3, s4, s5, s6, s7, s8, s9, s10, s11, s12, s13, s14, s15⟩
       go_simp
       with_reducible rfl
      rotate_left
      ·simp only [Act.put, q1, q2, q3, i64_w, i32_w]
       rfl
      refine one_ (i := 2) (N := some 53) #[true, true, true, false, false] rfl rfl (by kernel_rfl) (by decide) (fun K hK => ?_)
      refine goes_ Try.func12 (by kernel_rfl) rfl #[.agg #[.int .i64 a0_0, .int .i64 a0_1, .slice A0_2 l0_2.length c0_2, .int .i64 a0_3, .int .i64 a0_4, .int .i64 a0_5, .int .i64 a0_6, .int .i64 a0_7]] (by rfl) rfl rfl (by (try simp only [List.map_toArray, List.map_cons, List.map_nil]); first | done | rfl | (simp only [List.length_drop, List.length_take]; rfl)) ?_
      with_reducible refine (laws_toMachine.calls kj10 a0_0 a0_1 _ _ l0_2 a0_3 a0_4 a0_5 a0_6 a0_7 F7 F8 BU F9 Fa Fb Fc Fd _ ?side1 ?side2 ML.o).mono ?_
      (case side1 => repeat (first | exact (Kd.C_below BA.o HB.o) | (with_reducible refine Kd.C_alloc ?_ _) | (with_reducible refine Kd.C_drewN ?_ _) | (with_reducible refine Kd.C_drew ?_)))
      (case side2 => exact Bz.o)
      rintro e Nj ⟨MU, rfl, Bh, hb⟩
      refine ⟨_, rfl, ?_⟩
      have Bj := Z.m (Kd.R_lower (Kd.R_new' (Kd.R_new' (Kd.R_new' Bh (Kd.R_lt (vR A6))) (Kd.R_lt (vR Aa))) (Kd.R_lt (vR A4))) (below_size (vB HB)))
      replace A6 := Z.m (Kd.R_elder' (vR A6) (Kd.R_base Bh) hb)
      replace Aa := Z.m (Kd.R_elder' (vR Aa) (Kd.R_base Bh) hb)
      replace A4 := Z.m (Kd.R_elder' (vR A4) (Kd.R_base Bh) hb)
      replace A1 := kB A1 hb
      replace A3 := kB A3 hb
      replace A5 := kB A5 hb
      replace A0 := kB A0 hb
      replace HB := bB HB hb
      (try clear hb); (try clear Bh)
      obtain ⟨Fv, FA, FT⟩ := Kd.R_slice Bj.o
      (first | subst FT | (injection FT with f1_ f2_ f3_; have f4_ := f1_.symm; have f5_ := f3_.symm; clear f1_ f2_ f3_; subst f4_; subst f5_))
      refine hK.out _ _ ⟨(ql A5.o 0).trans rfl, (ql A5.o 1).trans rfl, (ql A5.o 2).trans rfl, (ql A5.o 3).trans rfl, (ql A5.o 4).trans rfl, (ql A5.o 5).trans rfl, (ql A5.o 6).trans rfl, (ql A5.o 7).trans rfl, (ql A1.o 0).trans rfl, (ql A1.o 1).trans rfl, (ql A1.o 2).trans rfl, (ql A1.o 3).trans rfl, (ql A1.o 4).trans rfl, (ql A1.o 5).trans rfl, (ql A1.o 6).trans rfl, (ql A1.o 7).trans rfl⟩ (fun hHeld => ?_)
      clear hK K
      refine norm_ (a' := ?_) ?_ ?_
      rotate_left
      ·show Act.put _ (some 53) _ = _
       simp only [Act.put, q1, q2, q3, i64_w, i32_w]
       rfl
      refine one_ (i := 3) (N := some 54) #[true, true, true, true, false] rfl rfl (by kernel_rfl) (by decide) (fun K hK => ?_)
      refine goes_ Try.func14 (by kernel_rfl) rfl #[.agg #[.int .i64 AC, .int .i64 AD, .slice AA Aw.length Az, .int .i64 AE, .int .i64 AF, .int .i64 AG, .int .i64 AH, .int .i64 AI], .agg #[.int .i64 F7, .int .i64 F8, .slice Fv BU.length FA, .int .i64 F9, .int .i64 Fa, .int .i64 Fb, .int .i64 Fc, .int .i64 Fd]] (by rfl) rfl rfl (by (try simp only [List.map_toArray, List.map_cons, List.map_nil]); first | done | rfl | (simp only [List.length_drop, List.length_take]; rfl)) ?_
      with_reducible refine (laws_eqMachine.calls kj10 AC AD _ _ Aw AE AF AG AH AI F7 F8 _ _ BU F9 Fa Fb Fc Fd true _ ?side1 ?side2 ?side3 ?side4 MM.o).mono ?_
      (case side1 => repeat (first | exact (Kd.RrZ Aa.o).2.2 | (with_reducible refine Kd.C_alloc ?_ _) | (with_reducible refine Kd.C_drewN ?_ _) | (with_reducible refine Kd.C_drew ?_)))
      (case side2 => exact (Kd.RrZ Aa.o).2.1)
      (case side3 => repeat (first | exact (Kd.RrZ Bj.o).2.2 | (with_reducible refine Kd.C_alloc ?_ _) | (with_reducible refine Kd.C_drewN ?_ _) | (with_reducible refine Kd.C_drew ?_)))
      (case side4 => exact (Kd.RrZ Bj.o).2.1)
      rintro e Nk ⟨rfl, hb⟩
      refine ⟨_, rfl, ?_⟩
      replace A6 := Z.m (Kd.Rb (vR A6) hb)
      replace Aa := Z.m (Kd.Rb (vR Aa) hb)
      replace A4 := Z.m (Kd.Rb (vR A4) hb)
      replace Bj := Z.m (Kd.Rb (vR Bj) hb)
      replace A1 := kB A1 hb
      replace A3 := kB A3 hb
      replace A5 := kB A5 hb
      replace A0 := kB A0 hb
      replace HB := bB HB hb
      (try clear hb)
      refine hK.out _ _ ⟨(ql A5.o 0).trans rfl, (ql A5.o 1).trans rfl, (ql A5.o 2).trans rfl, (ql A5.o 3).trans rfl, (ql A5.o 4).trans rfl, (ql A5.o 5).trans rfl, (ql A5.o 6).trans rfl, (ql A5.o 7).trans rfl, (ql A1.o 0).trans rfl, (ql A1.o 1).trans rfl, (ql A1.o 2).trans rfl, (ql A1.o 3).trans rfl, (ql A1.o 4).trans rfl, (ql A1.o 5).trans rfl, (ql A1.o 6).trans rfl, (ql A1.o 7).trans rfl⟩ (fun hHeld => ?_)
      clear hK K
      refine norm_ (a' := ?_) ?_ ?_
      rotate_left
      ·show Act.put _ (some 54) _ = _
       simp only [Act.put, q1, q2, q3, i64_w, i32_w]
       rfl
      refine pure_ (i := 4) (N := some 55) (v := ?_) (a' := ?_) #[true, true, true, true, true] rfl rfl (by kernel_rfl) (fun _ _ _ h => h) (Or.inl ⟨by rfl, ?_⟩) ?_ ?_
      rotate_left
      ·intro w'
       go_simp
       with_reducible rfl
      rotate_left
      ·simp only [Act.put, q1, q2, q3, i64_w, i32_w]
       rfl
      refine done_ (by kernel_rfl) ?_
      have Mc := Br.o
      have MB := Bk.o
      have Md := AT.o
      have MC := AO.o
      have Me := Ay.o
      have MD := AU.o
      have DW := bc0 A5
      have DX := bc1 A5
      have DY := bc2 A5
      have DZ := bc3 A5
      have E0 := bc4 A5
      have E1 := bc5 A5
      have E2 := bc6 A5
      have E3 := bc7 A5
      have ES := qz A5.o 0
      have ET := qz A5.o 1
      have EU := qz A5.o 2
      have EV := qz A5.o 3
      have EW := qz A5.o 4
      have EX := qz A5.o 5
      have EY := qz A5.o 6
      have EZ := qz A5.o 7
      go_upto_region 14 with (first | ((with_reducible refine gc (f := 15) rfl ?_); refine gA (some 58) _ #[.agg #[.int .i64 AC, .int .i64 AD, .slice AA Aw.length Az, .int .i64 AE, .int .i64 AF, .int .i64 AG, .int .i64 AH, .int .i64 AI], .int .i64 1] ?_ Try.func15; (with_reducible refine (laws_markMachine.calls kj10 AC AD (fun k_ => some k_ = (.slice AA Aw.length Az : Value).ownBlock) (.slice AA Aw.length Az) Aw AE AF AG AH AI 1 FB Bm w _ ?side1 ?side2 MN.o).mono ?_); (case side1 => repeat (first | (with_reducible first | exact HB.o | apply qa | apply qn | apply qd | refine qx ?_ BW.o | refine qx ?_ Fr.o | refine qx ?_ Fs.o | refine qx ?_ Ft.o) | exact HB.o)); (case side2 => exact Kd.Rg rfl Aa.o); rintro e Nl ⟨rfl, HL, hb, hkp⟩; refine ⟨_, rfl, ?_⟩; replace A6 := Z.m (Kd.Rm (ok' := fun k_ => some k_ ≠ (.slice AA Aw.length Az : Value).ownBlock ∧ some k_ ≠ (.slice AL Al.length AB : Value).ownBlock ∧ some k_ ≠ (.slice Fv BU.length FA : Value).ownBlock) (Kd.Rk (A6.o) hkp (fun k_ hk_ hs_ => (hk_.1.1) hs_)) (fun k_ hk_ => ⟨hk_.1.1.1, hk_.1.1.2, hk_.1.2⟩)); replace A4 := Z.m (Kd.Rm (ok' := fun k_ => some k_ ≠ (.slice AR Ad.length AK : Value).ownBlock ∧ some k_ ≠ (.slice AA Aw.length Az : Value).ownBlock ∧ some k_ ≠ (.slice Fv BU.length FA : Value).ownBlock) (Kd.Rk (A4.o) hkp (fun k_ hk_ hs_ => (hk_.1.2) hs_)) (fun k_ hk_ => ⟨hk_.1.1.1, hk_.1.1.2, hk_.1.2⟩)); replace A1 := Z.m (qk (vK A1) hkp (fun hs_ => (fun e_ => (Kd.R_ne Aa.o A1.o (by decide)) e_) hs_)); replace A3 := Z.m (qk (vK A3) hkp (fun hs_ => (fun e_ => (Kd.R_ne Aa.o A3.o (by decide)) e_) hs_)); replace A5 := Z.m (qk (vK A5) hkp (fun hs_ => (fun e_ => (Kd.R_ne Aa.o A5.o (by decide)) e_) hs_)); replace A0 := Z.m (qk (vK A0) hkp (fun hs_ => (fun e_ => (Kd.R_ne Aa.o A0.o (by decide)) e_) hs_)); replace Aa := Z.m (Kd.Re rfl HL (fun k_ e_ => Aa.o.1 k_ e_)); replace Bj := Z.m (Kd.Rm (ok' := fun k_ => some k_ ≠ (.slice AR Ad.length AK : Value).ownBlock ∧ some k_ ≠ (.slice AA Aw.length Az : Value).ownBlock ∧ some k_ ≠ (.slice AL Al.length AB : Value).ownBlock) (Kd.Rk (Bj.o) hkp (fun k_ hk_ hs_ => (hk_.1.2) hs_)) (fun k_ hk_ => ⟨hk_.1.1.1.2, hk_.1.1.2, hk_.1.2⟩)); replace HB := Z.m (hb); (try clear hb); (try clear hkp); (try clear HL)))
      (try simp only [Act.put, q1, q2, q3])
      go_cut [76] (fun v76 wc => ∃ (kq : Nat) (BK : Bool), v76 = .bool BK ∧ Z (laws_FnExactRunToEnd.j1 kq At Au BK a0_0 a0_1 l0_2 a0_3 a0_4 a0_5 a0_6 a0_7 Am An Ad Ao Ap Aq Ar As Ae Af Al Ag Ah Ai Aj Ak = some true) ∧ Z (kq ≤ kj10) ∧ Z (Kd.R k88 88 wc w.heap.size (fun k_ => some k_ ≠ ((.slice AA Aw.length Az) : Value).ownBlock ∧ some k_ ≠ ((.slice AL Al.length AB) : Value).ownBlock) (.slice AR Ad.length AK) Ad) ∧ Z (Kd.R k88 88 wc w.heap.size (fun k_ => some k_ ≠ ((.slice AR Ad.length AK) : Value).ownBlock ∧ some k_ ≠ ((.slice AL Al.length AB) : Value).ownBlock) (.slice AA Aw.length Az) Bm) ∧ Z (Kd.R k88 88 wc w.heap.size (fun k_ => some k_ ≠ ((.slice AR Ad.length AK) : Value).ownBlock ∧ some k_ ≠ ((.slice AA Aw.length Az) : Value).ownBlock) (.slice AL Al.length AB) Al) ∧ Z (wc.heap[AW]? = some (.cells #[.int .i64 a0_0, .int .i64 a0_1, (.slice A0_2 l0_2.length c0_2), .int .i64 a0_3, .int .i64 a0_4, .int .i64 a0_5, .int .i64 a0_6, .int .i64 a0_7] 26 (0, 0))) ∧ Z (wc.heap[Bn]? = some (.cells #[.int .i64 Am, .int .i64 An, (.slice AR Ad.length AK), .int .i64 Ao, .int .i64 Ap, .int .i64 Aq, .int .i64 Ar, .int .i64 As] 32 (0, 0))) ∧ Z (wc.heap[B0]? = some (.cells #[.int .i64 AC, .int .i64 AD, (.slice AA Aw.length Az), .int .i64 AE, .int .i64 AF, .int .i64 AG, .int .i64 AH, .int .i64 AI] 32 (0, 0))) ∧ Z (wc.heap[Bx]? = some (.cells #[.int .i64 Ae, .int .i64 Af, (.slice AL Al.length AB), .int .i64 Ag, .int .i64 Ah, .int .i64 Ai, .int .i64 Aj, .int .i64 Ak] 32 (0, 0))) ∧ Z (Below w.heap.size w wc))
      case first =>
       have H := Fx.o
       clear Fx
       by_cases c79 : FB < 0
       ·rw [if_pos c79] at H
        have BM := decide_eq_true c79
        clear c79
        (first | rw [BM] | (simp only [i64_w, i32_w]; rw [BM]) | skip)
        have H' := Z.m H
        clear H
        go_wp2
        go_meet
        case rel => exact ⟨_, (true), (by first | rfl | (simp; done) | (simp [*]; done)), H', ⟨by have := BZ.o; first | omega | exact Nat.le_refl _⟩, ⟨by refine rK ?_; exact Kd.Rm A6.o (fun _ hk => ⟨hk.1, hk.2.1⟩)⟩, ⟨by refine rK ?_; exact Kd.Rm Aa.o (fun _ hk => ⟨hk.1.1, hk.1.2⟩)⟩, ⟨by refine rK ?_; exact Kd.Rm A4.o (fun _ hk => ⟨hk.1, hk.2.1⟩)⟩, ⟨vK A1⟩, ⟨vK A3⟩, ⟨vK A5⟩, ⟨vK A0⟩, ⟨vB HB⟩⟩
       ·rw [if_neg c79] at H
        have BM := decide_eq_false c79
        clear c79
        (first | rw [BM] | (simp only [i64_w, i32_w]; rw [BM]) | skip)
        replace H := Option.bind_eq_some_iff.mp H
        obtain ⟨Bv, FJ, H⟩ := H
        replace H : (if Bv = true then (if B3 = At then (laws_FnExactRunToEnd.j1 kj10 At Au (B7 != Au) a0_0 a0_1 l0_2 a0_3 a0_4 a0_5 a0_6 a0_7 Am An Ad Ao Ap Aq Ar As Ae Af Al Ag Ah Ai Aj Ak) else (laws_FnExactRunToEnd.j1 kj10 At Au true a0_0 a0_1 l0_2 a0_3 a0_4 a0_5 a0_6 a0_7 Am An Ad Ao Ap Aq Ar As Ae Af Al Ag Ah Ai Aj Ak)) else (laws_FnExactRunToEnd.j1 kj10 At Au true a0_0 a0_1 l0_2 a0_3 a0_4 a0_5 a0_6 a0_7 Am An Ad Ao Ap Aq Ar As Ae Af Al Ag Ah Ai Aj Ak)) = some true := H
        have FI := Z.m FJ
        clear FJ
        by_cases c81 : Bv = true
        ·subst c81
         have H1 : (if B3 = At then (laws_FnExactRunToEnd.j1 kj10 At Au (B7 != Au) a0_0 a0_1 l0_2 a0_3 a0_4 a0_5 a0_6 a0_7 Am An Ad Ao Ap Aq Ar As Ae Af Al Ag Ah Ai Aj Ak) else (laws_FnExactRunToEnd.j1 kj10 At Au true a0_0 a0_1 l0_2 a0_3 a0_4 a0_5 a0_6 a0_7 Am An Ad Ao Ap Aq Ar As Ae Af Al Ag Ah Ai Aj Ak)) = some true := by rw [if_pos rfl] at H; exact H
         clear H
         have H := H1
         clear H1
         by_cases c82 : B3 = At
         ·rw [if_pos c82] at H
          have LU := beq_iff_eq.mpr c82
          have LV := bne_eq_false_iff_eq.mpr c82
          clear c82
          have H' := Z.m H
          clear H
          have Mf := AX.o
          have ME := AN.o
          have Mg := AP.o
          have MF := Ax.o
          have Mh := AU.o
          have MG := Ay.o
          have Ji := bc0 A0
          have Jj := bc1 A0
          have Jk := bc2 A0
          have Jl := bc3 A0
          have Jm := bc4 A0
          have Jn := bc5 A0
          have Jo := bc6 A0
          have Jp := bc7 A0
          have K4 := qz A0.o 0
          have K5 := qz A0.o 1
          have K6 := qz A0.o 2
          have K7 := qz A0.o 3
          have K8 := qz A0.o 4
          have K9 := qz A0.o 5
          have Ka := qz A0.o 6
          have Kb := qz A0.o 7
          have Mi := AS.o
          have MH := AM.o
          have Mj := AO.o
          have MI := AT.o
          have Jq := bc0 A3
          have Jr := bc1 A3
          have Js := bc2 A3
          have Jt := bc3 A3
          have Ju := bc4 A3
          have Jv := bc5 A3
          have Jw := bc6 A3
          have Jx := bc7 A3
          have Kc := qz A3.o 0
          have Ke := qz A3.o 1
          have Kf := qz A3.o 2
          have Kg := qz A3.o 3
          have Kh := qz A3.o 4
          have Ki := qz A3.o 5
          have Kj := qz A3.o 6
          have Kk := qz A3.o 7
          go_wp2_with (first | (go_at_call 14; (with_reducible refine (laws_eqMachine.calls kj10 Ae Af _ _ Al Ag Ah Ai Aj Ak Am An _ _ Ad Ao Ap Aq Ar As true _ ?side1 ?side2 ?side3 ?side4 FI.o).mono ?_); (case side1 => repeat (first | exact (Kd.RrZ A4.o).2.2 | (with_reducible refine Kd.C_alloc ?_ _) | (with_reducible refine Kd.C_drewN ?_ _) | (with_reducible refine Kd.C_drew ?_))); (case side2 => exact (Kd.RrZ A4.o).2.1); (case side3 => repeat (first | exact (Kd.RrZ A6.o).2.2 | (with_reducible refine Kd.C_alloc ?_ _) | (with_reducible refine Kd.C_drewN ?_ _) | (with_reducible refine Kd.C_drew ?_))); (case side4 => exact (Kd.RrZ A6.o).2.1); rintro e Nm ⟨rfl, hb⟩; replace A6 := Z.m (Kd.Rb (vR A6) hb); replace Aa := Z.m (Kd.Rb (vR Aa) hb); replace A4 := Z.m (Kd.Rb (vR A4) hb); replace Bj := Z.m (Kd.Rb (vR Bj) hb); replace A1 := kB A1 hb; replace A3 := kB A3 hb; replace A5 := kB A5 hb; replace A0 := kB A0 hb; replace HB := bB HB hb; (try clear hb); (try clear BQ); (try clear hk); (try clear hi)))
          go_meet
          case rel => exact ⟨_, ((B7 != Au)), (by first | rfl | (simp; done) | (simp [*]; done)), H', ⟨by have := BZ.o; first | omega | exact Nat.le_refl _⟩, ⟨by refine rK ?_; exact Kd.Rm A6.o (fun _ hk => ⟨hk.1, hk.2.1⟩)⟩, ⟨by refine rK ?_; exact Kd.Rm Aa.o (fun _ hk => ⟨hk.1.1, hk.1.2⟩)⟩, ⟨by refine rK ?_; exact Kd.Rm A4.o (fun _ hk => ⟨hk.1, hk.2.1⟩)⟩, ⟨vK A1⟩, ⟨vK A3⟩, ⟨vK A5⟩, ⟨vK A0⟩, ⟨vB HB⟩⟩
         ·(rw [if_neg c82] at H; exact absurd H (laws_FnExactRunToEnd.bad_j1 _ _ _ _ _ _ _ _ _ _ _ _ _ _ _ _ _ _ _ _ _ _ _ _ _ _ _))
        ·replace c81 := Bool.eq_false_iff.mpr c81
         subst c81
         have H1 : (laws_FnExactRunToEnd.j1 kj10 At Au true a0_0 a0_1 l0_2 a0_3 a0_4 a0_5 a0_6 a0_7 Am An Ad Ao Ap Aq Ar As Ae Af Al Ag Ah Ai Aj Ak) = some true := by rw [if_neg (show ¬ (false = true) by decide)] at H; exact H
         clear H
         have H := H1
         clear H1
         have H' := Z.m H
         clear H
         have Mk := AX.o
         have MJ := AN.o
         have KN := AP.o
         have Li := Ax.o
         have KO := AU.o
         have Lj := Ay.o
         have FU := bc0 A0
         have FV := bc1 A0
         have FW := bc2 A0
         have FX := bc3 A0
         have FY := bc4 A0
         have FZ := bc5 A0
         have G0 := bc6 A0
         have G1 := bc7 A0
         have GO := qz A0.o 0
         have GP := qz A0.o 1
         have GQ := qz A0.o 2
         have GR := qz A0.o 3
         have GS := qz A0.o 4
         have GT := qz A0.o 5
         have GU := qz A0.o 6
         have GV := qz A0.o 7
         have KP := AS.o
         have Lk := AM.o
         have KQ := AO.o
         have Ll := AT.o
         have G2 := bc0 A3
         have G3 := bc1 A3
         have G4 := bc2 A3
         have G5 := bc3 A3
         have G6 := bc4 A3
         have G7 := bc5 A3
         have G8 := bc6 A3
         have G9 := bc7 A3
         have GW := qz A3.o 0
         have GX := qz A3.o 1
         have GY := qz A3.o 2
         have GZ := qz A3.o 3
         have H0 := qz A3.o 4
         have H2 := qz A3.o 5
         have H3 := qz A3.o 6
         have H4 := qz A3.o 7
         go_wp2_with (first | (go_at_call 14; (with_reducible refine (laws_eqMachine.calls kj10 Ae Af _ _ Al Ag Ah Ai Aj Ak Am An _ _ Ad Ao Ap Aq Ar As false _ ?side1 ?side2 ?side3 ?side4 FI.o).mono ?_); (case side1 => repeat (first | exact (Kd.RrZ A4.o).2.2 | (with_reducible refine Kd.C_alloc ?_ _) | (with_reducible refine Kd.C_drewN ?_ _) | (with_reducible refine Kd.C_drew ?_))); (case side2 => exact (Kd.RrZ A4.o).2.1); (case side3 => repeat (first | exact (Kd.RrZ A6.o).2.2 | (with_reducible refine Kd.C_alloc ?_ _) | (with_reducible refine Kd.C_drewN ?_ _) | (with_reducible refine Kd.C_drew ?_))); (case side4 => exact (Kd.RrZ A6.o).2.1); rintro e MX ⟨rfl, hb⟩; replace A6 := Z.m (Kd.Rb (vR A6) hb); replace Aa := Z.m (Kd.Rb (vR Aa) hb); replace A4 := Z.m (Kd.Rb (vR A4) hb); replace Bj := Z.m (Kd.Rb (vR Bj) hb); replace A1 := kB A1 hb; replace A3 := kB A3 hb; replace A5 := kB A5 hb; replace A0 := kB A0 hb; replace HB := bB HB hb; (try clear hb); (try clear BQ); (try clear hk); (try clear hi)))
         go_meet
         case rel => exact ⟨_, (true), (by first | rfl | (simp; done) | (simp [*]; done)), H', ⟨by have := BZ.o; first | omega | exact Nat.le_refl _⟩, ⟨by refine rK ?_; exact Kd.Rm A6.o (fun _ hk => ⟨hk.1, hk.2.1⟩)⟩, ⟨by refine rK ?_; exact Kd.Rm Aa.o (fun _ hk => ⟨hk.1.1, hk.1.2⟩)⟩, ⟨by refine rK ?_; exact Kd.Rm A4.o (fun _ hk => ⟨hk.1, hk.2.1⟩)⟩, ⟨vK A1⟩, ⟨vK A3⟩, ⟨vK A5⟩, ⟨vK A0⟩, ⟨vB HB⟩⟩
      case rest =>
       clear Fx
       (try clear c64); (try clear c67)
       (try clear DW); (try clear DX); (try clear DY); (try clear DZ); (try clear E0); (try clear E1); (try clear E2); (try clear E3)
       (try clear ES); (try clear ET); (try clear EU); (try clear EV); (try clear EW); (try clear EX); (try clear EY); (try clear EZ)
       obtain ⟨kq, BK, rfl, HA, FP, A6, Aa, A4, A1, A3, A5, A0, HB⟩ := hcut
       have Ab := (Kd.RrZ Aa.o).1
       rw [Ab] at Aa
       (try simp only [Ab])
       (try simp only [Ab] at A1)
       (try simp only [Ab] at A3)
       (try simp only [Ab] at A5)
       (try simp only [Ab] at A0)
       (try simp only [Ab] at A6)
       (try simp only [Ab] at A4)
       cases kq with
       | zero => exact absurd HA.o (by simp [laws_FnExactRunToEnd.j1])
       | succ kj68 =>
        have H := HA.o
        clear HA
        simp only [laws_FnExactRunToEnd.j1] at H
        by_cases c107 : BK = true
        ·(rw [if_pos c107] at H; exact absurd H (by decide))
        ·replace c107 := Bool.eq_false_iff.mpr c107
         subst c107
         have H1 : ((laws_markMachine.f kj68 Ae Af Al Ag Ah Ai Aj Ak 1).bind fun bt689 => ((laws_heldMachine.f kj68 Ae Af bt689.2 Ag Ah Ai Aj Ak 1).bind fun By => (if By < 0 then (some false) else (if By = bt689.1 then ((laws_toMachine.f kj68 a0_0 a0_1 l0_2 a0_3 a0_4 a0_5 a0_6 a0_7).bind fun bt692 => ((impl_RunToEnd.f kj68 bt692.1 bt692.2.1 bt692.2.2.1 bt692.2.2.2.1 bt692.2.2.2.2.1 bt692.2.2.2.2.2.1 bt692.2.2.2.2.2.2.1 bt692.2.2.2.2.2.2.2).bind fun bt702 => ((laws_eqMachine.f kj68 bt702.1 bt702.2.1 bt702.2.2.1 bt702.2.2.2.1 bt702.2.2.2.2.1 bt702.2.2.2.2.2.1 bt702.2.2.2.2.2.2.1 bt702.2.2.2.2.2.2.2.1 Am An Ad Ao Ap Aq Ar As).bind fun Bw => (if Bw = true then (if bt702.2.2.2.2.2.2.2.2.1 = At then (laws_FnExactRunToEnd.j2 kj68 bt689.1 (bt702.2.2.2.2.2.2.2.2.2 != Au) Ae Af bt689.2 Ag Ah Ai Aj Ak) else (laws_FnExactRunToEnd.j2 kj68 bt689.1 true Ae Af bt689.2 Ag Ah Ai Aj Ak)) else (laws_FnExactRunToEnd.j2 kj68 bt689.1 true Ae Af bt689.2 Ag Ah Ai Aj Ak))))) else (some false))))) = some true := by rw [if_neg (show ¬ (false = true) by decide)] at H; exact H
         clear H
         have H := H1
         clear H1
         replace H := Option.bind_eq_some_iff.mp H
         obtain ⟨⟨AY, AV⟩, Fl, H⟩ := H
         replace H : ((laws_heldMachine.f kj68 Ae Af AV Ag Ah Ai Aj Ak 1).bind fun By => (if By < 0 then (some false) else (if By = AY then ((laws_toMachine.f kj68 a0_0 a0_1 l0_2 a0_3 a0_4 a0_5 a0_6 a0_7).bind fun bt692 => ((impl_RunToEnd.f kj68 bt692.1 bt692.2.1 bt692.2.2.1 bt692.2.2.2.1 bt692.2.2.2.2.1 bt692.2.2.2.2.2.1 bt692.2.2.2.2.2.2.1 bt692.2.2.2.2.2.2.2).bind fun bt702 => ((laws_eqMachine.f kj68 bt702.1 bt702.2.1 bt702.2.2.1 bt702.2.2.2.1 bt702.2.2.2.2.1 bt702.2.2.2.2.2.1 bt702.2.2.2.2.2.2.1 bt702.2.2.2.2.2.2.2.1 Am An Ad Ao Ap Aq Ar As).bind fun Bw => (if Bw = true then (if bt702.2.2.2.2.2.2.2.2.1 = At then (laws_FnExactRunToEnd.j2 kj68 AY (bt702.2.2.2.2.2.2.2.2.2 != Au) Ae Af AV Ag Ah Ai Aj Ak) else (laws_FnExactRunToEnd.j2 kj68 AY true Ae Af AV Ag Ah Ai Aj Ak)) else (laws_FnExactRunToEnd.j2 kj68 AY true Ae Af AV Ag Ah Ai Aj Ak))))) else (some false)))) = some true := H
         have Kl := Z.m Fl
         clear Fl
         replace H := Option.bind_eq_some_iff.mp H
         obtain ⟨By, Fm, H⟩ := H
         replace H : (if By < 0 then (some false) else (if By = AY then ((laws_toMachine.f kj68 a0_0 a0_1 l0_2 a0_3 a0_4 a0_5 a0_6 a0_7).bind fun bt692 => ((impl_RunToEnd.f kj68 bt692.1 bt692.2.1 bt692.2.2.1 bt692.2.2.2.1 bt692.2.2.2.2.1 bt692.2.2.2.2.2.1 bt692.2.2.2.2.2.2.1 bt692.2.2.2.2.2.2.2).bind fun bt702 => ((laws_eqMachine.f kj68 bt702.1 bt702.2.1 bt702.2.2.1 bt702.2.2.2.1 bt702.2.2.2.2.1 bt702.2.2.2.2.2.1 bt702.2.2.2.2.2.2.1 bt702.2.2.2.2.2.2.2.1 Am An Ad Ao Ap Aq Ar As).bind fun Bw => (if Bw = true then (if bt702.2.2.2.2.2.2.2.2.1 = At then (laws_FnExactRunToEnd.j2 kj68 AY (bt702.2.2.2.2.2.2.2.2.2 != Au) Ae Af AV Ag Ah Ai Aj Ak) else (laws_FnExactRunToEnd.j2 kj68 AY true Ae Af AV Ag Ah Ai Aj Ak)) else (laws_FnExactRunToEnd.j2 kj68 AY true Ae Af AV Ag Ah Ai Aj Ak))))) else (some false))) = some true := H
         have Km := Z.m Fm
         clear Fm
         by_cases c110 : By < 0
         ·(rw [if_pos c110] at H; exact absurd H (by decide))
         ·rw [if_neg c110] at H
          have C0 := decide_eq_false c110
          (try simp only [Ab] at C0)
          clear c110
          by_cases c118 : By = AY
          ·rw [if_pos c118] at H
           have Fy := beq_iff_eq.mpr c118
           have Fz := bne_eq_false_iff_eq.mpr c118
           clear c118
           replace H := Option.bind_eq_some_iff.mp H
           obtain ⟨⟨Fe, Ff, BO, Fg, Fh, Fi, Fj, Fk⟩, Fn, H⟩ := H
           replace H : ((impl_RunToEnd.f kj68 Fe Ff BO Fg Fh Fi Fj Fk).bind fun bt702 => ((laws_eqMachine.f kj68 bt702.1 bt702.2.1 bt702.2.2.1 bt702.2.2.2.1 bt702.2.2.2.2.1 bt702.2.2.2.2.2.1 bt702.2.2.2.2.2.2.1 bt702.2.2.2.2.2.2.2.1 Am An Ad Ao Ap Aq Ar As).bind fun Bw => (if Bw = true then (if bt702.2.2.2.2.2.2.2.2.1 = At then (laws_FnExactRunToEnd.j2 kj68 AY (bt702.2.2.2.2.2.2.2.2.2 != Au) Ae Af AV Ag Ah Ai Aj Ak) else (laws_FnExactRunToEnd.j2 kj68 AY true Ae Af AV Ag Ah Ai Aj Ak)) else (laws_FnExactRunToEnd.j2 kj68 AY true Ae Af AV Ag Ah Ai Aj Ak)))) = some true := H
           have Kn := Z.m Fn
           clear Fn
           replace H := Option.bind_eq_some_iff.mp H
           obtain ⟨⟨BC, BD, Bg, BE, BF, BG, BH, BI, D8, D9⟩, Fo, H⟩ := H
           replace H : ((laws_eqMachine.f kj68 BC BD Bg BE BF BG BH BI Am An Ad Ao Ap Aq Ar As).bind fun Bw => (if Bw = true then (if D8 = At then (laws_FnExactRunToEnd.j2 kj68 AY (D9 != Au) Ae Af AV Ag Ah Ai Aj Ak) else (laws_FnExactRunToEnd.j2 kj68 AY true Ae Af AV Ag Ah Ai Aj Ak)) else (laws_FnExactRunToEnd.j2 kj68 AY true Ae Af AV Ag Ah Ai Aj Ak))) = some true := H
           have Ko := Z.m Fo
           clear Fo
           have BY := Z.m H
           clear H
           have KR := AX.o
           have Lm := AN.o
           have KS := AP.o
           have Ln := Ax.o
           have KT := AU.o
           have Lo := Ay.o
           have C4 := bc0 A0
           have C5 := bc1 A0
           have C6 := bc2 A0
           have C7 := bc3 A0
           have C8 := bc4 A0
           have C9 := bc5 A0
           have Ca := bc6 A0
           have Cb := bc7 A0
           have CC := qz A0.o 0
           have CD := qz A0.o 1
           have CE := qz A0.o 2
           have CF := qz A0.o 3
           have CG := qz A0.o 4
           have CH := qz A0.o 5
           have CI := qz A0.o 6
           have CJ := qz A0.o 7
           go_upto_region 25 with (first | ((with_reducible refine gc (f := 15) rfl ?_); refine gA (some 79) _ #[.agg #[.int .i64 Ae, .int .i64 Af, .slice AL Al.length AB, .int .i64 Ag, .int .i64 Ah, .int .i64 Ai, .int .i64 Aj, .int .i64 Ak], .int .i64 1] ?_ Try.func15; (with_reducible refine (laws_markMachine.calls kj68 Ae Af (fun k_ => some k_ = (.slice AL Al.length AB : Value).ownBlock) (.slice AL Al.length AB) Al Ag Ah Ai Aj Ak 1 AY AV w _ ?side1 ?side2 Kl.o).mono ?_); (case side1 => repeat (first | (with_reducible first | exact HB.o | apply qa | apply qn | apply qd | refine qx ?_ BW.o | refine qx ?_ Fr.o | refine qx ?_ Fs.o | refine qx ?_ Ft.o) | exact HB.o)); (case side2 => exact Kd.Rg rfl A4.o); rintro e MY ⟨rfl, HL, hb, hkp⟩; refine ⟨_, rfl, ?_⟩; replace A6 := Z.m (Kd.Rm (ok' := fun k_ => some k_ ≠ (.slice AA Bm.length Az : Value).ownBlock ∧ some k_ ≠ (.slice AL Al.length AB : Value).ownBlock) (Kd.Rk (A6.o) hkp (fun k_ hk_ hs_ => (hk_.2) hs_)) (fun k_ hk_ => ⟨hk_.1.1, hk_.1.2⟩)); replace Aa := Z.m (Kd.Rm (ok' := fun k_ => some k_ ≠ (.slice AR Ad.length AK : Value).ownBlock ∧ some k_ ≠ (.slice AL Al.length AB : Value).ownBlock) (Kd.Rk (Aa.o) hkp (fun k_ hk_ hs_ => (hk_.2) hs_)) (fun k_ hk_ => ⟨hk_.1.1, hk_.1.2⟩)); replace A1 := Z.m (qk (vK A1) hkp (fun hs_ => (fun e_ => (Kd.R_ne A4.o A1.o (by decide)) e_) hs_)); replace A3 := Z.m (qk (vK A3) hkp (fun hs_ => (fun e_ => (Kd.R_ne A4.o A3.o (by decide)) e_) hs_)); replace A5 := Z.m (qk (vK A5) hkp (fun hs_ => (fun e_ => (Kd.R_ne A4.o A5.o (by decide)) e_) hs_)); replace A0 := Z.m (qk (vK A0) hkp (fun hs_ => (fun e_ => (Kd.R_ne A4.o A0.o (by decide)) e_) hs_)); replace A4 := Z.m (Kd.Re rfl HL (fun k_ e_ => A4.o.1 k_ e_)); replace HB := Z.m (hb); (try clear hb); (try clear hkp); (try clear HL); have Cd := bc0 A0; have Ce := bc1 A0; have Cf := bc2 A0; have Cg := bc3 A0; have Ch := bc4 A0; have Ci := bc5 A0; have Cj := bc6 A0; have Cl := bc7 A0; have CK := qz A0.o 0; have CL := qz A0.o 1; have CM := qz A0.o 2; have CN := qz A0.o 3; have CO := qz A0.o 4; have CP := qz A0.o 5; have CQ := qz A0.o 6; have CR := qz A0.o 7) | ((with_reducible refine gc (f := 16) rfl ?_); refine goesL_ (some 82) rfl rfl Try.func16 (by kernel_rfl) rfl #[.agg #[.int .i64 Ae, .int .i64 Af, .slice AL AV.length AB, .int .i64 Ag, .int .i64 Ah, .int .i64 Ai, .int .i64 Aj, .int .i64 Ak], .int .i64 1] rfl (by (try simp only [List.map_toArray, List.map_cons, List.map_nil]); first | done | (rw [show AV.length = Al.length from (Kd.RrZ A4.o).1.symm] <;> rfl) | rfl | (simp only [List.length_drop, List.length_take]; rfl)) ?_; (with_reducible refine (laws_heldMachine.calls kj68 Ae Af _ _ AV Ag Ah Ai Aj Ak 1 By _ ?side1 ?side2 Km.o).mono ?_); (case side1 => repeat (first | exact (Kd.RrZ A4.o).2.2 | (with_reducible refine Kd.C_alloc ?_ _) | (with_reducible refine Kd.C_drewN ?_ _) | (with_reducible refine Kd.C_drew ?_))); (case side2 => rw [show AV.length = Al.length from (Kd.RrZ A4.o).1.symm]; exact (Kd.RrZ A4.o).2.1); rintro e MZ ⟨rfl, hb⟩; refine ⟨_, rfl, ?_⟩; replace A6 := Z.m (Kd.Rb (vR A6) hb); replace Aa := Z.m (Kd.Rb (vR Aa) hb); replace A4 := Z.m (Kd.Rb (vR A4) hb); replace A1 := kB A1 hb; replace A3 := kB A3 hb; replace A5 := kB A5 hb; replace A0 := kB A0 hb; replace HB := bB HB hb; (try clear hb); (try clear BQ); (try clear hk); (try clear hi); have KU := AM.o; have Lp := AS.o; have KV := Bk.o; have Lq := Br.o; have Cm := bc0 A1; have Cn := bc1 A1; have Co := bc2 A1; have Cp := bc3 A1; have Cq := bc4 A1; have Cr := bc5 A1; have Cs := bc6 A1; have Ct := bc7 A1; have CS := qz A1.o 0; have CT := qz A1.o 1; have CU := qz A1.o 2; have CV := qz A1.o 3; have CW := qz A1.o 4; have CX := qz A1.o 5; have CY := qz A1.o 6; have CZ := qz A1.o 7) | ((with_reducible refine gc (f := 12) rfl ?_); refine gA (some 90) _ #[.agg #[.int .i64 a0_0, .int .i64 a0_1, .slice A0_2 l0_2.length c0_2, .int .i64 a0_3, .int .i64 a0_4, .int .i64 a0_5, .int .i64 a0_6, .int .i64 a0_7]] ?_ Try.func12; (with_reducible refine (laws_toMachine.calls kj68 a0_0 a0_1 _ _ l0_2 a0_3 a0_4 a0_5 a0_6 a0_7 Fe Ff BO Fg Fh Fi Fj Fk _ ?side1 ?side2 Kn.o).mono ?_); (case side1 => repeat (first | exact (Kd.C_below BA.o HB.o) | (with_reducible refine Kd.C_alloc ?_ _) | (with_reducible refine Kd.C_drewN ?_ _) | (with_reducible refine Kd.C_drew ?_))); (case side2 => exact Bz.o); rintro e N0 ⟨MV, rfl, Bh, hb⟩; refine ⟨_, rfl, ?_⟩; have Bf := Z.m (Kd.R_lower (Kd.R_new' (Kd.R_new' (Kd.R_new' Bh (Kd.R_lt (vR A6))) (Kd.R_lt (vR Aa))) (Kd.R_lt (vR A4))) (below_size (vB HB))); replace A6 := Z.m (Kd.R_elder' (vR A6) (Kd.R_base Bh) hb); replace Aa := Z.m (Kd.R_elder' (vR Aa) (Kd.R_base Bh) hb); replace A4 := Z.m (Kd.R_elder' (vR A4) (Kd.R_base Bh) hb); replace A1 := kB A1 hb; replace A3 := kB A3 hb; replace A5 := kB A5 hb; replace A0 := kB A0 hb; replace HB := bB HB hb; (try clear hb); (try clear BQ); (try clear hk); (try clear hi); (try clear Bh); obtain ⟨BL, BN, FR⟩ := Kd.R_slice Bf.o; subst FR) | ((with_reducible refine gc (f := 18) rfl ?_); refine gA (some 91) _ #[.agg #[.int .i64 Fe, .int .i64 Ff, .slice BL BO.length BN, .int .i64 Fg, .int .i64 Fh, .int .i64 Fi, .int .i64 Fj, .int .i64 Fk]] ?_ Try.func18; (with_reducible refine (impl_RunToEnd.calls kj68 Fe Ff _ _ BO Fg Fh Fi Fj Fk BC BD Bg BE BF BG BH BI D8 D9 _ ?side1 ?side2 Ko.o).mono ?_); (case side1 => repeat (first | exact (Kd.RrZ Bf.o).2.2 | (with_reducible refine Kd.C_alloc ?_ _) | (with_reducible refine Kd.C_drewN ?_ _) | (with_reducible refine Kd.C_drew ?_))); (case side2 => exact (Kd.RrZ Bf.o).2.1); rintro e N1 ⟨MW, rfl, Bh, hb⟩; refine ⟨_, rfl, ?_⟩; have Ba := Z.m (Kd.R_lower (Kd.R_new' (Kd.R_new' (Kd.R_new' (Kd.R_new' Bh (Kd.R_lt (vR A6))) (Kd.R_lt (vR Aa))) (Kd.R_lt (vR A4))) (Kd.R_lt (vR Bf))) (below_size (vB HB))); replace A6 := Z.m (Kd.R_elder' (vR A6) (Kd.R_base Bh) hb); replace Aa := Z.m (Kd.R_elder' (vR Aa) (Kd.R_base Bh) hb); replace A4 := Z.m (Kd.R_elder' (vR A4) (Kd.R_base Bh) hb); replace Bf := Z.m (Kd.R_elder' (vR Bf) (Kd.R_base Bh) hb); replace A1 := kB A1 hb; replace A3 := kB A3 hb; replace A5 := kB A5 hb; replace A0 := kB A0 hb; replace HB := bB HB hb; (try clear hb); (try clear BQ); (try clear hk); (try clear hi); (try clear Bh)) | ((with_reducible refine gq (N := 14) rfl ?_); refine be (N := 14) (cs := #[.int .i64 0, .int .i64 0, .slice none 0 0, .int .i64 0, .int .i64 0, .int .i64 0, .int .i64 0, .int .i64 0]) (t := 32) ?_; intro C3 hg N2 hbox hb; have Ac := Z.m (hbox); have FO := gW (w := w) HB hg; have LR := FO; have Bb := neL A1 hg; have Bs := neG A1 hg; have Bc := neL A3 hg; have Bt := neG A3 hg; have Bd := neL A5 hg; have Bu := neG A5 hg; have B2 := neL A0 hg; have Bl := neG A0 hg; replace A6 := Z.m (Kd.Rb (vR A6) hb); replace Aa := Z.m (Kd.Rb (vR Aa) hb); replace A4 := Z.m (Kd.Rb (vR A4) hb); replace Bf := Z.m (Kd.Rb (vR Bf) hb); replace Ba := Z.m (Kd.Rb (vR Ba) hb); replace A1 := kB A1 hb; replace A3 := kB A3 hb; replace A5 := kB A5 hb; replace A0 := kB A0 hb; replace HB := bB HB hb; clear hb hbox hg; have KW := Bs.o; have Lr := Bb.o; have KX := Bt.o; have Ls := Bc.o; have KY := Bu.o; have Lt := Bd.o; have KZ := Bl.o; have Lu := B2.o; have Cu := bc0 Ac; have Cv := bc1 Ac; have Cw := bc2 Ac; have Cx := bc3 Ac; have Cy := bc4 Ac; have Cz := bc5 Ac; have CA := bc6 Ac; have CB := bc7 Ac; have D0 := qz Ac.o 0; have D1 := qz Ac.o 1; have D2 := qz Ac.o 2; have D3 := qz Ac.o 3; have D4 := qz Ac.o 4; have D5 := qz Ac.o 5; have D6 := qz Ac.o 6; have D7 := qz Ac.o 7; obtain ⟨Bi, Be, FS⟩ := Kd.R_slice Ba.o; subst FS))
           (try simp only [Act.put, q1, q2, q3])
           go_cut [108] (fun v108 wc => ∃ (kq : Nat) (Bp : Bool), v108 = .bool Bp ∧ Z (laws_FnExactRunToEnd.j2 kq AY Bp Ae Af AV Ag Ah Ai Aj Ak = some true) ∧ Z (kq ≤ kj68) ∧ Z (Kd.R k88 88 wc w.heap.size (fun k_ => some k_ ≠ ((.slice AA Bm.length Az) : Value).ownBlock ∧ some k_ ≠ ((.slice AL Al.length AB) : Value).ownBlock ∧ some k_ ≠ ((.slice Bi Bg.length Be) : Value).ownBlock) (.slice AR Ad.length AK) Ad) ∧ Z (Kd.R k88 88 wc w.heap.size (fun k_ => some k_ ≠ ((.slice AR Ad.length AK) : Value).ownBlock ∧ some k_ ≠ ((.slice AL Al.length AB) : Value).ownBlock ∧ some k_ ≠ ((.slice Bi Bg.length Be) : Value).ownBlock) (.slice AA Bm.length Az) Bm) ∧ Z (Kd.R k88 88 wc w.heap.size (fun k_ => some k_ ≠ ((.slice AR Ad.length AK) : Value).ownBlock ∧ some k_ ≠ ((.slice AA Bm.length Az) : Value).ownBlock ∧ some k_ ≠ ((.slice Bi Bg.length Be) : Value).ownBlock) (.slice AL Al.length AB) AV) ∧ Z (Kd.R k88 88 wc w.heap.size (fun k_ => some k_ ≠ ((.slice AR Ad.length AK) : Value).ownBlock ∧ some k_ ≠ ((.slice AA Bm.length Az) : Value).ownBlock ∧ some k_ ≠ ((.slice AL Al.length AB) : Value).ownBlock) (.slice Bi Bg.length Be) Bg) ∧ Z (wc.heap[AW]? = some (.cells #[.int .i64 a0_0, .int .i64 a0_1, (.slice A0_2 l0_2.length c0_2), .int .i64 a0_3, .int .i64 a0_4, .int .i64 a0_5, .int .i64 a0_6, .int .i64 a0_7] 26 (0, 0))) ∧ Z (wc.heap[Bn]? = some (.cells #[.int .i64 Am, .int .i64 An, (.slice AR Ad.length AK), .int .i64 Ao, .int .i64 Ap, .int .i64 Aq, .int .i64 Ar, .int .i64 As] 32 (0, 0))) ∧ Z (wc.heap[B0]? = some (.cells #[.int .i64 AC, .int .i64 AD, (.slice AA Bm.length Az), .int .i64 AE, .int .i64 AF, .int .i64 AG, .int .i64 AH, .int .i64 AI] 32 (0, 0))) ∧ Z (wc.heap[Bx]? = some (.cells #[.int .i64 Ae, .int .i64 Af, (.slice AL Al.length AB), .int .i64 Ag, .int .i64 Ah, .int .i64 Ai, .int .i64 Aj, .int .i64 Ak] 32 (0, 0))) ∧ Z (wc.heap[C3]? = some (.cells #[.int .i64 BC, .int .i64 BD, (.slice Bi Bg.length Be), .int .i64 BE, .int .i64 BF, .int .i64 BG, .int .i64 BH, .int .i64 BI] 32 (0, 0))) ∧ Z (Below w.heap.size w wc))
           case first =>
            have H := BY.o
            clear BY
            replace H := Option.bind_eq_some_iff.mp H
            obtain ⟨Bw, Fp, H⟩ := H
            replace H : (if Bw = true then (if D8 = At then (laws_FnExactRunToEnd.j2 kj68 AY (D9 != Au) Ae Af AV Ag Ah Ai Aj Ak) else (laws_FnExactRunToEnd.j2 kj68 AY true Ae Af AV Ag Ah Ai Aj Ak)) else (laws_FnExactRunToEnd.j2 kj68 AY true Ae Af AV Ag Ah Ai Aj Ak)) = some true := H
            have FD := Z.m Fp
            clear Fp
            by_cases c143 : Bw = true
            ·subst c143
             have H1 : (if D8 = At then (laws_FnExactRunToEnd.j2 kj68 AY (D9 != Au) Ae Af AV Ag Ah Ai Aj Ak) else (laws_FnExactRunToEnd.j2 kj68 AY true Ae Af AV Ag Ah Ai Aj Ak)) = some true := by rw [if_pos rfl] at H; exact H
             clear H
             have H := H1
             clear H1
             by_cases c144 : D8 = At
             ·rw [if_pos c144] at H
              have C1 := beq_iff_eq.mpr c144
              have Kq := bne_eq_false_iff_eq.mpr c144
              clear c144
              (first | rw [C1] | (simp only [i64_w, i32_w]; rw [C1]) | skip)
              have H' := Z.m H
              clear H
              have L0 := Bs.o
              have Lv := Bb.o
              have L1 := Bt.o
              have Lw := Bc.o
              have L2 := Bu.o
              have Lx := Bd.o
              have L3 := Bl.o
              have Ly := B2.o
              have Ga := bc0 Ac
              have Gb := bc1 Ac
              have Gc := bc2 Ac
              have Gd := bc3 Ac
              have Ge := bc4 Ac
              have Gf := bc5 Ac
              have Gg := bc6 Ac
              have Gh := bc7 Ac
              have H5 := qz Ac.o 0
              have H6 := qz Ac.o 1
              have H7 := qz Ac.o 2
              have H8 := qz Ac.o 3
              have H9 := qz Ac.o 4
              have Ha := qz Ac.o 5
              have Hb := qz Ac.o 6
              have Hc := qz Ac.o 7
              have L4 := AS.o
              have Lz := AM.o
              have L5 := AO.o
              have LA := AT.o
              have L6 := Ax.o
              have LB := AP.o
              have Gi := bc0 A3
              have Gj := bc1 A3
              have Gk := bc2 A3
              have Gl := bc3 A3
              have Gm := bc4 A3
              have Gn := bc5 A3
              have Go := bc6 A3
              have Gp := bc7 A3
              have Hd := qz A3.o 0
              have He := qz A3.o 1
              have Hf := qz A3.o 2
              have Hg := qz A3.o 3
              have Hh := qz A3.o 4
              have Hi := qz A3.o 5
              have Hj := qz A3.o 6
              have Hk := qz A3.o 7
              go_wp2_with (first | ((with_reducible refine gc (f := 14) rfl ?_); refine gA (some 97) _ #[.agg #[.int .i64 BC, .int .i64 BD, .slice Bi Bg.length Be, .int .i64 BE, .int .i64 BF, .int .i64 BG, .int .i64 BH, .int .i64 BI], .agg #[.int .i64 Am, .int .i64 An, .slice AR Ad.length AK, .int .i64 Ao, .int .i64 Ap, .int .i64 Aq, .int .i64 Ar, .int .i64 As]] ?_ Try.func14; (with_reducible refine (laws_eqMachine.calls kj68 BC BD _ _ Bg BE BF BG BH BI Am An _ _ Ad Ao Ap Aq Ar As true _ ?side1 ?side2 ?side3 ?side4 FD.o).mono ?_); (case side1 => refine (Kd.RrZ (e := 88) (base := w.heap.size) (ok := fun k_ => ((((True ∧ some k_ ≠ (.slice AR Ad.length AK : Value).ownBlock) ∧ some k_ ≠ (.slice AA Bm.length Az : Value).ownBlock) ∧ some k_ ≠ (.slice AL Al.length AB : Value).ownBlock) ∧ some k_ ≠ (.slice BL BO.length BN : Value).ownBlock)) (n := Bg.length) (c := Be) ?_).2.2; exact (by refine rK ?_; exact (Kd.Rm (rf (rf (rf (rf (rf (rf (rf (rf (Kd.Ry Ba.o Ac.o (by decide)))))))))) (fun _ h_ => h_.1)))); (case side2 => exact (Kd.RrZ Ba.o).2.1); (case side3 => refine (Kd.RrZ (e := 88) (base := w.heap.size) (ok := fun k_ => (((some k_ ≠ (.slice AA Bm.length Az : Value).ownBlock ∧ some k_ ≠ (.slice AL Al.length AB : Value).ownBlock) ∧ some k_ ≠ (.slice BL BO.length BN : Value).ownBlock) ∧ some k_ ≠ (.slice Bi Bg.length Be : Value).ownBlock)) (n := Ad.length) (c := AK) ?_).2.2; exact (by refine rK ?_; exact (Kd.Rm (rf (rf (rf (rf (rf (rf (rf (rf (Kd.Ry A6.o Ac.o (by decide)))))))))) (fun _ h_ => h_.1)))); (case side4 => exact (Kd.RrZ A6.o).2.1); rintro e N3 ⟨rfl, hb⟩; refine ⟨_, rfl, ?_⟩; replace A6 := Z.m (Kd.Rb (by refine rK ?_; exact (Kd.Rm (rf (rf (rf (rf (rf (rf (rf (rf (Kd.Ry A6.o Ac.o (by decide)))))))))) (fun _ h_ => h_.1))) hb); replace Aa := Z.m (Kd.Rb (by refine rK ?_; exact (Kd.Rm (rf (rf (rf (rf (rf (rf (rf (rf (Kd.Ry Aa.o Ac.o (by decide)))))))))) (fun _ h_ => h_.1))) hb); replace A4 := Z.m (Kd.Rb (by refine rK ?_; exact (Kd.Rm (rf (rf (rf (rf (rf (rf (rf (rf (Kd.Ry A4.o Ac.o (by decide)))))))))) (fun _ h_ => h_.1))) hb); replace Bf := Z.m (Kd.Rb (by refine rK ?_; exact (Kd.Rm (rf (rf (rf (rf (rf (rf (rf (rf (Kd.Ry Bf.o Ac.o (by decide)))))))))) (fun _ h_ => h_.1))) hb); replace Ba := Z.m (Kd.Rb (by refine rK ?_; exact (Kd.Rm (rf (rf (rf (rf (rf (rf (rf (rf (Kd.Ry Ba.o Ac.o (by decide)))))))))) (fun _ h_ => h_.1))) hb); replace A1 := Z.m (qb (g := AW) (o := .cells #[.int .i64 a0_0, .int .i64 a0_1, .slice A0_2 l0_2.length c0_2, .int .i64 a0_3, .int .i64 a0_4, .int .i64 a0_5, .int .i64 a0_6, .int .i64 a0_7] 26 (0, 0)) (by refine bK ?_; (iterate 8 refine qF ?_ Bb); exact A1.o) hb); replace A3 := Z.m (qb (g := Bn) (o := .cells #[.int .i64 Am, .int .i64 An, .slice AR Ad.length AK, .int .i64 Ao, .int .i64 Ap, .int .i64 Aq, .int .i64 Ar, .int .i64 As] 32 (0, 0)) (by refine bK ?_; (iterate 8 refine qF ?_ Bc); exact A3.o) hb); replace A5 := Z.m (qb (g := B0) (o := .cells #[.int .i64 AC, .int .i64 AD, .slice AA Bm.length Az, .int .i64 AE, .int .i64 AF, .int .i64 AG, .int .i64 AH, .int .i64 AI] 32 (0, 0)) (by refine bK ?_; (iterate 8 refine qF ?_ Bd); exact A5.o) hb); replace A0 := Z.m (qb (g := Bx) (o := .cells #[.int .i64 Ae, .int .i64 Af, .slice AL Al.length AB, .int .i64 Ag, .int .i64 Ah, .int .i64 Ai, .int .i64 Aj, .int .i64 Ak] 32 (0, 0)) (by refine bK ?_; (iterate 8 refine qF ?_ B2); exact A0.o) hb); replace Ac := Z.m (qb (g := C3) (o := .cells #[.int .i64 BC, .int .i64 BD, .slice Bi Bg.length Be, .int .i64 BE, .int .i64 BF, .int .i64 BG, .int .i64 BH, .int .i64 BI] 32 (0, 0)) (by refine bK ?_; apply st8; refine bK ?_; exact Ac.o) hb); replace HB := bB HB hb; (try clear hb); (try clear BQ); (try clear hk); (try clear hi)))
              go_meet
              case rel => exact ⟨_, ((D9 != Au)), (by first | rfl | (simp; done) | (simp [*]; done)), H', ⟨by have := BZ.o; have := FP.o; first | omega | exact Nat.le_refl _⟩, ⟨by (try simp only [Ab]); refine rK ?_; exact Kd.Rm A6.o (fun _ hk => ⟨hk.1.1.1, ⟨hk.1.1.2, hk.2⟩⟩)⟩, ⟨by (try simp only [Ab]); refine rK ?_; exact Kd.Rm Aa.o (fun _ hk => ⟨hk.1.1.1, ⟨hk.1.1.2, hk.2⟩⟩)⟩, ⟨by (try simp only [Ab]); refine rK ?_; exact Kd.Rm A4.o (fun _ hk => ⟨hk.1.1.1, ⟨hk.1.1.2, hk.2⟩⟩)⟩, ⟨by (try simp only [Ab]); refine rK ?_; exact Kd.Rm Ba.o (fun _ hk => ⟨hk.1.1.1.2, ⟨hk.1.1.2, hk.1.2⟩⟩)⟩, ⟨by (try simp only [Ab]); refine bK ?_; exact A1.o⟩, ⟨by (try simp only [Ab]); refine bK ?_; exact A3.o⟩, ⟨by (try simp only [Ab]); refine bK ?_; exact A5.o⟩, ⟨by (try simp only [Ab]); refine bK ?_; exact A0.o⟩, ⟨by (try simp only [Ab]); refine bK ?_; exact Ac.o⟩, ⟨vB HB⟩⟩
             ·(rw [if_neg c144] at H; exact absurd H (laws_FnExactRunToEnd.bad_j2 _ _ _ _ _ _ _ _ _ _))
            ·replace c143 := Bool.eq_false_iff.mpr c143
             subst c143
             have H1 : (laws_FnExactRunToEnd.j2 kj68 AY true Ae Af AV Ag Ah Ai Aj Ak) = some true := by rw [if_neg (show ¬ (false = true) by decide)] at H; exact H
             clear H
             have H := H1
             clear H1
             have H' := Z.m H
             clear H
             have L7 := Bs.o
             have LC := Bb.o
             have L8 := Bt.o
             have LD := Bc.o
             have L9 := Bu.o
             have LE := Bd.o
             have La := Bl.o
             have LF := B2.o
             have Gq := bc0 Ac
             have Gr := bc1 Ac
             have Gs := bc2 Ac
             have Gt := bc3 Ac
             have Gu := bc4 Ac
             have Gv := bc5 Ac
             have Gw := bc6 Ac
             have Gx := bc7 Ac
             have Hl := qz Ac.o 0
             have Hm := qz Ac.o 1
             have Hn := qz Ac.o 2
             have Ho := qz Ac.o 3
             have Hp := qz Ac.o 4
             have Hq := qz Ac.o 5
             have Hr := qz Ac.o 6
             have Hs := qz Ac.o 7
             have Lb := AS.o
             have LG := AM.o
             have Lc := AO.o
             have LH := AT.o
             have Ld := Ax.o
             have LI := AP.o
             have Gy := bc0 A3
             have Gz := bc1 A3
             have GA := bc2 A3
             have GB := bc3 A3
             have GC := bc4 A3
             have GD := bc5 A3
             have GE := bc6 A3
             have GF := bc7 A3
             have Ht := qz A3.o 0
             have Hu := qz A3.o 1
             have Hv := qz A3.o 2
             have Hw := qz A3.o 3
             have Hx := qz A3.o 4
             have Hy := qz A3.o 5
             have Hz := qz A3.o 6
             have HC := qz A3.o 7
             go_wp2_with (first | ((with_reducible refine gc (f := 14) rfl ?_); refine gA (some 97) _ #[.agg #[.int .i64 BC, .int .i64 BD, .slice Bi Bg.length Be, .int .i64 BE, .int .i64 BF, .int .i64 BG, .int .i64 BH, .int .i64 BI], .agg #[.int .i64 Am, .int .i64 An, .slice AR Ad.length AK, .int .i64 Ao, .int .i64 Ap, .int .i64 Aq, .int .i64 Ar, .int .i64 As]] ?_ Try.func14; (with_reducible refine (laws_eqMachine.calls kj68 BC BD _ _ Bg BE BF BG BH BI Am An _ _ Ad Ao Ap Aq Ar As false _ ?side1 ?side2 ?side3 ?side4 FD.o).mono ?_); (case side1 => refine (Kd.RrZ (e := 88) (base := w.heap.size) (ok := fun k_ => ((((True ∧ some k_ ≠ (.slice AR Ad.length AK : Value).ownBlock) ∧ some k_ ≠ (.slice AA Bm.length Az : Value).ownBlock) ∧ some k_ ≠ (.slice AL Al.length AB : Value).ownBlock) ∧ some k_ ≠ (.slice BL BO.length BN : Value).ownBlock)) (n := Bg.length) (c := Be) ?_).2.2; exact (by refine rK ?_; exact (Kd.Rm (rf (rf (rf (rf (rf (rf (rf (rf (Kd.Ry Ba.o Ac.o (by decide)))))))))) (fun _ h_ => h_.1)))); (case side2 => exact (Kd.RrZ Ba.o).2.1); (case side3 => refine (Kd.RrZ (e := 88) (base := w.heap.size) (ok := fun k_ => (((some k_ ≠ (.slice AA Bm.length Az : Value).ownBlock ∧ some k_ ≠ (.slice AL Al.length AB : Value).ownBlock) ∧ some k_ ≠ (.slice BL BO.length BN : Value).ownBlock) ∧ some k_ ≠ (.slice Bi Bg.length Be : Value).ownBlock)) (n := Ad.length) (c := AK) ?_).2.2; exact (by refine rK ?_; exact (Kd.Rm (rf (rf (rf (rf (rf (rf (rf (rf (Kd.Ry A6.o Ac.o (by decide)))))))))) (fun _ h_ => h_.1)))); (case side4 => exact (Kd.RrZ A6.o).2.1); rintro e N4 ⟨rfl, hb⟩; refine ⟨_, rfl, ?_⟩; replace A6 := Z.m (Kd.Rb (by refine rK ?_; exact (Kd.Rm (rf (rf (rf (rf (rf (rf (rf (rf (Kd.Ry A6.o Ac.o (by decide)))))))))) (fun _ h_ => h_.1))) hb); replace Aa := Z.m (Kd.Rb (by refine rK ?_; exact (Kd.Rm (rf (rf (rf (rf (rf (rf (rf (rf (Kd.Ry Aa.o Ac.o (by decide)))))))))) (fun _ h_ => h_.1))) hb); replace A4 := Z.m (Kd.Rb (by refine rK ?_; exact (Kd.Rm (rf (rf (rf (rf (rf (rf (rf (rf (Kd.Ry A4.o Ac.o (by decide)))))))))) (fun _ h_ => h_.1))) hb); replace Bf := Z.m (Kd.Rb (by refine rK ?_; exact (Kd.Rm (rf (rf (rf (rf (rf (rf (rf (rf (Kd.Ry Bf.o Ac.o (by decide)))))))))) (fun _ h_ => h_.1))) hb); replace Ba := Z.m (Kd.Rb (by refine rK ?_; exact (Kd.Rm (rf (rf (rf (rf (rf (rf (rf (rf (Kd.Ry Ba.o Ac.o (by decide)))))))))) (fun _ h_ => h_.1))) hb); replace A1 := Z.m (qb (g := AW) (o := .cells #[.int .i64 a0_0, .int .i64 a0_1, .slice A0_2 l0_2.length c0_2, .int .i64 a0_3, .int .i64 a0_4, .int .i64 a0_5, .int .i64 a0_6, .int .i64 a0_7] 26 (0, 0)) (by refine bK ?_; (iterate 8 refine qF ?_ Bb); exact A1.o) hb); replace A3 := Z.m (qb (g := Bn) (o := .cells #[.int .i64 Am, .int .i64 An, .slice AR Ad.length AK, .int .i64 Ao, .int .i64 Ap, .int .i64 Aq, .int .i64 Ar, .int .i64 As] 32 (0, 0)) (by refine bK ?_; (iterate 8 refine qF ?_ Bc); exact A3.o) hb); replace A5 := Z.m (qb (g := B0) (o := .cells #[.int .i64 AC, .int .i64 AD, .slice AA Bm.length Az, .int .i64 AE, .int .i64 AF, .int .i64 AG, .int .i64 AH, .int .i64 AI] 32 (0, 0)) (by refine bK ?_; (iterate 8 refine qF ?_ Bd); exact A5.o) hb); replace A0 := Z.m (qb (g := Bx) (o := .cells #[.int .i64 Ae, .int .i64 Af, .slice AL Al.length AB, .int .i64 Ag, .int .i64 Ah, .int .i64 Ai, .int .i64 Aj, .int .i64 Ak] 32 (0, 0)) (by refine bK ?_; (iterate 8 refine qF ?_ B2); exact A0.o) hb); replace Ac := Z.m (qb (g := C3) (o := .cells #[.int .i64 BC, .int .i64 BD, .slice Bi Bg.length Be, .int .i64 BE, .int .i64 BF, .int .i64 BG, .int .i64 BH, .int .i64 BI] 32 (0, 0)) (by refine bK ?_; apply st8; refine bK ?_; exact Ac.o) hb); replace HB := bB HB hb; (try clear hb); (try clear BQ); (try clear hk); (try clear hi)))
             go_meet
             case rel => exact ⟨_, (true), (by first | rfl | (simp; done) | (simp [*]; done)), H', ⟨by have := BZ.o; have := FP.o; first | omega | exact Nat.le_refl _⟩, ⟨by (try simp only [Ab]); refine rK ?_; exact Kd.Rm A6.o (fun _ hk => ⟨hk.1.1.1, ⟨hk.1.1.2, hk.2⟩⟩)⟩, ⟨by (try simp only [Ab]); refine rK ?_; exact Kd.Rm Aa.o (fun _ hk => ⟨hk.1.1.1, ⟨hk.1.1.2, hk.2⟩⟩)⟩, ⟨by (try simp only [Ab]); refine rK ?_; exact Kd.Rm A4.o (fun _ hk => ⟨hk.1.1.1, ⟨hk.1.1.2, hk.2⟩⟩)⟩, ⟨by (try simp only [Ab]); refine rK ?_; exact Kd.Rm Ba.o (fun _ hk => ⟨hk.1.1.1.2, ⟨hk.1.1.2, hk.1.2⟩⟩)⟩, ⟨by (try simp only [Ab]); refine bK ?_; exact A1.o⟩, ⟨by (try simp only [Ab]); refine bK ?_; exact A3.o⟩, ⟨by (try simp only [Ab]); refine bK ?_; exact A5.o⟩, ⟨by (try simp only [Ab]); refine bK ?_; exact A0.o⟩, ⟨by (try simp only [Ab]); refine bK ?_; exact Ac.o⟩, ⟨vB HB⟩⟩
           case rest =>
            clear BY
            (try clear c107); (try clear C0); (try clear Fy); (try clear Fz)
            (try clear C4); (try clear C5); (try clear C6); (try clear C7); (try clear C8); (try clear C9); (try clear Ca); (try clear Cb)
            (try clear Cd); (try clear Ce); (try clear Cf); (try clear Cg); (try clear Ch); (try clear Ci); (try clear Cj); (try clear Cl)
            (try clear Cm); (try clear Cn); (try clear Co); (try clear Cp); (try clear Cq); (try clear Cr); (try clear Cs); (try clear Ct)
            (try clear Cu); (try clear Cv); (try clear Cw); (try clear Cx); (try clear Cy); (try clear Cz); (try clear CA); (try clear CB)
            (try clear CC); (try clear CD); (try clear CE); (try clear CF); (try clear CG); (try clear CH); (try clear CI); (try clear CJ)
            (try clear CK); (try clear CL); (try clear CM); (try clear CN); (try clear CO); (try clear CP); (try clear CQ); (try clear CR)
            (try clear CS); (try clear CT); (try clear CU); (try clear CV); (try clear CW); (try clear CX); (try clear CY); (try clear CZ)
            (try clear D0); (try clear D1); (try clear D2); (try clear D3); (try clear D4); (try clear D5); (try clear D6); (try clear D7)
            obtain ⟨kq, Bp, rfl, HA, LS, A6, Aa, A4, Bq, A1, A3, A5, A0, Ac, HB⟩ := hcut
            have Av := (Kd.RrZ A4.o).1
            rw [Av] at A4
            (try simp only [Av])
            (try simp only [Av] at A1)
            (try simp only [Av] at A3)
            (try simp only [Av] at A5)
            (try simp only [Av] at A0)
            (try simp only [Av] at Ac)
            (try simp only [Av] at A6)
            (try simp only [Av] at Aa)
            (try simp only [Av] at Bq)
            cases kq with
            | zero => exact absurd HA.o (by simp [laws_FnExactRunToEnd.j2])
            | succ kj120 =>
             have H := HA.o
             clear HA
             simp only [laws_FnExactRunToEnd.j2] at H
             by_cases c175 : Bp = true
             ·(rw [if_pos c175] at H; exact absurd H (by decide))
             ·replace c175 := Bool.eq_false_iff.mpr c175
              subst c175
              have H1 : ((laws_heldMachine.f kj120 Ae Af AV Ag Ah Ai Aj Ak 1).bind fun BP => (if BP < 0 then (some false) else (if BP = AY then (some true) else (some false)))) = some true := by rw [if_neg (show ¬ (false = true) by decide)] at H; exact H
              clear H
              have H := H1
              clear H1
              replace H := Option.bind_eq_some_iff.mp H
              obtain ⟨BP, Fq, H⟩ := H
              replace H : (if BP < 0 then (some false) else (if BP = AY then (some true) else (some false))) = some true := H
              have Kp := Z.m Fq
              clear Fq
              by_cases c177 : BP < 0
              ·(rw [if_pos c177] at H; exact absurd H (by decide))
              ·rw [if_neg c177] at H
               have C2 := decide_eq_false c177
               (try simp only [Ab] at C2)
               (try simp only [Av] at C2)
               clear c177
               by_cases c184 : BP = AY
               ·rw [if_pos c184] at H
                have Kr := beq_iff_eq.mpr c184
                have Ks := bne_eq_false_iff_eq.mpr c184
                clear c184
                clear H
                have Le := AX.o
                have LJ := AN.o
                have Lf := AP.o
                have LK := Ax.o
                have Lg := AU.o
                have LL := Ay.o
                have Lh := B2.o
                have LM := Bl.o
                have GG := bc0 A0
                have GH := bc1 A0
                have GI := bc2 A0
                have GJ := bc3 A0
                have GK := bc4 A0
                have GL := bc5 A0
                have GM := bc6 A0
                have GN := bc7 A0
                have HD := qz A0.o 0
                have HE := qz A0.o 1
                have HF := qz A0.o 2
                have HG := qz A0.o 3
                have HH := qz A0.o 4
                have HI := qz A0.o 5
                have HJ := qz A0.o 6
                have HK := qz A0.o 7
                go_wp2_with (first | ((with_reducible refine gc (f := 16) rfl ?_); refine gA (some 111) _ #[.agg #[.int .i64 Ae, .int .i64 Af, .slice AL AV.length AB, .int .i64 Ag, .int .i64 Ah, .int .i64 Ai, .int .i64 Aj, .int .i64 Ak], .int .i64 1] ?_ Try.func16; (with_reducible refine (laws_heldMachine.calls kj120 Ae Af _ _ AV Ag Ah Ai Aj Ak 1 BP _ ?side1 ?side2 Kp.o).mono ?_); (case side1 => repeat (first | exact (Kd.RrZ A4.o).2.2 | (with_reducible refine Kd.C_alloc ?_ _) | (with_reducible refine Kd.C_drewN ?_ _) | (with_reducible refine Kd.C_drew ?_))); (case side2 => exact (Kd.RrZ A4.o).2.1); rintro e N5 ⟨rfl, hb⟩; refine ⟨_, rfl, ?_⟩; replace A6 := Z.m (Kd.Rb (vR A6) hb); replace Aa := Z.m (Kd.Rb (vR Aa) hb); replace A4 := Z.m (Kd.Rb (vR A4) hb); replace Bq := Z.m (Kd.Rb (vR Bq) hb); replace A1 := kB A1 hb; replace A3 := kB A3 hb; replace A5 := kB A5 hb; replace A0 := kB A0 hb; replace Ac := kB Ac hb; replace HB := bB HB hb; (try clear hb); (try clear BQ); (try clear hk); (try clear hi)))
                go_ret
                exact ⟨by first | rfl | (simp [eN, eS] <;> rfl) | (simp [*, eN, eS] <;> rfl), vB HB⟩
               ·(rw [if_neg c184] at H; exact absurd H (by decide))
          ·(rw [if_neg c118] at H; exact absurd H (by decide))
     ·(rw [if_neg c67] at H; exact absurd H (by decide))

end Go.Proofs.Ytjkiolpepchpdaa.PAll
