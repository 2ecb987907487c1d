/- Began as a text that print.sh wrote (of the functions named below); turned and shortened by this session. -/
import Derived.Test.YtlkiakpipcnijaaG0
import Derived.Test.YtlkiakpipcnijaaG23
import Derived.Test.YtlkiakpipcnijaaG25
import Derived.Test.YtlkiakpipcnijaaG26
namespace Go.Proofs.Ytlkiakpipcnijaa.PAll
open Go.RowKit Go.Proofs.YtlkiakpipcnijaaW.PrintWords Go.Proofs.YtlkiakpipcnijaaW.PrintLast Go.Proofs.YtlkiakpipcnijaaW.PrintMore
attribute [local go_sem] max2_int min2_int max_two min_two max_three min_three max_four min_four   -- for this text's walks alone
set_option linter.unusedVariables false
set_option linter.unusedSimpArgs false

/-! ### laws_FnExactRefillMachine: function 14 -/
mutual
def laws_FnExactRefillMachine.j0 : Nat → Int → Int → Bool → Bool → Bool → Int → Int → List (S84) → Int → Int → Int → Int → Int → Int → Int → List (S71) → Int → Int → Int → Int → Int → Int → Int → List (S71) → Int → Int → Int → Int → Int → Int → Int → List (S71) → Int → Int → Int → Int → Int → Option (Bool)
 | 0, _, _, _, _, _, _, _, _, _, _, _, _, _, _, _, _, _, _, _, _, _, _, _, _, _, _, _, _, _, _, _, _, _, _, _, _, _ => none
 | k + 1, x1, x2, x9, x12, x48, x622000, x622001, x622002, x622003, x622004, x622005, x622006, x622007, x645000, x645001, x645002, x645003, x645004, x645005, x645006, x645007, x656000, x656001, x656002, x656003, x656004, x656005, x656006, x656007, x668000, x668001, x668002, x668003, x668004, x668005, x668006, x668007 => if x48 = true then (some false) else ((laws_toMachine.f k x622000 x622001 x622002 x622003 x622004 x622005 x622006 x622007).bind fun bt669 => ((laws_eqMachine.f k x656000 x656001 x656002 x656003 x656004 x656005 x656006 x656007 bt669.1 bt669.2.1 bt669.2.2.1 bt669.2.2.2.1 bt669.2.2.2.2.1 bt669.2.2.2.2.2.1 bt669.2.2.2.2.2.2.1 bt669.2.2.2.2.2.2.2).bind fun t679 => (if t679 = true then ((laws_markMachine.f k x656000 x656001 x656002 x656003 x656004 x656005 x656006 x656007 1).bind fun bt680 => (if bt680.1 < 0 then (laws_FnExactRefillMachine.j1 k x1 x2 x9 true x622000 x622001 x622002 x622003 x622004 x622005 x622006 x622007 x645000 x645001 x645002 x645003 x645004 x645005 x645006 x645007 x668000 x668001 x668002 x668003 x668004 x668005 x668006 x668007) else ((laws_eqMachine.f k x668000 x668001 x668002 x668003 x668004 x668005 x668006 x668007 x645000 x645001 x645002 x645003 x645004 x645005 x645006 x645007).bind fun t682 => (if t682 = true then (laws_FnExactRefillMachine.j1 k x1 x2 x9 (x12 != x9) x622000 x622001 x622002 x622003 x622004 x622005 x622006 x622007 x645000 x645001 x645002 x645003 x645004 x645005 x645006 x645007 x668000 x668001 x668002 x668003 x668004 x668005 x668006 x668007) else (laws_FnExactRefillMachine.j1 k x1 x2 x9 true x622000 x622001 x622002 x622003 x622004 x622005 x622006 x622007 x645000 x645001 x645002 x645003 x645004 x645005 x645006 x645007 x668000 x668001 x668002 x668003 x668004 x668005 x668006 x668007))))) else (some false))))
def laws_FnExactRefillMachine.j1 : Nat → Int → Int → Bool → Bool → Int → Int → List (S84) → Int → Int → Int → Int → Int → Int → Int → List (S71) → Int → Int → Int → Int → Int → Int → Int → List (S71) → Int → Int → Int → Int → Int → Option (Bool)
 | 0, _, _, _, _, _, _, _, _, _, _, _, _, _, _, _, _, _, _, _, _, _, _, _, _, _, _, _, _ => none
 | k + 1, x1, x2, x9, x69, x622000, x622001, x622002, x622003, x622004, x622005, x622006, x622007, x645000, x645001, x645002, x645003, x645004, x645005, x645006, x645007, x668000, x668001, x668002, x668003, x668004, x668005, x668006, x668007 => if x69 = true then (some false) else ((laws_markMachine.f k x668000 x668001 x668002 x668003 x668004 x668005 x668006 x668007 1).bind fun bt683 => ((laws_heldMachine.f k x668000 x668001 bt683.2 x668003 x668004 x668005 x668006 x668007 1).bind fun t685 => (if t685 < 0 then (some false) else (if t685 = bt683.1 then ((laws_toMachine.f k x622000 x622001 x622002 x622003 x622004 x622005 x622006 x622007).bind fun bt686 => ((impl_RefillMachine.f k bt686.1 bt686.2.1 bt686.2.2.1 bt686.2.2.2.1 bt686.2.2.2.2.1 bt686.2.2.2.2.2.1 bt686.2.2.2.2.2.2.1 bt686.2.2.2.2.2.2.2 x1 x2).bind fun bt696 => ((laws_eqMachine.f k bt696.1 bt696.2.1 bt696.2.2.1 bt696.2.2.2.1 bt696.2.2.2.2.1 bt696.2.2.2.2.2.1 bt696.2.2.2.2.2.2.1 bt696.2.2.2.2.2.2.2.1 x645000 x645001 x645002 x645003 x645004 x645005 x645006 x645007).bind fun t708 => (if t708 = true then (laws_FnExactRefillMachine.j2 k bt683.1 (bt696.2.2.2.2.2.2.2.2 != x9) x668000 x668001 bt683.2 x668003 x668004 x668005 x668006 x668007) else (laws_FnExactRefillMachine.j2 k bt683.1 true x668000 x668001 bt683.2 x668003 x668004 x668005 x668006 x668007))))) else (some false)))))
def laws_FnExactRefillMachine.j2 : Nat → Int → Bool → Int → Int → List (S71) → Int → Int → Int → Int → Int → Option (Bool)
 | 0, _, _, _, _, _, _, _, _, _, _ => none
 | k + 1, x14, x97, x668000, x668001, x668002, x668003, x668004, x668005, x668006, x668007 => if x97 = true then (some false) else ((laws_heldMachine.f k x668000 x668001 x668002 x668003 x668004 x668005 x668006 x668007 1).bind fun t709 => (if t709 < 0 then (some false) else (if t709 = x14 then (some true) else (some false))))
end
def laws_FnExactRefillMachine.f (k : Nat) (a0_0 : Int) (a0_1 : Int) (l0_2 : List (S84)) (a0_3 : Int) (a0_4 : Int) (a0_5 : Int) (a0_6 : Int) (a0_7 : Int) (a1 : Int) (a2 : Int) : Option (Bool) := (laws_szMachine.f a0_0 a0_1 l0_2 a0_3 a0_4 a0_5 a0_6 a0_7 1048576).bind fun t622 => (if t622 < 0 then (some true) else ((laws_toMachine.f k a0_0 a0_1 l0_2 a0_3 a0_4 a0_5 a0_6 a0_7).bind fun bt623 => ((spec_RefillMachine.f k bt623.1 bt623.2.1 bt623.2.2.1 bt623.2.2.2.1 bt623.2.2.2.2.1 bt623.2.2.2.2.2.1 bt623.2.2.2.2.2.2.1 bt623.2.2.2.2.2.2.2 a1 a2).bind fun bt633 => ((laws_toMachine.f k a0_0 a0_1 l0_2 a0_3 a0_4 a0_5 a0_6 a0_7).bind fun bt645 => ((impl_RefillMachine.f k bt645.1 bt645.2.1 bt645.2.2.1 bt645.2.2.2.1 bt645.2.2.2.2.1 bt645.2.2.2.2.2.1 bt645.2.2.2.2.2.2.1 bt645.2.2.2.2.2.2.2 a1 a2).bind fun bt656 => ((laws_eqMachine.f k bt656.1 bt656.2.1 bt656.2.2.1 bt656.2.2.2.1 bt656.2.2.2.2.1 bt656.2.2.2.2.2.1 bt656.2.2.2.2.2.2.1 bt656.2.2.2.2.2.2.2.1 bt633.1 bt633.2.1 bt633.2.2.1 bt633.2.2.2.1 bt633.2.2.2.2.1 bt633.2.2.2.2.2.1 bt633.2.2.2.2.2.2.1 bt633.2.2.2.2.2.2.2.1).bind fun t668 => (if t668 = true then (laws_FnExactRefillMachine.j0 k a1 a2 bt633.2.2.2.2.2.2.2.2 bt656.2.2.2.2.2.2.2.2 (bt656.2.2.2.2.2.2.2.2 != bt633.2.2.2.2.2.2.2.2) a0_0 a0_1 l0_2 a0_3 a0_4 a0_5 a0_6 a0_7 bt633.1 bt633.2.1 bt633.2.2.1 bt633.2.2.2.1 bt633.2.2.2.2.1 bt633.2.2.2.2.2.1 bt633.2.2.2.2.2.2.1 bt633.2.2.2.2.2.2.2.1 bt645.1 bt645.2.1 bt645.2.2.1 bt645.2.2.2.1 bt645.2.2.2.2.1 bt645.2.2.2.2.2.1 bt645.2.2.2.2.2.2.1 bt645.2.2.2.2.2.2.2 bt656.1 bt656.2.1 bt656.2.2.1 bt656.2.2.2.1 bt656.2.2.2.2.1 bt656.2.2.2.2.2.1 bt656.2.2.2.2.2.2.1 bt656.2.2.2.2.2.2.2.1) else (laws_FnExactRefillMachine.j0 k a1 a2 bt633.2.2.2.2.2.2.2.2 bt656.2.2.2.2.2.2.2.2 true a0_0 a0_1 l0_2 a0_3 a0_4 a0_5 a0_6 a0_7 bt633.1 bt633.2.1 bt633.2.2.1 bt633.2.2.2.1 bt633.2.2.2.2.1 bt633.2.2.2.2.2.1 bt633.2.2.2.2.2.2.1 bt633.2.2.2.2.2.2.2.1 bt645.1 bt645.2.1 bt645.2.2.1 bt645.2.2.2.1 bt645.2.2.2.2.1 bt645.2.2.2.2.2.1 bt645.2.2.2.2.2.2.1 bt645.2.2.2.2.2.2.2 bt656.1 bt656.2.1 bt656.2.2.1 bt656.2.2.2.1 bt656.2.2.2.2.1 bt656.2.2.2.2.2.1 bt656.2.2.2.2.2.2.1 bt656.2.2.2.2.2.2.2.1))))))))
theorem laws_FnExactRefillMachine.bad_j0 (k : Nat) (y0 : Int) (y1 : Int) (y2 : Bool) (y3 : Bool) (y5 : Int) (y6 : Int) (y7 : List (S84)) (y8 : Int) (y9 : Int) (y10 : Int) (y11 : Int) (y12 : Int) (y13 : Int) (y14 : Int) (y15 : List (S71)) (y16 : Int) (y17 : Int) (y18 : Int) (y19 : Int) (y20 : Int) (y21 : Int) (y22 : Int) (y23 : List (S71)) (y24 : Int) (y25 : Int) (y26 : Int) (y27 : Int) (y28 : Int) (y29 : Int) (y30 : Int) (y31 : List (S71)) (y32 : Int) (y33 : Int) (y34 : Int) (y35 : Int) (y36 : Int) : ¬ laws_FnExactRefillMachine.j0 k y0 y1 y2 y3 true y5 y6 y7 y8 y9 y10 y11 y12 y13 y14 y15 y16 y17 y18 y19 y20 y21 y22 y23 y24 y25 y26 y27 y28 y29 y30 y31 y32 y33 y34 y35 y36 = some true := by
 cases k <;> simp [laws_FnExactRefillMachine.j0]
theorem laws_FnExactRefillMachine.bad_j1 (k : Nat) (y0 : Int) (y1 : Int) (y2 : Bool) (y4 : Int) (y5 : Int) (y6 : List (S84)) (y7 : Int) (y8 : Int) (y9 : Int) (y10 : Int) (y11 : Int) (y12 : Int) (y13 : Int) (y14 : List (S71)) (y15 : Int) (y16 : Int) (y17 : Int) (y18 : Int) (y19 : Int) (y20 : Int) (y21 : Int) (y22 : List (S71)) (y23 : Int) (y24 : Int) (y25 : Int) (y26 : Int) (y27 : Int) : ¬ laws_FnExactRefillMachine.j1 k y0 y1 y2 true y4 y5 y6 y7 y8 y9 y10 y11 y12 y13 y14 y15 y16 y17 y18 y19 y20 y21 y22 y23 y24 y25 y26 y27 = some true := by
 cases k <;> simp [laws_FnExactRefillMachine.j1]
theorem laws_FnExactRefillMachine.bad_j2 (k : Nat) (y0 : Int) (y2 : Int) (y3 : Int) (y4 : List (S71)) (y5 : Int) (y6 : Int) (y7 : Int) (y8 : Int) (y9 : Int) : ¬ laws_FnExactRefillMachine.j2 k y0 true y2 y3 y4 y5 y6 y7 y8 y9 = some true := by
 cases k <;> simp [laws_FnExactRefillMachine.j2]
set_option maxHeartbeats 8000000 in
set_option maxRecDepth 100000 in
theorem laws_FnExactRefillMachine.calls (k : Nat) (a0_0 : Int) (a0_1 : Int) (A0_2 : Option Addr) (c0_2 : Nat) (l0_2 : List (S84)) (a0_3 : Int) (a0_4 : Int) (a0_5 : Int) (a0_6 : Int) (a0_7 : Int) (a1 : Int) (a2 : Int) (w : World) (hr0_2 : Kd.C k84 w A0_2 l0_2.length l0_2) (hc0_2 : l0_2.length ≤ c0_2) (h : laws_FnExactRefillMachine.f k a0_0 a0_1 l0_2 a0_3 a0_4 a0_5 a0_6 a0_7 a1 a2 = some true) :
 Calls Try.prog 14 #[.agg #[.int .i64 a0_0, .int .i64 a0_1, .slice A0_2 l0_2.length c0_2, .int .i64 a0_3, .int .i64 a0_4, .int .i64 a0_5, .int .i64 a0_6, .int .i64 a0_7], .int .i64 a1, .int .i64 a2] w fun e w' => e = .returned (.bool true) ∧ Below w.heap.size w w' := by
 have KC := Try.underlying52
 have KD := Try.underlying55
 have Bu := Z.m hr0_2
 have Bt := Z.m hc0_2
 clear hr0_2 hc0_2
 have HB := Z.m (Below.refl w.heap.size w)
 have H : ((laws_szMachine.f a0_0 a0_1 l0_2 a0_3 a0_4 a0_5 a0_6 a0_7 1048576).bind fun BE => (if BE < 0 then (some true) else ((laws_toMachine.f k a0_0 a0_1 l0_2 a0_3 a0_4 a0_5 a0_6 a0_7).bind fun bt623 => ((spec_RefillMachine.f k bt623.1 bt623.2.1 bt623.2.2.1 bt623.2.2.2.1 bt623.2.2.2.2.1 bt623.2.2.2.2.2.1 bt623.2.2.2.2.2.2.1 bt623.2.2.2.2.2.2.2 a1 a2).bind fun bt633 => ((laws_toMachine.f k a0_0 a0_1 l0_2 a0_3 a0_4 a0_5 a0_6 a0_7).bind fun bt645 => ((impl_RefillMachine.f k bt645.1 bt645.2.1 bt645.2.2.1 bt645.2.2.2.1 bt645.2.2.2.2.1 bt645.2.2.2.2.2.1 bt645.2.2.2.2.2.2.1 bt645.2.2.2.2.2.2.2 a1 a2).bind fun bt656 => ((laws_eqMachine.f k bt656.1 bt656.2.1 bt656.2.2.1 bt656.2.2.2.1 bt656.2.2.2.2.1 bt656.2.2.2.2.2.1 bt656.2.2.2.2.2.2.1 bt656.2.2.2.2.2.2.2.1 bt633.1 bt633.2.1 bt633.2.2.1 bt633.2.2.2.1 bt633.2.2.2.2.1 bt633.2.2.2.2.2.1 bt633.2.2.2.2.2.2.1 bt633.2.2.2.2.2.2.2.1).bind fun Bc => (if Bc = true then (laws_FnExactRefillMachine.j0 k a1 a2 bt633.2.2.2.2.2.2.2.2 bt656.2.2.2.2.2.2.2.2 (bt656.2.2.2.2.2.2.2.2 != bt633.2.2.2.2.2.2.2.2) a0_0 a0_1 l0_2 a0_3 a0_4 a0_5 a0_6 a0_7 bt633.1 bt633.2.1 bt633.2.2.1 bt633.2.2.2.1 bt633.2.2.2.2.1 bt633.2.2.2.2.2.1 bt633.2.2.2.2.2.2.1 bt633.2.2.2.2.2.2.2.1 bt645.1 bt645.2.1 bt645.2.2.1 bt645.2.2.2.1 bt645.2.2.2.2.1 bt645.2.2.2.2.2.1 bt645.2.2.2.2.2.2.1 bt645.2.2.2.2.2.2.2 bt656.1 bt656.2.1 bt656.2.2.1 bt656.2.2.2.1 bt656.2.2.2.2.1 bt656.2.2.2.2.2.1 bt656.2.2.2.2.2.2.1 bt656.2.2.2.2.2.2.2.1) else (laws_FnExactRefillMachine.j0 k a1 a2 bt633.2.2.2.2.2.2.2.2 bt656.2.2.2.2.2.2.2.2 true a0_0 a0_1 l0_2 a0_3 a0_4 a0_5 a0_6 a0_7 bt633.1 bt633.2.1 bt633.2.2.1 bt633.2.2.2.1 bt633.2.2.2.2.1 bt633.2.2.2.2.2.1 bt633.2.2.2.2.2.2.1 bt633.2.2.2.2.2.2.2.1 bt645.1 bt645.2.1 bt645.2.2.1 bt645.2.2.2.1 bt645.2.2.2.2.1 bt645.2.2.2.2.2.1 bt645.2.2.2.2.2.2.1 bt645.2.2.2.2.2.2.2 bt656.1 bt656.2.1 bt656.2.2.1 bt656.2.2.2.1 bt656.2.2.2.2.1 bt656.2.2.2.2.2.1 bt656.2.2.2.2.2.2.1 bt656.2.2.2.2.2.2.2.1))))))))) = some true := h
 clear h
 replace H := Option.bind_eq_some_iff.mp H
 obtain ⟨BE, JL, H⟩ := H
 replace H : (if BE < 0 then (some true) else ((laws_toMachine.f k a0_0 a0_1 l0_2 a0_3 a0_4 a0_5 a0_6 a0_7).bind fun bt623 => ((spec_RefillMachine.f k bt623.1 bt623.2.1 bt623.2.2.1 bt623.2.2.2.1 bt623.2.2.2.2.1 bt623.2.2.2.2.2.1 bt623.2.2.2.2.2.2.1 bt623.2.2.2.2.2.2.2 a1 a2).bind fun bt633 => ((laws_toMachine.f k a0_0 a0_1 l0_2 a0_3 a0_4 a0_5 a0_6 a0_7).bind fun bt645 => ((impl_RefillMachine.f k bt645.1 bt645.2.1 bt645.2.2.1 bt645.2.2.2.1 bt645.2.2.2.2.1 bt645.2.2.2.2.2.1 bt645.2.2.2.2.2.2.1 bt645.2.2.2.2.2.2.2 a1 a2).bind fun bt656 => ((laws_eqMachine.f k bt656.1 bt656.2.1 bt656.2.2.1 bt656.2.2.2.1 bt656.2.2.2.2.1 bt656.2.2.2.2.2.1 bt656.2.2.2.2.2.2.1 bt656.2.2.2.2.2.2.2.1 bt633.1 bt633.2.1 bt633.2.2.1 bt633.2.2.2.1 bt633.2.2.2.2.1 bt633.2.2.2.2.2.1 bt633.2.2.2.2.2.2.1 bt633.2.2.2.2.2.2.2.1).bind fun Bc => (if Bc = true then (laws_FnExactRefillMachine.j0 k a1 a2 bt633.2.2.2.2.2.2.2.2 bt656.2.2.2.2.2.2.2.2 (bt656.2.2.2.2.2.2.2.2 != bt633.2.2.2.2.2.2.2.2) a0_0 a0_1 l0_2 a0_3 a0_4 a0_5 a0_6 a0_7 bt633.1 bt633.2.1 bt633.2.2.1 bt633.2.2.2.1 bt633.2.2.2.2.1 bt633.2.2.2.2.2.1 bt633.2.2.2.2.2.2.1 bt633.2.2.2.2.2.2.2.1 bt645.1 bt645.2.1 bt645.2.2.1 bt645.2.2.2.1 bt645.2.2.2.2.1 bt645.2.2.2.2.2.1 bt645.2.2.2.2.2.2.1 bt645.2.2.2.2.2.2.2 bt656.1 bt656.2.1 bt656.2.2.1 bt656.2.2.2.1 bt656.2.2.2.2.1 bt656.2.2.2.2.2.1 bt656.2.2.2.2.2.2.1 bt656.2.2.2.2.2.2.2.1) else (laws_FnExactRefillMachine.j0 k a1 a2 bt633.2.2.2.2.2.2.2.2 bt656.2.2.2.2.2.2.2.2 true a0_0 a0_1 l0_2 a0_3 a0_4 a0_5 a0_6 a0_7 bt633.1 bt633.2.1 bt633.2.2.1 bt633.2.2.2.1 bt633.2.2.2.2.1 bt633.2.2.2.2.2.1 bt633.2.2.2.2.2.2.1 bt633.2.2.2.2.2.2.2.1 bt645.1 bt645.2.1 bt645.2.2.1 bt645.2.2.2.1 bt645.2.2.2.2.1 bt645.2.2.2.2.2.1 bt645.2.2.2.2.2.2.1 bt645.2.2.2.2.2.2.2 bt656.1 bt656.2.1 bt656.2.2.1 bt656.2.2.2.1 bt656.2.2.2.2.1 bt656.2.2.2.2.2.1 bt656.2.2.2.2.2.2.1 bt656.2.2.2.2.2.2.2.1)))))))) = some true := H
 have A4 := Z.m JL
 clear JL
 by_cases c5 : BE < 0
 ·rw [if_pos c5] at H
  have FJ := decide_eq_true c5
  clear c5
  clear H
  go_enter Try.func14, Try.ntmps14
  go_wp2_with (first | ((with_reducible refine gq (N := 3) rfl ?_); refine be (N := 3) (cs := #[.int .i64 a0_0, .int .i64 a0_1, .slice A0_2 l0_2.length c0_2, .int .i64 a0_3, .int .i64 a0_4, .int .i64 a0_5, .int .i64 a0_6, .int .i64 a0_7]) (t := 52) ?_; intro AL hg w6 hbox hb; have A0 := Z.m (hbox); have BS := gW (w := w) HB hg; have BR := BS; replace HB := bB HB hb; clear hb hbox hg; have HR := bc0 A0; have HS := bc1 A0; have HT := bc2 A0; have HU := bc3 A0; have HV := bc4 A0; have HW := bc5 A0; have HX := bc6 A0; have HY := bc7 A0; have HZ := qz A0.o 0; have J0 := qz A0.o 1; have J1 := qz A0.o 2; have J2 := qz A0.o 3; have J3 := qz A0.o 4; have J4 := qz A0.o 5; have J5 := qz A0.o 6; have J6 := qz A0.o 7) | ((with_reducible refine gc (f := 45) rfl ?_); refine gA (some 20) _ #[.agg #[.int .i64 a0_0, .int .i64 a0_1, .slice A0_2 l0_2.length c0_2, .int .i64 a0_3, .int .i64 a0_4, .int .i64 a0_5, .int .i64 a0_6, .int .i64 a0_7], .int .i64 1048576] ?_ Try.func45; (with_reducible refine (laws_szMachine.calls a0_0 a0_1 _ _ l0_2 a0_3 a0_4 a0_5 a0_6 a0_7 1048576 BE _ ?side1 ?side2 A4.o).mono ?_); (case side1 => repeat (first | exact (Kd.C_below Bu.o HB.o) | (with_reducible refine Kd.C_alloc ?_ _) | (with_reducible refine Kd.C_drewN ?_ _) | (with_reducible refine Kd.C_drew ?_))); (case side2 => exact Bt.o); rintro e w8 ⟨rfl, hb⟩; refine ⟨_, rfl, ?_⟩; replace A0 := kB A0 hb; replace HB := bB HB hb; (try clear hb); (try clear BP); (try clear hk); (try clear hi)))
  go_ret
  exact ⟨by first | rfl | (simp [eN, eS] <;> rfl) | (simp [*, eN, eS] <;> rfl), vB HB⟩
 ·rw [if_neg c5] at H
  have FJ := decide_eq_false c5
  clear c5
  replace H := Option.bind_eq_some_iff.mp H
  obtain ⟨⟨ET, EU, BD, EV, EW, EX, EY, EZ⟩, JM, H⟩ := H
  replace H : ((spec_RefillMachine.f k ET EU BD EV EW EX EY EZ a1 a2).bind fun bt633 => ((laws_toMachine.f k a0_0 a0_1 l0_2 a0_3 a0_4 a0_5 a0_6 a0_7).bind fun bt645 => ((impl_RefillMachine.f k bt645.1 bt645.2.1 bt645.2.2.1 bt645.2.2.2.1 bt645.2.2.2.2.1 bt645.2.2.2.2.2.1 bt645.2.2.2.2.2.2.1 bt645.2.2.2.2.2.2.2 a1 a2).bind fun bt656 => ((laws_eqMachine.f k bt656.1 bt656.2.1 bt656.2.2.1 bt656.2.2.2.1 bt656.2.2.2.2.1 bt656.2.2.2.2.2.1 bt656.2.2.2.2.2.2.1 bt656.2.2.2.2.2.2.2.1 bt633.1 bt633.2.1 bt633.2.2.1 bt633.2.2.2.1 bt633.2.2.2.2.1 bt633.2.2.2.2.2.1 bt633.2.2.2.2.2.2.1 bt633.2.2.2.2.2.2.2.1).bind fun Bc => (if Bc = true then (laws_FnExactRefillMachine.j0 k a1 a2 bt633.2.2.2.2.2.2.2.2 bt656.2.2.2.2.2.2.2.2 (bt656.2.2.2.2.2.2.2.2 != bt633.2.2.2.2.2.2.2.2) a0_0 a0_1 l0_2 a0_3 a0_4 a0_5 a0_6 a0_7 bt633.1 bt633.2.1 bt633.2.2.1 bt633.2.2.2.1 bt633.2.2.2.2.1 bt633.2.2.2.2.2.1 bt633.2.2.2.2.2.2.1 bt633.2.2.2.2.2.2.2.1 bt645.1 bt645.2.1 bt645.2.2.1 bt645.2.2.2.1 bt645.2.2.2.2.1 bt645.2.2.2.2.2.1 bt645.2.2.2.2.2.2.1 bt645.2.2.2.2.2.2.2 bt656.1 bt656.2.1 bt656.2.2.1 bt656.2.2.2.1 bt656.2.2.2.2.1 bt656.2.2.2.2.2.1 bt656.2.2.2.2.2.2.1 bt656.2.2.2.2.2.2.2.1) else (laws_FnExactRefillMachine.j0 k a1 a2 bt633.2.2.2.2.2.2.2.2 bt656.2.2.2.2.2.2.2.2 true a0_0 a0_1 l0_2 a0_3 a0_4 a0_5 a0_6 a0_7 bt633.1 bt633.2.1 bt633.2.2.1 bt633.2.2.2.1 bt633.2.2.2.2.1 bt633.2.2.2.2.2.1 bt633.2.2.2.2.2.2.1 bt633.2.2.2.2.2.2.2.1 bt645.1 bt645.2.1 bt645.2.2.1 bt645.2.2.2.1 bt645.2.2.2.2.1 bt645.2.2.2.2.2.1 bt645.2.2.2.2.2.2.1 bt645.2.2.2.2.2.2.2 bt656.1 bt656.2.1 bt656.2.2.1 bt656.2.2.2.1 bt656.2.2.2.2.1 bt656.2.2.2.2.2.1 bt656.2.2.2.2.2.2.1 bt656.2.2.2.2.2.2.2.1)))))) = some true := H
  have A9 := Z.m JM
  clear JM
  replace H := Option.bind_eq_some_iff.mp H
  obtain ⟨⟨Al, Am, Aa, An, Ao, Ap, Aq, Ar, As⟩, Fv, H⟩ := H
  replace H : ((laws_toMachine.f k a0_0 a0_1 l0_2 a0_3 a0_4 a0_5 a0_6 a0_7).bind fun bt645 => ((impl_RefillMachine.f k bt645.1 bt645.2.1 bt645.2.2.1 bt645.2.2.2.1 bt645.2.2.2.2.1 bt645.2.2.2.2.2.1 bt645.2.2.2.2.2.2.1 bt645.2.2.2.2.2.2.2 a1 a2).bind fun bt656 => ((laws_eqMachine.f k bt656.1 bt656.2.1 bt656.2.2.1 bt656.2.2.2.1 bt656.2.2.2.2.1 bt656.2.2.2.2.2.1 bt656.2.2.2.2.2.2.1 bt656.2.2.2.2.2.2.2.1 Al Am Aa An Ao Ap Aq Ar).bind fun Bc => (if Bc = true then (laws_FnExactRefillMachine.j0 k a1 a2 As bt656.2.2.2.2.2.2.2.2 (bt656.2.2.2.2.2.2.2.2 != As) a0_0 a0_1 l0_2 a0_3 a0_4 a0_5 a0_6 a0_7 Al Am Aa An Ao Ap Aq Ar bt645.1 bt645.2.1 bt645.2.2.1 bt645.2.2.2.1 bt645.2.2.2.2.1 bt645.2.2.2.2.2.1 bt645.2.2.2.2.2.2.1 bt645.2.2.2.2.2.2.2 bt656.1 bt656.2.1 bt656.2.2.1 bt656.2.2.2.1 bt656.2.2.2.2.1 bt656.2.2.2.2.2.1 bt656.2.2.2.2.2.2.1 bt656.2.2.2.2.2.2.2.1) else (laws_FnExactRefillMachine.j0 k a1 a2 As bt656.2.2.2.2.2.2.2.2 true a0_0 a0_1 l0_2 a0_3 a0_4 a0_5 a0_6 a0_7 Al Am Aa An Ao Ap Aq Ar bt645.1 bt645.2.1 bt645.2.2.1 bt645.2.2.2.1 bt645.2.2.2.2.1 bt645.2.2.2.2.2.1 bt645.2.2.2.2.2.2.1 bt645.2.2.2.2.2.2.2 bt656.1 bt656.2.1 bt656.2.2.1 bt656.2.2.2.1 bt656.2.2.2.2.1 bt656.2.2.2.2.2.1 bt656.2.2.2.2.2.2.1 bt656.2.2.2.2.2.2.2.1))))) = some true := H
  have Ks := Z.m Fv
  clear Fv
  replace H := Option.bind_eq_some_iff.mp H
  obtain ⟨⟨Ay, Az, At, AA, AB, AC, AD, AE⟩, Fw, H⟩ := H
  replace H : ((impl_RefillMachine.f k Ay Az At AA AB AC AD AE a1 a2).bind fun bt656 => ((laws_eqMachine.f k bt656.1 bt656.2.1 bt656.2.2.1 bt656.2.2.2.1 bt656.2.2.2.2.1 bt656.2.2.2.2.2.1 bt656.2.2.2.2.2.2.1 bt656.2.2.2.2.2.2.2.1 Al Am Aa An Ao Ap Aq Ar).bind fun Bc => (if Bc = true then (laws_FnExactRefillMachine.j0 k a1 a2 As bt656.2.2.2.2.2.2.2.2 (bt656.2.2.2.2.2.2.2.2 != As) a0_0 a0_1 l0_2 a0_3 a0_4 a0_5 a0_6 a0_7 Al Am Aa An Ao Ap Aq Ar Ay Az At AA AB AC AD AE bt656.1 bt656.2.1 bt656.2.2.1 bt656.2.2.2.1 bt656.2.2.2.2.1 bt656.2.2.2.2.2.1 bt656.2.2.2.2.2.2.1 bt656.2.2.2.2.2.2.2.1) else (laws_FnExactRefillMachine.j0 k a1 a2 As bt656.2.2.2.2.2.2.2.2 true a0_0 a0_1 l0_2 a0_3 a0_4 a0_5 a0_6 a0_7 Al Am Aa An Ao Ap Aq Ar Ay Az At AA AB AC AD AE bt656.1 bt656.2.1 bt656.2.2.1 bt656.2.2.2.1 bt656.2.2.2.2.1 bt656.2.2.2.2.2.1 bt656.2.2.2.2.2.2.1 bt656.2.2.2.2.2.2.2.1)))) = some true := H
  have Kt := Z.m Fw
  clear Fw
  replace H := Option.bind_eq_some_iff.mp H
  obtain ⟨⟨Ad, Ae, Ac, Af, Ag, Ah, Ai, Aj, AX⟩, Fx, H⟩ := H
  replace H : ((laws_eqMachine.f k Ad Ae Ac Af Ag Ah Ai Aj Al Am Aa An Ao Ap Aq Ar).bind fun Bc => (if Bc = true then (laws_FnExactRefillMachine.j0 k a1 a2 As AX (AX != As) a0_0 a0_1 l0_2 a0_3 a0_4 a0_5 a0_6 a0_7 Al Am Aa An Ao Ap Aq Ar Ay Az At AA AB AC AD AE Ad Ae Ac Af Ag Ah Ai Aj) else (laws_FnExactRefillMachine.j0 k a1 a2 As AX true a0_0 a0_1 l0_2 a0_3 a0_4 a0_5 a0_6 a0_7 Al Am Aa An Ao Ap Aq Ar Ay Az At AA AB AC AD AE Ad Ae Ac Af Ag Ah Ai Aj))) = some true := H
  have Ku := Z.m Fx
  clear Fx
  have Fo := Z.m H
  clear H
  go_enter Try.func14, Try.ntmps14
  go_upto_region 8 with (first | ((with_reducible refine gq (N := 3) rfl ?_); refine be (N := 3) (cs := #[.int .i64 a0_0, .int .i64 a0_1, .slice A0_2 l0_2.length c0_2, .int .i64 a0_3, .int .i64 a0_4, .int .i64 a0_5, .int .i64 a0_6, .int .i64 a0_7]) (t := 52) ?_; intro AL hg KS hbox hb; have A0 := Z.m (hbox); have BS := gW (w := w) HB hg; have BR := BS; replace HB := bB HB hb; clear hb hbox hg; have D3 := bc0 A0; have D4 := bc1 A0; have D5 := bc2 A0; have D6 := bc3 A0; have D7 := bc4 A0; have D8 := bc5 A0; have D9 := bc6 A0; have Da := bc7 A0; have DX := qz A0.o 0; have DY := qz A0.o 1; have DZ := qz A0.o 2; have E0 := qz A0.o 3; have E1 := qz A0.o 4; have E2 := qz A0.o 5; have E3 := qz A0.o 6; have E4 := qz A0.o 7) | ((with_reducible refine gc (f := 45) rfl ?_); refine gA (some 20) _ #[.agg #[.int .i64 a0_0, .int .i64 a0_1, .slice A0_2 l0_2.length c0_2, .int .i64 a0_3, .int .i64 a0_4, .int .i64 a0_5, .int .i64 a0_6, .int .i64 a0_7], .int .i64 1048576] ?_ Try.func45; (with_reducible refine (laws_szMachine.calls a0_0 a0_1 _ _ l0_2 a0_3 a0_4 a0_5 a0_6 a0_7 1048576 BE _ ?side1 ?side2 A4.o).mono ?_); (case side1 => repeat (first | exact (Kd.C_below Bu.o HB.o) | (with_reducible refine Kd.C_alloc ?_ _) | (with_reducible refine Kd.C_drewN ?_ _) | (with_reducible refine Kd.C_drew ?_))); (case side2 => exact Bt.o); rintro e KT ⟨rfl, hb⟩; refine ⟨_, rfl, ?_⟩; replace A0 := kB A0 hb; replace HB := bB HB hb; (try clear hb); (try clear BP); (try clear hk); (try clear hi); have Db := bc0 A0; have Dc := bc1 A0; have Dd := bc2 A0; have De := bc3 A0; have Df := bc4 A0; have Dg := bc5 A0; have Dh := bc6 A0; have Di := bc7 A0; have E5 := qz A0.o 0; have E6 := qz A0.o 1; have E7 := qz A0.o 2; have E8 := qz A0.o 3; have E9 := qz A0.o 4; have Ea := qz A0.o 5; have Eb := qz A0.o 6; have Ec := qz A0.o 7) | ((with_reducible refine gc (f := 47) rfl ?_); refine gA (some 25) _ #[.agg #[.int .i64 a0_0, .int .i64 a0_1, .slice A0_2 l0_2.length c0_2, .int .i64 a0_3, .int .i64 a0_4, .int .i64 a0_5, .int .i64 a0_6, .int .i64 a0_7]] ?_ Try.func47; (with_reducible refine (laws_toMachine.calls k a0_0 a0_1 _ _ l0_2 a0_3 a0_4 a0_5 a0_6 a0_7 ET EU BD EV EW EX EY EZ _ ?side1 ?side2 A9.o).mono ?_); (case side1 => repeat (first | exact (Kd.C_below Bu.o HB.o) | (with_reducible refine Kd.C_alloc ?_ _) | (with_reducible refine Kd.C_drewN ?_ _) | (with_reducible refine Kd.C_drew ?_))); (case side2 => exact Bt.o); rintro e KU ⟨KE, rfl, AZ, hb⟩; refine ⟨_, rfl, ?_⟩; have Av := Z.m (Kd.R_lower AZ (below_size (vB HB))); replace A0 := kB A0 hb; replace HB := bB HB hb; (try clear hb); (try clear BP); (try clear hk); (try clear hi); (try clear AZ); obtain ⟨D1, D2, HN⟩ := Kd.R_slice Av.o; subst HN) | ((with_reducible refine gc (f := 46) rfl ?_); refine gA (some 28) _ #[.agg #[.int .i64 ET, .int .i64 EU, .slice D1 BD.length D2, .int .i64 EV, .int .i64 EW, .int .i64 EX, .int .i64 EY, .int .i64 EZ], .int .i64 a1, .int .i64 a2] ?_ Try.func46; (with_reducible refine (spec_RefillMachine.calls k ET EU _ _ BD EV EW EX EY EZ a1 a2 Al Am Aa An Ao Ap Aq Ar As _ ?side1 ?side2 Ks.o).mono ?_); (case side1 => repeat (first | exact (Kd.RrZ Av.o).2.2 | (with_reducible refine Kd.C_alloc ?_ _) | (with_reducible refine Kd.C_drewN ?_ _) | (with_reducible refine Kd.C_drew ?_))); (case side2 => exact (Kd.RrZ Av.o).2.1); rintro e KV ⟨KF, rfl, AZ, hb⟩; refine ⟨_, rfl, ?_⟩; have AG := Z.m (Kd.R_lower (Kd.R_new' AZ (Kd.R_lt (vR Av))) (below_size (vB HB))); replace Av := Z.m (Kd.R_elder' (vR Av) (Kd.R_base AZ) hb); replace A0 := kB A0 hb; replace HB := bB HB hb; (try clear hb); (try clear BP); (try clear hk); (try clear hi); (try clear AZ)) | ((with_reducible refine gq (N := 8) rfl ?_); refine be (N := 8) (cs := #[.int .i64 0, .int .i64 0, .slice none 0 0, .int .i64 0, .int .i64 0, .int .i64 0, .int .i64 0, .int .i64 0]) (t := 55) ?_; intro Br hg KW hbox hb; have A2 := Z.m (hbox); have FF := gW (w := w) HB hg; have Fi := FF; have AM := neL A0 hg; have AU := neG A0 hg; replace Av := Z.m (Kd.Rb (vR Av) hb); replace AG := Z.m (Kd.Rb (vR AG) hb); replace A0 := kB A0 hb; replace HB := bB HB hb; clear hb hbox hg; have JP := AU.o; have K8 := AM.o; have Dj := bc0 A2; have Dk := bc1 A2; have Dl := bc2 A2; have Dm := bc3 A2; have Dn := bc4 A2; have Do := bc5 A2; have Dp := bc6 A2; have Dq := bc7 A2; have Ed := qz A2.o 0; have Ee := qz A2.o 1; have Ef := qz A2.o 2; have Eg := qz A2.o 3; have Eh := qz A2.o 4; have Ei := qz A2.o 5; have Ej := qz A2.o 6; have Ek := qz A2.o 7; obtain ⟨AK, AJ, HO⟩ := Kd.R_slice AG.o; subst HO; have Dr := bc0 A0; have Ds := bc1 A0; have Dt := bc2 A0; have Du := bc3 A0; have Dv := bc4 A0; have Dw := bc5 A0; have Dx := bc6 A0; have Dy := bc7 A0; have El := qz A0.o 0; have Em := qz A0.o 1; have En := qz A0.o 2; have Eo := qz A0.o 3; have Ep := qz A0.o 4; have Er := qz A0.o 5; have Es := qz A0.o 6; have Et := qz A0.o 7) | ((with_reducible refine gc (f := 47) rfl ?_); refine gA (some 32) _ #[.agg #[.int .i64 a0_0, .int .i64 a0_1, .slice A0_2 l0_2.length c0_2, .int .i64 a0_3, .int .i64 a0_4, .int .i64 a0_5, .int .i64 a0_6, .int .i64 a0_7]] ?_ Try.func47; (with_reducible refine (laws_toMachine.calls k a0_0 a0_1 _ _ l0_2 a0_3 a0_4 a0_5 a0_6 a0_7 Ay Az At AA AB AC AD AE _ ?side1 ?side2 Kt.o).mono ?_); (case side1 => exact Kd.C_below Bu.o (vB HB)); (case side2 => exact Bt.o); rintro e KX ⟨KG, rfl, AZ, hb⟩; refine ⟨_, rfl, ?_⟩; have AT := Z.m (Kd.R_lower (Kd.R_new' (Kd.R_new' AZ (Kd.R_lt (by refine rK ?_; exact (Kd.Rm (rf (rf (rf (rf (rf (rf (rf (rf (Kd.Ry Av.o A2.o (by decide)))))))))) (fun _ h_ => h_.1))))) (Kd.R_lt (by refine rK ?_; exact (Kd.Rm (rf (rf (rf (rf (rf (rf (rf (rf (Kd.Ry AG.o A2.o (by decide)))))))))) (fun _ h_ => h_.1))))) (below_size (vB HB))); replace Av := Z.m (Kd.R_elder' (by refine rK ?_; exact (Kd.Rm (rf (rf (rf (rf (rf (rf (rf (rf (Kd.Ry Av.o A2.o (by decide)))))))))) (fun _ h_ => h_.1))) (Kd.R_base AZ) hb); replace AG := Z.m (Kd.R_elder' (by refine rK ?_; exact (Kd.Rm (rf (rf (rf (rf (rf (rf (rf (rf (Kd.Ry AG.o A2.o (by decide)))))))))) (fun _ h_ => h_.1))) (Kd.R_base AZ) hb); replace A0 := Z.m (qb (g := AL) (o := .cells #[.int .i64 a0_0, .int .i64 a0_1, .slice A0_2 l0_2.length c0_2, .int .i64 a0_3, .int .i64 a0_4, .int .i64 a0_5, .int .i64 a0_6, .int .i64 a0_7] 52 (0, 0)) (by refine bK ?_; (iterate 8 refine qF ?_ AM); exact A0.o) hb); replace A2 := Z.m (qb (g := Br) (o := .cells #[.int .i64 Al, .int .i64 Am, .slice AK Aa.length AJ, .int .i64 An, .int .i64 Ao, .int .i64 Ap, .int .i64 Aq, .int .i64 Ar] 55 (0, 0)) (by refine bK ?_; apply st8; refine bK ?_; exact A2.o) hb); replace HB := bB HB hb; (try clear hb); (try clear BP); (try clear hk); (try clear hi); (try clear AZ)) | ((with_reducible refine gq (N := 10) rfl ?_); refine be (N := 10) (cs := #[.int .i64 0, .int .i64 0, .slice none 0 0, .int .i64 0, .int .i64 0, .int .i64 0, .int .i64 0, .int .i64 0]) (t := 55) ?_; intro AS hg KY hbox hb; have A5 := Z.m (hbox); have FG := gW (w := w) HB hg; have Fj := FG; have B0 := neL A0 hg; have Bg := neG A0 hg; have AO := neL A2 hg; have AV := neG A2 hg; replace Av := Z.m (Kd.Rb (vR Av) hb); replace AG := Z.m (Kd.Rb (vR AG) hb); replace AT := Z.m (Kd.Rb (vR AT) hb); replace A0 := kB A0 hb; replace A2 := kB A2 hb; replace HB := bB HB hb; clear hb hbox hg; have JQ := Bg.o; have K9 := B0.o; have JR := AV.o; have Ka := AO.o; have Dz := bc0 A5; have DA := bc1 A5; have DB := bc2 A5; have DC := bc3 A5; have DD := bc4 A5; have DE := bc5 A5; have DF := bc6 A5; have DG := bc7 A5; have Eu := qz A5.o 0; have Ew := qz A5.o 1; have Ex := qz A5.o 2; have Ey := qz A5.o 3; have Ez := qz A5.o 4; have EA := qz A5.o 5; have EB := qz A5.o 6; have EC := qz A5.o 7; obtain ⟨Aw, Au, HP⟩ := Kd.R_slice AT.o; subst HP) | ((with_reducible refine gc (f := 48) rfl ?_); refine gA (some 37) _ #[.agg #[.int .i64 Ay, .int .i64 Az, .slice Aw At.length Au, .int .i64 AA, .int .i64 AB, .int .i64 AC, .int .i64 AD, .int .i64 AE], .int .i64 a1, .int .i64 a2] ?_ Try.func48; (with_reducible refine (impl_RefillMachine.calls k Ay Az _ _ At AA AB AC AD AE a1 a2 Ad Ae Ac Af Ag Ah Ai Aj AX _ ?side1 ?side2 Ku.o).mono ?_); (case side1 => refine (Kd.RrZ (e := 71) (base := w.heap.size) (ok := fun k_ => ((True ∧ some k_ ≠ (.slice D1 BD.length D2 : Value).ownBlock) ∧ some k_ ≠ (.slice AK Aa.length AJ : Value).ownBlock)) (n := At.length) (c := Au) ?_).2.2; exact (by refine rK ?_; exact (Kd.Rm (rf (rf (rf (rf (rf (rf (rf (rf (Kd.Ry AT.o A5.o (by decide)))))))))) (fun _ h_ => h_.1)))); (case side2 => exact (Kd.RrZ AT.o).2.1); rintro e KZ ⟨KH, rfl, AZ, hb⟩; refine ⟨_, rfl, ?_⟩; have Bl := Z.m (Kd.R_lower (Kd.R_new' (Kd.R_new' (Kd.R_new' AZ (Kd.R_lt (by refine rK ?_; exact (Kd.Rm (rf (rf (rf (rf (rf (rf (rf (rf (Kd.Ry Av.o A5.o (by decide)))))))))) (fun _ h_ => h_.1))))) (Kd.R_lt (by refine rK ?_; exact (Kd.Rm (rf (rf (rf (rf (rf (rf (rf (rf (Kd.Ry AG.o A5.o (by decide)))))))))) (fun _ h_ => h_.1))))) (Kd.R_lt (by refine rK ?_; exact (Kd.Rm (rf (rf (rf (rf (rf (rf (rf (rf (Kd.Ry AT.o A5.o (by decide)))))))))) (fun _ h_ => h_.1))))) (below_size (vB HB))); replace Av := Z.m (Kd.R_elder' (by refine rK ?_; exact (Kd.Rm (rf (rf (rf (rf (rf (rf (rf (rf (Kd.Ry Av.o A5.o (by decide)))))))))) (fun _ h_ => h_.1))) (Kd.R_base AZ) hb); replace AG := Z.m (Kd.R_elder' (by refine rK ?_; exact (Kd.Rm (rf (rf (rf (rf (rf (rf (rf (rf (Kd.Ry AG.o A5.o (by decide)))))))))) (fun _ h_ => h_.1))) (Kd.R_base AZ) hb); replace AT := Z.m (Kd.R_elder' (by refine rK ?_; exact (Kd.Rm (rf (rf (rf (rf (rf (rf (rf (rf (Kd.Ry AT.o A5.o (by decide)))))))))) (fun _ h_ => h_.1))) (Kd.R_base AZ) hb); replace A0 := Z.m (qb (g := AL) (o := .cells #[.int .i64 a0_0, .int .i64 a0_1, .slice A0_2 l0_2.length c0_2, .int .i64 a0_3, .int .i64 a0_4, .int .i64 a0_5, .int .i64 a0_6, .int .i64 a0_7] 52 (0, 0)) (by refine bK ?_; (iterate 8 refine qF ?_ B0); exact A0.o) hb); replace A2 := Z.m (qb (g := Br) (o := .cells #[.int .i64 Al, .int .i64 Am, .slice AK Aa.length AJ, .int .i64 An, .int .i64 Ao, .int .i64 Ap, .int .i64 Aq, .int .i64 Ar] 55 (0, 0)) (by refine bK ?_; (iterate 8 refine qF ?_ AO); exact A2.o) hb); replace A5 := Z.m (qb (g := AS) (o := .cells #[.int .i64 Ay, .int .i64 Az, .slice Aw At.length Au, .int .i64 AA, .int .i64 AB, .int .i64 AC, .int .i64 AD, .int .i64 AE] 55 (0, 0)) (by refine bK ?_; apply st8; refine bK ?_; exact A5.o) hb); replace HB := bB HB hb; (try clear hb); (try clear BP); (try clear hk); (try clear hi); (try clear AZ)) | ((with_reducible refine gq (N := 11) rfl ?_); refine be (N := 11) (cs := #[.int .i64 0, .int .i64 0, .slice none 0 0, .int .i64 0, .int .i64 0, .int .i64 0, .int .i64 0, .int .i64 0]) (t := 55) ?_; intro BB hg L0 hbox hb; have A1 := Z.m (hbox); have FH := gW (w := w) HB hg; have Fk := FH; have AN := neL A0 hg; have AW := neG A0 hg; have AH := neL A2 hg; have AP := neG A2 hg; have AI := neL A5 hg; have AQ := neG A5 hg; replace Av := Z.m (Kd.Rb (vR Av) hb); replace AG := Z.m (Kd.Rb (vR AG) hb); replace AT := Z.m (Kd.Rb (vR AT) hb); replace Bl := Z.m (Kd.Rb (vR Bl) hb); replace A0 := kB A0 hb; replace A2 := kB A2 hb; replace A5 := kB A5 hb; replace HB := bB HB hb; clear hb hbox hg; have JS := AW.o; have Kb := AN.o; have JT := AP.o; have Kc := AH.o; have JU := AQ.o; have Ke := AI.o; have DH := bc0 A1; have DI := bc1 A1; have DJ := bc2 A1; have DK := bc3 A1; have DL := bc4 A1; have DM := bc5 A1; have DN := bc6 A1; have DO := bc7 A1; have ED := qz A1.o 0; have EE := qz A1.o 1; have EF := qz A1.o 2; have EG := qz A1.o 3; have EH := qz A1.o 4; have EI := qz A1.o 5; have EJ := qz A1.o 6; have EK := qz A1.o 7; obtain ⟨AF, Ax, HQ⟩ := Kd.R_slice Bl.o; subst HQ))
  (try simp only [Act.put, q1, q2, q3])
  go_cut [48] (fun v48 wc => ∃ (kq : Nat) (By : Bool), v48 = .bool By ∧ Z (laws_FnExactRefillMachine.j0 kq a1 a2 As AX By a0_0 a0_1 l0_2 a0_3 a0_4 a0_5 a0_6 a0_7 Al Am Aa An Ao Ap Aq Ar Ay Az At AA AB AC AD AE Ad Ae Ac Af Ag Ah Ai Aj = some true) ∧ Z (kq ≤ k) ∧ Z (Kd.R k71 71 wc w.heap.size (fun k_ => some k_ ≠ ((.slice Aw At.length Au) : Value).ownBlock ∧ some k_ ≠ ((.slice AF Ac.length Ax) : Value).ownBlock) (.slice AK Aa.length AJ) Aa) ∧ Z (Kd.R k71 71 wc w.heap.size (fun k_ => some k_ ≠ ((.slice AK Aa.length AJ) : Value).ownBlock ∧ some k_ ≠ ((.slice AF Ac.length Ax) : Value).ownBlock) (.slice Aw At.length Au) At) ∧ Z (Kd.R k71 71 wc w.heap.size (fun k_ => some k_ ≠ ((.slice AK Aa.length AJ) : Value).ownBlock ∧ some k_ ≠ ((.slice Aw At.length Au) : Value).ownBlock) (.slice AF Ac.length Ax) Ac) ∧ Z (wc.heap[AL]? = some (.cells #[.int .i64 a0_0, .int .i64 a0_1, (.slice A0_2 l0_2.length c0_2), .int .i64 a0_3, .int .i64 a0_4, .int .i64 a0_5, .int .i64 a0_6, .int .i64 a0_7] 52 (0, 0))) ∧ Z (wc.heap[Br]? = some (.cells #[.int .i64 Al, .int .i64 Am, (.slice AK Aa.length AJ), .int .i64 An, .int .i64 Ao, .int .i64 Ap, .int .i64 Aq, .int .i64 Ar] 55 (0, 0))) ∧ Z (wc.heap[AS]? = some (.cells #[.int .i64 Ay, .int .i64 Az, (.slice Aw At.length Au), .int .i64 AA, .int .i64 AB, .int .i64 AC, .int .i64 AD, .int .i64 AE] 55 (0, 0))) ∧ Z (wc.heap[BB]? = some (.cells #[.int .i64 Ad, .int .i64 Ae, (.slice AF Ac.length Ax), .int .i64 Af, .int .i64 Ag, .int .i64 Ah, .int .i64 Ai, .int .i64 Aj] 55 (0, 0))) ∧ Z (Below w.heap.size w wc))
  case first =>
   have H := Fo.o
   clear Fo
   replace H := Option.bind_eq_some_iff.mp H
   obtain ⟨Bc, Fy, H⟩ := H
   replace H : (if Bc = true then (laws_FnExactRefillMachine.j0 k a1 a2 As AX (AX != As) a0_0 a0_1 l0_2 a0_3 a0_4 a0_5 a0_6 a0_7 Al Am Aa An Ao Ap Aq Ar Ay Az At AA AB AC AD AE Ad Ae Ac Af Ag Ah Ai Aj) else (laws_FnExactRefillMachine.j0 k a1 a2 As AX true a0_0 a0_1 l0_2 a0_3 a0_4 a0_5 a0_6 a0_7 Al Am Aa An Ao Ap Aq Ar Ay Az At AA AB AC AD AE Ad Ae Ac Af Ag Ah Ai Aj)) = some true := H
   have Kv := Z.m Fy
   clear Fy
   by_cases c40 : Bc = true
   ·subst c40
    have H1 : (laws_FnExactRefillMachine.j0 k a1 a2 As AX (AX != As) a0_0 a0_1 l0_2 a0_3 a0_4 a0_5 a0_6 a0_7 Al Am Aa An Ao Ap Aq Ar Ay Az At AA AB AC AD AE Ad Ae Ac Af Ag Ah Ai Aj) = some true := by rw [if_pos rfl] at H; exact H
    clear H
    have H := H1
    clear H1
    have H' := Z.m H
    clear H
    have JV := AW.o
    have Kf := AN.o
    have JW := AP.o
    have Kg := AH.o
    have JX := AQ.o
    have Kh := AI.o
    have GB := bc0 A1
    have GC := bc1 A1
    have GD := bc2 A1
    have GE := bc3 A1
    have GF := bc4 A1
    have GG := bc5 A1
    have GH := bc6 A1
    have GI := bc7 A1
    have H8 := qz A1.o 0
    have H9 := qz A1.o 1
    have Ha := qz A1.o 2
    have Hb := qz A1.o 3
    have Hc := qz A1.o 4
    have Hd := qz A1.o 5
    have He := qz A1.o 6
    have Hf := qz A1.o 7
    have JY := AU.o
    have Ki := AM.o
    have JZ := AO.o
    have Kj := AV.o
    have GJ := bc0 A2
    have GK := bc1 A2
    have GL := bc2 A2
    have GM := bc3 A2
    have GN := bc4 A2
    have GO := bc5 A2
    have GP := bc6 A2
    have GQ := bc7 A2
    have Hg := qz A2.o 0
    have Hh := qz A2.o 1
    have Hi := qz A2.o 2
    have Hj := qz A2.o 3
    have Hk := qz A2.o 4
    have Hl := qz A2.o 5
    have Hm := qz A2.o 6
    have Hn := qz A2.o 7
    go_wp2_with (first | ((with_reducible refine gc (f := 49) rfl ?_); refine gA (some 42) _ #[.agg #[.int .i64 Ad, .int .i64 Ae, .slice AF Ac.length Ax, .int .i64 Af, .int .i64 Ag, .int .i64 Ah, .int .i64 Ai, .int .i64 Aj], .agg #[.int .i64 Al, .int .i64 Am, .slice AK Aa.length AJ, .int .i64 An, .int .i64 Ao, .int .i64 Ap, .int .i64 Aq, .int .i64 Ar]] ?_ Try.func49; (with_reducible refine (laws_eqMachine.calls k Ad Ae _ _ Ac Af Ag Ah Ai Aj Al Am _ _ Aa An Ao Ap Aq Ar true _ ?side1 ?side2 ?side3 ?side4 Kv.o).mono ?_); (case side1 => refine (Kd.RrZ (e := 71) (base := w.heap.size) (ok := fun k_ => (((True ∧ some k_ ≠ (.slice D1 BD.length D2 : Value).ownBlock) ∧ some k_ ≠ (.slice AK Aa.length AJ : Value).ownBlock) ∧ some k_ ≠ (.slice Aw At.length Au : Value).ownBlock)) (n := Ac.length) (c := Ax) ?_).2.2; exact (by refine rK ?_; exact (Kd.Rm (rf (rf (rf (rf (rf (rf (rf (rf (Kd.Ry Bl.o A1.o (by decide)))))))))) (fun _ h_ => h_.1)))); (case side2 => exact (Kd.RrZ Bl.o).2.1); (case side3 => refine (Kd.RrZ (e := 71) (base := w.heap.size) (ok := fun k_ => (((True ∧ some k_ ≠ (.slice D1 BD.length D2 : Value).ownBlock) ∧ some k_ ≠ (.slice Aw At.length Au : Value).ownBlock) ∧ some k_ ≠ (.slice AF Ac.length Ax : Value).ownBlock)) (n := Aa.length) (c := AJ) ?_).2.2; exact (by refine rK ?_; exact (Kd.Rm (rf (rf (rf (rf (rf (rf (rf (rf (Kd.Ry AG.o A1.o (by decide)))))))))) (fun _ h_ => h_.1)))); (case side4 => exact (Kd.RrZ AG.o).2.1); rintro e L1 ⟨rfl, hb⟩; refine ⟨_, rfl, ?_⟩; replace Av := Z.m (Kd.Rb (by refine rK ?_; exact (Kd.Rm (rf (rf (rf (rf (rf (rf (rf (rf (Kd.Ry Av.o A1.o (by decide)))))))))) (fun _ h_ => h_.1))) hb); replace AG := Z.m (Kd.Rb (by refine rK ?_; exact (Kd.Rm (rf (rf (rf (rf (rf (rf (rf (rf (Kd.Ry AG.o A1.o (by decide)))))))))) (fun _ h_ => h_.1))) hb); replace AT := Z.m (Kd.Rb (by refine rK ?_; exact (Kd.Rm (rf (rf (rf (rf (rf (rf (rf (rf (Kd.Ry AT.o A1.o (by decide)))))))))) (fun _ h_ => h_.1))) hb); replace Bl := Z.m (Kd.Rb (by refine rK ?_; exact (Kd.Rm (rf (rf (rf (rf (rf (rf (rf (rf (Kd.Ry Bl.o A1.o (by decide)))))))))) (fun _ h_ => h_.1))) hb); replace A0 := Z.m (qb (g := AL) (o := .cells #[.int .i64 a0_0, .int .i64 a0_1, .slice A0_2 l0_2.length c0_2, .int .i64 a0_3, .int .i64 a0_4, .int .i64 a0_5, .int .i64 a0_6, .int .i64 a0_7] 52 (0, 0)) (by refine bK ?_; (iterate 8 refine qF ?_ AN); exact A0.o) hb); replace A2 := Z.m (qb (g := Br) (o := .cells #[.int .i64 Al, .int .i64 Am, .slice AK Aa.length AJ, .int .i64 An, .int .i64 Ao, .int .i64 Ap, .int .i64 Aq, .int .i64 Ar] 55 (0, 0)) (by refine bK ?_; (iterate 8 refine qF ?_ AH); exact A2.o) hb); replace A5 := Z.m (qb (g := AS) (o := .cells #[.int .i64 Ay, .int .i64 Az, .slice Aw At.length Au, .int .i64 AA, .int .i64 AB, .int .i64 AC, .int .i64 AD, .int .i64 AE] 55 (0, 0)) (by refine bK ?_; (iterate 8 refine qF ?_ AI); exact A5.o) hb); replace A1 := Z.m (qb (g := BB) (o := .cells #[.int .i64 Ad, .int .i64 Ae, .slice AF Ac.length Ax, .int .i64 Af, .int .i64 Ag, .int .i64 Ah, .int .i64 Ai, .int .i64 Aj] 55 (0, 0)) (by refine bK ?_; apply st8; refine bK ?_; exact A1.o) hb); replace HB := bB HB hb; (try clear hb); (try clear BP); (try clear hk); (try clear hi)))
    go_meet
    case rel => exact ⟨_, ((AX != As)), (by first | rfl | (simp; done) | (simp [*]; done)), H', ⟨by first | omega | exact Nat.le_refl _⟩, ⟨by refine rK ?_; exact Kd.Rm AG.o (fun _ hk => ⟨hk.1.2, hk.2⟩)⟩, ⟨by refine rK ?_; exact Kd.Rm AT.o (fun _ hk => ⟨hk.1.2, hk.2⟩)⟩, ⟨by refine rK ?_; exact Kd.Rm Bl.o (fun _ hk => ⟨hk.1.2, hk.2⟩)⟩, ⟨vK A0⟩, ⟨vK A2⟩, ⟨vK A5⟩, ⟨vK A1⟩, ⟨vB HB⟩⟩
   ·(rw [if_neg c40] at H; exact absurd H (laws_FnExactRefillMachine.bad_j0 _ _ _ _ _ _ _ _ _ _ _ _ _ _ _ _ _ _ _ _ _ _ _ _ _ _ _ _ _ _ _ _ _ _ _ _ _))
  case rest =>
   clear Fo
   (try clear FJ)
   (try clear D3); (try clear D4); (try clear D5); (try clear D6); (try clear D7); (try clear D8); (try clear D9); (try clear Da)
   (try clear Db); (try clear Dc); (try clear Dd); (try clear De); (try clear Df); (try clear Dg); (try clear Dh); (try clear Di)
   (try clear Dj); (try clear Dk); (try clear Dl); (try clear Dm); (try clear Dn); (try clear Do); (try clear Dp); (try clear Dq)
   (try clear Dr); (try clear Ds); (try clear Dt); (try clear Du); (try clear Dv); (try clear Dw); (try clear Dx); (try clear Dy)
   (try clear Dz); (try clear DA); (try clear DB); (try clear DC); (try clear DD); (try clear DE); (try clear DF); (try clear DG)
   (try clear DH); (try clear DI); (try clear DJ); (try clear DK); (try clear DL); (try clear DM); (try clear DN); (try clear DO)
   (try clear DX); (try clear DY); (try clear DZ); (try clear E0); (try clear E1); (try clear E2); (try clear E3); (try clear E4)
   (try clear E5); (try clear E6); (try clear E7); (try clear E8); (try clear E9); (try clear Ea); (try clear Eb); (try clear Ec)
   (try clear Ed); (try clear Ee); (try clear Ef); (try clear Eg); (try clear Eh); (try clear Ei); (try clear Ej); (try clear Ek)
   (try clear El); (try clear Em); (try clear En); (try clear Eo); (try clear Ep); (try clear Er); (try clear Es); (try clear Et)
   (try clear Eu); (try clear Ew); (try clear Ex); (try clear Ey); (try clear Ez); (try clear EA); (try clear EB); (try clear EC)
   (try clear ED); (try clear EE); (try clear EF); (try clear EG); (try clear EH); (try clear EI); (try clear EJ); (try clear EK)
   obtain ⟨kq, By, rfl, HA, Fq, A7, A6, A3, A0, A2, A5, A1, HB⟩ := hcut
   cases kq with
   | zero => exact absurd HA.o (by simp [laws_FnExactRefillMachine.j0])
   | succ kj12 =>
    have H := HA.o
    clear HA
    simp only [laws_FnExactRefillMachine.j0] at H
    by_cases c57 : By = true
    ·(rw [if_pos c57] at H; exact absurd H (by decide))
    ·replace c57 := Bool.eq_false_iff.mpr c57
     subst c57
     have H1 : ((laws_toMachine.f kj12 a0_0 a0_1 l0_2 a0_3 a0_4 a0_5 a0_6 a0_7).bind fun bt669 => ((laws_eqMachine.f kj12 Ay Az At AA AB AC AD AE bt669.1 bt669.2.1 bt669.2.2.1 bt669.2.2.2.1 bt669.2.2.2.2.1 bt669.2.2.2.2.2.1 bt669.2.2.2.2.2.2.1 bt669.2.2.2.2.2.2.2).bind fun BG => (if BG = true then ((laws_markMachine.f kj12 Ay Az At AA AB AC AD AE 1).bind fun bt680 => (if bt680.1 < 0 then (laws_FnExactRefillMachine.j1 kj12 a1 a2 As true a0_0 a0_1 l0_2 a0_3 a0_4 a0_5 a0_6 a0_7 Al Am Aa An Ao Ap Aq Ar Ad Ae Ac Af Ag Ah Ai Aj) else ((laws_eqMachine.f kj12 Ad Ae Ac Af Ag Ah Ai Aj Al Am Aa An Ao Ap Aq Ar).bind fun Bo => (if Bo = true then (laws_FnExactRefillMachine.j1 kj12 a1 a2 As (AX != As) a0_0 a0_1 l0_2 a0_3 a0_4 a0_5 a0_6 a0_7 Al Am Aa An Ao Ap Aq Ar Ad Ae Ac Af Ag Ah Ai Aj) else (laws_FnExactRefillMachine.j1 kj12 a1 a2 As true a0_0 a0_1 l0_2 a0_3 a0_4 a0_5 a0_6 a0_7 Al Am Aa An Ao Ap Aq Ar Ad Ae Ac Af Ag Ah Ai Aj))))) else (some false)))) = some true := by rw [if_neg (show ¬ (false = true) by decide)] at H; exact H
     clear H
     have H := H1
     clear H1
     replace H := Option.bind_eq_some_iff.mp H
     obtain ⟨⟨F0, F1, BF, F2, F3, F4, F5, F6⟩, Fz, H⟩ := H
     replace H : ((laws_eqMachine.f kj12 Ay Az At AA AB AC AD AE F0 F1 BF F2 F3 F4 F5 F6).bind fun BG => (if BG = true then ((laws_markMachine.f kj12 Ay Az At AA AB AC AD AE 1).bind fun bt680 => (if bt680.1 < 0 then (laws_FnExactRefillMachine.j1 kj12 a1 a2 As true a0_0 a0_1 l0_2 a0_3 a0_4 a0_5 a0_6 a0_7 Al Am Aa An Ao Ap Aq Ar Ad Ae Ac Af Ag Ah Ai Aj) else ((laws_eqMachine.f kj12 Ad Ae Ac Af Ag Ah Ai Aj Al Am Aa An Ao Ap Aq Ar).bind fun Bo => (if Bo = true then (laws_FnExactRefillMachine.j1 kj12 a1 a2 As (AX != As) a0_0 a0_1 l0_2 a0_3 a0_4 a0_5 a0_6 a0_7 Al Am Aa An Ao Ap Aq Ar Ad Ae Ac Af Ag Ah Ai Aj) else (laws_FnExactRefillMachine.j1 kj12 a1 a2 As true a0_0 a0_1 l0_2 a0_3 a0_4 a0_5 a0_6 a0_7 Al Am Aa An Ao Ap Aq Ar Ad Ae Ac Af Ag Ah Ai Aj))))) else (some false))) = some true := H
     have Kw := Z.m Fz
     clear Fz
     replace H := Option.bind_eq_some_iff.mp H
     obtain ⟨BG, FA, H⟩ := H
     replace H : (if BG = true then ((laws_markMachine.f kj12 Ay Az At AA AB AC AD AE 1).bind fun bt680 => (if bt680.1 < 0 then (laws_FnExactRefillMachine.j1 kj12 a1 a2 As true a0_0 a0_1 l0_2 a0_3 a0_4 a0_5 a0_6 a0_7 Al Am Aa An Ao Ap Aq Ar Ad Ae Ac Af Ag Ah Ai Aj) else ((laws_eqMachine.f kj12 Ad Ae Ac Af Ag Ah Ai Aj Al Am Aa An Ao Ap Aq Ar).bind fun Bo => (if Bo = true then (laws_FnExactRefillMachine.j1 kj12 a1 a2 As (AX != As) a0_0 a0_1 l0_2 a0_3 a0_4 a0_5 a0_6 a0_7 Al Am Aa An Ao Ap Aq Ar Ad Ae Ac Af Ag Ah Ai Aj) else (laws_FnExactRefillMachine.j1 kj12 a1 a2 As true a0_0 a0_1 l0_2 a0_3 a0_4 a0_5 a0_6 a0_7 Al Am Aa An Ao Ap Aq Ar Ad Ae Ac Af Ag Ah Ai Aj))))) else (some false)) = some true := H
     have Kx := Z.m FA
     clear FA
     by_cases c60 : BG = true
     ·subst c60
      have H1 : ((laws_markMachine.f kj12 Ay Az At AA AB AC AD AE 1).bind fun bt680 => (if bt680.1 < 0 then (laws_FnExactRefillMachine.j1 kj12 a1 a2 As true a0_0 a0_1 l0_2 a0_3 a0_4 a0_5 a0_6 a0_7 Al Am Aa An Ao Ap Aq Ar Ad Ae Ac Af Ag Ah Ai Aj) else ((laws_eqMachine.f kj12 Ad Ae Ac Af Ag Ah Ai Aj Al Am Aa An Ao Ap Aq Ar).bind fun Bo => (if Bo = true then (laws_FnExactRefillMachine.j1 kj12 a1 a2 As (AX != As) a0_0 a0_1 l0_2 a0_3 a0_4 a0_5 a0_6 a0_7 Al Am Aa An Ao Ap Aq Ar Ad Ae Ac Af Ag Ah Ai Aj) else (laws_FnExactRefillMachine.j1 kj12 a1 a2 As true a0_0 a0_1 l0_2 a0_3 a0_4 a0_5 a0_6 a0_7 Al Am Aa An Ao Ap Aq Ar Ad Ae Ac Af Ag Ah Ai Aj))))) = some true := by rw [if_pos rfl] at H; exact H
      clear H
      have H := H1
      clear H1
      replace H := Option.bind_eq_some_iff.mp H
      obtain ⟨⟨Fu, Bn⟩, FB, H⟩ := H
      replace H : (if Fu < 0 then (laws_FnExactRefillMachine.j1 kj12 a1 a2 As true a0_0 a0_1 l0_2 a0_3 a0_4 a0_5 a0_6 a0_7 Al Am Aa An Ao Ap Aq Ar Ad Ae Ac Af Ag Ah Ai Aj) else ((laws_eqMachine.f kj12 Ad Ae Ac Af Ag Ah Ai Aj Al Am Aa An Ao Ap Aq Ar).bind fun Bo => (if Bo = true then (laws_FnExactRefillMachine.j1 kj12 a1 a2 As (AX != As) a0_0 a0_1 l0_2 a0_3 a0_4 a0_5 a0_6 a0_7 Al Am Aa An Ao Ap Aq Ar Ad Ae Ac Af Ag Ah Ai Aj) else (laws_FnExactRefillMachine.j1 kj12 a1 a2 As true a0_0 a0_1 l0_2 a0_3 a0_4 a0_5 a0_6 a0_7 Al Am Aa An Ao Ap Aq Ar Ad Ae Ac Af Ag Ah Ai Aj)))) = some true := H
      have Ky := Z.m FB
      clear FB
      have Fp := Z.m H
      clear H
      try go_wp2
      replace A7 := Z.m (Kd.R_drew A7.o)
      replace A6 := Z.m (Kd.R_drew A6.o)
      replace A3 := Z.m (Kd.R_drew A3.o)
      replace A0 := Z.m (blk_drew A0.o)
      replace A2 := Z.m (blk_drew A2.o)
      replace A5 := Z.m (blk_drew A5.o)
      replace A1 := Z.m (blk_drew A1.o)
      replace HB := Z.m (qd HB.o)
      refine start_ (n := 5) (S := fun w' => w'.cell? ⟨AS, 0, none⟩ = some (.int .i64 Ay) ∧ w'.cell? ⟨AS, 1, none⟩ = some (.int .i64 Az) ∧ w'.cell? ⟨AS, 2, none⟩ = some (.slice Aw At.length Au) ∧ w'.cell? ⟨AS, 3, none⟩ = some (.int .i64 AA) ∧ w'.cell? ⟨AS, 4, none⟩ = some (.int .i64 AB) ∧ w'.cell? ⟨AS, 5, none⟩ = some (.int .i64 AC) ∧ w'.cell? ⟨AS, 6, none⟩ = some (.int .i64 AD) ∧ w'.cell? ⟨AS, 7, none⟩ = some (.int .i64 AE) ∧ w'.cell? ⟨AL, 0, none⟩ = some (.int .i64 a0_0) ∧ w'.cell? ⟨AL, 1, none⟩ = some (.int .i64 a0_1) ∧ w'.cell? ⟨AL, 2, none⟩ = some (.slice A0_2 l0_2.length c0_2) ∧ w'.cell? ⟨AL, 3, none⟩ = some (.int .i64 a0_3) ∧ w'.cell? ⟨AL, 4, none⟩ = some (.int .i64 a0_4) ∧ w'.cell? ⟨AL, 5, none⟩ = some (.int .i64 a0_5) ∧ w'.cell? ⟨AL, 6, none⟩ = some (.int .i64 a0_6) ∧ w'.cell? ⟨AL, 7, none⟩ = some (.int .i64 a0_7)) (ds := []) #[false, false, false, false, false] (by kernel_rfl) rfl rfl ⟨(ql A5.o 0).trans rfl, (ql A5.o 1).trans rfl, (ql A5.o 2).trans rfl, (ql A5.o 3).trans rfl, (ql A5.o 4).trans rfl, (ql A5.o 5).trans rfl, (ql A5.o 6).trans rfl, (ql A5.o 7).trans rfl, (ql A0.o 0).trans rfl, (ql A0.o 1).trans rfl, (ql A0.o 2).trans rfl, (ql A0.o 3).trans rfl, (ql A0.o 4).trans rfl, (ql A0.o 5).trans rfl, (ql A0.o 6).trans rfl, (ql A0.o 7).trans rfl⟩ (fun hHeld => ?_)
      generalize wc.drew = L2 at A7 A6 A3 A0 A2 A5 A1 HB hHeld ⊢
      refine take_ (i := 0) (N := some 49) (v := ?_) (a' := ?_) #[true, false, false, false, false] rfl rfl (by kernel_rfl) (fun _ _ _ h => h) (Or.inl ⟨by rfl, ?_⟩) hHeld ?_ ?_
      rotate_left
      ·rintro w' ⟨s0, s1, s2, s3, s4, s5, s6, s7, s8, s9, s10, s11, s12, s13, s14, s15⟩
       go_simp
       with_reducible rfl
      rotate_left
      ·simp only [Act.put, q1, q2, q3, i64_w, i32_w]
       rfl
      refine take_ (i := 1) (N := some 50) (v := ?_) (a' := ?_) #[true, true, false, false, false] rfl rfl (by kernel_rfl) (fun _ _ _ h => h) (Or.inl ⟨by rfl, ?_⟩) hHeld ?_ ?_
      rotate_left
      ·rintro w' ⟨s0, s1, s2, s3, s4, s5, s6, s7, s8, s9, s10, s11, s12, s13, s14, s15⟩
       go_simp
       with_reducible rfl
      rotate_left
      ·simp only [Act.put, q1, q2, q3, i64_w, i32_w]
       rfl
      refine one_ (i := 2) (N := some 51) #[true, true, true, false, false] rfl rfl (by kernel_rfl) (by decide) (fun K hK => ?_)
      refine goes_ Try.func47 (by kernel_rfl) rfl #[.agg #[.int .i64 a0_0, .int .i64 a0_1, .slice A0_2 l0_2.length c0_2, .int .i64 a0_3, .int .i64 a0_4, .int .i64 a0_5, .int .i64 a0_6, .int .i64 a0_7]] (by rfl) rfl rfl (by (try simp only [List.map_toArray, List.map_cons, List.map_nil]); first | done | rfl | (simp only [List.length_drop, List.length_take]; rfl)) ?_
      with_reducible refine (laws_toMachine.calls kj12 a0_0 a0_1 _ _ l0_2 a0_3 a0_4 a0_5 a0_6 a0_7 F0 F1 BF F2 F3 F4 F5 F6 _ ?side1 ?side2 Kw.o).mono ?_
      (case side1 => repeat (first | exact (Kd.C_below Bu.o HB.o) | (with_reducible refine Kd.C_alloc ?_ _) | (with_reducible refine Kd.C_drewN ?_ _) | (with_reducible refine Kd.C_drew ?_)))
      (case side2 => exact Bt.o)
      rintro e L3 ⟨KI, rfl, AZ, hb⟩
      refine ⟨_, rfl, ?_⟩
      have Ba := Z.m (Kd.R_lower (Kd.R_new' (Kd.R_new' (Kd.R_new' AZ (Kd.R_lt (vR A7))) (Kd.R_lt (vR A6))) (Kd.R_lt (vR A3))) (below_size (vB HB)))
      replace A7 := Z.m (Kd.R_elder' (vR A7) (Kd.R_base AZ) hb)
      replace A6 := Z.m (Kd.R_elder' (vR A6) (Kd.R_base AZ) hb)
      replace A3 := Z.m (Kd.R_elder' (vR A3) (Kd.R_base AZ) hb)
      replace A0 := kB A0 hb
      replace A2 := kB A2 hb
      replace A5 := kB A5 hb
      replace A1 := kB A1 hb
      replace HB := bB HB hb
      (try clear hb); (try clear AZ)
      obtain ⟨Fn, Ft, FN⟩ := Kd.R_slice Ba.o
      (first | subst FN | (injection FN with f1_ f2_ f3_; have f4_ := f1_.symm; have f5_ := f3_.symm; clear f1_ f2_ f3_; subst f4_; subst f5_))
      refine hK.out _ _ ⟨(ql A5.o 0).trans rfl, (ql A5.o 1).trans rfl, (ql A5.o 2).trans rfl, (ql A5.o 3).trans rfl, (ql A5.o 4).trans rfl, (ql A5.o 5).trans rfl, (ql A5.o 6).trans rfl, (ql A5.o 7).trans rfl, (ql A0.o 0).trans rfl, (ql A0.o 1).trans rfl, (ql A0.o 2).trans rfl, (ql A0.o 3).trans rfl, (ql A0.o 4).trans rfl, (ql A0.o 5).trans rfl, (ql A0.o 6).trans rfl, (ql A0.o 7).trans rfl⟩ (fun hHeld => ?_)
      clear hK K
      refine norm_ (a' := ?_) ?_ ?_
      rotate_left
      ·show Act.put _ (some 51) _ = _
       simp only [Act.put, q1, q2, q3, i64_w, i32_w]
       rfl
      refine one_ (i := 3) (N := some 52) #[true, true, true, true, false] rfl rfl (by kernel_rfl) (by decide) (fun K hK => ?_)
      refine goes_ Try.func49 (by kernel_rfl) rfl #[.agg #[.int .i64 Ay, .int .i64 Az, .slice Aw At.length Au, .int .i64 AA, .int .i64 AB, .int .i64 AC, .int .i64 AD, .int .i64 AE], .agg #[.int .i64 F0, .int .i64 F1, .slice Fn BF.length Ft, .int .i64 F2, .int .i64 F3, .int .i64 F4, .int .i64 F5, .int .i64 F6]] (by rfl) rfl rfl (by (try simp only [List.map_toArray, List.map_cons, List.map_nil]); first | done | rfl | (simp only [List.length_drop, List.length_take]; rfl)) ?_
      with_reducible refine (laws_eqMachine.calls kj12 Ay Az _ _ At AA AB AC AD AE F0 F1 _ _ BF F2 F3 F4 F5 F6 true _ ?side1 ?side2 ?side3 ?side4 Kx.o).mono ?_
      (case side1 => repeat (first | exact (Kd.RrZ A6.o).2.2 | (with_reducible refine Kd.C_alloc ?_ _) | (with_reducible refine Kd.C_drewN ?_ _) | (with_reducible refine Kd.C_drew ?_)))
      (case side2 => exact (Kd.RrZ A6.o).2.1)
      (case side3 => repeat (first | exact (Kd.RrZ Ba.o).2.2 | (with_reducible refine Kd.C_alloc ?_ _) | (with_reducible refine Kd.C_drewN ?_ _) | (with_reducible refine Kd.C_drew ?_)))
      (case side4 => exact (Kd.RrZ Ba.o).2.1)
      rintro e L4 ⟨rfl, hb⟩
      refine ⟨_, rfl, ?_⟩
      replace A7 := Z.m (Kd.Rb (vR A7) hb)
      replace A6 := Z.m (Kd.Rb (vR A6) hb)
      replace A3 := Z.m (Kd.Rb (vR A3) hb)
      replace Ba := Z.m (Kd.Rb (vR Ba) hb)
      replace A0 := kB A0 hb
      replace A2 := kB A2 hb
      replace A5 := kB A5 hb
      replace A1 := kB A1 hb
      replace HB := bB HB hb
      (try clear hb)
      refine hK.out _ _ ⟨(ql A5.o 0).trans rfl, (ql A5.o 1).trans rfl, (ql A5.o 2).trans rfl, (ql A5.o 3).trans rfl, (ql A5.o 4).trans rfl, (ql A5.o 5).trans rfl, (ql A5.o 6).trans rfl, (ql A5.o 7).trans rfl, (ql A0.o 0).trans rfl, (ql A0.o 1).trans rfl, (ql A0.o 2).trans rfl, (ql A0.o 3).trans rfl, (ql A0.o 4).trans rfl, (ql A0.o 5).trans rfl, (ql A0.o 6).trans rfl, (ql A0.o 7).trans rfl⟩ (fun hHeld => ?_)
      clear hK K
      refine norm_ (a' := ?_) ?_ ?_
      rotate_left
      ·show Act.put _ (some 52) _ = _
       simp only [Act.put, q1, q2, q3, i64_w, i32_w]
       rfl
      refine pure_ (i := 4) (N := some 53) (v := ?_) (a' := ?_) #[true, true, true, true, true] rfl rfl (by kernel_rfl) (fun _ _ _ h => h) (Or.inl ⟨by rfl, ?_⟩) ?_ ?_
      rotate_left
      ·intro w'
       go_simp
       with_reducible rfl
      rotate_left
      ·simp only [Act.put, q1, q2, q3, i64_w, i32_w]
       rfl
      refine done_ (by kernel_rfl) ?_
      have K0 := Bg.o
      have Kk := B0.o
      have K1 := AV.o
      have Kl := AO.o
      have K2 := AI.o
      have Km := AQ.o
      have DP := bc0 A5
      have DQ := bc1 A5
      have DR := bc2 A5
      have DS := bc3 A5
      have DT := bc4 A5
      have DU := bc5 A5
      have DV := bc6 A5
      have DW := bc7 A5
      have EL := qz A5.o 0
      have EM := qz A5.o 1
      have EN := qz A5.o 2
      have EO := qz A5.o 3
      have EP := qz A5.o 4
      have EQ := qz A5.o 5
      have ER := qz A5.o 6
      have ES := qz A5.o 7
      go_upto_region 14 with (first | ((with_reducible refine gc (f := 50) rfl ?_); refine gA (some 56) _ #[.agg #[.int .i64 Ay, .int .i64 Az, .slice Aw At.length Au, .int .i64 AA, .int .i64 AB, .int .i64 AC, .int .i64 AD, .int .i64 AE], .int .i64 1] ?_ Try.func50; (with_reducible refine (laws_markMachine.calls kj12 Ay Az (fun k_ => some k_ = (.slice Aw At.length Au : Value).ownBlock) (.slice Aw At.length Au) At AA AB AC AD AE 1 Fu Bn w _ ?side1 ?side2 Ky.o).mono ?_); (case side1 => repeat (first | (with_reducible first | exact HB.o | apply qa | apply qn | apply qd | refine qx ?_ BR.o | refine qx ?_ Fi.o | refine qx ?_ Fj.o | refine qx ?_ Fk.o) | exact HB.o)); (case side2 => exact Kd.Rg rfl A6.o); rintro e L5 ⟨rfl, GA, hb, hkp⟩; refine ⟨_, rfl, ?_⟩; replace A7 := Z.m (Kd.Rm (ok' := fun k_ => some k_ ≠ (.slice Aw At.length Au : Value).ownBlock ∧ some k_ ≠ (.slice AF Ac.length Ax : Value).ownBlock ∧ some k_ ≠ (.slice Fn BF.length Ft : Value).ownBlock) (Kd.Rk (A7.o) hkp (fun k_ hk_ hs_ => (hk_.1.1) hs_)) (fun k_ hk_ => ⟨hk_.1.1.1, hk_.1.1.2, hk_.1.2⟩)); replace A3 := Z.m (Kd.Rm (ok' := fun k_ => some k_ ≠ (.slice AK Aa.length AJ : Value).ownBlock ∧ some k_ ≠ (.slice Aw At.length Au : Value).ownBlock ∧ some k_ ≠ (.slice Fn BF.length Ft : Value).ownBlock) (Kd.Rk (A3.o) hkp (fun k_ hk_ hs_ => (hk_.1.2) hs_)) (fun k_ hk_ => ⟨hk_.1.1.1, hk_.1.1.2, hk_.1.2⟩)); replace A0 := Z.m (qk (vK A0) hkp (fun hs_ => (fun e_ => (Kd.R_ne A6.o A0.o (by decide)) e_) hs_)); replace A2 := Z.m (qk (vK A2) hkp (fun hs_ => (fun e_ => (Kd.R_ne A6.o A2.o (by decide)) e_) hs_)); replace A5 := Z.m (qk (vK A5) hkp (fun hs_ => (fun e_ => (Kd.R_ne A6.o A5.o (by decide)) e_) hs_)); replace A1 := Z.m (qk (vK A1) hkp (fun hs_ => (fun e_ => (Kd.R_ne A6.o A1.o (by decide)) e_) hs_)); replace A6 := Z.m (Kd.Re rfl GA (fun k_ e_ => A6.o.1 k_ e_)); replace Ba := Z.m (Kd.Rm (ok' := fun k_ => some k_ ≠ (.slice AK Aa.length AJ : Value).ownBlock ∧ some k_ ≠ (.slice Aw At.length Au : Value).ownBlock ∧ some k_ ≠ (.slice AF Ac.length Ax : Value).ownBlock) (Kd.Rk (Ba.o) hkp (fun k_ hk_ hs_ => (hk_.1.2) hs_)) (fun k_ hk_ => ⟨hk_.1.1.1.2, hk_.1.1.2, hk_.1.2⟩)); replace HB := Z.m (hb); (try clear hb); (try clear hkp); (try clear GA)))
      (try simp only [Act.put, q1, q2, q3])
      go_cut [69] (fun v69 wc => ∃ (kq : Nat) (Bz : Bool), v69 = .bool Bz ∧ Z (laws_FnExactRefillMachine.j1 kq a1 a2 As Bz a0_0 a0_1 l0_2 a0_3 a0_4 a0_5 a0_6 a0_7 Al Am Aa An Ao Ap Aq Ar Ad Ae Ac Af Ag Ah Ai Aj = some true) ∧ Z (kq ≤ kj12) ∧ Z (Kd.R k71 71 wc w.heap.size (fun k_ => some k_ ≠ ((.slice Aw At.length Au) : Value).ownBlock ∧ some k_ ≠ ((.slice AF Ac.length Ax) : Value).ownBlock) (.slice AK Aa.length AJ) Aa) ∧ Z (Kd.R k71 71 wc w.heap.size (fun k_ => some k_ ≠ ((.slice AK Aa.length AJ) : Value).ownBlock ∧ some k_ ≠ ((.slice AF Ac.length Ax) : Value).ownBlock) (.slice Aw At.length Au) Bn) ∧ Z (Kd.R k71 71 wc w.heap.size (fun k_ => some k_ ≠ ((.slice AK Aa.length AJ) : Value).ownBlock ∧ some k_ ≠ ((.slice Aw At.length Au) : Value).ownBlock) (.slice AF Ac.length Ax) Ac) ∧ Z (wc.heap[AL]? = some (.cells #[.int .i64 a0_0, .int .i64 a0_1, (.slice A0_2 l0_2.length c0_2), .int .i64 a0_3, .int .i64 a0_4, .int .i64 a0_5, .int .i64 a0_6, .int .i64 a0_7] 52 (0, 0))) ∧ Z (wc.heap[Br]? = some (.cells #[.int .i64 Al, .int .i64 Am, (.slice AK Aa.length AJ), .int .i64 An, .int .i64 Ao, .int .i64 Ap, .int .i64 Aq, .int .i64 Ar] 55 (0, 0))) ∧ Z (wc.heap[AS]? = some (.cells #[.int .i64 Ay, .int .i64 Az, (.slice Aw At.length Au), .int .i64 AA, .int .i64 AB, .int .i64 AC, .int .i64 AD, .int .i64 AE] 55 (0, 0))) ∧ Z (wc.heap[BB]? = some (.cells #[.int .i64 Ad, .int .i64 Ae, (.slice AF Ac.length Ax), .int .i64 Af, .int .i64 Ag, .int .i64 Ah, .int .i64 Ai, .int .i64 Aj] 55 (0, 0))) ∧ Z (Below w.heap.size w wc))
      case first =>
       have H := Fp.o
       clear Fp
       by_cases c72 : Fu < 0
       ·rw [if_pos c72] at H
        have BA := decide_eq_true c72
        clear c72
        (first | rw [BA] | (simp only [i64_w, i32_w]; rw [BA]) | skip)
        have H' := Z.m H
        clear H
        go_wp2
        go_meet
        case rel => exact ⟨_, (true), (by first | rfl | (simp; done) | (simp [*]; done)), H', ⟨by have := Fq.o; first | omega | exact Nat.le_refl _⟩, ⟨by refine rK ?_; exact Kd.Rm A7.o (fun _ hk => ⟨hk.1, hk.2.1⟩)⟩, ⟨by refine rK ?_; exact Kd.Rm A6.o (fun _ hk => ⟨hk.1.1, hk.1.2⟩)⟩, ⟨by refine rK ?_; exact Kd.Rm A3.o (fun _ hk => ⟨hk.1, hk.2.1⟩)⟩, ⟨vK A0⟩, ⟨vK A2⟩, ⟨vK A5⟩, ⟨vK A1⟩, ⟨vB HB⟩⟩
       ·rw [if_neg c72] at H
        have BA := decide_eq_false c72
        clear c72
        (first | rw [BA] | (simp only [i64_w, i32_w]; rw [BA]) | skip)
        replace H := Option.bind_eq_some_iff.mp H
        obtain ⟨Bo, FC, H⟩ := H
        replace H : (if Bo = true then (laws_FnExactRefillMachine.j1 kj12 a1 a2 As (AX != As) a0_0 a0_1 l0_2 a0_3 a0_4 a0_5 a0_6 a0_7 Al Am Aa An Ao Ap Aq Ar Ad Ae Ac Af Ag Ah Ai Aj) else (laws_FnExactRefillMachine.j1 kj12 a1 a2 As true a0_0 a0_1 l0_2 a0_3 a0_4 a0_5 a0_6 a0_7 Al Am Aa An Ao Ap Aq Ar Ad Ae Ac Af Ag Ah Ai Aj)) = some true := H
        have Kz := Z.m FC
        clear FC
        by_cases c74 : Bo = true
        ·subst c74
         have H1 : (laws_FnExactRefillMachine.j1 kj12 a1 a2 As (AX != As) a0_0 a0_1 l0_2 a0_3 a0_4 a0_5 a0_6 a0_7 Al Am Aa An Ao Ap Aq Ar Ad Ae Ac Af Ag Ah Ai Aj) = some true := by rw [if_pos rfl] at H; exact H
         clear H
         have H := H1
         clear H1
         have H' := Z.m H
         clear H
         have K3 := AW.o
         have Kn := AN.o
         have K4 := AP.o
         have Ko := AH.o
         have K5 := AQ.o
         have Kp := AI.o
         have GR := bc0 A1
         have GS := bc1 A1
         have GT := bc2 A1
         have GU := bc3 A1
         have GV := bc4 A1
         have GW := bc5 A1
         have GX := bc6 A1
         have GY := bc7 A1
         have Ho := qz A1.o 0
         have Hp := qz A1.o 1
         have Hq := qz A1.o 2
         have Hr := qz A1.o 3
         have Hs := qz A1.o 4
         have Ht := qz A1.o 5
         have Hu := qz A1.o 6
         have Hv := qz A1.o 7
         have K6 := AU.o
         have Kq := AM.o
         have K7 := AO.o
         have Kr := AV.o
         have GZ := bc0 A2
         have H0 := bc1 A2
         have H2 := bc2 A2
         have H3 := bc3 A2
         have H4 := bc4 A2
         have H5 := bc5 A2
         have H6 := bc6 A2
         have H7 := bc7 A2
         have Hw := qz A2.o 0
         have Hx := qz A2.o 1
         have Hy := qz A2.o 2
         have Hz := qz A2.o 3
         have HC := qz A2.o 4
         have HD := qz A2.o 5
         have HE := qz A2.o 6
         have HF := qz A2.o 7
         go_wp2_with (first | (go_at_call 49; (with_reducible refine (laws_eqMachine.calls kj12 Ad Ae _ _ Ac Af Ag Ah Ai Aj Al Am _ _ Aa An Ao Ap Aq Ar true _ ?side1 ?side2 ?side3 ?side4 Kz.o).mono ?_); (case side1 => repeat (first | exact (Kd.RrZ A3.o).2.2 | (with_reducible refine Kd.C_alloc ?_ _) | (with_reducible refine Kd.C_drewN ?_ _) | (with_reducible refine Kd.C_drew ?_))); (case side2 => exact (Kd.RrZ A3.o).2.1); (case side3 => repeat (first | exact (Kd.RrZ A7.o).2.2 | (with_reducible refine Kd.C_alloc ?_ _) | (with_reducible refine Kd.C_drewN ?_ _) | (with_reducible refine Kd.C_drew ?_))); (case side4 => exact (Kd.RrZ A7.o).2.1); rintro e L6 ⟨rfl, hb⟩; replace A7 := Z.m (Kd.Rb (vR A7) hb); replace A6 := Z.m (Kd.Rb (vR A6) hb); replace A3 := Z.m (Kd.Rb (vR A3) hb); replace Ba := Z.m (Kd.Rb (vR Ba) hb); replace A0 := kB A0 hb; replace A2 := kB A2 hb; replace A5 := kB A5 hb; replace A1 := kB A1 hb; replace HB := bB HB hb; (try clear hb); (try clear BP); (try clear hk); (try clear hi)))
         go_meet
         case rel => exact ⟨_, ((AX != As)), (by first | rfl | (simp; done) | (simp [*]; done)), H', ⟨by have := Fq.o; first | omega | exact Nat.le_refl _⟩, ⟨by refine rK ?_; exact Kd.Rm A7.o (fun _ hk => ⟨hk.1, hk.2.1⟩)⟩, ⟨by refine rK ?_; exact Kd.Rm A6.o (fun _ hk => ⟨hk.1.1, hk.1.2⟩)⟩, ⟨by refine rK ?_; exact Kd.Rm A3.o (fun _ hk => ⟨hk.1, hk.2.1⟩)⟩, ⟨vK A0⟩, ⟨vK A2⟩, ⟨vK A5⟩, ⟨vK A1⟩, ⟨vB HB⟩⟩
        ·(rw [if_neg c74] at H; exact absurd H (laws_FnExactRefillMachine.bad_j1 _ _ _ _ _ _ _ _ _ _ _ _ _ _ _ _ _ _ _ _ _ _ _ _ _ _ _ _))
      case rest =>
       clear Fp
       (try clear c57); (try clear c60)
       (try clear DP); (try clear DQ); (try clear DR); (try clear DS); (try clear DT); (try clear DU); (try clear DV); (try clear DW)
       (try clear EL); (try clear EM); (try clear EN); (try clear EO); (try clear EP); (try clear EQ); (try clear ER); (try clear ES)
       obtain ⟨kq, Bz, rfl, HA, HK, A7, A6, A3, A0, A2, A5, A1, HB⟩ := hcut
       have A8 := (Kd.RrZ A6.o).1
       rw [A8] at A6
       (try simp only [A8])
       (try simp only [A8] at A0)
       (try simp only [A8] at A2)
       (try simp only [A8] at A5)
       (try simp only [A8] at A1)
       (try simp only [A8] at A7)
       (try simp only [A8] at A3)
       cases kq with
       | zero => exact absurd HA.o (by simp [laws_FnExactRefillMachine.j1])
       | succ kj61 =>
        have H := HA.o
        clear HA
        simp only [laws_FnExactRefillMachine.j1] at H
        by_cases c91 : Bz = true
        ·(rw [if_pos c91] at H; exact absurd H (by decide))
        ·replace c91 := Bool.eq_false_iff.mpr c91
         subst c91
         have H1 : ((laws_markMachine.f kj61 Ad Ae Ac Af Ag Ah Ai Aj 1).bind fun bt683 => ((laws_heldMachine.f kj61 Ad Ae bt683.2 Af Ag Ah Ai Aj 1).bind fun Bs => (if Bs < 0 then (some false) else (if Bs = bt683.1 then ((laws_toMachine.f kj61 a0_0 a0_1 l0_2 a0_3 a0_4 a0_5 a0_6 a0_7).bind fun bt686 => ((impl_RefillMachine.f kj61 bt686.1 bt686.2.1 bt686.2.2.1 bt686.2.2.2.1 bt686.2.2.2.2.1 bt686.2.2.2.2.2.1 bt686.2.2.2.2.2.2.1 bt686.2.2.2.2.2.2.2 a1 a2).bind fun bt696 => ((laws_eqMachine.f kj61 bt696.1 bt696.2.1 bt696.2.2.1 bt696.2.2.2.1 bt696.2.2.2.2.1 bt696.2.2.2.2.2.1 bt696.2.2.2.2.2.2.1 bt696.2.2.2.2.2.2.2.1 Al Am Aa An Ao Ap Aq Ar).bind fun Bp => (if Bp = true then (laws_FnExactRefillMachine.j2 kj61 bt683.1 (bt696.2.2.2.2.2.2.2.2 != As) Ad Ae bt683.2 Af Ag Ah Ai Aj) else (laws_FnExactRefillMachine.j2 kj61 bt683.1 true Ad Ae bt683.2 Af Ag Ah Ai Aj))))) else (some false))))) = some true := by rw [if_neg (show ¬ (false = true) by decide)] at H; exact H
         clear H
         have H := H1
         clear H1
         replace H := Option.bind_eq_some_iff.mp H
         obtain ⟨⟨AY, AR⟩, FD, H⟩ := H
         replace H : ((laws_heldMachine.f kj61 Ad Ae AR Af Ag Ah Ai Aj 1).bind fun Bs => (if Bs < 0 then (some false) else (if Bs = AY then ((laws_toMachine.f kj61 a0_0 a0_1 l0_2 a0_3 a0_4 a0_5 a0_6 a0_7).bind fun bt686 => ((impl_RefillMachine.f kj61 bt686.1 bt686.2.1 bt686.2.2.1 bt686.2.2.2.1 bt686.2.2.2.2.1 bt686.2.2.2.2.2.1 bt686.2.2.2.2.2.2.1 bt686.2.2.2.2.2.2.2 a1 a2).bind fun bt696 => ((laws_eqMachine.f kj61 bt696.1 bt696.2.1 bt696.2.2.1 bt696.2.2.2.1 bt696.2.2.2.2.1 bt696.2.2.2.2.2.1 bt696.2.2.2.2.2.2.1 bt696.2.2.2.2.2.2.2.1 Al Am Aa An Ao Ap Aq Ar).bind fun Bp => (if Bp = true then (laws_FnExactRefillMachine.j2 kj61 AY (bt696.2.2.2.2.2.2.2.2 != As) Ad Ae AR Af Ag Ah Ai Aj) else (laws_FnExactRefillMachine.j2 kj61 AY true Ad Ae AR Af Ag Ah Ai Aj))))) else (some false)))) = some true := H
         have KA := Z.m FD
         clear FD
         replace H := Option.bind_eq_some_iff.mp H
         obtain ⟨Bs, FE, H⟩ := H
         replace H : (if Bs < 0 then (some false) else (if Bs = AY then ((laws_toMachine.f kj61 a0_0 a0_1 l0_2 a0_3 a0_4 a0_5 a0_6 a0_7).bind fun bt686 => ((impl_RefillMachine.f kj61 bt686.1 bt686.2.1 bt686.2.2.1 bt686.2.2.2.1 bt686.2.2.2.2.1 bt686.2.2.2.2.2.1 bt686.2.2.2.2.2.2.1 bt686.2.2.2.2.2.2.2 a1 a2).bind fun bt696 => ((laws_eqMachine.f kj61 bt696.1 bt696.2.1 bt696.2.2.1 bt696.2.2.2.1 bt696.2.2.2.2.1 bt696.2.2.2.2.2.1 bt696.2.2.2.2.2.2.1 bt696.2.2.2.2.2.2.2.1 Al Am Aa An Ao Ap Aq Ar).bind fun Bp => (if Bp = true then (laws_FnExactRefillMachine.j2 kj61 AY (bt696.2.2.2.2.2.2.2.2 != As) Ad Ae AR Af Ag Ah Ai Aj) else (laws_FnExactRefillMachine.j2 kj61 AY true Ad Ae AR Af Ag Ah Ai Aj))))) else (some false))) = some true := H
         have KB := Z.m FE
         clear FE
         by_cases c94 : Bs < 0
         ·(rw [if_pos c94] at H; exact absurd H (by decide))
         ·rw [if_neg c94] at H
          have Fl := decide_eq_false c94
          (try simp only [A8] at Fl)
          clear c94
          by_cases c102 : Bs = AY
          ·rw [if_pos c102] at H
           have Fr := beq_iff_eq.mpr c102
           have Fs := bne_eq_false_iff_eq.mpr c102
           clear c102
           replace H := Option.bind_eq_some_iff.mp H
           obtain ⟨⟨F7, F8, BH, F9, Fa, Fb, Fc, Fd⟩, Fe, H⟩ := H
           replace H : ((impl_RefillMachine.f kj61 F7 F8 BH F9 Fa Fb Fc Fd a1 a2).bind fun bt696 => ((laws_eqMachine.f kj61 bt696.1 bt696.2.1 bt696.2.2.1 bt696.2.2.2.1 bt696.2.2.2.2.1 bt696.2.2.2.2.2.1 bt696.2.2.2.2.2.2.1 bt696.2.2.2.2.2.2.2.1 Al Am Aa An Ao Ap Aq Ar).bind fun Bp => (if Bp = true then (laws_FnExactRefillMachine.j2 kj61 AY (bt696.2.2.2.2.2.2.2.2 != As) Ad Ae AR Af Ag Ah Ai Aj) else (laws_FnExactRefillMachine.j2 kj61 AY true Ad Ae AR Af Ag Ah Ai Aj)))) = some true := H
           have HG := Z.m Fe
           clear Fe
           replace H := Option.bind_eq_some_iff.mp H
           obtain ⟨⟨BI, BJ, Bj, BK, BL, BM, BN, BO, D0⟩, Ff, H⟩ := H
           replace H : ((laws_eqMachine.f kj61 BI BJ Bj BK BL BM BN BO Al Am Aa An Ao Ap Aq Ar).bind fun Bp => (if Bp = true then (laws_FnExactRefillMachine.j2 kj61 AY (D0 != As) Ad Ae AR Af Ag Ah Ai Aj) else (laws_FnExactRefillMachine.j2 kj61 AY true Ad Ae AR Af Ag Ah Ai Aj))) = some true := H
           have HH := Z.m Ff
           clear Ff
           have BT := Z.m H
           clear H
           have J7 := AW.o
           have Jr := AN.o
           have J8 := AP.o
           have Js := AH.o
           have J9 := AQ.o
           have Jt := AI.o
           have BW := bc0 A1
           have BX := bc1 A1
           have BY := bc2 A1
           have BZ := bc3 A1
           have C0 := bc4 A1
           have C1 := bc5 A1
           have C2 := bc6 A1
           have C3 := bc7 A1
           have Cu := qz A1.o 0
           have Cv := qz A1.o 1
           have Cw := qz A1.o 2
           have Cx := qz A1.o 3
           have Cy := qz A1.o 4
           have Cz := qz A1.o 5
           have CA := qz A1.o 6
           have CB := qz A1.o 7
           go_upto_region 25 with (first | ((with_reducible refine gc (f := 50) rfl ?_); refine gA (some 72) _ #[.agg #[.int .i64 Ad, .int .i64 Ae, .slice AF Ac.length Ax, .int .i64 Af, .int .i64 Ag, .int .i64 Ah, .int .i64 Ai, .int .i64 Aj], .int .i64 1] ?_ Try.func50; (with_reducible refine (laws_markMachine.calls kj61 Ad Ae (fun k_ => some k_ = (.slice AF Ac.length Ax : Value).ownBlock) (.slice AF Ac.length Ax) Ac Af Ag Ah Ai Aj 1 AY AR w _ ?side1 ?side2 KA.o).mono ?_); (case side1 => repeat (first | (with_reducible first | exact HB.o | apply qa | apply qn | apply qd | refine qx ?_ BR.o | refine qx ?_ Fi.o | refine qx ?_ Fj.o | refine qx ?_ Fk.o) | exact HB.o)); (case side2 => exact Kd.Rg rfl A3.o); rintro e KL ⟨rfl, GA, hb, hkp⟩; refine ⟨_, rfl, ?_⟩; replace A7 := Z.m (Kd.Rm (ok' := fun k_ => some k_ ≠ (.slice Aw Bn.length Au : Value).ownBlock ∧ some k_ ≠ (.slice AF Ac.length Ax : Value).ownBlock) (Kd.Rk (A7.o) hkp (fun k_ hk_ hs_ => (hk_.2) hs_)) (fun k_ hk_ => ⟨hk_.1.1, hk_.1.2⟩)); replace A6 := Z.m (Kd.Rm (ok' := fun k_ => some k_ ≠ (.slice AK Aa.length AJ : Value).ownBlock ∧ some k_ ≠ (.slice AF Ac.length Ax : Value).ownBlock) (Kd.Rk (A6.o) hkp (fun k_ hk_ hs_ => (hk_.2) hs_)) (fun k_ hk_ => ⟨hk_.1.1, hk_.1.2⟩)); replace A0 := Z.m (qk (vK A0) hkp (fun hs_ => (fun e_ => (Kd.R_ne A3.o A0.o (by decide)) e_) hs_)); replace A2 := Z.m (qk (vK A2) hkp (fun hs_ => (fun e_ => (Kd.R_ne A3.o A2.o (by decide)) e_) hs_)); replace A5 := Z.m (qk (vK A5) hkp (fun hs_ => (fun e_ => (Kd.R_ne A3.o A5.o (by decide)) e_) hs_)); replace A1 := Z.m (qk (vK A1) hkp (fun hs_ => (fun e_ => (Kd.R_ne A3.o A1.o (by decide)) e_) hs_)); replace A3 := Z.m (Kd.Re rfl GA (fun k_ e_ => A3.o.1 k_ e_)); replace HB := Z.m (hb); (try clear hb); (try clear hkp); (try clear GA); have C4 := bc0 A1; have C5 := bc1 A1; have C6 := bc2 A1; have C7 := bc3 A1; have C8 := bc4 A1; have C9 := bc5 A1; have Ca := bc6 A1; have Cb := bc7 A1; have CC := qz A1.o 0; have CD := qz A1.o 1; have CE := qz A1.o 2; have CF := qz A1.o 3; have CG := qz A1.o 4; have CH := qz A1.o 5; have CI := qz A1.o 6; have CJ := qz A1.o 7) | ((with_reducible refine gc (f := 51) rfl ?_); refine goesL_ (some 75) rfl rfl Try.func51 (by kernel_rfl) rfl #[.agg #[.int .i64 Ad, .int .i64 Ae, .slice AF AR.length Ax, .int .i64 Af, .int .i64 Ag, .int .i64 Ah, .int .i64 Ai, .int .i64 Aj], .int .i64 1] rfl (by (try simp only [List.map_toArray, List.map_cons, List.map_nil]); first | done | (rw [show AR.length = Ac.length from (Kd.RrZ A3.o).1.symm] <;> rfl) | rfl | (simp only [List.length_drop, List.length_take]; rfl)) ?_; (with_reducible refine (laws_heldMachine.calls kj61 Ad Ae _ _ AR Af Ag Ah Ai Aj 1 Bs _ ?side1 ?side2 KB.o).mono ?_); (case side1 => repeat (first | exact (Kd.RrZ A3.o).2.2 | (with_reducible refine Kd.C_alloc ?_ _) | (with_reducible refine Kd.C_drewN ?_ _) | (with_reducible refine Kd.C_drew ?_))); (case side2 => rw [show AR.length = Ac.length from (Kd.RrZ A3.o).1.symm]; exact (Kd.RrZ A3.o).2.1); rintro e KM ⟨rfl, hb⟩; refine ⟨_, rfl, ?_⟩; replace A7 := Z.m (Kd.Rb (vR A7) hb); replace A6 := Z.m (Kd.Rb (vR A6) hb); replace A3 := Z.m (Kd.Rb (vR A3) hb); replace A0 := kB A0 hb; replace A2 := kB A2 hb; replace A5 := kB A5 hb; replace A1 := kB A1 hb; replace HB := bB HB hb; (try clear hb); (try clear BP); (try clear hk); (try clear hi); have Ja := AM.o; have Ju := AU.o; have Jb := B0.o; have Jv := Bg.o; have Cd := bc0 A0; have Ce := bc1 A0; have Cf := bc2 A0; have Cg := bc3 A0; have Ch := bc4 A0; have Ci := bc5 A0; have Cj := bc6 A0; have Cl := bc7 A0; have CK := qz A0.o 0; have CL := qz A0.o 1; have CM := qz A0.o 2; have CN := qz A0.o 3; have CO := qz A0.o 4; have CP := qz A0.o 5; have CQ := qz A0.o 6; have CR := qz A0.o 7) | ((with_reducible refine gc (f := 47) rfl ?_); refine gA (some 83) _ #[.agg #[.int .i64 a0_0, .int .i64 a0_1, .slice A0_2 l0_2.length c0_2, .int .i64 a0_3, .int .i64 a0_4, .int .i64 a0_5, .int .i64 a0_6, .int .i64 a0_7]] ?_ Try.func47; (with_reducible refine (laws_toMachine.calls kj61 a0_0 a0_1 _ _ l0_2 a0_3 a0_4 a0_5 a0_6 a0_7 F7 F8 BH F9 Fa Fb Fc Fd _ ?side1 ?side2 HG.o).mono ?_); (case side1 => repeat (first | exact (Kd.C_below Bu.o HB.o) | (with_reducible refine Kd.C_alloc ?_ _) | (with_reducible refine Kd.C_drewN ?_ _) | (with_reducible refine Kd.C_drew ?_))); (case side2 => exact Bt.o); rintro e KN ⟨KJ, rfl, AZ, hb⟩; refine ⟨_, rfl, ?_⟩; have B7 := Z.m (Kd.R_lower (Kd.R_new' (Kd.R_new' (Kd.R_new' AZ (Kd.R_lt (vR A7))) (Kd.R_lt (vR A6))) (Kd.R_lt (vR A3))) (below_size (vB HB))); replace A7 := Z.m (Kd.R_elder' (vR A7) (Kd.R_base AZ) hb); replace A6 := Z.m (Kd.R_elder' (vR A6) (Kd.R_base AZ) hb); replace A3 := Z.m (Kd.R_elder' (vR A3) (Kd.R_base AZ) hb); replace A0 := kB A0 hb; replace A2 := kB A2 hb; replace A5 := kB A5 hb; replace A1 := kB A1 hb; replace HB := bB HB hb; (try clear hb); (try clear BP); (try clear hk); (try clear hi); (try clear AZ); obtain ⟨BQ, BV, FL⟩ := Kd.R_slice B7.o; subst FL) | ((with_reducible refine gc (f := 48) rfl ?_); refine gA (some 86) _ #[.agg #[.int .i64 F7, .int .i64 F8, .slice BQ BH.length BV, .int .i64 F9, .int .i64 Fa, .int .i64 Fb, .int .i64 Fc, .int .i64 Fd], .int .i64 a1, .int .i64 a2] ?_ Try.func48; (with_reducible refine (impl_RefillMachine.calls kj61 F7 F8 _ _ BH F9 Fa Fb Fc Fd a1 a2 BI BJ Bj BK BL BM BN BO D0 _ ?side1 ?side2 HH.o).mono ?_); (case side1 => repeat (first | exact (Kd.RrZ B7.o).2.2 | (with_reducible refine Kd.C_alloc ?_ _) | (with_reducible refine Kd.C_drewN ?_ _) | (with_reducible refine Kd.C_drew ?_))); (case side2 => exact (Kd.RrZ B7.o).2.1); rintro e KO ⟨KK, rfl, AZ, hb⟩; refine ⟨_, rfl, ?_⟩; have Bm := Z.m (Kd.R_lower (Kd.R_new' (Kd.R_new' (Kd.R_new' (Kd.R_new' AZ (Kd.R_lt (vR A7))) (Kd.R_lt (vR A6))) (Kd.R_lt (vR A3))) (Kd.R_lt (vR B7))) (below_size (vB HB))); replace A7 := Z.m (Kd.R_elder' (vR A7) (Kd.R_base AZ) hb); replace A6 := Z.m (Kd.R_elder' (vR A6) (Kd.R_base AZ) hb); replace A3 := Z.m (Kd.R_elder' (vR A3) (Kd.R_base AZ) hb); replace B7 := Z.m (Kd.R_elder' (vR B7) (Kd.R_base AZ) hb); replace A0 := kB A0 hb; replace A2 := kB A2 hb; replace A5 := kB A5 hb; replace A1 := kB A1 hb; replace HB := bB HB hb; (try clear hb); (try clear BP); (try clear hk); (try clear hi); (try clear AZ)) | ((with_reducible refine gq (N := 16) rfl ?_); refine be (N := 16) (cs := #[.int .i64 0, .int .i64 0, .slice none 0 0, .int .i64 0, .int .i64 0, .int .i64 0, .int .i64 0, .int .i64 0]) (t := 55) ?_; intro Fm hg KP hbox hb; have Ab := Z.m (hbox); have FI := gW (w := w) HB hg; have JN := FI; have Be := neL A0 hg; have Bv := neG A0 hg; have Bf := neL A2 hg; have Bw := neG A2 hg; have Bh := neL A5 hg; have Bx := neG A5 hg; have B2 := neL A1 hg; have Bi := neG A1 hg; replace A7 := Z.m (Kd.Rb (vR A7) hb); replace A6 := Z.m (Kd.Rb (vR A6) hb); replace A3 := Z.m (Kd.Rb (vR A3) hb); replace B7 := Z.m (Kd.Rb (vR B7) hb); replace Bm := Z.m (Kd.Rb (vR Bm) hb); replace A0 := kB A0 hb; replace A2 := kB A2 hb; replace A5 := kB A5 hb; replace A1 := kB A1 hb; replace HB := bB HB hb; clear hb hbox hg; have Jc := Bv.o; have Jw := Be.o; have Jd := Bw.o; have Jx := Bf.o; have Je := Bx.o; have Jy := Bh.o; have Jf := Bi.o; have Jz := B2.o; have Cm := bc0 Ab; have Cn := bc1 Ab; have Co := bc2 Ab; have Cp := bc3 Ab; have Cq := bc4 Ab; have Cr := bc5 Ab; have Cs := bc6 Ab; have Ct := bc7 Ab; have CS := qz Ab.o 0; have CT := qz Ab.o 1; have CU := qz Ab.o 2; have CV := qz Ab.o 3; have CW := qz Ab.o 4; have CX := qz Ab.o 5; have CY := qz Ab.o 6; have CZ := qz Ab.o 7; obtain ⟨Bk, Bb, FM⟩ := Kd.R_slice Bm.o; subst FM))
           (try simp only [Act.put, q1, q2, q3])
           go_cut [97] (fun v97 wc => ∃ (kq : Nat) (Bq : Bool), v97 = .bool Bq ∧ Z (laws_FnExactRefillMachine.j2 kq AY Bq Ad Ae AR Af Ag Ah Ai Aj = some true) ∧ Z (kq ≤ kj61) ∧ Z (Kd.R k71 71 wc w.heap.size (fun k_ => some k_ ≠ ((.slice Aw Bn.length Au) : Value).ownBlock ∧ some k_ ≠ ((.slice AF Ac.length Ax) : Value).ownBlock ∧ some k_ ≠ ((.slice Bk Bj.length Bb) : Value).ownBlock) (.slice AK Aa.length AJ) Aa) ∧ Z (Kd.R k71 71 wc w.heap.size (fun k_ => some k_ ≠ ((.slice AK Aa.length AJ) : Value).ownBlock ∧ some k_ ≠ ((.slice AF Ac.length Ax) : Value).ownBlock ∧ some k_ ≠ ((.slice Bk Bj.length Bb) : Value).ownBlock) (.slice Aw Bn.length Au) Bn) ∧ Z (Kd.R k71 71 wc w.heap.size (fun k_ => some k_ ≠ ((.slice AK Aa.length AJ) : Value).ownBlock ∧ some k_ ≠ ((.slice Aw Bn.length Au) : Value).ownBlock ∧ some k_ ≠ ((.slice Bk Bj.length Bb) : Value).ownBlock) (.slice AF Ac.length Ax) AR) ∧ Z (Kd.R k71 71 wc w.heap.size (fun k_ => some k_ ≠ ((.slice AK Aa.length AJ) : Value).ownBlock ∧ some k_ ≠ ((.slice Aw Bn.length Au) : Value).ownBlock ∧ some k_ ≠ ((.slice AF Ac.length Ax) : Value).ownBlock) (.slice Bk Bj.length Bb) Bj) ∧ Z (wc.heap[AL]? = some (.cells #[.int .i64 a0_0, .int .i64 a0_1, (.slice A0_2 l0_2.length c0_2), .int .i64 a0_3, .int .i64 a0_4, .int .i64 a0_5, .int .i64 a0_6, .int .i64 a0_7] 52 (0, 0))) ∧ Z (wc.heap[Br]? = some (.cells #[.int .i64 Al, .int .i64 Am, (.slice AK Aa.length AJ), .int .i64 An, .int .i64 Ao, .int .i64 Ap, .int .i64 Aq, .int .i64 Ar] 55 (0, 0))) ∧ Z (wc.heap[AS]? = some (.cells #[.int .i64 Ay, .int .i64 Az, (.slice Aw Bn.length Au), .int .i64 AA, .int .i64 AB, .int .i64 AC, .int .i64 AD, .int .i64 AE] 55 (0, 0))) ∧ Z (wc.heap[BB]? = some (.cells #[.int .i64 Ad, .int .i64 Ae, (.slice AF Ac.length Ax), .int .i64 Af, .int .i64 Ag, .int .i64 Ah, .int .i64 Ai, .int .i64 Aj] 55 (0, 0))) ∧ Z (wc.heap[Fm]? = some (.cells #[.int .i64 BI, .int .i64 BJ, (.slice Bk Bj.length Bb), .int .i64 BK, .int .i64 BL, .int .i64 BM, .int .i64 BN, .int .i64 BO] 55 (0, 0))) ∧ Z (Below w.heap.size w wc))
           case first =>
            have H := BT.o
            clear BT
            replace H := Option.bind_eq_some_iff.mp H
            obtain ⟨Bp, Fg, H⟩ := H
            replace H : (if Bp = true then (laws_FnExactRefillMachine.j2 kj61 AY (D0 != As) Ad Ae AR Af Ag Ah Ai Aj) else (laws_FnExactRefillMachine.j2 kj61 AY true Ad Ae AR Af Ag Ah Ai Aj)) = some true := H
            have HI := Z.m Fg
            clear Fg
            by_cases c127 : Bp = true
            ·subst c127
             have H1 : (laws_FnExactRefillMachine.j2 kj61 AY (D0 != As) Ad Ae AR Af Ag Ah Ai Aj) = some true := by rw [if_pos rfl] at H; exact H
             clear H
             have H := H1
             clear H1
             have H' := Z.m H
             clear H
             have Jg := Bv.o
             have JA := Be.o
             have Jh := Bw.o
             have JB := Bf.o
             have Ji := Bx.o
             have JC := Bh.o
             have Jj := Bi.o
             have JD := B2.o
             have FO := bc0 Ab
             have FP := bc1 Ab
             have FQ := bc2 Ab
             have FR := bc3 Ab
             have FS := bc4 Ab
             have FT := bc5 Ab
             have FU := bc6 Ab
             have FV := bc7 Ab
             have Gc := qz Ab.o 0
             have Gd := qz Ab.o 1
             have Ge := qz Ab.o 2
             have Gf := qz Ab.o 3
             have Gg := qz Ab.o 4
             have Gh := qz Ab.o 5
             have Gi := qz Ab.o 6
             have Gj := qz Ab.o 7
             have Jk := AU.o
             have JE := AM.o
             have Jl := AO.o
             have JF := AV.o
             have Jm := AH.o
             have JG := AP.o
             have FW := bc0 A2
             have FX := bc1 A2
             have FY := bc2 A2
             have FZ := bc3 A2
             have G0 := bc4 A2
             have G1 := bc5 A2
             have G2 := bc6 A2
             have G3 := bc7 A2
             have Gk := qz A2.o 0
             have Gl := qz A2.o 1
             have Gm := qz A2.o 2
             have Gn := qz A2.o 3
             have Go := qz A2.o 4
             have Gp := qz A2.o 5
             have Gq := qz A2.o 6
             have Gr := qz A2.o 7
             go_wp2_with (first | ((with_reducible refine gc (f := 49) rfl ?_); refine gA (some 91) _ #[.agg #[.int .i64 BI, .int .i64 BJ, .slice Bk Bj.length Bb, .int .i64 BK, .int .i64 BL, .int .i64 BM, .int .i64 BN, .int .i64 BO], .agg #[.int .i64 Al, .int .i64 Am, .slice AK Aa.length AJ, .int .i64 An, .int .i64 Ao, .int .i64 Ap, .int .i64 Aq, .int .i64 Ar]] ?_ Try.func49; (with_reducible refine (laws_eqMachine.calls kj61 BI BJ _ _ Bj BK BL BM BN BO Al Am _ _ Aa An Ao Ap Aq Ar true _ ?side1 ?side2 ?side3 ?side4 HI.o).mono ?_); (case side1 => refine (Kd.RrZ (e := 71) (base := w.heap.size) (ok := fun k_ => ((((True ∧ some k_ ≠ (.slice AK Aa.length AJ : Value).ownBlock) ∧ some k_ ≠ (.slice Aw Bn.length Au : Value).ownBlock) ∧ some k_ ≠ (.slice AF Ac.length Ax : Value).ownBlock) ∧ some k_ ≠ (.slice BQ BH.length BV : Value).ownBlock)) (n := Bj.length) (c := Bb) ?_).2.2; exact (by refine rK ?_; exact (Kd.Rm (rf (rf (rf (rf (rf (rf (rf (rf (Kd.Ry Bm.o Ab.o (by decide)))))))))) (fun _ h_ => h_.1)))); (case side2 => exact (Kd.RrZ Bm.o).2.1); (case side3 => refine (Kd.RrZ (e := 71) (base := w.heap.size) (ok := fun k_ => (((some k_ ≠ (.slice Aw Bn.length Au : Value).ownBlock ∧ some k_ ≠ (.slice AF Ac.length Ax : Value).ownBlock) ∧ some k_ ≠ (.slice BQ BH.length BV : Value).ownBlock) ∧ some k_ ≠ (.slice Bk Bj.length Bb : Value).ownBlock)) (n := Aa.length) (c := AJ) ?_).2.2; exact (by refine rK ?_; exact (Kd.Rm (rf (rf (rf (rf (rf (rf (rf (rf (Kd.Ry A7.o Ab.o (by decide)))))))))) (fun _ h_ => h_.1)))); (case side4 => exact (Kd.RrZ A7.o).2.1); rintro e KQ ⟨rfl, hb⟩; refine ⟨_, rfl, ?_⟩; replace A7 := Z.m (Kd.Rb (by refine rK ?_; exact (Kd.Rm (rf (rf (rf (rf (rf (rf (rf (rf (Kd.Ry A7.o Ab.o (by decide)))))))))) (fun _ h_ => h_.1))) hb); replace A6 := Z.m (Kd.Rb (by refine rK ?_; exact (Kd.Rm (rf (rf (rf (rf (rf (rf (rf (rf (Kd.Ry A6.o Ab.o (by decide)))))))))) (fun _ h_ => h_.1))) hb); replace A3 := Z.m (Kd.Rb (by refine rK ?_; exact (Kd.Rm (rf (rf (rf (rf (rf (rf (rf (rf (Kd.Ry A3.o Ab.o (by decide)))))))))) (fun _ h_ => h_.1))) hb); replace B7 := Z.m (Kd.Rb (by refine rK ?_; exact (Kd.Rm (rf (rf (rf (rf (rf (rf (rf (rf (Kd.Ry B7.o Ab.o (by decide)))))))))) (fun _ h_ => h_.1))) hb); replace Bm := Z.m (Kd.Rb (by refine rK ?_; exact (Kd.Rm (rf (rf (rf (rf (rf (rf (rf (rf (Kd.Ry Bm.o Ab.o (by decide)))))))))) (fun _ h_ => h_.1))) hb); replace A0 := Z.m (qb (g := AL) (o := .cells #[.int .i64 a0_0, .int .i64 a0_1, .slice A0_2 l0_2.length c0_2, .int .i64 a0_3, .int .i64 a0_4, .int .i64 a0_5, .int .i64 a0_6, .int .i64 a0_7] 52 (0, 0)) (by refine bK ?_; (iterate 8 refine qF ?_ Be); exact A0.o) hb); replace A2 := Z.m (qb (g := Br) (o := .cells #[.int .i64 Al, .int .i64 Am, .slice AK Aa.length AJ, .int .i64 An, .int .i64 Ao, .int .i64 Ap, .int .i64 Aq, .int .i64 Ar] 55 (0, 0)) (by refine bK ?_; (iterate 8 refine qF ?_ Bf); exact A2.o) hb); replace A5 := Z.m (qb (g := AS) (o := .cells #[.int .i64 Ay, .int .i64 Az, .slice Aw Bn.length Au, .int .i64 AA, .int .i64 AB, .int .i64 AC, .int .i64 AD, .int .i64 AE] 55 (0, 0)) (by refine bK ?_; (iterate 8 refine qF ?_ Bh); exact A5.o) hb); replace A1 := Z.m (qb (g := BB) (o := .cells #[.int .i64 Ad, .int .i64 Ae, .slice AF Ac.length Ax, .int .i64 Af, .int .i64 Ag, .int .i64 Ah, .int .i64 Ai, .int .i64 Aj] 55 (0, 0)) (by refine bK ?_; (iterate 8 refine qF ?_ B2); exact A1.o) hb); replace Ab := Z.m (qb (g := Fm) (o := .cells #[.int .i64 BI, .int .i64 BJ, .slice Bk Bj.length Bb, .int .i64 BK, .int .i64 BL, .int .i64 BM, .int .i64 BN, .int .i64 BO] 55 (0, 0)) (by refine bK ?_; apply st8; refine bK ?_; exact Ab.o) hb); replace HB := bB HB hb; (try clear hb); (try clear BP); (try clear hk); (try clear hi)))
             go_meet
             case rel => exact ⟨_, ((D0 != As)), (by first | rfl | (simp; done) | (simp [*]; done)), H', ⟨by have := Fq.o; have := HK.o; first | omega | exact Nat.le_refl _⟩, ⟨by (try simp only [A8]); refine rK ?_; exact Kd.Rm A7.o (fun _ hk => ⟨hk.1.1.1, ⟨hk.1.1.2, hk.2⟩⟩)⟩, ⟨by (try simp only [A8]); refine rK ?_; exact Kd.Rm A6.o (fun _ hk => ⟨hk.1.1.1, ⟨hk.1.1.2, hk.2⟩⟩)⟩, ⟨by (try simp only [A8]); refine rK ?_; exact Kd.Rm A3.o (fun _ hk => ⟨hk.1.1.1, ⟨hk.1.1.2, hk.2⟩⟩)⟩, ⟨by (try simp only [A8]); refine rK ?_; exact Kd.Rm Bm.o (fun _ hk => ⟨hk.1.1.1.2, ⟨hk.1.1.2, hk.1.2⟩⟩)⟩, ⟨by (try simp only [A8]); refine bK ?_; exact A0.o⟩, ⟨by (try simp only [A8]); refine bK ?_; exact A2.o⟩, ⟨by (try simp only [A8]); refine bK ?_; exact A5.o⟩, ⟨by (try simp only [A8]); refine bK ?_; exact A1.o⟩, ⟨by (try simp only [A8]); refine bK ?_; exact Ab.o⟩, ⟨vB HB⟩⟩
            ·(rw [if_neg c127] at H; exact absurd H (laws_FnExactRefillMachine.bad_j2 _ _ _ _ _ _ _ _ _ _))
           case rest =>
            clear BT
            (try clear c91); (try clear Fl); (try clear Fr); (try clear Fs)
            (try clear BW); (try clear BX); (try clear BY); (try clear BZ); (try clear C0); (try clear C1); (try clear C2); (try clear C3)
            (try clear C4); (try clear C5); (try clear C6); (try clear C7); (try clear C8); (try clear C9); (try clear Ca); (try clear Cb)
            (try clear Cd); (try clear Ce); (try clear Cf); (try clear Cg); (try clear Ch); (try clear Ci); (try clear Cj); (try clear Cl)
            (try clear Cm); (try clear Cn); (try clear Co); (try clear Cp); (try clear Cq); (try clear Cr); (try clear Cs); (try clear Ct)
            (try clear Cu); (try clear Cv); (try clear Cw); (try clear Cx); (try clear Cy); (try clear Cz); (try clear CA); (try clear CB)
            (try clear CC); (try clear CD); (try clear CE); (try clear CF); (try clear CG); (try clear CH); (try clear CI); (try clear CJ)
            (try clear CK); (try clear CL); (try clear CM); (try clear CN); (try clear CO); (try clear CP); (try clear CQ); (try clear CR)
            (try clear CS); (try clear CT); (try clear CU); (try clear CV); (try clear CW); (try clear CX); (try clear CY); (try clear CZ)
            obtain ⟨kq, Bq, rfl, HA, JO, A7, A6, A3, Bd, A0, A2, A5, A1, Ab, HB⟩ := hcut
            have Ak := (Kd.RrZ A3.o).1
            rw [Ak] at A3
            (try simp only [Ak])
            (try simp only [Ak] at A0)
            (try simp only [Ak] at A2)
            (try simp only [Ak] at A5)
            (try simp only [Ak] at A1)
            (try simp only [Ak] at Ab)
            (try simp only [Ak] at A7)
            (try simp only [Ak] at A6)
            (try simp only [Ak] at Bd)
            cases kq with
            | zero => exact absurd HA.o (by simp [laws_FnExactRefillMachine.j2])
            | succ kj104 =>
             have H := HA.o
             clear HA
             simp only [laws_FnExactRefillMachine.j2] at H
             by_cases c148 : Bq = true
             ·(rw [if_pos c148] at H; exact absurd H (by decide))
             ·replace c148 := Bool.eq_false_iff.mpr c148
              subst c148
              have H1 : ((laws_heldMachine.f kj104 Ad Ae AR Af Ag Ah Ai Aj 1).bind fun BC => (if BC < 0 then (some false) else (if BC = AY then (some true) else (some false)))) = some true := by rw [if_neg (show ¬ (false = true) by decide)] at H; exact H
              clear H
              have H := H1
              clear H1
              replace H := Option.bind_eq_some_iff.mp H
              obtain ⟨BC, Fh, H⟩ := H
              replace H : (if BC < 0 then (some false) else (if BC = AY then (some true) else (some false))) = some true := H
              have HJ := Z.m Fh
              clear Fh
              by_cases c150 : BC < 0
              ·(rw [if_pos c150] at H; exact absurd H (by decide))
              ·rw [if_neg c150] at H
               have BU := decide_eq_false c150
               (try simp only [A8] at BU)
               (try simp only [Ak] at BU)
               clear c150
               by_cases c157 : BC = AY
               ·rw [if_pos c157] at H
                have HL := beq_iff_eq.mpr c157
                have HM := bne_eq_false_iff_eq.mpr c157
                clear c157
                clear H
                have Jn := AW.o
                have JH := AN.o
                have Jo := AP.o
                have JI := AH.o
                have Jp := AQ.o
                have JJ := AI.o
                have Jq := B2.o
                have JK := Bi.o
                have G4 := bc0 A1
                have G5 := bc1 A1
                have G6 := bc2 A1
                have G7 := bc3 A1
                have G8 := bc4 A1
                have G9 := bc5 A1
                have Ga := bc6 A1
                have Gb := bc7 A1
                have Gs := qz A1.o 0
                have Gt := qz A1.o 1
                have Gu := qz A1.o 2
                have Gv := qz A1.o 3
                have Gw := qz A1.o 4
                have Gx := qz A1.o 5
                have Gy := qz A1.o 6
                have Gz := qz A1.o 7
                go_wp2_with (first | ((with_reducible refine gc (f := 51) rfl ?_); refine gA (some 100) _ #[.agg #[.int .i64 Ad, .int .i64 Ae, .slice AF AR.length Ax, .int .i64 Af, .int .i64 Ag, .int .i64 Ah, .int .i64 Ai, .int .i64 Aj], .int .i64 1] ?_ Try.func51; (with_reducible refine (laws_heldMachine.calls kj104 Ad Ae _ _ AR Af Ag Ah Ai Aj 1 BC _ ?side1 ?side2 HJ.o).mono ?_); (case side1 => repeat (first | exact (Kd.RrZ A3.o).2.2 | (with_reducible refine Kd.C_alloc ?_ _) | (with_reducible refine Kd.C_drewN ?_ _) | (with_reducible refine Kd.C_drew ?_))); (case side2 => exact (Kd.RrZ A3.o).2.1); rintro e KR ⟨rfl, hb⟩; refine ⟨_, rfl, ?_⟩; replace A7 := Z.m (Kd.Rb (vR A7) hb); replace A6 := Z.m (Kd.Rb (vR A6) hb); replace A3 := Z.m (Kd.Rb (vR A3) hb); replace Bd := Z.m (Kd.Rb (vR Bd) hb); replace A0 := kB A0 hb; replace A2 := kB A2 hb; replace A5 := kB A5 hb; replace A1 := kB A1 hb; replace Ab := kB Ab hb; replace HB := bB HB hb; (try clear hb); (try clear BP); (try clear hk); (try clear hi)))
                go_ret
                exact ⟨by first | rfl | (simp [eN, eS] <;> rfl) | (simp [*, eN, eS] <;> rfl), vB HB⟩
               ·(rw [if_neg c157] at H; exact absurd H (by decide))
          ·(rw [if_neg c102] at H; exact absurd H (by decide))
     ·(rw [if_neg c60] at H; exact absurd H (by decide))

end Go.Proofs.Ytlkiakpipcnijaa.PAll
