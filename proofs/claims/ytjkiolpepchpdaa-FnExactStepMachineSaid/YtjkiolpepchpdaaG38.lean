/- Began as a text that print.sh wrote (of the functions named below); turned and shortened by this session. -/
import Derived.Test.YtjkiolpepchpdaaG0
import Derived.Test.YtjkiolpepchpdaaG1
import Derived.Test.YtjkiolpepchpdaaG11
import Derived.Test.YtjkiolpepchpdaaG22
import Derived.Test.YtjkiolpepchpdaaG23
import Derived.Test.YtjkiolpepchpdaaG24
import Derived.Test.YtjkiolpepchpdaaG36
import Derived.Test.YtjkiolpepchpdaaG37
namespace Go.Proofs.Ytjkiolpepchpdaa.PAll
open Go.RowKit Go.Proofs.YtjkiolpepchpdaaW.PrintWords Go.Proofs.YtjkiolpepchpdaaW.PrintLast Go.Proofs.YtjkiolpepchpdaaW.PrintMore
attribute [local go_sem] max2_int min2_int max_two min_two max_three min_three max_four min_four   -- for this text's walks alone
set_option linter.unusedVariables false
set_option linter.unusedSimpArgs false

/-! ### laws_FnExactStepMachine: function 9 -/
mutual
def laws_FnExactStepMachine.j0 : Nat → Bool → Bool → Bool → Int → Int → List (S93) → Int → Int → Int → Int → Int → Int → Int → List (S88) → Int → Int → Int → Int → Int → Int → Int → Int → Int → Int → List (S88) → Int → Int → Int → Int → Int → Int → Int → List (S88) → Int → Int → Int → Int → Int → Int → Int → Int → Option (Bool)
 | 0, _, _, _, _, _, _, _, _, _, _, _, _, _, _, _, _, _, _, _, _, _, _, _, _, _, _, _, _, _, _, _, _, _, _, _, _, _, _, _, _, _ => none
 | k + 1, x6, x10, x51, x1117000, x1117001, x1117002, x1117003, x1117004, x1117005, x1117006, x1117007, x1143000, x1143001, x1143002, x1143003, x1143004, x1143005, x1143006, x1143007, x1144000, x1144001, x1144002, x1155000, x1155001, x1155002, x1155003, x1155004, x1155005, x1155006, x1155007, x1170000, x1170001, x1170002, x1170003, x1170004, x1170005, x1170006, x1170007, x1171000, x1171001, x1171002 => if x51 = true then (some false) else ((laws_toMachine.f k x1117000 x1117001 x1117002 x1117003 x1117004 x1117005 x1117006 x1117007).bind fun bt1173 => ((laws_eqMachine.f k x1155000 x1155001 x1155002 x1155003 x1155004 x1155005 x1155006 x1155007 bt1173.1 bt1173.2.1 bt1173.2.2.1 bt1173.2.2.2.1 bt1173.2.2.2.2.1 bt1173.2.2.2.2.2.1 bt1173.2.2.2.2.2.2.1 bt1173.2.2.2.2.2.2.2).bind fun t1183 => (if t1183 = true then ((laws_markMachine.f k x1155000 x1155001 x1155002 x1155003 x1155004 x1155005 x1155006 x1155007 1).bind fun bt1184 => (if bt1184.1 < 0 then (laws_FnExactStepMachine.j1 k x6 true x1117000 x1117001 x1117002 x1117003 x1117004 x1117005 x1117006 x1117007 x1143000 x1143001 x1143002 x1143003 x1143004 x1143005 x1143006 x1143007 x1144000 x1144001 x1144002 x1170000 x1170001 x1170002 x1170003 x1170004 x1170005 x1170006 x1170007) else ((laws_eqMachine.f k x1170000 x1170001 x1170002 x1170003 x1170004 x1170005 x1170006 x1170007 x1143000 x1143001 x1143002 x1143003 x1143004 x1143005 x1143006 x1143007).bind fun t1186 => (if t1186 = true then ((laws_eqFall.f x1171000 x1171001 x1171002 x1144000 x1144001 x1144002).bind fun t1187 => (if t1187 = true then (laws_FnExactStepMachine.j1 k x6 (x10 != x6) x1117000 x1117001 x1117002 x1117003 x1117004 x1117005 x1117006 x1117007 x1143000 x1143001 x1143002 x1143003 x1143004 x1143005 x1143006 x1143007 x1144000 x1144001 x1144002 x1170000 x1170001 x1170002 x1170003 x1170004 x1170005 x1170006 x1170007) else (laws_FnExactStepMachine.j1 k x6 true x1117000 x1117001 x1117002 x1117003 x1117004 x1117005 x1117006 x1117007 x1143000 x1143001 x1143002 x1143003 x1143004 x1143005 x1143006 x1143007 x1144000 x1144001 x1144002 x1170000 x1170001 x1170002 x1170003 x1170004 x1170005 x1170006 x1170007))) else (laws_FnExactStepMachine.j1 k x6 true x1117000 x1117001 x1117002 x1117003 x1117004 x1117005 x1117006 x1117007 x1143000 x1143001 x1143002 x1143003 x1143004 x1143005 x1143006 x1143007 x1144000 x1144001 x1144002 x1170000 x1170001 x1170002 x1170003 x1170004 x1170005 x1170006 x1170007))))) else (some false))))
def laws_FnExactStepMachine.j1 : Nat → Bool → Bool → Int → Int → List (S93) → Int → Int → Int → Int → Int → Int → Int → List (S88) → Int → Int → Int → Int → Int → Int → Int → Int → Int → Int → List (S88) → Int → Int → Int → Int → Int → Option (Bool)
 | 0, _, _, _, _, _, _, _, _, _, _, _, _, _, _, _, _, _, _, _, _, _, _, _, _, _, _, _, _, _ => none
 | k + 1, x6, x78, x1117000, x1117001, x1117002, x1117003, x1117004, x1117005, x1117006, x1117007, x1143000, x1143001, x1143002, x1143003, x1143004, x1143005, x1143006, x1143007, x1144000, x1144001, x1144002, x1170000, x1170001, x1170002, x1170003, x1170004, x1170005, x1170006, x1170007 => if x78 = true then (some false) else ((laws_markMachine.f k x1170000 x1170001 x1170002 x1170003 x1170004 x1170005 x1170006 x1170007 1).bind fun bt1188 => ((laws_heldMachine.f k x1170000 x1170001 bt1188.2 x1170003 x1170004 x1170005 x1170006 x1170007 1).bind fun t1190 => (if t1190 < 0 then (some false) else (if t1190 = bt1188.1 then ((laws_toMachine.f k x1117000 x1117001 x1117002 x1117003 x1117004 x1117005 x1117006 x1117007).bind fun bt1191 => ((impl_StepMachine.f k bt1191.1 bt1191.2.1 bt1191.2.2.1 bt1191.2.2.2.1 bt1191.2.2.2.2.1 bt1191.2.2.2.2.2.1 bt1191.2.2.2.2.2.2.1 bt1191.2.2.2.2.2.2.2).bind fun bt1201 => ((laws_eqMachine.f k bt1201.1 bt1201.2.1 bt1201.2.2.1 bt1201.2.2.2.1 bt1201.2.2.2.2.1 bt1201.2.2.2.2.2.1 bt1201.2.2.2.2.2.2.1 bt1201.2.2.2.2.2.2.2.1 x1143000 x1143001 x1143002 x1143003 x1143004 x1143005 x1143006 x1143007).bind fun t1217 => (if t1217 = true then ((laws_eqFall.f bt1201.2.2.2.2.2.2.2.2.1 bt1201.2.2.2.2.2.2.2.2.2.1 bt1201.2.2.2.2.2.2.2.2.2.2.1 x1144000 x1144001 x1144002).bind fun t1218 => (if t1218 = true then (laws_FnExactStepMachine.j2 k bt1188.1 (bt1201.2.2.2.2.2.2.2.2.2.2.2 != x6) x1170000 x1170001 bt1188.2 x1170003 x1170004 x1170005 x1170006 x1170007) else (laws_FnExactStepMachine.j2 k bt1188.1 true x1170000 x1170001 bt1188.2 x1170003 x1170004 x1170005 x1170006 x1170007))) else (laws_FnExactStepMachine.j2 k bt1188.1 true x1170000 x1170001 bt1188.2 x1170003 x1170004 x1170005 x1170006 x1170007))))) else (some false)))))
def laws_FnExactStepMachine.j2 : Nat → Int → Bool → Int → Int → List (S88) → Int → Int → Int → Int → Int → Option (Bool)
 | 0, _, _, _, _, _, _, _, _, _, _ => none
 | k + 1, x12, x111, x1170000, x1170001, x1170002, x1170003, x1170004, x1170005, x1170006, x1170007 => if x111 = true then (some false) else ((laws_heldMachine.f k x1170000 x1170001 x1170002 x1170003 x1170004 x1170005 x1170006 x1170007 1).bind fun t1219 => (if t1219 < 0 then (some false) else (if t1219 = x12 then (some true) else (some false))))
end
def laws_FnExactStepMachine.f (k : Nat) (a0_0 : Int) (a0_1 : Int) (l0_2 : List (S93)) (a0_3 : Int) (a0_4 : Int) (a0_5 : Int) (a0_6 : Int) (a0_7 : Int) : Option (Bool) := (laws_szMachine.f a0_0 a0_1 l0_2 a0_3 a0_4 a0_5 a0_6 a0_7 1048576).bind fun t1117 => (if t1117 < 0 then (some true) else ((laws_toMachine.f k a0_0 a0_1 l0_2 a0_3 a0_4 a0_5 a0_6 a0_7).bind fun bt1118 => ((spec_StepMachine.f k bt1118.1 bt1118.2.1 bt1118.2.2.1 bt1118.2.2.2.1 bt1118.2.2.2.2.1 bt1118.2.2.2.2.2.1 bt1118.2.2.2.2.2.2.1 bt1118.2.2.2.2.2.2.2).bind fun bt1128 => ((laws_toMachine.f k a0_0 a0_1 l0_2 a0_3 a0_4 a0_5 a0_6 a0_7).bind fun bt1144 => ((impl_StepMachine.f k bt1144.1 bt1144.2.1 bt1144.2.2.1 bt1144.2.2.2.1 bt1144.2.2.2.2.1 bt1144.2.2.2.2.2.1 bt1144.2.2.2.2.2.2.1 bt1144.2.2.2.2.2.2.2).bind fun bt1155 => ((laws_eqMachine.f k bt1155.1 bt1155.2.1 bt1155.2.2.1 bt1155.2.2.2.1 bt1155.2.2.2.2.1 bt1155.2.2.2.2.2.1 bt1155.2.2.2.2.2.2.1 bt1155.2.2.2.2.2.2.2.1 bt1128.1 bt1128.2.1 bt1128.2.2.1 bt1128.2.2.2.1 bt1128.2.2.2.2.1 bt1128.2.2.2.2.2.1 bt1128.2.2.2.2.2.2.1 bt1128.2.2.2.2.2.2.2.1).bind fun t1171 => (if t1171 = true then ((laws_eqFall.f bt1155.2.2.2.2.2.2.2.2.1 bt1155.2.2.2.2.2.2.2.2.2.1 bt1155.2.2.2.2.2.2.2.2.2.2.1 bt1128.2.2.2.2.2.2.2.2.1 bt1128.2.2.2.2.2.2.2.2.2.1 bt1128.2.2.2.2.2.2.2.2.2.2.1).bind fun t1172 => (if t1172 = true then (laws_FnExactStepMachine.j0 k bt1128.2.2.2.2.2.2.2.2.2.2.2 bt1155.2.2.2.2.2.2.2.2.2.2.2 (bt1155.2.2.2.2.2.2.2.2.2.2.2 != bt1128.2.2.2.2.2.2.2.2.2.2.2) a0_0 a0_1 l0_2 a0_3 a0_4 a0_5 a0_6 a0_7 bt1128.1 bt1128.2.1 bt1128.2.2.1 bt1128.2.2.2.1 bt1128.2.2.2.2.1 bt1128.2.2.2.2.2.1 bt1128.2.2.2.2.2.2.1 bt1128.2.2.2.2.2.2.2.1 bt1128.2.2.2.2.2.2.2.2.1 bt1128.2.2.2.2.2.2.2.2.2.1 bt1128.2.2.2.2.2.2.2.2.2.2.1 bt1144.1 bt1144.2.1 bt1144.2.2.1 bt1144.2.2.2.1 bt1144.2.2.2.2.1 bt1144.2.2.2.2.2.1 bt1144.2.2.2.2.2.2.1 bt1144.2.2.2.2.2.2.2 bt1155.1 bt1155.2.1 bt1155.2.2.1 bt1155.2.2.2.1 bt1155.2.2.2.2.1 bt1155.2.2.2.2.2.1 bt1155.2.2.2.2.2.2.1 bt1155.2.2.2.2.2.2.2.1 bt1155.2.2.2.2.2.2.2.2.1 bt1155.2.2.2.2.2.2.2.2.2.1 bt1155.2.2.2.2.2.2.2.2.2.2.1) else (laws_FnExactStepMachine.j0 k bt1128.2.2.2.2.2.2.2.2.2.2.2 bt1155.2.2.2.2.2.2.2.2.2.2.2 true a0_0 a0_1 l0_2 a0_3 a0_4 a0_5 a0_6 a0_7 bt1128.1 bt1128.2.1 bt1128.2.2.1 bt1128.2.2.2.1 bt1128.2.2.2.2.1 bt1128.2.2.2.2.2.1 bt1128.2.2.2.2.2.2.1 bt1128.2.2.2.2.2.2.2.1 bt1128.2.2.2.2.2.2.2.2.1 bt1128.2.2.2.2.2.2.2.2.2.1 bt1128.2.2.2.2.2.2.2.2.2.2.1 bt1144.1 bt1144.2.1 bt1144.2.2.1 bt1144.2.2.2.1 bt1144.2.2.2.2.1 bt1144.2.2.2.2.2.1 bt1144.2.2.2.2.2.2.1 bt1144.2.2.2.2.2.2.2 bt1155.1 bt1155.2.1 bt1155.2.2.1 bt1155.2.2.2.1 bt1155.2.2.2.2.1 bt1155.2.2.2.2.2.1 bt1155.2.2.2.2.2.2.1 bt1155.2.2.2.2.2.2.2.1 bt1155.2.2.2.2.2.2.2.2.1 bt1155.2.2.2.2.2.2.2.2.2.1 bt1155.2.2.2.2.2.2.2.2.2.2.1))) else (laws_FnExactStepMachine.j0 k bt1128.2.2.2.2.2.2.2.2.2.2.2 bt1155.2.2.2.2.2.2.2.2.2.2.2 true a0_0 a0_1 l0_2 a0_3 a0_4 a0_5 a0_6 a0_7 bt1128.1 bt1128.2.1 bt1128.2.2.1 bt1128.2.2.2.1 bt1128.2.2.2.2.1 bt1128.2.2.2.2.2.1 bt1128.2.2.2.2.2.2.1 bt1128.2.2.2.2.2.2.2.1 bt1128.2.2.2.2.2.2.2.2.1 bt1128.2.2.2.2.2.2.2.2.2.1 bt1128.2.2.2.2.2.2.2.2.2.2.1 bt1144.1 bt1144.2.1 bt1144.2.2.1 bt1144.2.2.2.1 bt1144.2.2.2.2.1 bt1144.2.2.2.2.2.1 bt1144.2.2.2.2.2.2.1 bt1144.2.2.2.2.2.2.2 bt1155.1 bt1155.2.1 bt1155.2.2.1 bt1155.2.2.2.1 bt1155.2.2.2.2.1 bt1155.2.2.2.2.2.1 bt1155.2.2.2.2.2.2.1 bt1155.2.2.2.2.2.2.2.1 bt1155.2.2.2.2.2.2.2.2.1 bt1155.2.2.2.2.2.2.2.2.2.1 bt1155.2.2.2.2.2.2.2.2.2.2.1))))))))
theorem laws_FnExactStepMachine.bad_j0 (k : Nat) (y0 : Bool) (y1 : Bool) (y3 : Int) (y4 : Int) (y5 : List (S93)) (y6 : Int) (y7 : Int) (y8 : Int) (y9 : Int) (y10 : Int) (y11 : Int) (y12 : Int) (y13 : List (S88)) (y14 : Int) (y15 : Int) (y16 : Int) (y17 : Int) (y18 : Int) (y19 : Int) (y20 : Int) (y21 : Int) (y22 : Int) (y23 : Int) (y24 : List (S88)) (y25 : Int) (y26 : Int) (y27 : Int) (y28 : Int) (y29 : Int) (y30 : Int) (y31 : Int) (y32 : List (S88)) (y33 : Int) (y34 : Int) (y35 : Int) (y36 : Int) (y37 : Int) (y38 : Int) (y39 : Int) (y40 : Int) : ¬ laws_FnExactStepMachine.j0 k y0 y1 true y3 y4 y5 y6 y7 y8 y9 y10 y11 y12 y13 y14 y15 y16 y17 y18 y19 y20 y21 y22 y23 y24 y25 y26 y27 y28 y29 y30 y31 y32 y33 y34 y35 y36 y37 y38 y39 y40 = some true := by
 cases k <;> simp [laws_FnExactStepMachine.j0]
theorem laws_FnExactStepMachine.bad_j1 (k : Nat) (y0 : Bool) (y2 : Int) (y3 : Int) (y4 : List (S93)) (y5 : Int) (y6 : Int) (y7 : Int) (y8 : Int) (y9 : Int) (y10 : Int) (y11 : Int) (y12 : List (S88)) (y13 : Int) (y14 : Int) (y15 : Int) (y16 : Int) (y17 : Int) (y18 : Int) (y19 : Int) (y20 : Int) (y21 : Int) (y22 : Int) (y23 : List (S88)) (y24 : Int) (y25 : Int) (y26 : Int) (y27 : Int) (y28 : Int) : ¬ laws_FnExactStepMachine.j1 k y0 true y2 y3 y4 y5 y6 y7 y8 y9 y10 y11 y12 y13 y14 y15 y16 y17 y18 y19 y20 y21 y22 y23 y24 y25 y26 y27 y28 = some true := by
 cases k <;> simp [laws_FnExactStepMachine.j1]
theorem laws_FnExactStepMachine.bad_j2 (k : Nat) (y0 : Int) (y2 : Int) (y3 : Int) (y4 : List (S88)) (y5 : Int) (y6 : Int) (y7 : Int) (y8 : Int) (y9 : Int) : ¬ laws_FnExactStepMachine.j2 k y0 true y2 y3 y4 y5 y6 y7 y8 y9 = some true := by
 cases k <;> simp [laws_FnExactStepMachine.j2]
set_option maxHeartbeats 8000000 in
set_option maxRecDepth 100000 in
theorem laws_FnExactStepMachine.calls (k : Nat) (a0_0 : Int) (a0_1 : Int) (A0_2 : Option Addr) (c0_2 : Nat) (l0_2 : List (S93)) (a0_3 : Int) (a0_4 : Int) (a0_5 : Int) (a0_6 : Int) (a0_7 : Int) (w : World) (hr0_2 : Kd.C k93 w A0_2 l0_2.length l0_2) (hc0_2 : l0_2.length ≤ c0_2) (h : laws_FnExactStepMachine.f k a0_0 a0_1 l0_2 a0_3 a0_4 a0_5 a0_6 a0_7 = some true) :
 Calls Try.prog 9 #[.agg #[.int .i64 a0_0, .int .i64 a0_1, .slice A0_2 l0_2.length c0_2, .int .i64 a0_3, .int .i64 a0_4, .int .i64 a0_5, .int .i64 a0_6, .int .i64 a0_7]] w fun e w' => e = .returned (.bool true) ∧ Below w.heap.size w w' := by
 have Sj := Try.underlying26
 have Sk := Try.underlying32
 have Sl := Try.underlying52
 have CE := Z.m hr0_2
 have CD := Z.m hc0_2
 clear hr0_2 hc0_2
 have HB := Z.m (Below.refl w.heap.size w)
 have H : ((laws_szMachine.f a0_0 a0_1 l0_2 a0_3 a0_4 a0_5 a0_6 a0_7 1048576).bind fun CF => (if CF < 0 then (some true) else ((laws_toMachine.f k a0_0 a0_1 l0_2 a0_3 a0_4 a0_5 a0_6 a0_7).bind fun bt1118 => ((spec_StepMachine.f k bt1118.1 bt1118.2.1 bt1118.2.2.1 bt1118.2.2.2.1 bt1118.2.2.2.2.1 bt1118.2.2.2.2.2.1 bt1118.2.2.2.2.2.2.1 bt1118.2.2.2.2.2.2.2).bind fun bt1128 => ((laws_toMachine.f k a0_0 a0_1 l0_2 a0_3 a0_4 a0_5 a0_6 a0_7).bind fun bt1144 => ((impl_StepMachine.f k bt1144.1 bt1144.2.1 bt1144.2.2.1 bt1144.2.2.2.1 bt1144.2.2.2.2.1 bt1144.2.2.2.2.2.1 bt1144.2.2.2.2.2.2.1 bt1144.2.2.2.2.2.2.2).bind fun bt1155 => ((laws_eqMachine.f k bt1155.1 bt1155.2.1 bt1155.2.2.1 bt1155.2.2.2.1 bt1155.2.2.2.2.1 bt1155.2.2.2.2.2.1 bt1155.2.2.2.2.2.2.1 bt1155.2.2.2.2.2.2.2.1 bt1128.1 bt1128.2.1 bt1128.2.2.1 bt1128.2.2.2.1 bt1128.2.2.2.2.1 bt1128.2.2.2.2.2.1 bt1128.2.2.2.2.2.2.1 bt1128.2.2.2.2.2.2.2.1).bind fun BW => (if BW = true then ((laws_eqFall.f bt1155.2.2.2.2.2.2.2.2.1 bt1155.2.2.2.2.2.2.2.2.2.1 bt1155.2.2.2.2.2.2.2.2.2.2.1 bt1128.2.2.2.2.2.2.2.2.1 bt1128.2.2.2.2.2.2.2.2.2.1 bt1128.2.2.2.2.2.2.2.2.2.2.1).bind fun Bw => (if Bw = true then (laws_FnExactStepMachine.j0 k bt1128.2.2.2.2.2.2.2.2.2.2.2 bt1155.2.2.2.2.2.2.2.2.2.2.2 (bt1155.2.2.2.2.2.2.2.2.2.2.2 != bt1128.2.2.2.2.2.2.2.2.2.2.2) a0_0 a0_1 l0_2 a0_3 a0_4 a0_5 a0_6 a0_7 bt1128.1 bt1128.2.1 bt1128.2.2.1 bt1128.2.2.2.1 bt1128.2.2.2.2.1 bt1128.2.2.2.2.2.1 bt1128.2.2.2.2.2.2.1 bt1128.2.2.2.2.2.2.2.1 bt1128.2.2.2.2.2.2.2.2.1 bt1128.2.2.2.2.2.2.2.2.2.1 bt1128.2.2.2.2.2.2.2.2.2.2.1 bt1144.1 bt1144.2.1 bt1144.2.2.1 bt1144.2.2.2.1 bt1144.2.2.2.2.1 bt1144.2.2.2.2.2.1 bt1144.2.2.2.2.2.2.1 bt1144.2.2.2.2.2.2.2 bt1155.1 bt1155.2.1 bt1155.2.2.1 bt1155.2.2.2.1 bt1155.2.2.2.2.1 bt1155.2.2.2.2.2.1 bt1155.2.2.2.2.2.2.1 bt1155.2.2.2.2.2.2.2.1 bt1155.2.2.2.2.2.2.2.2.1 bt1155.2.2.2.2.2.2.2.2.2.1 bt1155.2.2.2.2.2.2.2.2.2.2.1) else (laws_FnExactStepMachine.j0 k bt1128.2.2.2.2.2.2.2.2.2.2.2 bt1155.2.2.2.2.2.2.2.2.2.2.2 true a0_0 a0_1 l0_2 a0_3 a0_4 a0_5 a0_6 a0_7 bt1128.1 bt1128.2.1 bt1128.2.2.1 bt1128.2.2.2.1 bt1128.2.2.2.2.1 bt1128.2.2.2.2.2.1 bt1128.2.2.2.2.2.2.1 bt1128.2.2.2.2.2.2.2.1 bt1128.2.2.2.2.2.2.2.2.1 bt1128.2.2.2.2.2.2.2.2.2.1 bt1128.2.2.2.2.2.2.2.2.2.2.1 bt1144.1 bt1144.2.1 bt1144.2.2.1 bt1144.2.2.2.1 bt1144.2.2.2.2.1 bt1144.2.2.2.2.2.1 bt1144.2.2.2.2.2.2.1 bt1144.2.2.2.2.2.2.2 bt1155.1 bt1155.2.1 bt1155.2.2.1 bt1155.2.2.2.1 bt1155.2.2.2.2.1 bt1155.2.2.2.2.2.1 bt1155.2.2.2.2.2.2.1 bt1155.2.2.2.2.2.2.2.1 bt1155.2.2.2.2.2.2.2.2.1 bt1155.2.2.2.2.2.2.2.2.2.1 bt1155.2.2.2.2.2.2.2.2.2.2.1))) else (laws_FnExactStepMachine.j0 k bt1128.2.2.2.2.2.2.2.2.2.2.2 bt1155.2.2.2.2.2.2.2.2.2.2.2 true a0_0 a0_1 l0_2 a0_3 a0_4 a0_5 a0_6 a0_7 bt1128.1 bt1128.2.1 bt1128.2.2.1 bt1128.2.2.2.1 bt1128.2.2.2.2.1 bt1128.2.2.2.2.2.1 bt1128.2.2.2.2.2.2.1 bt1128.2.2.2.2.2.2.2.1 bt1128.2.2.2.2.2.2.2.2.1 bt1128.2.2.2.2.2.2.2.2.2.1 bt1128.2.2.2.2.2.2.2.2.2.2.1 bt1144.1 bt1144.2.1 bt1144.2.2.1 bt1144.2.2.2.1 bt1144.2.2.2.2.1 bt1144.2.2.2.2.2.1 bt1144.2.2.2.2.2.2.1 bt1144.2.2.2.2.2.2.2 bt1155.1 bt1155.2.1 bt1155.2.2.1 bt1155.2.2.2.1 bt1155.2.2.2.2.1 bt1155.2.2.2.2.2.1 bt1155.2.2.2.2.2.2.1 bt1155.2.2.2.2.2.2.2.1 bt1155.2.2.2.2.2.2.2.2.1 bt1155.2.2.2.2.2.2.2.2.2.1 bt1155.2.2.2.2.2.2.2.2.2.2.1))))))))) = some true := h
 clear h
 replace H := Option.bind_eq_some_iff.mp H
 obtain ⟨CF, QN, H⟩ := H
 replace H : (if CF < 0 then (some true) else ((laws_toMachine.f k a0_0 a0_1 l0_2 a0_3 a0_4 a0_5 a0_6 a0_7).bind fun bt1118 => ((spec_StepMachine.f k bt1118.1 bt1118.2.1 bt1118.2.2.1 bt1118.2.2.2.1 bt1118.2.2.2.2.1 bt1118.2.2.2.2.2.1 bt1118.2.2.2.2.2.2.1 bt1118.2.2.2.2.2.2.2).bind fun bt1128 => ((laws_toMachine.f k a0_0 a0_1 l0_2 a0_3 a0_4 a0_5 a0_6 a0_7).bind fun bt1144 => ((impl_StepMachine.f k bt1144.1 bt1144.2.1 bt1144.2.2.1 bt1144.2.2.2.1 bt1144.2.2.2.2.1 bt1144.2.2.2.2.2.1 bt1144.2.2.2.2.2.2.1 bt1144.2.2.2.2.2.2.2).bind fun bt1155 => ((laws_eqMachine.f k bt1155.1 bt1155.2.1 bt1155.2.2.1 bt1155.2.2.2.1 bt1155.2.2.2.2.1 bt1155.2.2.2.2.2.1 bt1155.2.2.2.2.2.2.1 bt1155.2.2.2.2.2.2.2.1 bt1128.1 bt1128.2.1 bt1128.2.2.1 bt1128.2.2.2.1 bt1128.2.2.2.2.1 bt1128.2.2.2.2.2.1 bt1128.2.2.2.2.2.2.1 bt1128.2.2.2.2.2.2.2.1).bind fun BW => (if BW = true then ((laws_eqFall.f bt1155.2.2.2.2.2.2.2.2.1 bt1155.2.2.2.2.2.2.2.2.2.1 bt1155.2.2.2.2.2.2.2.2.2.2.1 bt1128.2.2.2.2.2.2.2.2.1 bt1128.2.2.2.2.2.2.2.2.2.1 bt1128.2.2.2.2.2.2.2.2.2.2.1).bind fun Bw => (if Bw = true then (laws_FnExactStepMachine.j0 k bt1128.2.2.2.2.2.2.2.2.2.2.2 bt1155.2.2.2.2.2.2.2.2.2.2.2 (bt1155.2.2.2.2.2.2.2.2.2.2.2 != bt1128.2.2.2.2.2.2.2.2.2.2.2) a0_0 a0_1 l0_2 a0_3 a0_4 a0_5 a0_6 a0_7 bt1128.1 bt1128.2.1 bt1128.2.2.1 bt1128.2.2.2.1 bt1128.2.2.2.2.1 bt1128.2.2.2.2.2.1 bt1128.2.2.2.2.2.2.1 bt1128.2.2.2.2.2.2.2.1 bt1128.2.2.2.2.2.2.2.2.1 bt1128.2.2.2.2.2.2.2.2.2.1 bt1128.2.2.2.2.2.2.2.2.2.2.1 bt1144.1 bt1144.2.1 bt1144.2.2.1 bt1144.2.2.2.1 bt1144.2.2.2.2.1 bt1144.2.2.2.2.2.1 bt1144.2.2.2.2.2.2.1 bt1144.2.2.2.2.2.2.2 bt1155.1 bt1155.2.1 bt1155.2.2.1 bt1155.2.2.2.1 bt1155.2.2.2.2.1 bt1155.2.2.2.2.2.1 bt1155.2.2.2.2.2.2.1 bt1155.2.2.2.2.2.2.2.1 bt1155.2.2.2.2.2.2.2.2.1 bt1155.2.2.2.2.2.2.2.2.2.1 bt1155.2.2.2.2.2.2.2.2.2.2.1) else (laws_FnExactStepMachine.j0 k bt1128.2.2.2.2.2.2.2.2.2.2.2 bt1155.2.2.2.2.2.2.2.2.2.2.2 true a0_0 a0_1 l0_2 a0_3 a0_4 a0_5 a0_6 a0_7 bt1128.1 bt1128.2.1 bt1128.2.2.1 bt1128.2.2.2.1 bt1128.2.2.2.2.1 bt1128.2.2.2.2.2.1 bt1128.2.2.2.2.2.2.1 bt1128.2.2.2.2.2.2.2.1 bt1128.2.2.2.2.2.2.2.2.1 bt1128.2.2.2.2.2.2.2.2.2.1 bt1128.2.2.2.2.2.2.2.2.2.2.1 bt1144.1 bt1144.2.1 bt1144.2.2.1 bt1144.2.2.2.1 bt1144.2.2.2.2.1 bt1144.2.2.2.2.2.1 bt1144.2.2.2.2.2.2.1 bt1144.2.2.2.2.2.2.2 bt1155.1 bt1155.2.1 bt1155.2.2.1 bt1155.2.2.2.1 bt1155.2.2.2.2.1 bt1155.2.2.2.2.2.1 bt1155.2.2.2.2.2.2.1 bt1155.2.2.2.2.2.2.2.1 bt1155.2.2.2.2.2.2.2.2.1 bt1155.2.2.2.2.2.2.2.2.2.1 bt1155.2.2.2.2.2.2.2.2.2.2.1))) else (laws_FnExactStepMachine.j0 k bt1128.2.2.2.2.2.2.2.2.2.2.2 bt1155.2.2.2.2.2.2.2.2.2.2.2 true a0_0 a0_1 l0_2 a0_3 a0_4 a0_5 a0_6 a0_7 bt1128.1 bt1128.2.1 bt1128.2.2.1 bt1128.2.2.2.1 bt1128.2.2.2.2.1 bt1128.2.2.2.2.2.1 bt1128.2.2.2.2.2.2.1 bt1128.2.2.2.2.2.2.2.1 bt1128.2.2.2.2.2.2.2.2.1 bt1128.2.2.2.2.2.2.2.2.2.1 bt1128.2.2.2.2.2.2.2.2.2.2.1 bt1144.1 bt1144.2.1 bt1144.2.2.1 bt1144.2.2.2.1 bt1144.2.2.2.2.1 bt1144.2.2.2.2.2.1 bt1144.2.2.2.2.2.2.1 bt1144.2.2.2.2.2.2.2 bt1155.1 bt1155.2.1 bt1155.2.2.1 bt1155.2.2.2.1 bt1155.2.2.2.2.1 bt1155.2.2.2.2.2.1 bt1155.2.2.2.2.2.2.1 bt1155.2.2.2.2.2.2.2.1 bt1155.2.2.2.2.2.2.2.2.1 bt1155.2.2.2.2.2.2.2.2.2.1 bt1155.2.2.2.2.2.2.2.2.2.2.1)))))))) = some true := H
 have A2 := Z.m QN
 clear QN
 by_cases c3 : CF < 0
 ·rw [if_pos c3] at H
  have H5 := decide_eq_true c3
  clear c3
  clear H
  go_enter Try.func9, Try.ntmps9
  go_wp2_with (first | ((with_reducible refine gq (N := 1) rfl ?_); refine be (N := 1) (cs := #[.int .i64 a0_0, .int .i64 a0_1, .slice A0_2 l0_2.length c0_2, .int .i64 a0_3, .int .i64 a0_4, .int .i64 a0_5, .int .i64 a0_6, .int .i64 a0_7]) (t := 26) ?_; intro Be hg w4 hbox hb; have A1 := Z.m (hbox); have CN := gW (w := w) HB hg; have CM := CN; replace HB := bB HB hb; clear hb hbox hg; have Mq := bc0 A1; have Mr := bc1 A1; have Ms := bc2 A1; have Mt := bc3 A1; have Mu := bc4 A1; have Mv := bc5 A1; have Mw := bc6 A1; have Mx := bc7 A1; have My := qz A1.o 0; have Mz := qz A1.o 1; have MA := qz A1.o 2; have MB := qz A1.o 3; have MC := qz A1.o 4; have MD := qz A1.o 5; have ME := qz A1.o 6; have MF := qz A1.o 7) | ((with_reducible refine gc (f := 10) rfl ?_); refine gA (some 19) _ #[.agg #[.int .i64 a0_0, .int .i64 a0_1, .slice A0_2 l0_2.length c0_2, .int .i64 a0_3, .int .i64 a0_4, .int .i64 a0_5, .int .i64 a0_6, .int .i64 a0_7], .int .i64 1048576] ?_ Try.func10; (with_reducible refine (laws_szMachine.calls a0_0 a0_1 _ _ l0_2 a0_3 a0_4 a0_5 a0_6 a0_7 1048576 CF _ ?side1 ?side2 A2.o).mono ?_); (case side1 => repeat (first | exact (Kd.C_below CE.o HB.o) | (with_reducible refine Kd.C_alloc ?_ _) | (with_reducible refine Kd.C_drewN ?_ _) | (with_reducible refine Kd.C_drew ?_))); (case side2 => exact CD.o); rintro e w6 ⟨rfl, hb⟩; refine ⟨_, rfl, ?_⟩; replace A1 := kB A1 hb; replace HB := bB HB hb; (try clear hb); (try clear CJ); (try clear hk); (try clear hi)))
  go_ret
  exact ⟨by first | rfl | (simp [eN, eS] <;> rfl) | (simp [*, eN, eS] <;> rfl), vB HB⟩
 ·rw [if_neg c3] at H
  have H5 := decide_eq_false c3
  clear c3
  replace H := Option.bind_eq_some_iff.mp H
  obtain ⟨⟨CQ, CR, Ch, CS, CT, CU, CV, CW⟩, QP, H⟩ := H
  replace H : ((spec_StepMachine.f k CQ CR Ch CS CT CU CV CW).bind fun bt1128 => ((laws_toMachine.f k a0_0 a0_1 l0_2 a0_3 a0_4 a0_5 a0_6 a0_7).bind fun bt1144 => ((impl_StepMachine.f k bt1144.1 bt1144.2.1 bt1144.2.2.1 bt1144.2.2.2.1 bt1144.2.2.2.2.1 bt1144.2.2.2.2.2.1 bt1144.2.2.2.2.2.2.1 bt1144.2.2.2.2.2.2.2).bind fun bt1155 => ((laws_eqMachine.f k bt1155.1 bt1155.2.1 bt1155.2.2.1 bt1155.2.2.2.1 bt1155.2.2.2.2.1 bt1155.2.2.2.2.2.1 bt1155.2.2.2.2.2.2.1 bt1155.2.2.2.2.2.2.2.1 bt1128.1 bt1128.2.1 bt1128.2.2.1 bt1128.2.2.2.1 bt1128.2.2.2.2.1 bt1128.2.2.2.2.2.1 bt1128.2.2.2.2.2.2.1 bt1128.2.2.2.2.2.2.2.1).bind fun BW => (if BW = true then ((laws_eqFall.f bt1155.2.2.2.2.2.2.2.2.1 bt1155.2.2.2.2.2.2.2.2.2.1 bt1155.2.2.2.2.2.2.2.2.2.2.1 bt1128.2.2.2.2.2.2.2.2.1 bt1128.2.2.2.2.2.2.2.2.2.1 bt1128.2.2.2.2.2.2.2.2.2.2.1).bind fun Bw => (if Bw = true then (laws_FnExactStepMachine.j0 k bt1128.2.2.2.2.2.2.2.2.2.2.2 bt1155.2.2.2.2.2.2.2.2.2.2.2 (bt1155.2.2.2.2.2.2.2.2.2.2.2 != bt1128.2.2.2.2.2.2.2.2.2.2.2) a0_0 a0_1 l0_2 a0_3 a0_4 a0_5 a0_6 a0_7 bt1128.1 bt1128.2.1 bt1128.2.2.1 bt1128.2.2.2.1 bt1128.2.2.2.2.1 bt1128.2.2.2.2.2.1 bt1128.2.2.2.2.2.2.1 bt1128.2.2.2.2.2.2.2.1 bt1128.2.2.2.2.2.2.2.2.1 bt1128.2.2.2.2.2.2.2.2.2.1 bt1128.2.2.2.2.2.2.2.2.2.2.1 bt1144.1 bt1144.2.1 bt1144.2.2.1 bt1144.2.2.2.1 bt1144.2.2.2.2.1 bt1144.2.2.2.2.2.1 bt1144.2.2.2.2.2.2.1 bt1144.2.2.2.2.2.2.2 bt1155.1 bt1155.2.1 bt1155.2.2.1 bt1155.2.2.2.1 bt1155.2.2.2.2.1 bt1155.2.2.2.2.2.1 bt1155.2.2.2.2.2.2.1 bt1155.2.2.2.2.2.2.2.1 bt1155.2.2.2.2.2.2.2.2.1 bt1155.2.2.2.2.2.2.2.2.2.1 bt1155.2.2.2.2.2.2.2.2.2.2.1) else (laws_FnExactStepMachine.j0 k bt1128.2.2.2.2.2.2.2.2.2.2.2 bt1155.2.2.2.2.2.2.2.2.2.2.2 true a0_0 a0_1 l0_2 a0_3 a0_4 a0_5 a0_6 a0_7 bt1128.1 bt1128.2.1 bt1128.2.2.1 bt1128.2.2.2.1 bt1128.2.2.2.2.1 bt1128.2.2.2.2.2.1 bt1128.2.2.2.2.2.2.1 bt1128.2.2.2.2.2.2.2.1 bt1128.2.2.2.2.2.2.2.2.1 bt1128.2.2.2.2.2.2.2.2.2.1 bt1128.2.2.2.2.2.2.2.2.2.2.1 bt1144.1 bt1144.2.1 bt1144.2.2.1 bt1144.2.2.2.1 bt1144.2.2.2.2.1 bt1144.2.2.2.2.2.1 bt1144.2.2.2.2.2.2.1 bt1144.2.2.2.2.2.2.2 bt1155.1 bt1155.2.1 bt1155.2.2.1 bt1155.2.2.2.1 bt1155.2.2.2.2.1 bt1155.2.2.2.2.2.1 bt1155.2.2.2.2.2.2.1 bt1155.2.2.2.2.2.2.2.1 bt1155.2.2.2.2.2.2.2.2.1 bt1155.2.2.2.2.2.2.2.2.2.1 bt1155.2.2.2.2.2.2.2.2.2.2.1))) else (laws_FnExactStepMachine.j0 k bt1128.2.2.2.2.2.2.2.2.2.2.2 bt1155.2.2.2.2.2.2.2.2.2.2.2 true a0_0 a0_1 l0_2 a0_3 a0_4 a0_5 a0_6 a0_7 bt1128.1 bt1128.2.1 bt1128.2.2.1 bt1128.2.2.2.1 bt1128.2.2.2.2.1 bt1128.2.2.2.2.2.1 bt1128.2.2.2.2.2.2.1 bt1128.2.2.2.2.2.2.2.1 bt1128.2.2.2.2.2.2.2.2.1 bt1128.2.2.2.2.2.2.2.2.2.1 bt1128.2.2.2.2.2.2.2.2.2.2.1 bt1144.1 bt1144.2.1 bt1144.2.2.1 bt1144.2.2.2.1 bt1144.2.2.2.2.1 bt1144.2.2.2.2.2.1 bt1144.2.2.2.2.2.2.1 bt1144.2.2.2.2.2.2.2 bt1155.1 bt1155.2.1 bt1155.2.2.1 bt1155.2.2.2.1 bt1155.2.2.2.2.1 bt1155.2.2.2.2.2.1 bt1155.2.2.2.2.2.2.1 bt1155.2.2.2.2.2.2.2.1 bt1155.2.2.2.2.2.2.2.2.1 bt1155.2.2.2.2.2.2.2.2.2.1 bt1155.2.2.2.2.2.2.2.2.2.2.1)))))) = some true := H
  have A7 := Z.m QP
  clear QP
  replace H := Option.bind_eq_some_iff.mp H
  obtain ⟨⟨Ao, Ap, Ae, Aq, Ar, As, At, Au, Av, Aw, Ax, Ay⟩, QQ, H⟩ := H
  replace H : ((laws_toMachine.f k a0_0 a0_1 l0_2 a0_3 a0_4 a0_5 a0_6 a0_7).bind fun bt1144 => ((impl_StepMachine.f k bt1144.1 bt1144.2.1 bt1144.2.2.1 bt1144.2.2.2.1 bt1144.2.2.2.2.1 bt1144.2.2.2.2.2.1 bt1144.2.2.2.2.2.2.1 bt1144.2.2.2.2.2.2.2).bind fun bt1155 => ((laws_eqMachine.f k bt1155.1 bt1155.2.1 bt1155.2.2.1 bt1155.2.2.2.1 bt1155.2.2.2.2.1 bt1155.2.2.2.2.2.1 bt1155.2.2.2.2.2.2.1 bt1155.2.2.2.2.2.2.2.1 Ao Ap Ae Aq Ar As At Au).bind fun BW => (if BW = true then ((laws_eqFall.f bt1155.2.2.2.2.2.2.2.2.1 bt1155.2.2.2.2.2.2.2.2.2.1 bt1155.2.2.2.2.2.2.2.2.2.2.1 Av Aw Ax).bind fun Bw => (if Bw = true then (laws_FnExactStepMachine.j0 k Ay bt1155.2.2.2.2.2.2.2.2.2.2.2 (bt1155.2.2.2.2.2.2.2.2.2.2.2 != Ay) a0_0 a0_1 l0_2 a0_3 a0_4 a0_5 a0_6 a0_7 Ao Ap Ae Aq Ar As At Au Av Aw Ax bt1144.1 bt1144.2.1 bt1144.2.2.1 bt1144.2.2.2.1 bt1144.2.2.2.2.1 bt1144.2.2.2.2.2.1 bt1144.2.2.2.2.2.2.1 bt1144.2.2.2.2.2.2.2 bt1155.1 bt1155.2.1 bt1155.2.2.1 bt1155.2.2.2.1 bt1155.2.2.2.2.1 bt1155.2.2.2.2.2.1 bt1155.2.2.2.2.2.2.1 bt1155.2.2.2.2.2.2.2.1 bt1155.2.2.2.2.2.2.2.2.1 bt1155.2.2.2.2.2.2.2.2.2.1 bt1155.2.2.2.2.2.2.2.2.2.2.1) else (laws_FnExactStepMachine.j0 k Ay bt1155.2.2.2.2.2.2.2.2.2.2.2 true a0_0 a0_1 l0_2 a0_3 a0_4 a0_5 a0_6 a0_7 Ao Ap Ae Aq Ar As At Au Av Aw Ax bt1144.1 bt1144.2.1 bt1144.2.2.1 bt1144.2.2.2.1 bt1144.2.2.2.2.1 bt1144.2.2.2.2.2.1 bt1144.2.2.2.2.2.2.1 bt1144.2.2.2.2.2.2.2 bt1155.1 bt1155.2.1 bt1155.2.2.1 bt1155.2.2.2.1 bt1155.2.2.2.2.1 bt1155.2.2.2.2.2.1 bt1155.2.2.2.2.2.2.1 bt1155.2.2.2.2.2.2.2.1 bt1155.2.2.2.2.2.2.2.2.1 bt1155.2.2.2.2.2.2.2.2.2.1 bt1155.2.2.2.2.2.2.2.2.2.2.1))) else (laws_FnExactStepMachine.j0 k Ay bt1155.2.2.2.2.2.2.2.2.2.2.2 true a0_0 a0_1 l0_2 a0_3 a0_4 a0_5 a0_6 a0_7 Ao Ap Ae Aq Ar As At Au Av Aw Ax bt1144.1 bt1144.2.1 bt1144.2.2.1 bt1144.2.2.2.1 bt1144.2.2.2.2.1 bt1144.2.2.2.2.2.1 bt1144.2.2.2.2.2.2.1 bt1144.2.2.2.2.2.2.2 bt1155.1 bt1155.2.1 bt1155.2.2.1 bt1155.2.2.2.1 bt1155.2.2.2.2.1 bt1155.2.2.2.2.2.1 bt1155.2.2.2.2.2.2.1 bt1155.2.2.2.2.2.2.2.1 bt1155.2.2.2.2.2.2.2.2.1 bt1155.2.2.2.2.2.2.2.2.2.1 bt1155.2.2.2.2.2.2.2.2.2.2.1))))) = some true := H
  have A8 := Z.m QQ
  clear QQ
  replace H := Option.bind_eq_some_iff.mp H
  obtain ⟨⟨AD, AE, AA, AF, AG, AH, AI, AJ⟩, QR, H⟩ := H
  replace H : ((impl_StepMachine.f k AD AE AA AF AG AH AI AJ).bind fun bt1155 => ((laws_eqMachine.f k bt1155.1 bt1155.2.1 bt1155.2.2.1 bt1155.2.2.2.1 bt1155.2.2.2.2.1 bt1155.2.2.2.2.2.1 bt1155.2.2.2.2.2.2.1 bt1155.2.2.2.2.2.2.2.1 Ao Ap Ae Aq Ar As At Au).bind fun BW => (if BW = true then ((laws_eqFall.f bt1155.2.2.2.2.2.2.2.2.1 bt1155.2.2.2.2.2.2.2.2.2.1 bt1155.2.2.2.2.2.2.2.2.2.2.1 Av Aw Ax).bind fun Bw => (if Bw = true then (laws_FnExactStepMachine.j0 k Ay bt1155.2.2.2.2.2.2.2.2.2.2.2 (bt1155.2.2.2.2.2.2.2.2.2.2.2 != Ay) a0_0 a0_1 l0_2 a0_3 a0_4 a0_5 a0_6 a0_7 Ao Ap Ae Aq Ar As At Au Av Aw Ax AD AE AA AF AG AH AI AJ bt1155.1 bt1155.2.1 bt1155.2.2.1 bt1155.2.2.2.1 bt1155.2.2.2.2.1 bt1155.2.2.2.2.2.1 bt1155.2.2.2.2.2.2.1 bt1155.2.2.2.2.2.2.2.1 bt1155.2.2.2.2.2.2.2.2.1 bt1155.2.2.2.2.2.2.2.2.2.1 bt1155.2.2.2.2.2.2.2.2.2.2.1) else (laws_FnExactStepMachine.j0 k Ay bt1155.2.2.2.2.2.2.2.2.2.2.2 true a0_0 a0_1 l0_2 a0_3 a0_4 a0_5 a0_6 a0_7 Ao Ap Ae Aq Ar As At Au Av Aw Ax AD AE AA AF AG AH AI AJ bt1155.1 bt1155.2.1 bt1155.2.2.1 bt1155.2.2.2.1 bt1155.2.2.2.2.1 bt1155.2.2.2.2.2.1 bt1155.2.2.2.2.2.2.1 bt1155.2.2.2.2.2.2.2.1 bt1155.2.2.2.2.2.2.2.2.1 bt1155.2.2.2.2.2.2.2.2.2.1 bt1155.2.2.2.2.2.2.2.2.2.2.1))) else (laws_FnExactStepMachine.j0 k Ay bt1155.2.2.2.2.2.2.2.2.2.2.2 true a0_0 a0_1 l0_2 a0_3 a0_4 a0_5 a0_6 a0_7 Ao Ap Ae Aq Ar As At Au Av Aw Ax AD AE AA AF AG AH AI AJ bt1155.1 bt1155.2.1 bt1155.2.2.1 bt1155.2.2.2.1 bt1155.2.2.2.2.1 bt1155.2.2.2.2.2.1 bt1155.2.2.2.2.2.2.1 bt1155.2.2.2.2.2.2.2.1 bt1155.2.2.2.2.2.2.2.2.1 bt1155.2.2.2.2.2.2.2.2.2.1 bt1155.2.2.2.2.2.2.2.2.2.2.1)))) = some true := H
  have A9 := Z.m QR
  clear QR
  replace H := Option.bind_eq_some_iff.mp H
  obtain ⟨⟨Ag, Ah, An, Ai, Aj, Ak, Al, Am, AM, AN, AO, AS⟩, GZ, H⟩ := H
  replace H : ((laws_eqMachine.f k Ag Ah An Ai Aj Ak Al Am Ao Ap Ae Aq Ar As At Au).bind fun BW => (if BW = true then ((laws_eqFall.f AM AN AO Av Aw Ax).bind fun Bw => (if Bw = true then (laws_FnExactStepMachine.j0 k Ay AS (AS != Ay) a0_0 a0_1 l0_2 a0_3 a0_4 a0_5 a0_6 a0_7 Ao Ap Ae Aq Ar As At Au Av Aw Ax AD AE AA AF AG AH AI AJ Ag Ah An Ai Aj Ak Al Am AM AN AO) else (laws_FnExactStepMachine.j0 k Ay AS true a0_0 a0_1 l0_2 a0_3 a0_4 a0_5 a0_6 a0_7 Ao Ap Ae Aq Ar As At Au Av Aw Ax AD AE AA AF AG AH AI AJ Ag Ah An Ai Aj Ak Al Am AM AN AO))) else (laws_FnExactStepMachine.j0 k Ay AS true a0_0 a0_1 l0_2 a0_3 a0_4 a0_5 a0_6 a0_7 Ao Ap Ae Aq Ar As At Au Av Aw Ax AD AE AA AF AG AH AI AJ Ag Ah An Ai Aj Ak Al Am AM AN AO))) = some true := H
  have Sh := Z.m GZ
  clear GZ
  have GW := Z.m H
  clear H
  go_enter Try.func9, Try.ntmps9
  go_upto_region 8 with (first | ((with_reducible refine gq (N := 1) rfl ?_); refine be (N := 1) (cs := #[.int .i64 a0_0, .int .i64 a0_1, .slice A0_2 l0_2.length c0_2, .int .i64 a0_3, .int .i64 a0_4, .int .i64 a0_5, .int .i64 a0_6, .int .i64 a0_7]) (t := 26) ?_; intro Be hg SE hbox hb; have A1 := Z.m (hbox); have CN := gW (w := w) HB hg; have CM := CN; replace HB := bB HB hb; clear hb hbox hg; have EQ := bc0 A1; have ER := bc1 A1; have ES := bc2 A1; have ET := bc3 A1; have EU := bc4 A1; have EV := bc5 A1; have EW := bc6 A1; have EX := bc7 A1; have FI := qz A1.o 0; have FJ := qz A1.o 1; have FL := qz A1.o 2; have FM := qz A1.o 3; have FN := qz A1.o 4; have FO := qz A1.o 5; have FP := qz A1.o 6; have FQ := qz A1.o 7) | ((with_reducible refine gc (f := 10) rfl ?_); refine gA (some 19) _ #[.agg #[.int .i64 a0_0, .int .i64 a0_1, .slice A0_2 l0_2.length c0_2, .int .i64 a0_3, .int .i64 a0_4, .int .i64 a0_5, .int .i64 a0_6, .int .i64 a0_7], .int .i64 1048576] ?_ Try.func10; (with_reducible refine (laws_szMachine.calls a0_0 a0_1 _ _ l0_2 a0_3 a0_4 a0_5 a0_6 a0_7 1048576 CF _ ?side1 ?side2 A2.o).mono ?_); (case side1 => repeat (first | exact (Kd.C_below CE.o HB.o) | (with_reducible refine Kd.C_alloc ?_ _) | (with_reducible refine Kd.C_drewN ?_ _) | (with_reducible refine Kd.C_drew ?_))); (case side2 => exact CD.o); rintro e SF ⟨rfl, hb⟩; refine ⟨_, rfl, ?_⟩; replace A1 := kB A1 hb; replace HB := bB HB hb; (try clear hb); (try clear CJ); (try clear hk); (try clear hi); have EY := bc0 A1; have EZ := bc1 A1; have F0 := bc2 A1; have F1 := bc3 A1; have F2 := bc4 A1; have F3 := bc5 A1; have F4 := bc6 A1; have F5 := bc7 A1; have FR := qz A1.o 0; have FS := qz A1.o 1; have FT := qz A1.o 2; have FU := qz A1.o 3; have FV := qz A1.o 4; have FW := qz A1.o 5; have FX := qz A1.o 6; have FY := qz A1.o 7) | ((with_reducible refine gc (f := 12) rfl ?_); refine gA (some 24) _ #[.agg #[.int .i64 a0_0, .int .i64 a0_1, .slice A0_2 l0_2.length c0_2, .int .i64 a0_3, .int .i64 a0_4, .int .i64 a0_5, .int .i64 a0_6, .int .i64 a0_7]] ?_ Try.func12; (with_reducible refine (laws_toMachine.calls k a0_0 a0_1 _ _ l0_2 a0_3 a0_4 a0_5 a0_6 a0_7 CQ CR Ch CS CT CU CV CW _ ?side1 ?side2 A7.o).mono ?_); (case side1 => repeat (first | exact (Kd.C_below CE.o HB.o) | (with_reducible refine Kd.C_alloc ?_ _) | (with_reducible refine Kd.C_drewN ?_ _) | (with_reducible refine Kd.C_drew ?_))); (case side2 => exact CD.o); rintro e SG ⟨Sa, rfl, C2, hb⟩; refine ⟨_, rfl, ?_⟩; have AK := Z.m (Kd.R_lower C2 (below_size (vB HB))); replace A1 := kB A1 hb; replace HB := bB HB hb; (try clear hb); (try clear CJ); (try clear hk); (try clear hi); (try clear C2); obtain ⟨Db, Dc, Mm⟩ := Kd.R_slice AK.o; subst Mm) | ((with_reducible refine gc (f := 30) rfl ?_); refine gA (some 25) _ #[.agg #[.int .i64 CQ, .int .i64 CR, .slice Db Ch.length Dc, .int .i64 CS, .int .i64 CT, .int .i64 CU, .int .i64 CV, .int .i64 CW]] ?_ Try.func30; (with_reducible refine (spec_StepMachine.calls k CQ CR _ _ Ch CS CT CU CV CW Ao Ap Ae Aq Ar As At Au Av Aw Ax Ay _ ?side1 ?side2 A8.o).mono ?_); (case side1 => repeat (first | exact (Kd.RrZ AK.o).2.2 | (with_reducible refine Kd.C_alloc ?_ _) | (with_reducible refine Kd.C_drewN ?_ _) | (with_reducible refine Kd.C_drew ?_))); (case side2 => exact (Kd.RrZ AK.o).2.1); rintro e SH ⟨Sb, rfl, C2, hb⟩; refine ⟨_, rfl, ?_⟩; have AC := Z.m (Kd.R_lower (Kd.R_new' C2 (Kd.R_lt (vR AK))) (below_size (vB HB))); replace AK := Z.m (Kd.R_elder' (vR AK) (Kd.R_base C2) hb); replace A1 := kB A1 hb; replace HB := bB HB hb; (try clear hb); (try clear CJ); (try clear hk); (try clear hi); (try clear C2)) | ((with_reducible refine gq (N := 4) rfl ?_); refine be (N := 4) (cs := #[.int .i64 0, .int .i64 0, .slice none 0 0, .int .i64 0, .int .i64 0, .int .i64 0, .int .i64 0, .int .i64 0]) (t := 32) ?_; intro BY hg SI hbox hb; have A3 := Z.m (hbox); have GP := gW (w := w) HB hg; have De := GP; have AT := neL A1 hg; have B3 := neG A1 hg; replace AK := Z.m (Kd.Rb (vR AK) hb); replace AC := Z.m (Kd.Rb (vR AC) hb); replace A1 := kB A1 hb; replace HB := bB HB hb; clear hb hbox hg) | ((with_reducible refine gq (N := 5) rfl ?_); refine be (N := 5) (cs := #[.int .i64 0, .int .i64 0, .int .i64 0]) (t := 52) ?_; intro BZ hg SJ hbox hb; have Ab := Z.m (hbox); have GQ := gW (w := w) HB hg; have Df := GQ; have Bq := neL A1 hg; have BC := neG A1 hg; have B7 := neL A3 hg; have B8 := neG A3 hg; replace AK := Z.m (Kd.Rb (vR AK) hb); replace AC := Z.m (Kd.Rb (vR AC) hb); replace A1 := kB A1 hb; replace A3 := kB A3 hb; replace HB := bB HB hb; clear hb hbox hg; have QT := B3.o; have RC := AT.o; have QU := B7.o; have RD := B8.o; have F6 := bc0 A3; have F7 := bc1 A3; have F8 := bc2 A3; have F9 := bc3 A3; have Fa := bc4 A3; have Fb := bc5 A3; have Fc := bc6 A3; have Fd := bc7 A3; have FZ := qz A3.o 0; have G0 := qz A3.o 1; have G1 := qz A3.o 2; have G2 := qz A3.o 3; have G3 := qz A3.o 4; have G4 := qz A3.o 5; have G5 := qz A3.o 6; have G6 := qz A3.o 7; obtain ⟨Bp, Bl, Mn⟩ := Kd.R_slice AC.o; subst Mn; have QV := BC.o; have RE := Bq.o; have Fe := bc0 Ab; have Ff := bc1 Ab; have Fg := bc2 Ab; have G7 := qz Ab.o 0; have G8 := qz Ab.o 1; have G9 := qz Ab.o 2; have Fh := bc0 A1; have Fi := bc1 A1; have Fj := bc2 A1; have Fk := bc3 A1; have Fl := bc4 A1; have Fm := bc5 A1; have Fn := bc6 A1; have Fo := bc7 A1; have Ga := qz A1.o 0; have Gb := qz A1.o 1; have Gc := qz A1.o 2; have Gd := qz A1.o 3; have Ge := qz A1.o 4; have Gf := qz A1.o 5; have Gg := qz A1.o 6; have Gh := qz A1.o 7) | ((with_reducible refine gc (f := 12) rfl ?_); refine gA (some 30) _ #[.agg #[.int .i64 a0_0, .int .i64 a0_1, .slice A0_2 l0_2.length c0_2, .int .i64 a0_3, .int .i64 a0_4, .int .i64 a0_5, .int .i64 a0_6, .int .i64 a0_7]] ?_ Try.func12; (with_reducible refine (laws_toMachine.calls k a0_0 a0_1 _ _ l0_2 a0_3 a0_4 a0_5 a0_6 a0_7 AD AE AA AF AG AH AI AJ _ ?side1 ?side2 A9.o).mono ?_); (case side1 => exact Kd.C_below CE.o (vB HB)); (case side2 => exact CD.o); rintro e SK ⟨Sc, rfl, C2, hb⟩; refine ⟨_, rfl, ?_⟩; have B2 := Z.m (Kd.R_lower (Kd.R_new' (Kd.R_new' C2 (Kd.R_lt (by refine rK ?_; exact (Kd.Rm (Kd.Rm (rf (rf (rf (rf1 (rf1 (rf1 (rf1 (rf1 (rf1 (rf1 (rf1 (Kd.Ry (Kd.Ry AK.o A3.o (by decide)) Ab.o (by decide))))))))))))) (fun _ h_ => h_.1)) (fun _ h_ => h_.1))))) (Kd.R_lt (by refine rK ?_; exact (Kd.Rm (Kd.Rm (rf (rf (rf (rf1 (rf1 (rf1 (rf1 (rf1 (rf1 (rf1 (rf1 (Kd.Ry (Kd.Ry AC.o A3.o (by decide)) Ab.o (by decide))))))))))))) (fun _ h_ => h_.1)) (fun _ h_ => h_.1))))) (below_size (vB HB))); replace AK := Z.m (Kd.R_elder' (by refine rK ?_; exact (Kd.Rm (Kd.Rm (rf (rf (rf (rf1 (rf1 (rf1 (rf1 (rf1 (rf1 (rf1 (rf1 (Kd.Ry (Kd.Ry AK.o A3.o (by decide)) Ab.o (by decide))))))))))))) (fun _ h_ => h_.1)) (fun _ h_ => h_.1))) (Kd.R_base C2) hb); replace AC := Z.m (Kd.R_elder' (by refine rK ?_; exact (Kd.Rm (Kd.Rm (rf (rf (rf (rf1 (rf1 (rf1 (rf1 (rf1 (rf1 (rf1 (rf1 (Kd.Ry (Kd.Ry AC.o A3.o (by decide)) Ab.o (by decide))))))))))))) (fun _ h_ => h_.1)) (fun _ h_ => h_.1))) (Kd.R_base C2) hb); replace A1 := Z.m (qb (g := Be) (o := .cells #[.int .i64 a0_0, .int .i64 a0_1, .slice A0_2 l0_2.length c0_2, .int .i64 a0_3, .int .i64 a0_4, .int .i64 a0_5, .int .i64 a0_6, .int .i64 a0_7] 26 (0, 0)) (by refine bK ?_; (iterate 3 refine qF ?_ Bq); (iterate 8 refine qF ?_ AT); exact A1.o) hb); replace A3 := Z.m (qb (g := BY) (o := .cells #[.int .i64 Ao, .int .i64 Ap, .slice Bp Ae.length Bl, .int .i64 Aq, .int .i64 Ar, .int .i64 As, .int .i64 At, .int .i64 Au] 32 (0, 0)) (by refine bK ?_; (iterate 3 refine qF ?_ B7); apply st8; refine bK ?_; exact A3.o) hb); replace Ab := Z.m (qb (g := BZ) (o := .cells #[.int .i64 Av, .int .i64 Aw, .int .i64 Ax] 52 (0, 0)) (by refine bK ?_; apply st3; refine bK ?_; (iterate 8 refine qF ?_ B8); exact Ab.o) hb); replace HB := bB HB hb; (try clear hb); (try clear CJ); (try clear hk); (try clear hi); (try clear C2)) | ((with_reducible refine gq (N := 7) rfl ?_); refine be (N := 7) (cs := #[.int .i64 0, .int .i64 0, .slice none 0 0, .int .i64 0, .int .i64 0, .int .i64 0, .int .i64 0, .int .i64 0]) (t := 32) ?_; intro Bo hg SL hbox hb; have A4 := Z.m (hbox); have GR := gW (w := w) HB hg; have Dg := GR; have BN := neL A1 hg; have C4 := neG A1 hg; have AV := neL A3 hg; have Ba := neG A3 hg; have Bs := neL Ab hg; have BE := neG Ab hg; replace AK := Z.m (Kd.Rb (vR AK) hb); replace AC := Z.m (Kd.Rb (vR AC) hb); replace B2 := Z.m (Kd.Rb (vR B2) hb); replace A1 := kB A1 hb; replace A3 := kB A3 hb; replace Ab := kB Ab hb; replace HB := bB HB hb; clear hb hbox hg; have QW := C4.o; have RF := BN.o; have QX := Ba.o; have RG := AV.o; have QY := BE.o; have RH := Bs.o; have Fp := bc0 A4; have Fq := bc1 A4; have Fr := bc2 A4; have Fs := bc3 A4; have Ft := bc4 A4; have Fu := bc5 A4; have Fv := bc6 A4; have Fw := bc7 A4; have Gi := qz A4.o 0; have Gj := qz A4.o 1; have Gk := qz A4.o 2; have Gl := qz A4.o 3; have Gm := qz A4.o 4; have Gn := qz A4.o 5; have Go := qz A4.o 6; have Gp := qz A4.o 7; obtain ⟨Bf, Bd, Mo⟩ := Kd.R_slice B2.o; subst Mo) | ((with_reducible refine gc (f := 31) rfl ?_); refine gA (some 33) _ #[.agg #[.int .i64 AD, .int .i64 AE, .slice Bf AA.length Bd, .int .i64 AF, .int .i64 AG, .int .i64 AH, .int .i64 AI, .int .i64 AJ]] ?_ Try.func31; (with_reducible refine (impl_StepMachine.calls k AD AE _ _ AA AF AG AH AI AJ Ag Ah An Ai Aj Ak Al Am AM AN AO AS _ ?side1 ?side2 Sh.o).mono ?_); (case side1 => refine (Kd.RrZ (e := 88) (base := w.heap.size) (ok := fun k_ => ((True ∧ some k_ ≠ (.slice Db Ch.length Dc : Value).ownBlock) ∧ some k_ ≠ (.slice Bp Ae.length Bl : Value).ownBlock)) (n := AA.length) (c := Bd) ?_).2.2; exact (by refine rK ?_; exact (Kd.Rm (rf (rf (rf (rf (rf (rf (rf (rf (Kd.Ry B2.o A4.o (by decide)))))))))) (fun _ h_ => h_.1)))); (case side2 => exact (Kd.RrZ B2.o).2.1); rintro e SM ⟨Sd, rfl, C2, hb⟩; refine ⟨_, rfl, ?_⟩; have Bh := Z.m (Kd.R_lower (Kd.R_new' (Kd.R_new' (Kd.R_new' C2 (Kd.R_lt (by refine rK ?_; exact (Kd.Rm (rf (rf (rf (rf (rf (rf (rf (rf (Kd.Ry AK.o A4.o (by decide)))))))))) (fun _ h_ => h_.1))))) (Kd.R_lt (by refine rK ?_; exact (Kd.Rm (rf (rf (rf (rf (rf (rf (rf (rf (Kd.Ry AC.o A4.o (by decide)))))))))) (fun _ h_ => h_.1))))) (Kd.R_lt (by refine rK ?_; exact (Kd.Rm (rf (rf (rf (rf (rf (rf (rf (rf (Kd.Ry B2.o A4.o (by decide)))))))))) (fun _ h_ => h_.1))))) (below_size (vB HB))); replace AK := Z.m (Kd.R_elder' (by refine rK ?_; exact (Kd.Rm (rf (rf (rf (rf (rf (rf (rf (rf (Kd.Ry AK.o A4.o (by decide)))))))))) (fun _ h_ => h_.1))) (Kd.R_base C2) hb); replace AC := Z.m (Kd.R_elder' (by refine rK ?_; exact (Kd.Rm (rf (rf (rf (rf (rf (rf (rf (rf (Kd.Ry AC.o A4.o (by decide)))))))))) (fun _ h_ => h_.1))) (Kd.R_base C2) hb); replace B2 := Z.m (Kd.R_elder' (by refine rK ?_; exact (Kd.Rm (rf (rf (rf (rf (rf (rf (rf (rf (Kd.Ry B2.o A4.o (by decide)))))))))) (fun _ h_ => h_.1))) (Kd.R_base C2) hb); replace A1 := Z.m (qb (g := Be) (o := .cells #[.int .i64 a0_0, .int .i64 a0_1, .slice A0_2 l0_2.length c0_2, .int .i64 a0_3, .int .i64 a0_4, .int .i64 a0_5, .int .i64 a0_6, .int .i64 a0_7] 26 (0, 0)) (by refine bK ?_; (iterate 8 refine qF ?_ BN); exact A1.o) hb); replace A3 := Z.m (qb (g := BY) (o := .cells #[.int .i64 Ao, .int .i64 Ap, .slice Bp Ae.length Bl, .int .i64 Aq, .int .i64 Ar, .int .i64 As, .int .i64 At, .int .i64 Au] 32 (0, 0)) (by refine bK ?_; (iterate 8 refine qF ?_ AV); exact A3.o) hb); replace Ab := Z.m (qb (g := BZ) (o := .cells #[.int .i64 Av, .int .i64 Aw, .int .i64 Ax] 52 (0, 0)) (by refine bK ?_; (iterate 8 refine qF ?_ Bs); exact Ab.o) hb); replace A4 := Z.m (qb (g := Bo) (o := .cells #[.int .i64 AD, .int .i64 AE, .slice Bf AA.length Bd, .int .i64 AF, .int .i64 AG, .int .i64 AH, .int .i64 AI, .int .i64 AJ] 32 (0, 0)) (by refine bK ?_; apply st8; refine bK ?_; exact A4.o) hb); replace HB := bB HB hb; (try clear hb); (try clear CJ); (try clear hk); (try clear hi); (try clear C2)) | ((with_reducible refine gq (N := 8) rfl ?_); refine be (N := 8) (cs := #[.int .i64 0, .int .i64 0, .slice none 0 0, .int .i64 0, .int .i64 0, .int .i64 0, .int .i64 0, .int .i64 0]) (t := 32) ?_; intro Cf hg SN hbox hb; have A0 := Z.m (hbox); have GS := gW (w := w) HB hg; have Dh := GS; have AU := neL A1 hg; have Bj := neG A1 hg; have AL := neL A3 hg; have AX := neG A3 hg; have AP := neL Ab hg; have Bb := neG Ab hg; have AQ := neL A4 hg; have Bc := neG A4 hg; replace AK := Z.m (Kd.Rb (vR AK) hb); replace AC := Z.m (Kd.Rb (vR AC) hb); replace B2 := Z.m (Kd.Rb (vR B2) hb); replace Bh := Z.m (Kd.Rb (vR Bh) hb); replace A1 := kB A1 hb; replace A3 := kB A3 hb; replace Ab := kB Ab hb; replace A4 := kB A4 hb; replace HB := bB HB hb; clear hb hbox hg) | ((with_reducible refine gq (N := 9) rfl ?_); refine be (N := 9) (cs := #[.int .i64 0, .int .i64 0, .int .i64 0]) (t := 52) ?_; intro Cg hg SO hbox hb; have Ad := Z.m (hbox); have GT := gW (w := w) HB hg; have Di := GT; have Br := neL A1 hg; have BR := neG A1 hg; have AW := neL A3 hg; have Bk := neG A3 hg; have Bt := neL Ab hg; have BS := neG Ab hg; have Bu := neL A4 hg; have BT := neG A4 hg; have AY := neL A0 hg; have AZ := neG A0 hg; replace AK := Z.m (Kd.Rb (vR AK) hb); replace AC := Z.m (Kd.Rb (vR AC) hb); replace B2 := Z.m (Kd.Rb (vR B2) hb); replace Bh := Z.m (Kd.Rb (vR Bh) hb); replace A1 := kB A1 hb; replace A3 := kB A3 hb; replace Ab := kB Ab hb; replace A4 := kB A4 hb; replace A0 := kB A0 hb; replace HB := bB HB hb; clear hb hbox hg; have QZ := Bj.o; have RI := AU.o; have R0 := AX.o; have RJ := AL.o; have R1 := Bb.o; have RK := AP.o; have R2 := Bc.o; have RL := AQ.o; have R3 := AY.o; have RM := AZ.o; have Fx := bc0 A0; have Fy := bc1 A0; have Fz := bc2 A0; have FA := bc3 A0; have FB := bc4 A0; have FC := bc5 A0; have FD := bc6 A0; have FE := bc7 A0; have Gq := qz A0.o 0; have Gr := qz A0.o 1; have Gs := qz A0.o 2; have Gt := qz A0.o 3; have Gu := qz A0.o 4; have Gv := qz A0.o 5; have Gw := qz A0.o 6; have Gx := qz A0.o 7; obtain ⟨Bm, Bg, Mp⟩ := Kd.R_slice Bh.o; subst Mp; have R4 := BR.o; have RN := Br.o; have R5 := Bk.o; have RO := AW.o; have R6 := BS.o; have RP := Bt.o; have R7 := BT.o; have RQ := Bu.o; have FF := bc0 Ad; have FG := bc1 Ad; have FH := bc2 Ad; have Gy := qz Ad.o 0; have Gz := qz Ad.o 1; have GA := qz Ad.o 2))
  (try simp only [Act.put, q1, q2, q3])
  go_cut [51] (fun v51 wc => ∃ (kq : Nat) (CI : Bool), v51 = .bool CI ∧ Z (laws_FnExactStepMachine.j0 kq Ay AS CI a0_0 a0_1 l0_2 a0_3 a0_4 a0_5 a0_6 a0_7 Ao Ap Ae Aq Ar As At Au Av Aw Ax AD AE AA AF AG AH AI AJ Ag Ah An Ai Aj Ak Al Am AM AN AO = some true) ∧ Z (kq ≤ k) ∧ Z (Kd.R k88 88 wc w.heap.size (fun k_ => some k_ ≠ ((.slice Bf AA.length Bd) : Value).ownBlock ∧ some k_ ≠ ((.slice Bm An.length Bg) : Value).ownBlock) (.slice Bp Ae.length Bl) Ae) ∧ Z (Kd.R k88 88 wc w.heap.size (fun k_ => some k_ ≠ ((.slice Bp Ae.length Bl) : Value).ownBlock ∧ some k_ ≠ ((.slice Bm An.length Bg) : Value).ownBlock) (.slice Bf AA.length Bd) AA) ∧ Z (Kd.R k88 88 wc w.heap.size (fun k_ => some k_ ≠ ((.slice Bp Ae.length Bl) : Value).ownBlock ∧ some k_ ≠ ((.slice Bf AA.length Bd) : Value).ownBlock) (.slice Bm An.length Bg) An) ∧ Z (wc.heap[Be]? = some (.cells #[.int .i64 a0_0, .int .i64 a0_1, (.slice A0_2 l0_2.length c0_2), .int .i64 a0_3, .int .i64 a0_4, .int .i64 a0_5, .int .i64 a0_6, .int .i64 a0_7] 26 (0, 0))) ∧ Z (wc.heap[BY]? = some (.cells #[.int .i64 Ao, .int .i64 Ap, (.slice Bp Ae.length Bl), .int .i64 Aq, .int .i64 Ar, .int .i64 As, .int .i64 At, .int .i64 Au] 32 (0, 0))) ∧ Z (wc.heap[BZ]? = some (.cells #[.int .i64 Av, .int .i64 Aw, .int .i64 Ax] 52 (0, 0))) ∧ Z (wc.heap[Bo]? = some (.cells #[.int .i64 AD, .int .i64 AE, (.slice Bf AA.length Bd), .int .i64 AF, .int .i64 AG, .int .i64 AH, .int .i64 AI, .int .i64 AJ] 32 (0, 0))) ∧ Z (wc.heap[Cf]? = some (.cells #[.int .i64 Ag, .int .i64 Ah, (.slice Bm An.length Bg), .int .i64 Ai, .int .i64 Aj, .int .i64 Ak, .int .i64 Al, .int .i64 Am] 32 (0, 0))) ∧ Z (wc.heap[Cg]? = some (.cells #[.int .i64 AM, .int .i64 AN, .int .i64 AO] 52 (0, 0))) ∧ Z (Below w.heap.size w wc))
  case first =>
   have H := GW.o
   clear GW
   replace H := Option.bind_eq_some_iff.mp H
   obtain ⟨BW, H3, H⟩ := H
   replace H : (if BW = true then ((laws_eqFall.f AM AN AO Av Aw Ax).bind fun Bw => (if Bw = true then (laws_FnExactStepMachine.j0 k Ay AS (AS != Ay) a0_0 a0_1 l0_2 a0_3 a0_4 a0_5 a0_6 a0_7 Ao Ap Ae Aq Ar As At Au Av Aw Ax AD AE AA AF AG AH AI AJ Ag Ah An Ai Aj Ak Al Am AM AN AO) else (laws_FnExactStepMachine.j0 k Ay AS true a0_0 a0_1 l0_2 a0_3 a0_4 a0_5 a0_6 a0_7 Ao Ap Ae Aq Ar As At Au Av Aw Ax AD AE AA AF AG AH AI AJ Ag Ah An Ai Aj Ak Al Am AM AN AO))) else (laws_FnExactStepMachine.j0 k Ay AS true a0_0 a0_1 l0_2 a0_3 a0_4 a0_5 a0_6 a0_7 Ao Ap Ae Aq Ar As At Au Av Aw Ax AD AE AA AF AG AH AI AJ Ag Ah An Ai Aj Ak Al Am AM AN AO)) = some true := H
   have QO := Z.m H3
   clear H3
   by_cases c51 : BW = true
   ·subst c51
    have H1 : ((laws_eqFall.f AM AN AO Av Aw Ax).bind fun Bw => (if Bw = true then (laws_FnExactStepMachine.j0 k Ay AS (AS != Ay) a0_0 a0_1 l0_2 a0_3 a0_4 a0_5 a0_6 a0_7 Ao Ap Ae Aq Ar As At Au Av Aw Ax AD AE AA AF AG AH AI AJ Ag Ah An Ai Aj Ak Al Am AM AN AO) else (laws_FnExactStepMachine.j0 k Ay AS true a0_0 a0_1 l0_2 a0_3 a0_4 a0_5 a0_6 a0_7 Ao Ap Ae Aq Ar As At Au Av Aw Ax AD AE AA AF AG AH AI AJ Ag Ah An Ai Aj Ak Al Am AM AN AO))) = some true := by rw [if_pos rfl] at H; exact H
    clear H
    have H := H1
    clear H1
    replace H := Option.bind_eq_some_iff.mp H
    obtain ⟨Bw, H4, H⟩ := H
    replace H : (if Bw = true then (laws_FnExactStepMachine.j0 k Ay AS (AS != Ay) a0_0 a0_1 l0_2 a0_3 a0_4 a0_5 a0_6 a0_7 Ao Ap Ae Aq Ar As At Au Av Aw Ax AD AE AA AF AG AH AI AJ Ag Ah An Ai Aj Ak Al Am AM AN AO) else (laws_FnExactStepMachine.j0 k Ay AS true a0_0 a0_1 l0_2 a0_3 a0_4 a0_5 a0_6 a0_7 Ao Ap Ae Aq Ar As At Au Av Aw Ax AD AE AA AF AG AH AI AJ Ag Ah An Ai Aj Ak Al Am AM AN AO)) = some true := H
    have Si := Z.m H4
    clear H4
    by_cases c53 : Bw = true
    ·subst c53
     have H1 : (laws_FnExactStepMachine.j0 k Ay AS (AS != Ay) a0_0 a0_1 l0_2 a0_3 a0_4 a0_5 a0_6 a0_7 Ao Ap Ae Aq Ar As At Au Av Aw Ax AD AE AA AF AG AH AI AJ Ag Ah An Ai Aj Ak Al Am AM AN AO) = some true := by rw [if_pos rfl] at H; exact H
     clear H
     have H := H1
     clear H1
     have H' := Z.m H
     clear H
     have R8 := Bj.o
     have RR := AU.o
     have R9 := AX.o
     have RS := AL.o
     have Rc := Bb.o
     have RT := AP.o
     have Rd := Bc.o
     have RU := AQ.o
     have Rh := AY.o
     have RV := AZ.o
     have La := bc0 A0
     have Lb := bc1 A0
     have Lc := bc2 A0
     have Ld := bc3 A0
     have Le := bc4 A0
     have Lf := bc5 A0
     have Lg := bc6 A0
     have Lh := bc7 A0
     have LE := qz A0.o 0
     have LF := qz A0.o 1
     have LG := qz A0.o 2
     have LH := qz A0.o 3
     have LI := qz A0.o 4
     have LJ := qz A0.o 5
     have LK := qz A0.o 6
     have LL := qz A0.o 7
     have Ri := B3.o
     have RW := AT.o
     have Rj := B7.o
     have RX := B8.o
     have Rl := AV.o
     have RY := Ba.o
     have Rn := AW.o
     have RZ := Bk.o
     have Li := bc0 A3
     have Lj := bc1 A3
     have Lk := bc2 A3
     have Ll := bc3 A3
     have Lm := bc4 A3
     have Ln := bc5 A3
     have Lo := bc6 A3
     have Lp := bc7 A3
     have LM := qz A3.o 0
     have LN := qz A3.o 1
     have LO := qz A3.o 2
     have LP := qz A3.o 3
     have LQ := qz A3.o 4
     have LR := qz A3.o 5
     have LS := qz A3.o 6
     have LT := qz A3.o 7
     go_wp2_with (first | ((with_reducible refine gc (f := 14) rfl ?_); refine gA (some 39) _ #[.agg #[.int .i64 Ag, .int .i64 Ah, .slice Bm An.length Bg, .int .i64 Ai, .int .i64 Aj, .int .i64 Ak, .int .i64 Al, .int .i64 Am], .agg #[.int .i64 Ao, .int .i64 Ap, .slice Bp Ae.length Bl, .int .i64 Aq, .int .i64 Ar, .int .i64 As, .int .i64 At, .int .i64 Au]] ?_ Try.func14; (with_reducible refine (laws_eqMachine.calls k Ag Ah _ _ An Ai Aj Ak Al Am Ao Ap _ _ Ae Aq Ar As At Au true _ ?side1 ?side2 ?side3 ?side4 QO.o).mono ?_); (case side1 => refine (Kd.RrZ (e := 88) (base := w.heap.size) (ok := fun k_ => (((True ∧ some k_ ≠ (.slice Db Ch.length Dc : Value).ownBlock) ∧ some k_ ≠ (.slice Bp Ae.length Bl : Value).ownBlock) ∧ some k_ ≠ (.slice Bf AA.length Bd : Value).ownBlock)) (n := An.length) (c := Bg) ?_).2.2; exact (by refine rK ?_; exact (Kd.Rm (Kd.Rm (rf (rf (rf (rf1 (rf1 (rf1 (rf1 (rf1 (rf1 (rf1 (rf1 (Kd.Ry (Kd.Ry Bh.o A0.o (by decide)) Ad.o (by decide))))))))))))) (fun _ h_ => h_.1)) (fun _ h_ => h_.1)))); (case side2 => exact (Kd.RrZ Bh.o).2.1); (case side3 => refine (Kd.RrZ (e := 88) (base := w.heap.size) (ok := fun k_ => (((True ∧ some k_ ≠ (.slice Db Ch.length Dc : Value).ownBlock) ∧ some k_ ≠ (.slice Bf AA.length Bd : Value).ownBlock) ∧ some k_ ≠ (.slice Bm An.length Bg : Value).ownBlock)) (n := Ae.length) (c := Bl) ?_).2.2; exact (by refine rK ?_; exact (Kd.Rm (Kd.Rm (rf (rf (rf (rf1 (rf1 (rf1 (rf1 (rf1 (rf1 (rf1 (rf1 (Kd.Ry (Kd.Ry AC.o A0.o (by decide)) Ad.o (by decide))))))))))))) (fun _ h_ => h_.1)) (fun _ h_ => h_.1)))); (case side4 => exact (Kd.RrZ AC.o).2.1); rintro e SP ⟨rfl, hb⟩; refine ⟨_, rfl, ?_⟩; replace AK := Z.m (Kd.Rb (by refine rK ?_; exact (Kd.Rm (Kd.Rm (rf (rf (rf (rf1 (rf1 (rf1 (rf1 (rf1 (rf1 (rf1 (rf1 (Kd.Ry (Kd.Ry AK.o A0.o (by decide)) Ad.o (by decide))))))))))))) (fun _ h_ => h_.1)) (fun _ h_ => h_.1))) hb); replace AC := Z.m (Kd.Rb (by refine rK ?_; exact (Kd.Rm (Kd.Rm (rf (rf (rf (rf1 (rf1 (rf1 (rf1 (rf1 (rf1 (rf1 (rf1 (Kd.Ry (Kd.Ry AC.o A0.o (by decide)) Ad.o (by decide))))))))))))) (fun _ h_ => h_.1)) (fun _ h_ => h_.1))) hb); replace B2 := Z.m (Kd.Rb (by refine rK ?_; exact (Kd.Rm (Kd.Rm (rf (rf (rf (rf1 (rf1 (rf1 (rf1 (rf1 (rf1 (rf1 (rf1 (Kd.Ry (Kd.Ry B2.o A0.o (by decide)) Ad.o (by decide))))))))))))) (fun _ h_ => h_.1)) (fun _ h_ => h_.1))) hb); replace Bh := Z.m (Kd.Rb (by refine rK ?_; exact (Kd.Rm (Kd.Rm (rf (rf (rf (rf1 (rf1 (rf1 (rf1 (rf1 (rf1 (rf1 (rf1 (Kd.Ry (Kd.Ry Bh.o A0.o (by decide)) Ad.o (by decide))))))))))))) (fun _ h_ => h_.1)) (fun _ h_ => h_.1))) hb); replace A1 := Z.m (qb (g := Be) (o := .cells #[.int .i64 a0_0, .int .i64 a0_1, .slice A0_2 l0_2.length c0_2, .int .i64 a0_3, .int .i64 a0_4, .int .i64 a0_5, .int .i64 a0_6, .int .i64 a0_7] 26 (0, 0)) (by refine bK ?_; (iterate 3 refine qF ?_ Br); (iterate 8 refine qF ?_ AU); exact A1.o) hb); replace A3 := Z.m (qb (g := BY) (o := .cells #[.int .i64 Ao, .int .i64 Ap, .slice Bp Ae.length Bl, .int .i64 Aq, .int .i64 Ar, .int .i64 As, .int .i64 At, .int .i64 Au] 32 (0, 0)) (by refine bK ?_; (iterate 3 refine qF ?_ AW); (iterate 8 refine qF ?_ AL); exact A3.o) hb); replace Ab := Z.m (qb (g := BZ) (o := .cells #[.int .i64 Av, .int .i64 Aw, .int .i64 Ax] 52 (0, 0)) (by refine bK ?_; (iterate 3 refine qF ?_ Bt); (iterate 8 refine qF ?_ AP); exact Ab.o) hb); replace A4 := Z.m (qb (g := Bo) (o := .cells #[.int .i64 AD, .int .i64 AE, .slice Bf AA.length Bd, .int .i64 AF, .int .i64 AG, .int .i64 AH, .int .i64 AI, .int .i64 AJ] 32 (0, 0)) (by refine bK ?_; (iterate 3 refine qF ?_ Bu); (iterate 8 refine qF ?_ AQ); exact A4.o) hb); replace A0 := Z.m (qb (g := Cf) (o := .cells #[.int .i64 Ag, .int .i64 Ah, .slice Bm An.length Bg, .int .i64 Ai, .int .i64 Aj, .int .i64 Ak, .int .i64 Al, .int .i64 Am] 32 (0, 0)) (by refine bK ?_; (iterate 3 refine qF ?_ AY); apply st8; refine bK ?_; exact A0.o) hb); replace Ad := Z.m (qb (g := Cg) (o := .cells #[.int .i64 AM, .int .i64 AN, .int .i64 AO] 52 (0, 0)) (by refine bK ?_; apply st3; refine bK ?_; (iterate 8 refine qF ?_ AZ); exact Ad.o) hb); replace HB := bB HB hb; (try clear hb); (try clear CJ); (try clear hk); (try clear hi); have Rp := BR.o; have S0 := Br.o; have Rq := BS.o; have S1 := Bt.o; have Rs := BT.o; have S2 := Bu.o; have Lq := bc0 Ad; have Lr := bc1 Ad; have Ls := bc2 Ad; have LU := qz Ad.o 0; have LV := qz Ad.o 1; have LW := qz Ad.o 2; have Ru := BC.o; have S3 := Bq.o; have Rv := Bs.o; have S4 := BE.o; have Lt := bc0 Ab; have Lu := bc1 Ab; have Lv := bc2 Ab; have LX := qz Ab.o 0; have LY := qz Ab.o 1; have LZ := qz Ab.o 2) | (go_at_call 32; (with_reducible refine (laws_eqFall.calls AM AN AO Av Aw Ax true _ Si.o).mono ?_); rintro e SQ ⟨rfl, hb⟩; replace AK := Z.m (Kd.Rb (vR AK) hb); replace AC := Z.m (Kd.Rb (vR AC) hb); replace B2 := Z.m (Kd.Rb (vR B2) hb); replace Bh := Z.m (Kd.Rb (vR Bh) hb); replace A1 := kB A1 hb; replace A3 := kB A3 hb; replace Ab := kB Ab hb; replace A4 := kB A4 hb; replace A0 := kB A0 hb; replace Ad := kB Ad hb; replace HB := bB HB hb; (try clear hb); (try clear CJ); (try clear hk); (try clear hi)))
     go_meet
     case rel => exact ⟨_, ((AS != Ay)), (by first | rfl | (simp; done) | (simp [*]; done)), H', ⟨by first | omega | exact Nat.le_refl _⟩, ⟨by refine rK ?_; exact Kd.Rm AC.o (fun _ hk => ⟨hk.1.2, hk.2⟩)⟩, ⟨by refine rK ?_; exact Kd.Rm B2.o (fun _ hk => ⟨hk.1.2, hk.2⟩)⟩, ⟨by refine rK ?_; exact Kd.Rm Bh.o (fun _ hk => ⟨hk.1.2, hk.2⟩)⟩, ⟨vK A1⟩, ⟨vK A3⟩, ⟨vK Ab⟩, ⟨vK A4⟩, ⟨vK A0⟩, ⟨vK Ad⟩, ⟨vB HB⟩⟩
    ·(rw [if_neg c53] at H; exact absurd H (laws_FnExactStepMachine.bad_j0 _ _ _ _ _ _ _ _ _ _ _ _ _ _ _ _ _ _ _ _ _ _ _ _ _ _ _ _ _ _ _ _ _ _ _ _ _ _ _ _ _))
   ·replace c51 := Bool.eq_false_iff.mpr c51
    subst c51
    have H1 : (laws_FnExactStepMachine.j0 k Ay AS true a0_0 a0_1 l0_2 a0_3 a0_4 a0_5 a0_6 a0_7 Ao Ap Ae Aq Ar As At Au Av Aw Ax AD AE AA AF AG AH AI AJ Ag Ah An Ai Aj Ak Al Am AM AN AO) = some true := by rw [if_neg (show ¬ (false = true) by decide)] at H; exact H
    clear H
    have H := H1
    clear H1
    have H' := Z.m H
    clear H
    have Rw := Bj.o
    have S5 := AU.o
    have Rx := AX.o
    have S6 := AL.o
    have Rz := Bb.o
    have S7 := AP.o
    have RA := Bc.o
    have S8 := AQ.o
    have RB := AY.o
    have S9 := AZ.o
    have Lw := bc0 A0
    have Lx := bc1 A0
    have Ly := bc2 A0
    have Lz := bc3 A0
    have LA := bc4 A0
    have LB := bc5 A0
    have LC := bc6 A0
    have LD := bc7 A0
    have M0 := qz A0.o 0
    have M1 := qz A0.o 1
    have M2 := qz A0.o 2
    have M3 := qz A0.o 3
    have M4 := qz A0.o 4
    have M5 := qz A0.o 5
    have M6 := qz A0.o 6
    have M7 := qz A0.o 7
    have MG := B3.o
    have Pf := AT.o
    have MH := B7.o
    have Pg := B8.o
    have MI := AV.o
    have Ph := Ba.o
    have MJ := AW.o
    have Pi := Bk.o
    have H8 := bc0 A3
    have H9 := bc1 A3
    have Ha := bc2 A3
    have Hb := bc3 A3
    have Hc := bc4 A3
    have Hd := bc5 A3
    have He := bc6 A3
    have Hf := bc7 A3
    have JE := qz A3.o 0
    have JF := qz A3.o 1
    have JG := qz A3.o 2
    have JH := qz A3.o 3
    have JI := qz A3.o 4
    have JJ := qz A3.o 5
    have JK := qz A3.o 6
    have JL := qz A3.o 7
    go_wp2_with (first | ((with_reducible refine gc (f := 14) rfl ?_); refine gA (some 39) _ #[.agg #[.int .i64 Ag, .int .i64 Ah, .slice Bm An.length Bg, .int .i64 Ai, .int .i64 Aj, .int .i64 Ak, .int .i64 Al, .int .i64 Am], .agg #[.int .i64 Ao, .int .i64 Ap, .slice Bp Ae.length Bl, .int .i64 Aq, .int .i64 Ar, .int .i64 As, .int .i64 At, .int .i64 Au]] ?_ Try.func14; (with_reducible refine (laws_eqMachine.calls k Ag Ah _ _ An Ai Aj Ak Al Am Ao Ap _ _ Ae Aq Ar As At Au false _ ?side1 ?side2 ?side3 ?side4 QO.o).mono ?_); (case side1 => refine (Kd.RrZ (e := 88) (base := w.heap.size) (ok := fun k_ => (((True ∧ some k_ ≠ (.slice Db Ch.length Dc : Value).ownBlock) ∧ some k_ ≠ (.slice Bp Ae.length Bl : Value).ownBlock) ∧ some k_ ≠ (.slice Bf AA.length Bd : Value).ownBlock)) (n := An.length) (c := Bg) ?_).2.2; exact (by refine rK ?_; exact (Kd.Rm (Kd.Rm (rf (rf (rf (rf1 (rf1 (rf1 (rf1 (rf1 (rf1 (rf1 (rf1 (Kd.Ry (Kd.Ry Bh.o A0.o (by decide)) Ad.o (by decide))))))))))))) (fun _ h_ => h_.1)) (fun _ h_ => h_.1)))); (case side2 => exact (Kd.RrZ Bh.o).2.1); (case side3 => refine (Kd.RrZ (e := 88) (base := w.heap.size) (ok := fun k_ => (((True ∧ some k_ ≠ (.slice Db Ch.length Dc : Value).ownBlock) ∧ some k_ ≠ (.slice Bf AA.length Bd : Value).ownBlock) ∧ some k_ ≠ (.slice Bm An.length Bg : Value).ownBlock)) (n := Ae.length) (c := Bl) ?_).2.2; exact (by refine rK ?_; exact (Kd.Rm (Kd.Rm (rf (rf (rf (rf1 (rf1 (rf1 (rf1 (rf1 (rf1 (rf1 (rf1 (Kd.Ry (Kd.Ry AC.o A0.o (by decide)) Ad.o (by decide))))))))))))) (fun _ h_ => h_.1)) (fun _ h_ => h_.1)))); (case side4 => exact (Kd.RrZ AC.o).2.1); rintro e Sm ⟨rfl, hb⟩; refine ⟨_, rfl, ?_⟩; replace AK := Z.m (Kd.Rb (by refine rK ?_; exact (Kd.Rm (Kd.Rm (rf (rf (rf (rf1 (rf1 (rf1 (rf1 (rf1 (rf1 (rf1 (rf1 (Kd.Ry (Kd.Ry AK.o A0.o (by decide)) Ad.o (by decide))))))))))))) (fun _ h_ => h_.1)) (fun _ h_ => h_.1))) hb); replace AC := Z.m (Kd.Rb (by refine rK ?_; exact (Kd.Rm (Kd.Rm (rf (rf (rf (rf1 (rf1 (rf1 (rf1 (rf1 (rf1 (rf1 (rf1 (Kd.Ry (Kd.Ry AC.o A0.o (by decide)) Ad.o (by decide))))))))))))) (fun _ h_ => h_.1)) (fun _ h_ => h_.1))) hb); replace B2 := Z.m (Kd.Rb (by refine rK ?_; exact (Kd.Rm (Kd.Rm (rf (rf (rf (rf1 (rf1 (rf1 (rf1 (rf1 (rf1 (rf1 (rf1 (Kd.Ry (Kd.Ry B2.o A0.o (by decide)) Ad.o (by decide))))))))))))) (fun _ h_ => h_.1)) (fun _ h_ => h_.1))) hb); replace Bh := Z.m (Kd.Rb (by refine rK ?_; exact (Kd.Rm (Kd.Rm (rf (rf (rf (rf1 (rf1 (rf1 (rf1 (rf1 (rf1 (rf1 (rf1 (Kd.Ry (Kd.Ry Bh.o A0.o (by decide)) Ad.o (by decide))))))))))))) (fun _ h_ => h_.1)) (fun _ h_ => h_.1))) hb); replace A1 := Z.m (qb (g := Be) (o := .cells #[.int .i64 a0_0, .int .i64 a0_1, .slice A0_2 l0_2.length c0_2, .int .i64 a0_3, .int .i64 a0_4, .int .i64 a0_5, .int .i64 a0_6, .int .i64 a0_7] 26 (0, 0)) (by refine bK ?_; (iterate 3 refine qF ?_ Br); (iterate 8 refine qF ?_ AU); exact A1.o) hb); replace A3 := Z.m (qb (g := BY) (o := .cells #[.int .i64 Ao, .int .i64 Ap, .slice Bp Ae.length Bl, .int .i64 Aq, .int .i64 Ar, .int .i64 As, .int .i64 At, .int .i64 Au] 32 (0, 0)) (by refine bK ?_; (iterate 3 refine qF ?_ AW); (iterate 8 refine qF ?_ AL); exact A3.o) hb); replace Ab := Z.m (qb (g := BZ) (o := .cells #[.int .i64 Av, .int .i64 Aw, .int .i64 Ax] 52 (0, 0)) (by refine bK ?_; (iterate 3 refine qF ?_ Bt); (iterate 8 refine qF ?_ AP); exact Ab.o) hb); replace A4 := Z.m (qb (g := Bo) (o := .cells #[.int .i64 AD, .int .i64 AE, .slice Bf AA.length Bd, .int .i64 AF, .int .i64 AG, .int .i64 AH, .int .i64 AI, .int .i64 AJ] 32 (0, 0)) (by refine bK ?_; (iterate 3 refine qF ?_ Bu); (iterate 8 refine qF ?_ AQ); exact A4.o) hb); replace A0 := Z.m (qb (g := Cf) (o := .cells #[.int .i64 Ag, .int .i64 Ah, .slice Bm An.length Bg, .int .i64 Ai, .int .i64 Aj, .int .i64 Ak, .int .i64 Al, .int .i64 Am] 32 (0, 0)) (by refine bK ?_; (iterate 3 refine qF ?_ AY); apply st8; refine bK ?_; exact A0.o) hb); replace Ad := Z.m (qb (g := Cg) (o := .cells #[.int .i64 AM, .int .i64 AN, .int .i64 AO] 52 (0, 0)) (by refine bK ?_; apply st3; refine bK ?_; (iterate 8 refine qF ?_ AZ); exact Ad.o) hb); replace HB := bB HB hb; (try clear hb); (try clear CJ); (try clear hk); (try clear hi)))
    go_meet
    case rel => exact ⟨_, (true), (by first | rfl | (simp; done) | (simp [*]; done)), H', ⟨by first | omega | exact Nat.le_refl _⟩, ⟨by refine rK ?_; exact Kd.Rm AC.o (fun _ hk => ⟨hk.1.2, hk.2⟩)⟩, ⟨by refine rK ?_; exact Kd.Rm B2.o (fun _ hk => ⟨hk.1.2, hk.2⟩)⟩, ⟨by refine rK ?_; exact Kd.Rm Bh.o (fun _ hk => ⟨hk.1.2, hk.2⟩)⟩, ⟨vK A1⟩, ⟨vK A3⟩, ⟨vK Ab⟩, ⟨vK A4⟩, ⟨vK A0⟩, ⟨vK Ad⟩, ⟨vB HB⟩⟩
  case rest =>
   clear GW
   (try clear H5)
   (try clear EQ); (try clear ER); (try clear ES); (try clear ET); (try clear EU); (try clear EV); (try clear EW); (try clear EX)
   (try clear EY); (try clear EZ); (try clear F0); (try clear F1); (try clear F2); (try clear F3); (try clear F4); (try clear F5)
   (try clear F6); (try clear F7); (try clear F8); (try clear F9); (try clear Fa); (try clear Fb); (try clear Fc); (try clear Fd)
   (try clear Fe); (try clear Ff); (try clear Fg); (try clear Fh); (try clear Fi); (try clear Fj); (try clear Fk); (try clear Fl)
   (try clear Fm); (try clear Fn); (try clear Fo); (try clear Fp); (try clear Fq); (try clear Fr); (try clear Fs); (try clear Ft)
   (try clear Fu); (try clear Fv); (try clear Fw); (try clear Fx); (try clear Fy); (try clear Fz); (try clear FA); (try clear FB)
   (try clear FC); (try clear FD); (try clear FE); (try clear FF); (try clear FG); (try clear FH); (try clear FI); (try clear FJ)
   (try clear FL); (try clear FM); (try clear FN); (try clear FO); (try clear FP); (try clear FQ); (try clear FR); (try clear FS)
   (try clear FT); (try clear FU); (try clear FV); (try clear FW); (try clear FX); (try clear FY); (try clear FZ); (try clear G0)
   (try clear G1); (try clear G2); (try clear G3); (try clear G4); (try clear G5); (try clear G6); (try clear G7); (try clear G8)
   (try clear G9); (try clear Ga); (try clear Gb); (try clear Gc); (try clear Gd); (try clear Ge); (try clear Gf); (try clear Gg)
   (try clear Gh); (try clear Gi); (try clear Gj); (try clear Gk); (try clear Gl); (try clear Gm); (try clear Gn); (try clear Go)
   (try clear Gp); (try clear Gq); (try clear Gr); (try clear Gs); (try clear Gt); (try clear Gu); (try clear Gv); (try clear Gw)
   (try clear Gx); (try clear Gy); (try clear Gz); (try clear GA)
   obtain ⟨kq, CI, rfl, HA, Dl, Aa, A6, A5, A1, A3, Ab, A4, A0, Ad, HB⟩ := hcut
   cases kq with
   | zero => exact absurd HA.o (by simp [laws_FnExactStepMachine.j0])
   | succ kj10 =>
    have H := HA.o
    clear HA
    simp only [laws_FnExactStepMachine.j0] at H
    by_cases c106 : CI = true
    ·(rw [if_pos c106] at H; exact absurd H (by decide))
    ·replace c106 := Bool.eq_false_iff.mpr c106
     subst c106
     have H1 : ((laws_toMachine.f kj10 a0_0 a0_1 l0_2 a0_3 a0_4 a0_5 a0_6 a0_7).bind fun bt1173 => ((laws_eqMachine.f kj10 AD AE AA AF AG AH AI AJ bt1173.1 bt1173.2.1 bt1173.2.2.1 bt1173.2.2.2.1 bt1173.2.2.2.2.1 bt1173.2.2.2.2.2.1 bt1173.2.2.2.2.2.2.1 bt1173.2.2.2.2.2.2.2).bind fun CH => (if CH = true then ((laws_markMachine.f kj10 AD AE AA AF AG AH AI AJ 1).bind fun bt1184 => (if bt1184.1 < 0 then (laws_FnExactStepMachine.j1 kj10 Ay true a0_0 a0_1 l0_2 a0_3 a0_4 a0_5 a0_6 a0_7 Ao Ap Ae Aq Ar As At Au Av Aw Ax Ag Ah An Ai Aj Ak Al Am) else ((laws_eqMachine.f kj10 Ag Ah An Ai Aj Ak Al Am Ao Ap Ae Aq Ar As At Au).bind fun C0 => (if C0 = true then ((laws_eqFall.f AM AN AO Av Aw Ax).bind fun BK => (if BK = true then (laws_FnExactStepMachine.j1 kj10 Ay (AS != Ay) a0_0 a0_1 l0_2 a0_3 a0_4 a0_5 a0_6 a0_7 Ao Ap Ae Aq Ar As At Au Av Aw Ax Ag Ah An Ai Aj Ak Al Am) else (laws_FnExactStepMachine.j1 kj10 Ay true a0_0 a0_1 l0_2 a0_3 a0_4 a0_5 a0_6 a0_7 Ao Ap Ae Aq Ar As At Au Av Aw Ax Ag Ah An Ai Aj Ak Al Am))) else (laws_FnExactStepMachine.j1 kj10 Ay true a0_0 a0_1 l0_2 a0_3 a0_4 a0_5 a0_6 a0_7 Ao Ap Ae Aq Ar As At Au Av Aw Ax Ag Ah An Ai Aj Ak Al Am))))) else (some false)))) = some true := by rw [if_neg (show ¬ (false = true) by decide)] at H; exact H
     clear H
     have H := H1
     clear H1
     replace H := Option.bind_eq_some_iff.mp H
     obtain ⟨⟨CX, CY, CG, CZ, D0, D1, D2, D3⟩, GB, H⟩ := H
     replace H : ((laws_eqMachine.f kj10 AD AE AA AF AG AH AI AJ CX CY CG CZ D0 D1 D2 D3).bind fun CH => (if CH = true then ((laws_markMachine.f kj10 AD AE AA AF AG AH AI AJ 1).bind fun bt1184 => (if bt1184.1 < 0 then (laws_FnExactStepMachine.j1 kj10 Ay true a0_0 a0_1 l0_2 a0_3 a0_4 a0_5 a0_6 a0_7 Ao Ap Ae Aq Ar As At Au Av Aw Ax Ag Ah An Ai Aj Ak Al Am) else ((laws_eqMachine.f kj10 Ag Ah An Ai Aj Ak Al Am Ao Ap Ae Aq Ar As At Au).bind fun C0 => (if C0 = true then ((laws_eqFall.f AM AN AO Av Aw Ax).bind fun BK => (if BK = true then (laws_FnExactStepMachine.j1 kj10 Ay (AS != Ay) a0_0 a0_1 l0_2 a0_3 a0_4 a0_5 a0_6 a0_7 Ao Ap Ae Aq Ar As At Au Av Aw Ax Ag Ah An Ai Aj Ak Al Am) else (laws_FnExactStepMachine.j1 kj10 Ay true a0_0 a0_1 l0_2 a0_3 a0_4 a0_5 a0_6 a0_7 Ao Ap Ae Aq Ar As At Au Av Aw Ax Ag Ah An Ai Aj Ak Al Am))) else (laws_FnExactStepMachine.j1 kj10 Ay true a0_0 a0_1 l0_2 a0_3 a0_4 a0_5 a0_6 a0_7 Ao Ap Ae Aq Ar As At Au Av Aw Ax Ag Ah An Ai Aj Ak Al Am))))) else (some false))) = some true := H
     have M8 := Z.m GB
     clear GB
     replace H := Option.bind_eq_some_iff.mp H
     obtain ⟨CH, GC, H⟩ := H
     replace H : (if CH = true then ((laws_markMachine.f kj10 AD AE AA AF AG AH AI AJ 1).bind fun bt1184 => (if bt1184.1 < 0 then (laws_FnExactStepMachine.j1 kj10 Ay true a0_0 a0_1 l0_2 a0_3 a0_4 a0_5 a0_6 a0_7 Ao Ap Ae Aq Ar As At Au Av Aw Ax Ag Ah An Ai Aj Ak Al Am) else ((laws_eqMachine.f kj10 Ag Ah An Ai Aj Ak Al Am Ao Ap Ae Aq Ar As At Au).bind fun C0 => (if C0 = true then ((laws_eqFall.f AM AN AO Av Aw Ax).bind fun BK => (if BK = true then (laws_FnExactStepMachine.j1 kj10 Ay (AS != Ay) a0_0 a0_1 l0_2 a0_3 a0_4 a0_5 a0_6 a0_7 Ao Ap Ae Aq Ar As At Au Av Aw Ax Ag Ah An Ai Aj Ak Al Am) else (laws_FnExactStepMachine.j1 kj10 Ay true a0_0 a0_1 l0_2 a0_3 a0_4 a0_5 a0_6 a0_7 Ao Ap Ae Aq Ar As At Au Av Aw Ax Ag Ah An Ai Aj Ak Al Am))) else (laws_FnExactStepMachine.j1 kj10 Ay true a0_0 a0_1 l0_2 a0_3 a0_4 a0_5 a0_6 a0_7 Ao Ap Ae Aq Ar As At Au Av Aw Ax Ag Ah An Ai Aj Ak Al Am))))) else (some false)) = some true := H
     have M9 := Z.m GC
     clear GC
     by_cases c109 : CH = true
     ·subst c109
      have H1 : ((laws_markMachine.f kj10 AD AE AA AF AG AH AI AJ 1).bind fun bt1184 => (if bt1184.1 < 0 then (laws_FnExactStepMachine.j1 kj10 Ay true a0_0 a0_1 l0_2 a0_3 a0_4 a0_5 a0_6 a0_7 Ao Ap Ae Aq Ar As At Au Av Aw Ax Ag Ah An Ai Aj Ak Al Am) else ((laws_eqMachine.f kj10 Ag Ah An Ai Aj Ak Al Am Ao Ap Ae Aq Ar As At Au).bind fun C0 => (if C0 = true then ((laws_eqFall.f AM AN AO Av Aw Ax).bind fun BK => (if BK = true then (laws_FnExactStepMachine.j1 kj10 Ay (AS != Ay) a0_0 a0_1 l0_2 a0_3 a0_4 a0_5 a0_6 a0_7 Ao Ap Ae Aq Ar As At Au Av Aw Ax Ag Ah An Ai Aj Ak Al Am) else (laws_FnExactStepMachine.j1 kj10 Ay true a0_0 a0_1 l0_2 a0_3 a0_4 a0_5 a0_6 a0_7 Ao Ap Ae Aq Ar As At Au Av Aw Ax Ag Ah An Ai Aj Ak Al Am))) else (laws_FnExactStepMachine.j1 kj10 Ay true a0_0 a0_1 l0_2 a0_3 a0_4 a0_5 a0_6 a0_7 Ao Ap Ae Aq Ar As At Au Av Aw Ax Ag Ah An Ai Aj Ak Al Am))))) = some true := by rw [if_pos rfl] at H; exact H
      clear H
      have H := H1
      clear H1
      replace H := Option.bind_eq_some_iff.mp H
      obtain ⟨⟨EP, BM⟩, GD, H⟩ := H
      replace H : (if EP < 0 then (laws_FnExactStepMachine.j1 kj10 Ay true a0_0 a0_1 l0_2 a0_3 a0_4 a0_5 a0_6 a0_7 Ao Ap Ae Aq Ar As At Au Av Aw Ax Ag Ah An Ai Aj Ak Al Am) else ((laws_eqMachine.f kj10 Ag Ah An Ai Aj Ak Al Am Ao Ap Ae Aq Ar As At Au).bind fun C0 => (if C0 = true then ((laws_eqFall.f AM AN AO Av Aw Ax).bind fun BK => (if BK = true then (laws_FnExactStepMachine.j1 kj10 Ay (AS != Ay) a0_0 a0_1 l0_2 a0_3 a0_4 a0_5 a0_6 a0_7 Ao Ap Ae Aq Ar As At Au Av Aw Ax Ag Ah An Ai Aj Ak Al Am) else (laws_FnExactStepMachine.j1 kj10 Ay true a0_0 a0_1 l0_2 a0_3 a0_4 a0_5 a0_6 a0_7 Ao Ap Ae Aq Ar As At Au Av Aw Ax Ag Ah An Ai Aj Ak Al Am))) else (laws_FnExactStepMachine.j1 kj10 Ay true a0_0 a0_1 l0_2 a0_3 a0_4 a0_5 a0_6 a0_7 Ao Ap Ae Aq Ar As At Au Av Aw Ax Ag Ah An Ai Aj Ak Al Am)))) = some true := H
      have Ma := Z.m GD
      clear GD
      have Dj := Z.m H
      clear H
      try go_wp2
      replace Aa := Z.m (Kd.R_drew Aa.o)
      replace A6 := Z.m (Kd.R_drew A6.o)
      replace A5 := Z.m (Kd.R_drew A5.o)
      replace A1 := Z.m (blk_drew A1.o)
      replace A3 := Z.m (blk_drew A3.o)
      replace Ab := Z.m (blk_drew Ab.o)
      replace A4 := Z.m (blk_drew A4.o)
      replace A0 := Z.m (blk_drew A0.o)
      replace Ad := Z.m (blk_drew Ad.o)
      replace HB := Z.m (qd HB.o)
      refine start_ (n := 5) (S := fun w' => w'.cell? ⟨Bo, 0, none⟩ = some (.int .i64 AD) ∧ w'.cell? ⟨Bo, 1, none⟩ = some (.int .i64 AE) ∧ w'.cell? ⟨Bo, 2, none⟩ = some (.slice Bf AA.length Bd) ∧ w'.cell? ⟨Bo, 3, none⟩ = some (.int .i64 AF) ∧ w'.cell? ⟨Bo, 4, none⟩ = some (.int .i64 AG) ∧ w'.cell? ⟨Bo, 5, none⟩ = some (.int .i64 AH) ∧ w'.cell? ⟨Bo, 6, none⟩ = some (.int .i64 AI) ∧ w'.cell? ⟨Bo, 7, none⟩ = some (.int .i64 AJ) ∧ w'.cell? ⟨Be, 0, none⟩ = some (.int .i64 a0_0) ∧ w'.cell? ⟨Be, 1, none⟩ = some (.int .i64 a0_1) ∧ w'.cell? ⟨Be, 2, none⟩ = some (.slice A0_2 l0_2.length c0_2) ∧ w'.cell? ⟨Be, 3, none⟩ = some (.int .i64 a0_3) ∧ w'.cell? ⟨Be, 4, none⟩ = some (.int .i64 a0_4) ∧ w'.cell? ⟨Be, 5, none⟩ = some (.int .i64 a0_5) ∧ w'.cell? ⟨Be, 6, none⟩ = some (.int .i64 a0_6) ∧ w'.cell? ⟨Be, 7, none⟩ = some (.int .i64 a0_7)) (ds := []) #[false, false, false, false, false] (by kernel_rfl) rfl rfl ⟨(ql A4.o 0).trans rfl, (ql A4.o 1).trans rfl, (ql A4.o 2).trans rfl, (ql A4.o 3).trans rfl, (ql A4.o 4).trans rfl, (ql A4.o 5).trans rfl, (ql A4.o 6).trans rfl, (ql A4.o 7).trans rfl, (ql A1.o 0).trans rfl, (ql A1.o 1).trans rfl, (ql A1.o 2).trans rfl, (ql A1.o 3).trans rfl, (ql A1.o 4).trans rfl, (ql A1.o 5).trans rfl, (ql A1.o 6).trans rfl, (ql A1.o 7).trans rfl⟩ (fun hHeld => ?_)
      generalize wc.drew = Sn at Aa A6 A5 A1 A3 Ab A4 A0 Ad HB hHeld ⊢
      refine take_ (i := 0) (N := some 52) (v := ?_) (a' := ?_) #[true, false, false, false, false] rfl rfl (by kernel_rfl) (fun _ _ _ h => h) (Or.inl ⟨by rfl, ?_⟩) hHeld ?_ ?_
      rotate_left
      ·rintro w' ⟨s0, s1, s2, s3, s4, s5, s6, s7, s8, s9, s10, s11, s12, s13, s14, s15⟩
       go_simp
       with_reducible rfl
      rotate_left
      ·simp only [Act.put, q1, q2, q3, i64_w, i32_w]
       rfl
      refine take_ (i := 1) (N := some 53) (v := ?_) (a' := ?_) #[true, true, false, false, false] rfl rfl (by kernel_rfl) (fun _ _ _ h => h) (Or.inl ⟨by rfl, ?_⟩) hHeld ?_ ?_
      rotate_left
      ·rintro w' ⟨s0, s1, s2, s3, s4, s5, s6, s7, s8, s9, s10, s11, s12, s13, s14, s15⟩
       go_simp
       with_reducible rfl
      rotate_left
      ·simp only [Act.put, q1, q2, q3, i64_w, i32_w]
       rfl
      refine one_ (i := 2) (N := some 54) #[true, true, true, false, false] rfl rfl (by kernel_rfl) (by decide) (fun K hK => ?_)
      refine goes_ Try.func12 (by kernel_rfl) rfl #[.agg #[.int .i64 a0_0, .int .i64 a0_1, .slice A0_2 l0_2.length c0_2, .int .i64 a0_3, .int .i64 a0_4, .int .i64 a0_5, .int .i64 a0_6, .int .i64 a0_7]] (by rfl) rfl rfl (by (try simp only [List.map_toArray, List.map_cons, List.map_nil]); first | done | rfl | (simp only [List.length_drop, List.length_take]; rfl)) ?_
      with_reducible refine (laws_toMachine.calls kj10 a0_0 a0_1 _ _ l0_2 a0_3 a0_4 a0_5 a0_6 a0_7 CX CY CG CZ D0 D1 D2 D3 _ ?side1 ?side2 M8.o).mono ?_
      (case side1 => repeat (first | exact (Kd.C_below CE.o HB.o) | (with_reducible refine Kd.C_alloc ?_ _) | (with_reducible refine Kd.C_drewN ?_ _) | (with_reducible refine Kd.C_drew ?_)))
      (case side2 => exact CD.o)
      rintro e So ⟨Se, rfl, C2, hb⟩
      refine ⟨_, rfl, ?_⟩
      have By := Z.m (Kd.R_lower (Kd.R_new' (Kd.R_new' (Kd.R_new' C2 (Kd.R_lt (vR Aa))) (Kd.R_lt (vR A6))) (Kd.R_lt (vR A5))) (below_size (vB HB)))
      replace Aa := Z.m (Kd.R_elder' (vR Aa) (Kd.R_base C2) hb)
      replace A6 := Z.m (Kd.R_elder' (vR A6) (Kd.R_base C2) hb)
      replace A5 := Z.m (Kd.R_elder' (vR A5) (Kd.R_base C2) hb)
      replace A1 := kB A1 hb
      replace A3 := kB A3 hb
      replace Ab := kB Ab hb
      replace A4 := kB A4 hb
      replace A0 := kB A0 hb
      replace Ad := kB Ad hb
      replace HB := bB HB hb
      (try clear hb); (try clear C2)
      obtain ⟨Dd, Do, GO⟩ := Kd.R_slice By.o
      (first | subst GO | (injection GO with f1_ f2_ f3_; have f4_ := f1_.symm; have f5_ := f3_.symm; clear f1_ f2_ f3_; subst f4_; subst f5_))
      refine hK.out _ _ ⟨(ql A4.o 0).trans rfl, (ql A4.o 1).trans rfl, (ql A4.o 2).trans rfl, (ql A4.o 3).trans rfl, (ql A4.o 4).trans rfl, (ql A4.o 5).trans rfl, (ql A4.o 6).trans rfl, (ql A4.o 7).trans rfl, (ql A1.o 0).trans rfl, (ql A1.o 1).trans rfl, (ql A1.o 2).trans rfl, (ql A1.o 3).trans rfl, (ql A1.o 4).trans rfl, (ql A1.o 5).trans rfl, (ql A1.o 6).trans rfl, (ql A1.o 7).trans rfl⟩ (fun hHeld => ?_)
      clear hK K
      refine norm_ (a' := ?_) ?_ ?_
      rotate_left
      ·show Act.put _ (some 54) _ = _
       simp only [Act.put, q1, q2, q3, i64_w, i32_w]
       rfl
      refine one_ (i := 3) (N := some 55) #[true, true, true, true, false] rfl rfl (by kernel_rfl) (by decide) (fun K hK => ?_)
      refine goes_ Try.func14 (by kernel_rfl) rfl #[.agg #[.int .i64 AD, .int .i64 AE, .slice Bf AA.length Bd, .int .i64 AF, .int .i64 AG, .int .i64 AH, .int .i64 AI, .int .i64 AJ], .agg #[.int .i64 CX, .int .i64 CY, .slice Dd CG.length Do, .int .i64 CZ, .int .i64 D0, .int .i64 D1, .int .i64 D2, .int .i64 D3]] (by rfl) rfl rfl (by (try simp only [List.map_toArray, List.map_cons, List.map_nil]); first | done | rfl | (simp only [List.length_drop, List.length_take]; rfl)) ?_
      with_reducible refine (laws_eqMachine.calls kj10 AD AE _ _ AA AF AG AH AI AJ CX CY _ _ CG CZ D0 D1 D2 D3 true _ ?side1 ?side2 ?side3 ?side4 M9.o).mono ?_
      (case side1 => repeat (first | exact (Kd.RrZ A6.o).2.2 | (with_reducible refine Kd.C_alloc ?_ _) | (with_reducible refine Kd.C_drewN ?_ _) | (with_reducible refine Kd.C_drew ?_)))
      (case side2 => exact (Kd.RrZ A6.o).2.1)
      (case side3 => repeat (first | exact (Kd.RrZ By.o).2.2 | (with_reducible refine Kd.C_alloc ?_ _) | (with_reducible refine Kd.C_drewN ?_ _) | (with_reducible refine Kd.C_drew ?_)))
      (case side4 => exact (Kd.RrZ By.o).2.1)
      rintro e Sp ⟨rfl, hb⟩
      refine ⟨_, rfl, ?_⟩
      replace Aa := Z.m (Kd.Rb (vR Aa) hb)
      replace A6 := Z.m (Kd.Rb (vR A6) hb)
      replace A5 := Z.m (Kd.Rb (vR A5) hb)
      replace By := Z.m (Kd.Rb (vR By) hb)
      replace A1 := kB A1 hb
      replace A3 := kB A3 hb
      replace Ab := kB Ab hb
      replace A4 := kB A4 hb
      replace A0 := kB A0 hb
      replace Ad := kB Ad hb
      replace HB := bB HB hb
      (try clear hb)
      refine hK.out _ _ ⟨(ql A4.o 0).trans rfl, (ql A4.o 1).trans rfl, (ql A4.o 2).trans rfl, (ql A4.o 3).trans rfl, (ql A4.o 4).trans rfl, (ql A4.o 5).trans rfl, (ql A4.o 6).trans rfl, (ql A4.o 7).trans rfl, (ql A1.o 0).trans rfl, (ql A1.o 1).trans rfl, (ql A1.o 2).trans rfl, (ql A1.o 3).trans rfl, (ql A1.o 4).trans rfl, (ql A1.o 5).trans rfl, (ql A1.o 6).trans rfl, (ql A1.o 7).trans rfl⟩ (fun hHeld => ?_)
      clear hK K
      refine norm_ (a' := ?_) ?_ ?_
      rotate_left
      ·show Act.put _ (some 55) _ = _
       simp only [Act.put, q1, q2, q3, i64_w, i32_w]
       rfl
      refine pure_ (i := 4) (N := some 56) (v := ?_) (a' := ?_) #[true, true, true, true, true] rfl rfl (by kernel_rfl) (fun _ _ _ h => h) (Or.inl ⟨by rfl, ?_⟩) ?_ ?_
      rotate_left
      ·intro w'
       go_simp
       with_reducible rfl
      rotate_left
      ·simp only [Act.put, q1, q2, q3, i64_w, i32_w]
       rfl
      refine done_ (by kernel_rfl) ?_
      have MK := C4.o
      have Pj := BN.o
      have ML := Ba.o
      have Pk := AV.o
      have MM := BE.o
      have Pl := Bs.o
      have MN := AQ.o
      have Pm := Bc.o
      have MO := Bu.o
      have Pn := BT.o
      have Dp := bc0 A4
      have Dq := bc1 A4
      have Dr := bc2 A4
      have Ds := bc3 A4
      have Dt := bc4 A4
      have Du := bc5 A4
      have Dv := bc6 A4
      have Dw := bc7 A4
      have E6 := qz A4.o 0
      have E7 := qz A4.o 1
      have E8 := qz A4.o 2
      have E9 := qz A4.o 3
      have Ea := qz A4.o 4
      have Eb := qz A4.o 5
      have Ec := qz A4.o 6
      have Ed := qz A4.o 7
      go_upto_region 14 with (first | ((with_reducible refine gc (f := 15) rfl ?_); refine gA (some 59) _ #[.agg #[.int .i64 AD, .int .i64 AE, .slice Bf AA.length Bd, .int .i64 AF, .int .i64 AG, .int .i64 AH, .int .i64 AI, .int .i64 AJ], .int .i64 1] ?_ Try.func15; (with_reducible refine (laws_markMachine.calls kj10 AD AE (fun k_ => some k_ = (.slice Bf AA.length Bd : Value).ownBlock) (.slice Bf AA.length Bd) AA AF AG AH AI AJ 1 EP BM w _ ?side1 ?side2 Ma.o).mono ?_); (case side1 => repeat (first | (with_reducible first | exact HB.o | apply qa | apply qn | apply qd | refine qx ?_ CM.o | refine qx ?_ De.o | refine qx ?_ Df.o | refine qx ?_ Dg.o | refine qx ?_ Dh.o | refine qx ?_ Di.o) | exact HB.o)); (case side2 => exact Kd.Rg rfl A6.o); rintro e Sq ⟨rfl, L9, hb, hkp⟩; refine ⟨_, rfl, ?_⟩; replace Aa := Z.m (Kd.Rm (ok' := fun k_ => some k_ ≠ (.slice Bf AA.length Bd : Value).ownBlock ∧ some k_ ≠ (.slice Bm An.length Bg : Value).ownBlock ∧ some k_ ≠ (.slice Dd CG.length Do : Value).ownBlock) (Kd.Rk (Aa.o) hkp (fun k_ hk_ hs_ => (hk_.1.1) hs_)) (fun k_ hk_ => ⟨hk_.1.1.1, hk_.1.1.2, hk_.1.2⟩)); replace A5 := Z.m (Kd.Rm (ok' := fun k_ => some k_ ≠ (.slice Bp Ae.length Bl : Value).ownBlock ∧ some k_ ≠ (.slice Bf AA.length Bd : Value).ownBlock ∧ some k_ ≠ (.slice Dd CG.length Do : Value).ownBlock) (Kd.Rk (A5.o) hkp (fun k_ hk_ hs_ => (hk_.1.2) hs_)) (fun k_ hk_ => ⟨hk_.1.1.1, hk_.1.1.2, hk_.1.2⟩)); replace A1 := Z.m (qk (vK A1) hkp (fun hs_ => (fun e_ => (Kd.R_ne A6.o A1.o (by decide)) e_) hs_)); replace A3 := Z.m (qk (vK A3) hkp (fun hs_ => (fun e_ => (Kd.R_ne A6.o A3.o (by decide)) e_) hs_)); replace Ab := Z.m (qk (vK Ab) hkp (fun hs_ => (fun e_ => (Kd.R_ne A6.o Ab.o (by decide)) e_) hs_)); replace A4 := Z.m (qk (vK A4) hkp (fun hs_ => (fun e_ => (Kd.R_ne A6.o A4.o (by decide)) e_) hs_)); replace A0 := Z.m (qk (vK A0) hkp (fun hs_ => (fun e_ => (Kd.R_ne A6.o A0.o (by decide)) e_) hs_)); replace Ad := Z.m (qk (vK Ad) hkp (fun hs_ => (fun e_ => (Kd.R_ne A6.o Ad.o (by decide)) e_) hs_)); replace A6 := Z.m (Kd.Re rfl L9 (fun k_ e_ => A6.o.1 k_ e_)); replace By := Z.m (Kd.Rm (ok' := fun k_ => some k_ ≠ (.slice Bp Ae.length Bl : Value).ownBlock ∧ some k_ ≠ (.slice Bf AA.length Bd : Value).ownBlock ∧ some k_ ≠ (.slice Bm An.length Bg : Value).ownBlock) (Kd.Rk (By.o) hkp (fun k_ hk_ hs_ => (hk_.1.2) hs_)) (fun k_ hk_ => ⟨hk_.1.1.1.2, hk_.1.1.2, hk_.1.2⟩)); replace HB := Z.m (hb); (try clear hb); (try clear hkp); (try clear L9)))
      (try simp only [Act.put, q1, q2, q3])
      go_cut [78] (fun v78 wc => ∃ (kq : Nat) (CA : Bool), v78 = .bool CA ∧ Z (laws_FnExactStepMachine.j1 kq Ay CA a0_0 a0_1 l0_2 a0_3 a0_4 a0_5 a0_6 a0_7 Ao Ap Ae Aq Ar As At Au Av Aw Ax Ag Ah An Ai Aj Ak Al Am = some true) ∧ Z (kq ≤ kj10) ∧ Z (Kd.R k88 88 wc w.heap.size (fun k_ => some k_ ≠ ((.slice Bf AA.length Bd) : Value).ownBlock ∧ some k_ ≠ ((.slice Bm An.length Bg) : Value).ownBlock) (.slice Bp Ae.length Bl) Ae) ∧ Z (Kd.R k88 88 wc w.heap.size (fun k_ => some k_ ≠ ((.slice Bp Ae.length Bl) : Value).ownBlock ∧ some k_ ≠ ((.slice Bm An.length Bg) : Value).ownBlock) (.slice Bf AA.length Bd) BM) ∧ Z (Kd.R k88 88 wc w.heap.size (fun k_ => some k_ ≠ ((.slice Bp Ae.length Bl) : Value).ownBlock ∧ some k_ ≠ ((.slice Bf AA.length Bd) : Value).ownBlock) (.slice Bm An.length Bg) An) ∧ Z (wc.heap[Be]? = some (.cells #[.int .i64 a0_0, .int .i64 a0_1, (.slice A0_2 l0_2.length c0_2), .int .i64 a0_3, .int .i64 a0_4, .int .i64 a0_5, .int .i64 a0_6, .int .i64 a0_7] 26 (0, 0))) ∧ Z (wc.heap[BY]? = some (.cells #[.int .i64 Ao, .int .i64 Ap, (.slice Bp Ae.length Bl), .int .i64 Aq, .int .i64 Ar, .int .i64 As, .int .i64 At, .int .i64 Au] 32 (0, 0))) ∧ Z (wc.heap[BZ]? = some (.cells #[.int .i64 Av, .int .i64 Aw, .int .i64 Ax] 52 (0, 0))) ∧ Z (wc.heap[Bo]? = some (.cells #[.int .i64 AD, .int .i64 AE, (.slice Bf AA.length Bd), .int .i64 AF, .int .i64 AG, .int .i64 AH, .int .i64 AI, .int .i64 AJ] 32 (0, 0))) ∧ Z (wc.heap[Cf]? = some (.cells #[.int .i64 Ag, .int .i64 Ah, (.slice Bm An.length Bg), .int .i64 Ai, .int .i64 Aj, .int .i64 Ak, .int .i64 Al, .int .i64 Am] 32 (0, 0))) ∧ Z (wc.heap[Cg]? = some (.cells #[.int .i64 AM, .int .i64 AN, .int .i64 AO] 52 (0, 0))) ∧ Z (Below w.heap.size w wc))
      case first =>
       have H := Dj.o
       clear Dj
       by_cases c123 : EP < 0
       ·rw [if_pos c123] at H
        have CB := decide_eq_true c123
        clear c123
        (first | rw [CB] | (simp only [i64_w, i32_w]; rw [CB]) | skip)
        have H' := Z.m H
        clear H
        go_wp2
        go_meet
        case rel => exact ⟨_, (true), (by first | rfl | (simp; done) | (simp [*]; done)), H', ⟨by have := Dl.o; first | omega | exact Nat.le_refl _⟩, ⟨by refine rK ?_; exact Kd.Rm Aa.o (fun _ hk => ⟨hk.1, hk.2.1⟩)⟩, ⟨by refine rK ?_; exact Kd.Rm A6.o (fun _ hk => ⟨hk.1.1, hk.1.2⟩)⟩, ⟨by refine rK ?_; exact Kd.Rm A5.o (fun _ hk => ⟨hk.1, hk.2.1⟩)⟩, ⟨vK A1⟩, ⟨vK A3⟩, ⟨vK Ab⟩, ⟨vK A4⟩, ⟨vK A0⟩, ⟨vK Ad⟩, ⟨vB HB⟩⟩
       ·rw [if_neg c123] at H
        have CB := decide_eq_false c123
        clear c123
        (first | rw [CB] | (simp only [i64_w, i32_w]; rw [CB]) | skip)
        replace H := Option.bind_eq_some_iff.mp H
        obtain ⟨C0, GE, H⟩ := H
        replace H : (if C0 = true then ((laws_eqFall.f AM AN AO Av Aw Ax).bind fun BK => (if BK = true then (laws_FnExactStepMachine.j1 kj10 Ay (AS != Ay) a0_0 a0_1 l0_2 a0_3 a0_4 a0_5 a0_6 a0_7 Ao Ap Ae Aq Ar As At Au Av Aw Ax Ag Ah An Ai Aj Ak Al Am) else (laws_FnExactStepMachine.j1 kj10 Ay true a0_0 a0_1 l0_2 a0_3 a0_4 a0_5 a0_6 a0_7 Ao Ap Ae Aq Ar As At Au Av Aw Ax Ag Ah An Ai Aj Ak Al Am))) else (laws_FnExactStepMachine.j1 kj10 Ay true a0_0 a0_1 l0_2 a0_3 a0_4 a0_5 a0_6 a0_7 Ao Ap Ae Aq Ar As At Au Av Aw Ax Ag Ah An Ai Aj Ak Al Am)) = some true := H
        have H0 := Z.m GE
        clear GE
        by_cases c125 : C0 = true
        ·subst c125
         have H1 : ((laws_eqFall.f AM AN AO Av Aw Ax).bind fun BK => (if BK = true then (laws_FnExactStepMachine.j1 kj10 Ay (AS != Ay) a0_0 a0_1 l0_2 a0_3 a0_4 a0_5 a0_6 a0_7 Ao Ap Ae Aq Ar As At Au Av Aw Ax Ag Ah An Ai Aj Ak Al Am) else (laws_FnExactStepMachine.j1 kj10 Ay true a0_0 a0_1 l0_2 a0_3 a0_4 a0_5 a0_6 a0_7 Ao Ap Ae Aq Ar As At Au Av Aw Ax Ag Ah An Ai Aj Ak Al Am))) = some true := by rw [if_pos rfl] at H; exact H
         clear H
         have H := H1
         clear H1
         replace H := Option.bind_eq_some_iff.mp H
         obtain ⟨BK, GF, H⟩ := H
         replace H : (if BK = true then (laws_FnExactStepMachine.j1 kj10 Ay (AS != Ay) a0_0 a0_1 l0_2 a0_3 a0_4 a0_5 a0_6 a0_7 Ao Ap Ae Aq Ar As At Au Av Aw Ax Ag Ah An Ai Aj Ak Al Am) else (laws_FnExactStepMachine.j1 kj10 Ay true a0_0 a0_1 l0_2 a0_3 a0_4 a0_5 a0_6 a0_7 Ao Ap Ae Aq Ar As At Au Av Aw Ax Ag Ah An Ai Aj Ak Al Am)) = some true := H
         have Mb := Z.m GF
         clear GF
         by_cases c127 : BK = true
         ·subst c127
          have H1 : (laws_FnExactStepMachine.j1 kj10 Ay (AS != Ay) a0_0 a0_1 l0_2 a0_3 a0_4 a0_5 a0_6 a0_7 Ao Ap Ae Aq Ar As At Au Av Aw Ax Ag Ah An Ai Aj Ak Al Am) = some true := by rw [if_pos rfl] at H; exact H
          clear H
          have H := H1
          clear H1
          have H' := Z.m H
          clear H
          have MP := Bj.o
          have Po := AU.o
          have MQ := AX.o
          have Pp := AL.o
          have MR := Bb.o
          have Pq := AP.o
          have MS := Bc.o
          have Pr := AQ.o
          have MT := AY.o
          have Ps := AZ.o
          have Hg := bc0 A0
          have Hh := bc1 A0
          have Hi := bc2 A0
          have Hj := bc3 A0
          have Hk := bc4 A0
          have Hl := bc5 A0
          have Hm := bc6 A0
          have Hn := bc7 A0
          have JM := qz A0.o 0
          have JN := qz A0.o 1
          have JO := qz A0.o 2
          have JP := qz A0.o 3
          have JQ := qz A0.o 4
          have JR := qz A0.o 5
          have JS := qz A0.o 6
          have JT := qz A0.o 7
          have MU := B3.o
          have Pt := AT.o
          have MV := B7.o
          have Pu := B8.o
          have MW := AV.o
          have Pv := Ba.o
          have MX := AW.o
          have Pw := Bk.o
          have Ho := bc0 A3
          have Hp := bc1 A3
          have Hq := bc2 A3
          have Hr := bc3 A3
          have Hs := bc4 A3
          have Ht := bc5 A3
          have Hu := bc6 A3
          have Hv := bc7 A3
          have JU := qz A3.o 0
          have JV := qz A3.o 1
          have JW := qz A3.o 2
          have JX := qz A3.o 3
          have JY := qz A3.o 4
          have JZ := qz A3.o 5
          have K0 := qz A3.o 6
          have K1 := qz A3.o 7
          go_wp2_with (first | (go_at_call 14; (with_reducible refine (laws_eqMachine.calls kj10 Ag Ah _ _ An Ai Aj Ak Al Am Ao Ap _ _ Ae Aq Ar As At Au true _ ?side1 ?side2 ?side3 ?side4 H0.o).mono ?_); (case side1 => repeat (first | exact (Kd.RrZ A5.o).2.2 | (with_reducible refine Kd.C_alloc ?_ _) | (with_reducible refine Kd.C_drewN ?_ _) | (with_reducible refine Kd.C_drew ?_))); (case side2 => exact (Kd.RrZ A5.o).2.1); (case side3 => repeat (first | exact (Kd.RrZ Aa.o).2.2 | (with_reducible refine Kd.C_alloc ?_ _) | (with_reducible refine Kd.C_drewN ?_ _) | (with_reducible refine Kd.C_drew ?_))); (case side4 => exact (Kd.RrZ Aa.o).2.1); rintro e Sr ⟨rfl, hb⟩; replace Aa := Z.m (Kd.Rb (vR Aa) hb); replace A6 := Z.m (Kd.Rb (vR A6) hb); replace A5 := Z.m (Kd.Rb (vR A5) hb); replace By := Z.m (Kd.Rb (vR By) hb); replace A1 := kB A1 hb; replace A3 := kB A3 hb; replace Ab := kB Ab hb; replace A4 := kB A4 hb; replace A0 := kB A0 hb; replace Ad := kB Ad hb; replace HB := bB HB hb; (try clear hb); (try clear CJ); (try clear hk); (try clear hi); have MY := BR.o; have Px := Br.o; have MZ := BS.o; have Py := Bt.o; have N0 := BT.o; have Pz := Bu.o; have Hw := bc0 Ad; have Hx := bc1 Ad; have Hy := bc2 Ad; have K2 := qz Ad.o 0; have K3 := qz Ad.o 1; have K4 := qz Ad.o 2; have N1 := BC.o; have PA := Bq.o; have N2 := Bs.o; have PB := BE.o; have Hz := bc0 Ab; have HC := bc1 Ab; have HD := bc2 Ab; have K5 := qz Ab.o 0; have K6 := qz Ab.o 1; have K7 := qz Ab.o 2) | (go_at_call 32; (with_reducible refine (laws_eqFall.calls AM AN AO Av Aw Ax true _ Mb.o).mono ?_); rintro e Ss ⟨rfl, hb⟩; replace Aa := Z.m (Kd.Rb (vR Aa) hb); replace A6 := Z.m (Kd.Rb (vR A6) hb); replace A5 := Z.m (Kd.Rb (vR A5) hb); replace By := Z.m (Kd.Rb (vR By) hb); replace A1 := kB A1 hb; replace A3 := kB A3 hb; replace Ab := kB Ab hb; replace A4 := kB A4 hb; replace A0 := kB A0 hb; replace Ad := kB Ad hb; replace HB := bB HB hb; (try clear hb); (try clear CJ); (try clear hk); (try clear hi)))
          go_meet
          case rel => exact ⟨_, ((AS != Ay)), (by first | rfl | (simp; done) | (simp [*]; done)), H', ⟨by have := Dl.o; first | omega | exact Nat.le_refl _⟩, ⟨by refine rK ?_; exact Kd.Rm Aa.o (fun _ hk => ⟨hk.1, hk.2.1⟩)⟩, ⟨by refine rK ?_; exact Kd.Rm A6.o (fun _ hk => ⟨hk.1.1, hk.1.2⟩)⟩, ⟨by refine rK ?_; exact Kd.Rm A5.o (fun _ hk => ⟨hk.1, hk.2.1⟩)⟩, ⟨vK A1⟩, ⟨vK A3⟩, ⟨vK Ab⟩, ⟨vK A4⟩, ⟨vK A0⟩, ⟨vK Ad⟩, ⟨vB HB⟩⟩
         ·(rw [if_neg c127] at H; exact absurd H (laws_FnExactStepMachine.bad_j1 _ _ _ _ _ _ _ _ _ _ _ _ _ _ _ _ _ _ _ _ _ _ _ _ _ _ _ _ _))
        ·replace c125 := Bool.eq_false_iff.mpr c125
         subst c125
         have H1 : (laws_FnExactStepMachine.j1 kj10 Ay true a0_0 a0_1 l0_2 a0_3 a0_4 a0_5 a0_6 a0_7 Ao Ap Ae Aq Ar As At Au Av Aw Ax Ag Ah An Ai Aj Ak Al Am) = some true := by rw [if_neg (show ¬ (false = true) by decide)] at H; exact H
         clear H
         have H := H1
         clear H1
         have H' := Z.m H
         clear H
         have N3 := Bj.o
         have PC := AU.o
         have N4 := AX.o
         have PD := AL.o
         have N5 := Bb.o
         have PE := AP.o
         have N6 := Bc.o
         have PF := AQ.o
         have N7 := AY.o
         have PG := AZ.o
         have HE := bc0 A0
         have HF := bc1 A0
         have HG := bc2 A0
         have HH := bc3 A0
         have HI := bc4 A0
         have HJ := bc5 A0
         have HK := bc6 A0
         have HL := bc7 A0
         have K8 := qz A0.o 0
         have K9 := qz A0.o 1
         have Ka := qz A0.o 2
         have Kb := qz A0.o 3
         have Kc := qz A0.o 4
         have Ke := qz A0.o 5
         have Kf := qz A0.o 6
         have Kg := qz A0.o 7
         have N8 := B3.o
         have PH := AT.o
         have N9 := B7.o
         have PI := B8.o
         have Na := AV.o
         have PJ := Ba.o
         have Nb := AW.o
         have PK := Bk.o
         have HM := bc0 A3
         have HN := bc1 A3
         have HO := bc2 A3
         have HP := bc3 A3
         have HQ := bc4 A3
         have HR := bc5 A3
         have HS := bc6 A3
         have HT := bc7 A3
         have Kh := qz A3.o 0
         have Ki := qz A3.o 1
         have Kj := qz A3.o 2
         have Kk := qz A3.o 3
         have Kl := qz A3.o 4
         have Km := qz A3.o 5
         have Kn := qz A3.o 6
         have Ko := qz A3.o 7
         go_wp2_with (first | (go_at_call 14; (with_reducible refine (laws_eqMachine.calls kj10 Ag Ah _ _ An Ai Aj Ak Al Am Ao Ap _ _ Ae Aq Ar As At Au false _ ?side1 ?side2 ?side3 ?side4 H0.o).mono ?_); (case side1 => repeat (first | exact (Kd.RrZ A5.o).2.2 | (with_reducible refine Kd.C_alloc ?_ _) | (with_reducible refine Kd.C_drewN ?_ _) | (with_reducible refine Kd.C_drew ?_))); (case side2 => exact (Kd.RrZ A5.o).2.1); (case side3 => repeat (first | exact (Kd.RrZ Aa.o).2.2 | (with_reducible refine Kd.C_alloc ?_ _) | (with_reducible refine Kd.C_drewN ?_ _) | (with_reducible refine Kd.C_drew ?_))); (case side4 => exact (Kd.RrZ Aa.o).2.1); rintro e St ⟨rfl, hb⟩; replace Aa := Z.m (Kd.Rb (vR Aa) hb); replace A6 := Z.m (Kd.Rb (vR A6) hb); replace A5 := Z.m (Kd.Rb (vR A5) hb); replace By := Z.m (Kd.Rb (vR By) hb); replace A1 := kB A1 hb; replace A3 := kB A3 hb; replace Ab := kB Ab hb; replace A4 := kB A4 hb; replace A0 := kB A0 hb; replace Ad := kB Ad hb; replace HB := bB HB hb; (try clear hb); (try clear CJ); (try clear hk); (try clear hi)))
         go_meet
         case rel => exact ⟨_, (true), (by first | rfl | (simp; done) | (simp [*]; done)), H', ⟨by have := Dl.o; first | omega | exact Nat.le_refl _⟩, ⟨by refine rK ?_; exact Kd.Rm Aa.o (fun _ hk => ⟨hk.1, hk.2.1⟩)⟩, ⟨by refine rK ?_; exact Kd.Rm A6.o (fun _ hk => ⟨hk.1.1, hk.1.2⟩)⟩, ⟨by refine rK ?_; exact Kd.Rm A5.o (fun _ hk => ⟨hk.1, hk.2.1⟩)⟩, ⟨vK A1⟩, ⟨vK A3⟩, ⟨vK Ab⟩, ⟨vK A4⟩, ⟨vK A0⟩, ⟨vK Ad⟩, ⟨vB HB⟩⟩
      case rest =>
       clear Dj
       (try clear c106); (try clear c109)
       (try clear Dp); (try clear Dq); (try clear Dr); (try clear Ds); (try clear Dt); (try clear Du); (try clear Dv); (try clear Dw)
       (try clear E6); (try clear E7); (try clear E8); (try clear E9); (try clear Ea); (try clear Eb); (try clear Ec); (try clear Ed)
       obtain ⟨kq, CA, rfl, HA, GN, Aa, A6, A5, A1, A3, Ab, A4, A0, Ad, HB⟩ := hcut
       have Ac := (Kd.RrZ A6.o).1
       rw [Ac] at A6
       (try simp only [Ac])
       (try simp only [Ac] at A1)
       (try simp only [Ac] at A3)
       (try simp only [Ac] at Ab)
       (try simp only [Ac] at A4)
       (try simp only [Ac] at A0)
       (try simp only [Ac] at Ad)
       (try simp only [Ac] at Aa)
       (try simp only [Ac] at A5)
       cases kq with
       | zero => exact absurd HA.o (by simp [laws_FnExactStepMachine.j1])
       | succ kj110 =>
        have H := HA.o
        clear HA
        simp only [laws_FnExactStepMachine.j1] at H
        by_cases c180 : CA = true
        ·(rw [if_pos c180] at H; exact absurd H (by decide))
        ·replace c180 := Bool.eq_false_iff.mpr c180
         subst c180
         have H1 : ((laws_markMachine.f kj110 Ag Ah An Ai Aj Ak Al Am 1).bind fun bt1188 => ((laws_heldMachine.f kj110 Ag Ah bt1188.2 Ai Aj Ak Al Am 1).bind fun Cd => (if Cd < 0 then (some false) else (if Cd = bt1188.1 then ((laws_toMachine.f kj110 a0_0 a0_1 l0_2 a0_3 a0_4 a0_5 a0_6 a0_7).bind fun bt1191 => ((impl_StepMachine.f kj110 bt1191.1 bt1191.2.1 bt1191.2.2.1 bt1191.2.2.2.1 bt1191.2.2.2.2.1 bt1191.2.2.2.2.2.1 bt1191.2.2.2.2.2.2.1 bt1191.2.2.2.2.2.2.2).bind fun bt1201 => ((laws_eqMachine.f kj110 bt1201.1 bt1201.2.1 bt1201.2.2.1 bt1201.2.2.2.1 bt1201.2.2.2.2.1 bt1201.2.2.2.2.2.1 bt1201.2.2.2.2.2.2.1 bt1201.2.2.2.2.2.2.2.1 Ao Ap Ae Aq Ar As At Au).bind fun C1 => (if C1 = true then ((laws_eqFall.f bt1201.2.2.2.2.2.2.2.2.1 bt1201.2.2.2.2.2.2.2.2.2.1 bt1201.2.2.2.2.2.2.2.2.2.2.1 Av Aw Ax).bind fun BL => (if BL = true then (laws_FnExactStepMachine.j2 kj110 bt1188.1 (bt1201.2.2.2.2.2.2.2.2.2.2.2 != Ay) Ag Ah bt1188.2 Ai Aj Ak Al Am) else (laws_FnExactStepMachine.j2 kj110 bt1188.1 true Ag Ah bt1188.2 Ai Aj Ak Al Am))) else (laws_FnExactStepMachine.j2 kj110 bt1188.1 true Ag Ah bt1188.2 Ai Aj Ak Al Am))))) else (some false))))) = some true := by rw [if_neg (show ¬ (false = true) by decide)] at H; exact H
         clear H
         have H := H1
         clear H1
         replace H := Option.bind_eq_some_iff.mp H
         obtain ⟨⟨B0, AR⟩, GG, H⟩ := H
         replace H : ((laws_heldMachine.f kj110 Ag Ah AR Ai Aj Ak Al Am 1).bind fun Cd => (if Cd < 0 then (some false) else (if Cd = B0 then ((laws_toMachine.f kj110 a0_0 a0_1 l0_2 a0_3 a0_4 a0_5 a0_6 a0_7).bind fun bt1191 => ((impl_StepMachine.f kj110 bt1191.1 bt1191.2.1 bt1191.2.2.1 bt1191.2.2.2.1 bt1191.2.2.2.2.1 bt1191.2.2.2.2.2.1 bt1191.2.2.2.2.2.2.1 bt1191.2.2.2.2.2.2.2).bind fun bt1201 => ((laws_eqMachine.f kj110 bt1201.1 bt1201.2.1 bt1201.2.2.1 bt1201.2.2.2.1 bt1201.2.2.2.2.1 bt1201.2.2.2.2.2.1 bt1201.2.2.2.2.2.2.1 bt1201.2.2.2.2.2.2.2.1 Ao Ap Ae Aq Ar As At Au).bind fun C1 => (if C1 = true then ((laws_eqFall.f bt1201.2.2.2.2.2.2.2.2.1 bt1201.2.2.2.2.2.2.2.2.2.1 bt1201.2.2.2.2.2.2.2.2.2.2.1 Av Aw Ax).bind fun BL => (if BL = true then (laws_FnExactStepMachine.j2 kj110 B0 (bt1201.2.2.2.2.2.2.2.2.2.2.2 != Ay) Ag Ah AR Ai Aj Ak Al Am) else (laws_FnExactStepMachine.j2 kj110 B0 true Ag Ah AR Ai Aj Ak Al Am))) else (laws_FnExactStepMachine.j2 kj110 B0 true Ag Ah AR Ai Aj Ak Al Am))))) else (some false)))) = some true := H
         have Mc := Z.m GG
         clear GG
         replace H := Option.bind_eq_some_iff.mp H
         obtain ⟨Cd, GH, H⟩ := H
         replace H : (if Cd < 0 then (some false) else (if Cd = B0 then ((laws_toMachine.f kj110 a0_0 a0_1 l0_2 a0_3 a0_4 a0_5 a0_6 a0_7).bind fun bt1191 => ((impl_StepMachine.f kj110 bt1191.1 bt1191.2.1 bt1191.2.2.1 bt1191.2.2.2.1 bt1191.2.2.2.2.1 bt1191.2.2.2.2.2.1 bt1191.2.2.2.2.2.2.1 bt1191.2.2.2.2.2.2.2).bind fun bt1201 => ((laws_eqMachine.f kj110 bt1201.1 bt1201.2.1 bt1201.2.2.1 bt1201.2.2.2.1 bt1201.2.2.2.2.1 bt1201.2.2.2.2.2.1 bt1201.2.2.2.2.2.2.1 bt1201.2.2.2.2.2.2.2.1 Ao Ap Ae Aq Ar As At Au).bind fun C1 => (if C1 = true then ((laws_eqFall.f bt1201.2.2.2.2.2.2.2.2.1 bt1201.2.2.2.2.2.2.2.2.2.1 bt1201.2.2.2.2.2.2.2.2.2.2.1 Av Aw Ax).bind fun BL => (if BL = true then (laws_FnExactStepMachine.j2 kj110 B0 (bt1201.2.2.2.2.2.2.2.2.2.2.2 != Ay) Ag Ah AR Ai Aj Ak Al Am) else (laws_FnExactStepMachine.j2 kj110 B0 true Ag Ah AR Ai Aj Ak Al Am))) else (laws_FnExactStepMachine.j2 kj110 B0 true Ag Ah AR Ai Aj Ak Al Am))))) else (some false))) = some true := H
         have Md := Z.m GH
         clear GH
         by_cases c183 : Cd < 0
         ·(rw [if_pos c183] at H; exact absurd H (by decide))
         ·rw [if_neg c183] at H
          have Dm := decide_eq_false c183
          (try simp only [Ac] at Dm)
          clear c183
          by_cases c193 : Cd = B0
          ·rw [if_pos c193] at H
           have GX := beq_iff_eq.mpr c193
           have GY := bne_eq_false_iff_eq.mpr c193
           clear c193
           replace H := Option.bind_eq_some_iff.mp H
           obtain ⟨⟨D4, D5, Cv, D6, D7, D8, D9, Da⟩, GI, H⟩ := H
           replace H : ((impl_StepMachine.f kj110 D4 D5 Cv D6 D7 D8 D9 Da).bind fun bt1201 => ((laws_eqMachine.f kj110 bt1201.1 bt1201.2.1 bt1201.2.2.1 bt1201.2.2.2.1 bt1201.2.2.2.2.1 bt1201.2.2.2.2.2.1 bt1201.2.2.2.2.2.2.1 bt1201.2.2.2.2.2.2.2.1 Ao Ap Ae Aq Ar As At Au).bind fun C1 => (if C1 = true then ((laws_eqFall.f bt1201.2.2.2.2.2.2.2.2.1 bt1201.2.2.2.2.2.2.2.2.2.1 bt1201.2.2.2.2.2.2.2.2.2.2.1 Av Aw Ax).bind fun BL => (if BL = true then (laws_FnExactStepMachine.j2 kj110 B0 (bt1201.2.2.2.2.2.2.2.2.2.2.2 != Ay) Ag Ah AR Ai Aj Ak Al Am) else (laws_FnExactStepMachine.j2 kj110 B0 true Ag Ah AR Ai Aj Ak Al Am))) else (laws_FnExactStepMachine.j2 kj110 B0 true Ag Ah AR Ai Aj Ak Al Am)))) = some true := H
           have Me := Z.m GI
           clear GI
           replace H := Option.bind_eq_some_iff.mp H
           obtain ⟨⟨Ci, Cj, Bx, Cl, Cm, Cn, Co, Cp, Cw, Cx, Cy, CC⟩, GJ, H⟩ := H
           replace H : ((laws_eqMachine.f kj110 Ci Cj Bx Cl Cm Cn Co Cp Ao Ap Ae Aq Ar As At Au).bind fun C1 => (if C1 = true then ((laws_eqFall.f Cw Cx Cy Av Aw Ax).bind fun BL => (if BL = true then (laws_FnExactStepMachine.j2 kj110 B0 (CC != Ay) Ag Ah AR Ai Aj Ak Al Am) else (laws_FnExactStepMachine.j2 kj110 B0 true Ag Ah AR Ai Aj Ak Al Am))) else (laws_FnExactStepMachine.j2 kj110 B0 true Ag Ah AR Ai Aj Ak Al Am))) = some true := H
           have Mf := Z.m GJ
           clear GJ
           have Dk := Z.m H
           clear H
           have Nc := Bj.o
           have PL := AU.o
           have Nd := AX.o
           have PM := AL.o
           have Nf := Bb.o
           have PN := AP.o
           have Ng := Bc.o
           have PO := AQ.o
           have Nh := AY.o
           have PP := AZ.o
           have Dx := bc0 A0
           have Dy := bc1 A0
           have Dz := bc2 A0
           have DA := bc3 A0
           have DB := bc4 A0
           have DC := bc5 A0
           have DD := bc6 A0
           have DE := bc7 A0
           have Ee := qz A0.o 0
           have Ef := qz A0.o 1
           have Eg := qz A0.o 2
           have Eh := qz A0.o 3
           have Ei := qz A0.o 4
           have Ej := qz A0.o 5
           have Ek := qz A0.o 6
           have El := qz A0.o 7
           go_upto_region 25 with (first | ((with_reducible refine gc (f := 15) rfl ?_); refine gA (some 81) _ #[.agg #[.int .i64 Ag, .int .i64 Ah, .slice Bm An.length Bg, .int .i64 Ai, .int .i64 Aj, .int .i64 Ak, .int .i64 Al, .int .i64 Am], .int .i64 1] ?_ Try.func15; (with_reducible refine (laws_markMachine.calls kj110 Ag Ah (fun k_ => some k_ = (.slice Bm An.length Bg : Value).ownBlock) (.slice Bm An.length Bg) An Ai Aj Ak Al Am 1 B0 AR w _ ?side1 ?side2 Mc.o).mono ?_); (case side1 => repeat (first | (with_reducible first | exact HB.o | apply qa | apply qn | apply qd | refine qx ?_ CM.o | refine qx ?_ De.o | refine qx ?_ Df.o | refine qx ?_ Dg.o | refine qx ?_ Dh.o | refine qx ?_ Di.o) | exact HB.o)); (case side2 => exact Kd.Rg rfl A5.o); rintro e Su ⟨rfl, L9, hb, hkp⟩; refine ⟨_, rfl, ?_⟩; replace Aa := Z.m (Kd.Rm (ok' := fun k_ => some k_ ≠ (.slice Bf BM.length Bd : Value).ownBlock ∧ some k_ ≠ (.slice Bm An.length Bg : Value).ownBlock) (Kd.Rk (Aa.o) hkp (fun k_ hk_ hs_ => (hk_.2) hs_)) (fun k_ hk_ => ⟨hk_.1.1, hk_.1.2⟩)); replace A6 := Z.m (Kd.Rm (ok' := fun k_ => some k_ ≠ (.slice Bp Ae.length Bl : Value).ownBlock ∧ some k_ ≠ (.slice Bm An.length Bg : Value).ownBlock) (Kd.Rk (A6.o) hkp (fun k_ hk_ hs_ => (hk_.2) hs_)) (fun k_ hk_ => ⟨hk_.1.1, hk_.1.2⟩)); replace A1 := Z.m (qk (vK A1) hkp (fun hs_ => (fun e_ => (Kd.R_ne A5.o A1.o (by decide)) e_) hs_)); replace A3 := Z.m (qk (vK A3) hkp (fun hs_ => (fun e_ => (Kd.R_ne A5.o A3.o (by decide)) e_) hs_)); replace Ab := Z.m (qk (vK Ab) hkp (fun hs_ => (fun e_ => (Kd.R_ne A5.o Ab.o (by decide)) e_) hs_)); replace A4 := Z.m (qk (vK A4) hkp (fun hs_ => (fun e_ => (Kd.R_ne A5.o A4.o (by decide)) e_) hs_)); replace A0 := Z.m (qk (vK A0) hkp (fun hs_ => (fun e_ => (Kd.R_ne A5.o A0.o (by decide)) e_) hs_)); replace Ad := Z.m (qk (vK Ad) hkp (fun hs_ => (fun e_ => (Kd.R_ne A5.o Ad.o (by decide)) e_) hs_)); replace A5 := Z.m (Kd.Re rfl L9 (fun k_ e_ => A5.o.1 k_ e_)); replace HB := Z.m (hb); (try clear hb); (try clear hkp); (try clear L9); have DF := bc0 A0; have DG := bc1 A0; have DH := bc2 A0; have DI := bc3 A0; have DJ := bc4 A0; have DK := bc5 A0; have DL := bc6 A0; have DM := bc7 A0; have Em := qz A0.o 0; have En := qz A0.o 1; have Eo := qz A0.o 2; have Ep := qz A0.o 3; have Er := qz A0.o 4; have Es := qz A0.o 5; have Et := qz A0.o 6; have Eu := qz A0.o 7) | ((with_reducible refine gc (f := 16) rfl ?_); refine goesL_ (some 84) rfl rfl Try.func16 (by kernel_rfl) rfl #[.agg #[.int .i64 Ag, .int .i64 Ah, .slice Bm AR.length Bg, .int .i64 Ai, .int .i64 Aj, .int .i64 Ak, .int .i64 Al, .int .i64 Am], .int .i64 1] rfl (by (try simp only [List.map_toArray, List.map_cons, List.map_nil]); first | done | (rw [show AR.length = An.length from (Kd.RrZ A5.o).1.symm] <;> rfl) | rfl | (simp only [List.length_drop, List.length_take]; rfl)) ?_; (with_reducible refine (laws_heldMachine.calls kj110 Ag Ah _ _ AR Ai Aj Ak Al Am 1 Cd _ ?side1 ?side2 Md.o).mono ?_); (case side1 => repeat (first | exact (Kd.RrZ A5.o).2.2 | (with_reducible refine Kd.C_alloc ?_ _) | (with_reducible refine Kd.C_drewN ?_ _) | (with_reducible refine Kd.C_drew ?_))); (case side2 => rw [show AR.length = An.length from (Kd.RrZ A5.o).1.symm]; exact (Kd.RrZ A5.o).2.1); rintro e Sv ⟨rfl, hb⟩; refine ⟨_, rfl, ?_⟩; replace Aa := Z.m (Kd.Rb (vR Aa) hb); replace A6 := Z.m (Kd.Rb (vR A6) hb); replace A5 := Z.m (Kd.Rb (vR A5) hb); replace A1 := kB A1 hb; replace A3 := kB A3 hb; replace Ab := kB Ab hb; replace A4 := kB A4 hb; replace A0 := kB A0 hb; replace Ad := kB Ad hb; replace HB := bB HB hb; (try clear hb); (try clear CJ); (try clear hk); (try clear hi); have Ni := AT.o; have PQ := B3.o; have Nj := Bq.o; have PR := BC.o; have Nk := BN.o; have PS := C4.o; have Nl := Br.o; have PT := BR.o; have DN := bc0 A1; have DO := bc1 A1; have DP := bc2 A1; have DQ := bc3 A1; have DR := bc4 A1; have DS := bc5 A1; have DT := bc6 A1; have DU := bc7 A1; have Ew := qz A1.o 0; have Ex := qz A1.o 1; have Ey := qz A1.o 2; have Ez := qz A1.o 3; have EA := qz A1.o 4; have EB := qz A1.o 5; have EC := qz A1.o 6; have ED := qz A1.o 7) | ((with_reducible refine gc (f := 12) rfl ?_); refine gA (some 92) _ #[.agg #[.int .i64 a0_0, .int .i64 a0_1, .slice A0_2 l0_2.length c0_2, .int .i64 a0_3, .int .i64 a0_4, .int .i64 a0_5, .int .i64 a0_6, .int .i64 a0_7]] ?_ Try.func12; (with_reducible refine (laws_toMachine.calls kj110 a0_0 a0_1 _ _ l0_2 a0_3 a0_4 a0_5 a0_6 a0_7 D4 D5 Cv D6 D7 D8 D9 Da _ ?side1 ?side2 Me.o).mono ?_); (case side1 => repeat (first | exact (Kd.C_below CE.o HB.o) | (with_reducible refine Kd.C_alloc ?_ _) | (with_reducible refine Kd.C_drewN ?_ _) | (with_reducible refine Kd.C_drew ?_))); (case side2 => exact CD.o); rintro e Sw ⟨Sf, rfl, C2, hb⟩; refine ⟨_, rfl, ?_⟩; have Bn := Z.m (Kd.R_lower (Kd.R_new' (Kd.R_new' (Kd.R_new' C2 (Kd.R_lt (vR Aa))) (Kd.R_lt (vR A6))) (Kd.R_lt (vR A5))) (below_size (vB HB))); replace Aa := Z.m (Kd.R_elder' (vR Aa) (Kd.R_base C2) hb); replace A6 := Z.m (Kd.R_elder' (vR A6) (Kd.R_base C2) hb); replace A5 := Z.m (Kd.R_elder' (vR A5) (Kd.R_base C2) hb); replace A1 := kB A1 hb; replace A3 := kB A3 hb; replace Ab := kB Ab hb; replace A4 := kB A4 hb; replace A0 := kB A0 hb; replace Ad := kB Ad hb; replace HB := bB HB hb; (try clear hb); (try clear CJ); (try clear hk); (try clear hi); (try clear C2); obtain ⟨CK, CL, H6⟩ := Kd.R_slice Bn.o; subst H6) | ((with_reducible refine gc (f := 31) rfl ?_); refine gA (some 93) _ #[.agg #[.int .i64 D4, .int .i64 D5, .slice CK Cv.length CL, .int .i64 D6, .int .i64 D7, .int .i64 D8, .int .i64 D9, .int .i64 Da]] ?_ Try.func31; (with_reducible refine (impl_StepMachine.calls kj110 D4 D5 _ _ Cv D6 D7 D8 D9 Da Ci Cj Bx Cl Cm Cn Co Cp Cw Cx Cy CC _ ?side1 ?side2 Mf.o).mono ?_); (case side1 => repeat (first | exact (Kd.RrZ Bn.o).2.2 | (with_reducible refine Kd.C_alloc ?_ _) | (with_reducible refine Kd.C_drewN ?_ _) | (with_reducible refine Kd.C_drew ?_))); (case side2 => exact (Kd.RrZ Bn.o).2.1); rintro e Sx ⟨Sg, rfl, C2, hb⟩; refine ⟨_, rfl, ?_⟩; have Bi := Z.m (Kd.R_lower (Kd.R_new' (Kd.R_new' (Kd.R_new' (Kd.R_new' C2 (Kd.R_lt (vR Aa))) (Kd.R_lt (vR A6))) (Kd.R_lt (vR A5))) (Kd.R_lt (vR Bn))) (below_size (vB HB))); replace Aa := Z.m (Kd.R_elder' (vR Aa) (Kd.R_base C2) hb); replace A6 := Z.m (Kd.R_elder' (vR A6) (Kd.R_base C2) hb); replace A5 := Z.m (Kd.R_elder' (vR A5) (Kd.R_base C2) hb); replace Bn := Z.m (Kd.R_elder' (vR Bn) (Kd.R_base C2) hb); replace A1 := kB A1 hb; replace A3 := kB A3 hb; replace Ab := kB Ab hb; replace A4 := kB A4 hb; replace A0 := kB A0 hb; replace Ad := kB Ad hb; replace HB := bB HB hb; (try clear hb); (try clear CJ); (try clear hk); (try clear hi); (try clear C2)) | ((with_reducible refine gq (N := 14) rfl ?_); refine be (N := 14) (cs := #[.int .i64 0, .int .i64 0, .slice none 0 0, .int .i64 0, .int .i64 0, .int .i64 0, .int .i64 0, .int .i64 0]) (t := 32) ?_; intro CO hg Sy hbox hb; have Af := Z.m (hbox); have GU := gW (w := w) HB hg; have Mi := GU; have Bz := neL A1 hg; have C5 := neG A1 hg; have BA := neL A3 hg; have C6 := neG A3 hg; have BD := neL Ab hg; have C7 := neG Ab hg; have BF := neL A4 hg; have C8 := neG A4 hg; have Bv := neL A0 hg; have BV := neG A0 hg; have BH := neL Ad hg; have C9 := neG Ad hg; replace Aa := Z.m (Kd.Rb (vR Aa) hb); replace A6 := Z.m (Kd.Rb (vR A6) hb); replace A5 := Z.m (Kd.Rb (vR A5) hb); replace Bn := Z.m (Kd.Rb (vR Bn) hb); replace Bi := Z.m (Kd.Rb (vR Bi) hb); replace A1 := kB A1 hb; replace A3 := kB A3 hb; replace Ab := kB Ab hb; replace A4 := kB A4 hb; replace A0 := kB A0 hb; replace Ad := kB Ad hb; replace HB := bB HB hb; clear hb hbox hg) | ((with_reducible refine gq (N := 15) rfl ?_); refine be (N := 15) (cs := #[.int .i64 0, .int .i64 0, .int .i64 0]) (t := 52) ?_; intro CP hg Sz hbox hb; have AB := Z.m (hbox); have GV := gW (w := w) HB hg; have Mj := GV; have BO := neL A1 hg; have Cr := neG A1 hg; have BB := neL A3 hg; have Ca := neG A3 hg; have BP := neL Ab hg; have Cs := neG Ab hg; have BQ := neL A4 hg; have Ct := neG A4 hg; have BG := neL A0 hg; have Cb := neG A0 hg; have BU := neL Ad hg; have Cu := neG Ad hg; have BI := neL Af hg; have BJ := neG Af hg; replace Aa := Z.m (Kd.Rb (vR Aa) hb); replace A6 := Z.m (Kd.Rb (vR A6) hb); replace A5 := Z.m (Kd.Rb (vR A5) hb); replace Bn := Z.m (Kd.Rb (vR Bn) hb); replace Bi := Z.m (Kd.Rb (vR Bi) hb); replace A1 := kB A1 hb; replace A3 := kB A3 hb; replace Ab := kB Ab hb; replace A4 := kB A4 hb; replace A0 := kB A0 hb; replace Ad := kB Ad hb; replace Af := kB Af hb; replace HB := bB HB hb; clear hb hbox hg; have Nm := C5.o; have PU := Bz.o; have Nn := C6.o; have PV := BA.o; have No := C7.o; have PW := BD.o; have Np := C8.o; have PX := BF.o; have Nq := BV.o; have PY := Bv.o; have Nr := C9.o; have PZ := BH.o; have Ns := BI.o; have Q0 := BJ.o; have DV := bc0 Af; have DW := bc1 Af; have DX := bc2 Af; have DY := bc3 Af; have DZ := bc4 Af; have E0 := bc5 Af; have E1 := bc6 Af; have E2 := bc7 Af; have EE := qz Af.o 0; have EF := qz Af.o 1; have EG := qz Af.o 2; have EH := qz Af.o 3; have EI := qz Af.o 4; have EJ := qz Af.o 5; have EK := qz Af.o 6; have EL := qz Af.o 7; obtain ⟨C3, BX, H7⟩ := Kd.R_slice Bi.o; subst H7; have Nt := Cr.o; have Q1 := BO.o; have Nu := Ca.o; have Q2 := BB.o; have Nv := Cs.o; have Q3 := BP.o; have Nw := Ct.o; have Q4 := BQ.o; have Nx := Cb.o; have Q5 := BG.o; have Ny := Cu.o; have Q6 := BU.o; have E3 := bc0 AB; have E4 := bc1 AB; have E5 := bc2 AB; have EM := qz AB.o 0; have EN := qz AB.o 1; have EO := qz AB.o 2))
           (try simp only [Act.put, q1, q2, q3])
           go_cut [111] (fun v111 wc => ∃ (kq : Nat) (Cq : Bool), v111 = .bool Cq ∧ Z (laws_FnExactStepMachine.j2 kq B0 Cq Ag Ah AR Ai Aj Ak Al Am = some true) ∧ Z (kq ≤ kj110) ∧ Z (Kd.R k88 88 wc w.heap.size (fun k_ => some k_ ≠ ((.slice Bf BM.length Bd) : Value).ownBlock ∧ some k_ ≠ ((.slice Bm An.length Bg) : Value).ownBlock ∧ some k_ ≠ ((.slice C3 Bx.length BX) : Value).ownBlock) (.slice Bp Ae.length Bl) Ae) ∧ Z (Kd.R k88 88 wc w.heap.size (fun k_ => some k_ ≠ ((.slice Bp Ae.length Bl) : Value).ownBlock ∧ some k_ ≠ ((.slice Bm An.length Bg) : Value).ownBlock ∧ some k_ ≠ ((.slice C3 Bx.length BX) : Value).ownBlock) (.slice Bf BM.length Bd) BM) ∧ Z (Kd.R k88 88 wc w.heap.size (fun k_ => some k_ ≠ ((.slice Bp Ae.length Bl) : Value).ownBlock ∧ some k_ ≠ ((.slice Bf BM.length Bd) : Value).ownBlock ∧ some k_ ≠ ((.slice C3 Bx.length BX) : Value).ownBlock) (.slice Bm An.length Bg) AR) ∧ Z (Kd.R k88 88 wc w.heap.size (fun k_ => some k_ ≠ ((.slice Bp Ae.length Bl) : Value).ownBlock ∧ some k_ ≠ ((.slice Bf BM.length Bd) : Value).ownBlock ∧ some k_ ≠ ((.slice Bm An.length Bg) : Value).ownBlock) (.slice C3 Bx.length BX) Bx) ∧ Z (wc.heap[Be]? = some (.cells #[.int .i64 a0_0, .int .i64 a0_1, (.slice A0_2 l0_2.length c0_2), .int .i64 a0_3, .int .i64 a0_4, .int .i64 a0_5, .int .i64 a0_6, .int .i64 a0_7] 26 (0, 0))) ∧ Z (wc.heap[BY]? = some (.cells #[.int .i64 Ao, .int .i64 Ap, (.slice Bp Ae.length Bl), .int .i64 Aq, .int .i64 Ar, .int .i64 As, .int .i64 At, .int .i64 Au] 32 (0, 0))) ∧ Z (wc.heap[BZ]? = some (.cells #[.int .i64 Av, .int .i64 Aw, .int .i64 Ax] 52 (0, 0))) ∧ Z (wc.heap[Bo]? = some (.cells #[.int .i64 AD, .int .i64 AE, (.slice Bf BM.length Bd), .int .i64 AF, .int .i64 AG, .int .i64 AH, .int .i64 AI, .int .i64 AJ] 32 (0, 0))) ∧ Z (wc.heap[Cf]? = some (.cells #[.int .i64 Ag, .int .i64 Ah, (.slice Bm An.length Bg), .int .i64 Ai, .int .i64 Aj, .int .i64 Ak, .int .i64 Al, .int .i64 Am] 32 (0, 0))) ∧ Z (wc.heap[Cg]? = some (.cells #[.int .i64 AM, .int .i64 AN, .int .i64 AO] 52 (0, 0))) ∧ Z (wc.heap[CO]? = some (.cells #[.int .i64 Ci, .int .i64 Cj, (.slice C3 Bx.length BX), .int .i64 Cl, .int .i64 Cm, .int .i64 Cn, .int .i64 Co, .int .i64 Cp] 32 (0, 0))) ∧ Z (wc.heap[CP]? = some (.cells #[.int .i64 Cw, .int .i64 Cx, .int .i64 Cy] 52 (0, 0))) ∧ Z (Below w.heap.size w wc))
           case first =>
            have H := Dk.o
            clear Dk
            replace H := Option.bind_eq_some_iff.mp H
            obtain ⟨C1, GK, H⟩ := H
            replace H : (if C1 = true then ((laws_eqFall.f Cw Cx Cy Av Aw Ax).bind fun BL => (if BL = true then (laws_FnExactStepMachine.j2 kj110 B0 (CC != Ay) Ag Ah AR Ai Aj Ak Al Am) else (laws_FnExactStepMachine.j2 kj110 B0 true Ag Ah AR Ai Aj Ak Al Am))) else (laws_FnExactStepMachine.j2 kj110 B0 true Ag Ah AR Ai Aj Ak Al Am)) = some true := H
            have H2 := Z.m GK
            clear GK
            by_cases c233 : C1 = true
            ·subst c233
             have H1 : ((laws_eqFall.f Cw Cx Cy Av Aw Ax).bind fun BL => (if BL = true then (laws_FnExactStepMachine.j2 kj110 B0 (CC != Ay) Ag Ah AR Ai Aj Ak Al Am) else (laws_FnExactStepMachine.j2 kj110 B0 true Ag Ah AR Ai Aj Ak Al Am))) = some true := by rw [if_pos rfl] at H; exact H
             clear H
             have H := H1
             clear H1
             replace H := Option.bind_eq_some_iff.mp H
             obtain ⟨BL, GL, H⟩ := H
             replace H : (if BL = true then (laws_FnExactStepMachine.j2 kj110 B0 (CC != Ay) Ag Ah AR Ai Aj Ak Al Am) else (laws_FnExactStepMachine.j2 kj110 B0 true Ag Ah AR Ai Aj Ak Al Am)) = some true := H
             have Mg := Z.m GL
             clear GL
             by_cases c235 : BL = true
             ·subst c235
              have H1 : (laws_FnExactStepMachine.j2 kj110 B0 (CC != Ay) Ag Ah AR Ai Aj Ak Al Am) = some true := by rw [if_pos rfl] at H; exact H
              clear H
              have H := H1
              clear H1
              have H' := Z.m H
              clear H
              have Nz := C5.o
              have Q7 := Bz.o
              have NA := C6.o
              have Q8 := BA.o
              have NB := C7.o
              have Q9 := BD.o
              have NC := C8.o
              have Qa := BF.o
              have ND := BV.o
              have Qb := Bv.o
              have NE := C9.o
              have Qc := BH.o
              have NF := BI.o
              have Qd := BJ.o
              have HU := bc0 Af
              have HV := bc1 Af
              have HW := bc2 Af
              have HX := bc3 Af
              have HY := bc4 Af
              have HZ := bc5 Af
              have J0 := bc6 Af
              have J1 := bc7 Af
              have Kp := qz Af.o 0
              have Kq := qz Af.o 1
              have Kr := qz Af.o 2
              have Ks := qz Af.o 3
              have Kt := qz Af.o 4
              have Ku := qz Af.o 5
              have Kv := qz Af.o 6
              have Kw := qz Af.o 7
              have NG := B3.o
              have Qe := AT.o
              have NH := B7.o
              have Qf := B8.o
              have NI := AV.o
              have Qg := Ba.o
              have NJ := AL.o
              have Qh := AX.o
              have NK := AW.o
              have Qi := Bk.o
              have NL := BB.o
              have Qj := Ca.o
              have J2 := bc0 A3
              have J3 := bc1 A3
              have J4 := bc2 A3
              have J5 := bc3 A3
              have J6 := bc4 A3
              have J7 := bc5 A3
              have J8 := bc6 A3
              have J9 := bc7 A3
              have Kx := qz A3.o 0
              have Ky := qz A3.o 1
              have Kz := qz A3.o 2
              have KA := qz A3.o 3
              have KB := qz A3.o 4
              have KC := qz A3.o 5
              have KD := qz A3.o 6
              have KE := qz A3.o 7
              go_wp2_with (first | ((with_reducible refine gc (f := 14) rfl ?_); refine gA (some 99) _ #[.agg #[.int .i64 Ci, .int .i64 Cj, .slice C3 Bx.length BX, .int .i64 Cl, .int .i64 Cm, .int .i64 Cn, .int .i64 Co, .int .i64 Cp], .agg #[.int .i64 Ao, .int .i64 Ap, .slice Bp Ae.length Bl, .int .i64 Aq, .int .i64 Ar, .int .i64 As, .int .i64 At, .int .i64 Au]] ?_ Try.func14; (with_reducible refine (laws_eqMachine.calls kj110 Ci Cj _ _ Bx Cl Cm Cn Co Cp Ao Ap _ _ Ae Aq Ar As At Au true _ ?side1 ?side2 ?side3 ?side4 H2.o).mono ?_); (case side1 => refine (Kd.RrZ (e := 88) (base := w.heap.size) (ok := fun k_ => ((((True ∧ some k_ ≠ (.slice Bp Ae.length Bl : Value).ownBlock) ∧ some k_ ≠ (.slice Bf BM.length Bd : Value).ownBlock) ∧ some k_ ≠ (.slice Bm An.length Bg : Value).ownBlock) ∧ some k_ ≠ (.slice CK Cv.length CL : Value).ownBlock)) (n := Bx.length) (c := BX) ?_).2.2; exact (by refine rK ?_; exact (Kd.Rm (Kd.Rm (rf (rf (rf (rf1 (rf1 (rf1 (rf1 (rf1 (rf1 (rf1 (rf1 (Kd.Ry (Kd.Ry Bi.o Af.o (by decide)) AB.o (by decide))))))))))))) (fun _ h_ => h_.1)) (fun _ h_ => h_.1)))); (case side2 => exact (Kd.RrZ Bi.o).2.1); (case side3 => refine (Kd.RrZ (e := 88) (base := w.heap.size) (ok := fun k_ => (((some k_ ≠ (.slice Bf BM.length Bd : Value).ownBlock ∧ some k_ ≠ (.slice Bm An.length Bg : Value).ownBlock) ∧ some k_ ≠ (.slice CK Cv.length CL : Value).ownBlock) ∧ some k_ ≠ (.slice C3 Bx.length BX : Value).ownBlock)) (n := Ae.length) (c := Bl) ?_).2.2; exact (by refine rK ?_; exact (Kd.Rm (Kd.Rm (rf (rf (rf (rf1 (rf1 (rf1 (rf1 (rf1 (rf1 (rf1 (rf1 (Kd.Ry (Kd.Ry Aa.o Af.o (by decide)) AB.o (by decide))))))))))))) (fun _ h_ => h_.1)) (fun _ h_ => h_.1)))); (case side4 => exact (Kd.RrZ Aa.o).2.1); rintro e SA ⟨rfl, hb⟩; refine ⟨_, rfl, ?_⟩; replace Aa := Z.m (Kd.Rb (by refine rK ?_; exact (Kd.Rm (Kd.Rm (rf (rf (rf (rf1 (rf1 (rf1 (rf1 (rf1 (rf1 (rf1 (rf1 (Kd.Ry (Kd.Ry Aa.o Af.o (by decide)) AB.o (by decide))))))))))))) (fun _ h_ => h_.1)) (fun _ h_ => h_.1))) hb); replace A6 := Z.m (Kd.Rb (by refine rK ?_; exact (Kd.Rm (Kd.Rm (rf (rf (rf (rf1 (rf1 (rf1 (rf1 (rf1 (rf1 (rf1 (rf1 (Kd.Ry (Kd.Ry A6.o Af.o (by decide)) AB.o (by decide))))))))))))) (fun _ h_ => h_.1)) (fun _ h_ => h_.1))) hb); replace A5 := Z.m (Kd.Rb (by refine rK ?_; exact (Kd.Rm (Kd.Rm (rf (rf (rf (rf1 (rf1 (rf1 (rf1 (rf1 (rf1 (rf1 (rf1 (Kd.Ry (Kd.Ry A5.o Af.o (by decide)) AB.o (by decide))))))))))))) (fun _ h_ => h_.1)) (fun _ h_ => h_.1))) hb); replace Bn := Z.m (Kd.Rb (by refine rK ?_; exact (Kd.Rm (Kd.Rm (rf (rf (rf (rf1 (rf1 (rf1 (rf1 (rf1 (rf1 (rf1 (rf1 (Kd.Ry (Kd.Ry Bn.o Af.o (by decide)) AB.o (by decide))))))))))))) (fun _ h_ => h_.1)) (fun _ h_ => h_.1))) hb); replace Bi := Z.m (Kd.Rb (by refine rK ?_; exact (Kd.Rm (Kd.Rm (rf (rf (rf (rf1 (rf1 (rf1 (rf1 (rf1 (rf1 (rf1 (rf1 (Kd.Ry (Kd.Ry Bi.o Af.o (by decide)) AB.o (by decide))))))))))))) (fun _ h_ => h_.1)) (fun _ h_ => h_.1))) hb); replace A1 := Z.m (qb (g := Be) (o := .cells #[.int .i64 a0_0, .int .i64 a0_1, .slice A0_2 l0_2.length c0_2, .int .i64 a0_3, .int .i64 a0_4, .int .i64 a0_5, .int .i64 a0_6, .int .i64 a0_7] 26 (0, 0)) (by refine bK ?_; (iterate 3 refine qF ?_ BO); (iterate 8 refine qF ?_ Bz); exact A1.o) hb); replace A3 := Z.m (qb (g := BY) (o := .cells #[.int .i64 Ao, .int .i64 Ap, .slice Bp Ae.length Bl, .int .i64 Aq, .int .i64 Ar, .int .i64 As, .int .i64 At, .int .i64 Au] 32 (0, 0)) (by refine bK ?_; (iterate 3 refine qF ?_ BB); (iterate 8 refine qF ?_ BA); exact A3.o) hb); replace Ab := Z.m (qb (g := BZ) (o := .cells #[.int .i64 Av, .int .i64 Aw, .int .i64 Ax] 52 (0, 0)) (by refine bK ?_; (iterate 3 refine qF ?_ BP); (iterate 8 refine qF ?_ BD); exact Ab.o) hb); replace A4 := Z.m (qb (g := Bo) (o := .cells #[.int .i64 AD, .int .i64 AE, .slice Bf BM.length Bd, .int .i64 AF, .int .i64 AG, .int .i64 AH, .int .i64 AI, .int .i64 AJ] 32 (0, 0)) (by refine bK ?_; (iterate 3 refine qF ?_ BQ); (iterate 8 refine qF ?_ BF); exact A4.o) hb); replace A0 := Z.m (qb (g := Cf) (o := .cells #[.int .i64 Ag, .int .i64 Ah, .slice Bm An.length Bg, .int .i64 Ai, .int .i64 Aj, .int .i64 Ak, .int .i64 Al, .int .i64 Am] 32 (0, 0)) (by refine bK ?_; (iterate 3 refine qF ?_ BG); (iterate 8 refine qF ?_ Bv); exact A0.o) hb); replace Ad := Z.m (qb (g := Cg) (o := .cells #[.int .i64 AM, .int .i64 AN, .int .i64 AO] 52 (0, 0)) (by refine bK ?_; (iterate 3 refine qF ?_ BU); (iterate 8 refine qF ?_ BH); exact Ad.o) hb); replace Af := Z.m (qb (g := CO) (o := .cells #[.int .i64 Ci, .int .i64 Cj, .slice C3 Bx.length BX, .int .i64 Cl, .int .i64 Cm, .int .i64 Cn, .int .i64 Co, .int .i64 Cp] 32 (0, 0)) (by refine bK ?_; (iterate 3 refine qF ?_ BI); apply st8; refine bK ?_; exact Af.o) hb); replace AB := Z.m (qb (g := CP) (o := .cells #[.int .i64 Cw, .int .i64 Cx, .int .i64 Cy] 52 (0, 0)) (by refine bK ?_; apply st3; refine bK ?_; (iterate 8 refine qF ?_ BJ); exact AB.o) hb); replace HB := bB HB hb; (try clear hb); (try clear CJ); (try clear hk); (try clear hi); have NM := Cr.o; have Qk := BO.o; have NN := Cs.o; have Ql := BP.o; have NO := Ct.o; have Qm := BQ.o; have NP := Cb.o; have Qn := BG.o; have NQ := Cu.o; have Qo := BU.o; have Ja := bc0 AB; have Jb := bc1 AB; have Jc := bc2 AB; have KF := qz AB.o 0; have KG := qz AB.o 1; have KH := qz AB.o 2; have NR := BC.o; have Qp := Bq.o; have NS := Bs.o; have Qq := BE.o; have NT := AP.o; have Qr := Bb.o; have NU := Bt.o; have Qs := BS.o; have Jd := bc0 Ab; have Je := bc1 Ab; have Jf := bc2 Ab; have KI := qz Ab.o 0; have KJ := qz Ab.o 1; have KK := qz Ab.o 2) | (go_at_call 32; (with_reducible refine (laws_eqFall.calls Cw Cx Cy Av Aw Ax true _ Mg.o).mono ?_); rintro e SB ⟨rfl, hb⟩; replace Aa := Z.m (Kd.Rb (vR Aa) hb); replace A6 := Z.m (Kd.Rb (vR A6) hb); replace A5 := Z.m (Kd.Rb (vR A5) hb); replace Bn := Z.m (Kd.Rb (vR Bn) hb); replace Bi := Z.m (Kd.Rb (vR Bi) hb); replace A1 := kB A1 hb; replace A3 := kB A3 hb; replace Ab := kB Ab hb; replace A4 := kB A4 hb; replace A0 := kB A0 hb; replace Ad := kB Ad hb; replace Af := kB Af hb; replace AB := kB AB hb; replace HB := bB HB hb; (try clear hb); (try clear CJ); (try clear hk); (try clear hi)))
              go_meet
              case rel => exact ⟨_, ((CC != Ay)), (by first | rfl | (simp; done) | (simp [*]; done)), H', ⟨by have := Dl.o; have := GN.o; first | omega | exact Nat.le_refl _⟩, ⟨by (try simp only [Ac]); refine rK ?_; exact Kd.Rm Aa.o (fun _ hk => ⟨hk.1.1.1, ⟨hk.1.1.2, hk.2⟩⟩)⟩, ⟨by (try simp only [Ac]); refine rK ?_; exact Kd.Rm A6.o (fun _ hk => ⟨hk.1.1.1, ⟨hk.1.1.2, hk.2⟩⟩)⟩, ⟨by (try simp only [Ac]); refine rK ?_; exact Kd.Rm A5.o (fun _ hk => ⟨hk.1.1.1, ⟨hk.1.1.2, hk.2⟩⟩)⟩, ⟨by (try simp only [Ac]); refine rK ?_; exact Kd.Rm Bi.o (fun _ hk => ⟨hk.1.1.1.2, ⟨hk.1.1.2, hk.1.2⟩⟩)⟩, ⟨by (try simp only [Ac]); refine bK ?_; exact A1.o⟩, ⟨by (try simp only [Ac]); refine bK ?_; exact A3.o⟩, ⟨by (try simp only [Ac]); refine bK ?_; exact Ab.o⟩, ⟨by (try simp only [Ac]); refine bK ?_; exact A4.o⟩, ⟨by (try simp only [Ac]); refine bK ?_; exact A0.o⟩, ⟨by (try simp only [Ac]); refine bK ?_; exact Ad.o⟩, ⟨by (try simp only [Ac]); refine bK ?_; exact Af.o⟩, ⟨by (try simp only [Ac]); refine bK ?_; exact AB.o⟩, ⟨vB HB⟩⟩
             ·(rw [if_neg c235] at H; exact absurd H (laws_FnExactStepMachine.bad_j2 _ _ _ _ _ _ _ _ _ _))
            ·replace c233 := Bool.eq_false_iff.mpr c233
             subst c233
             have H1 : (laws_FnExactStepMachine.j2 kj110 B0 true Ag Ah AR Ai Aj Ak Al Am) = some true := by rw [if_neg (show ¬ (false = true) by decide)] at H; exact H
             clear H
             have H := H1
             clear H1
             have H' := Z.m H
             clear H
             have NV := C5.o
             have Qt := Bz.o
             have NW := C6.o
             have Qu := BA.o
             have NX := C7.o
             have Qv := BD.o
             have NY := C8.o
             have Qw := BF.o
             have NZ := BV.o
             have Qx := Bv.o
             have P0 := C9.o
             have Qy := BH.o
             have P1 := BI.o
             have Qz := BJ.o
             have Jg := bc0 Af
             have Jh := bc1 Af
             have Ji := bc2 Af
             have Jj := bc3 Af
             have Jk := bc4 Af
             have Jl := bc5 Af
             have Jm := bc6 Af
             have Jn := bc7 Af
             have KL := qz Af.o 0
             have KM := qz Af.o 1
             have KN := qz Af.o 2
             have KO := qz Af.o 3
             have KP := qz Af.o 4
             have KQ := qz Af.o 5
             have KR := qz Af.o 6
             have KS := qz Af.o 7
             have P2 := B3.o
             have QA := AT.o
             have P3 := B7.o
             have QB := B8.o
             have P4 := AV.o
             have QC := Ba.o
             have P5 := AL.o
             have QD := AX.o
             have P6 := AW.o
             have QE := Bk.o
             have P7 := BB.o
             have QF := Ca.o
             have Jo := bc0 A3
             have Jp := bc1 A3
             have Jq := bc2 A3
             have Jr := bc3 A3
             have Js := bc4 A3
             have Jt := bc5 A3
             have Ju := bc6 A3
             have Jv := bc7 A3
             have KT := qz A3.o 0
             have KU := qz A3.o 1
             have KV := qz A3.o 2
             have KW := qz A3.o 3
             have KX := qz A3.o 4
             have KY := qz A3.o 5
             have KZ := qz A3.o 6
             have L0 := qz A3.o 7
             go_wp2_with (first | ((with_reducible refine gc (f := 14) rfl ?_); refine gA (some 99) _ #[.agg #[.int .i64 Ci, .int .i64 Cj, .slice C3 Bx.length BX, .int .i64 Cl, .int .i64 Cm, .int .i64 Cn, .int .i64 Co, .int .i64 Cp], .agg #[.int .i64 Ao, .int .i64 Ap, .slice Bp Ae.length Bl, .int .i64 Aq, .int .i64 Ar, .int .i64 As, .int .i64 At, .int .i64 Au]] ?_ Try.func14; (with_reducible refine (laws_eqMachine.calls kj110 Ci Cj _ _ Bx Cl Cm Cn Co Cp Ao Ap _ _ Ae Aq Ar As At Au false _ ?side1 ?side2 ?side3 ?side4 H2.o).mono ?_); (case side1 => refine (Kd.RrZ (e := 88) (base := w.heap.size) (ok := fun k_ => ((((True ∧ some k_ ≠ (.slice Bp Ae.length Bl : Value).ownBlock) ∧ some k_ ≠ (.slice Bf BM.length Bd : Value).ownBlock) ∧ some k_ ≠ (.slice Bm An.length Bg : Value).ownBlock) ∧ some k_ ≠ (.slice CK Cv.length CL : Value).ownBlock)) (n := Bx.length) (c := BX) ?_).2.2; exact (by refine rK ?_; exact (Kd.Rm (Kd.Rm (rf (rf (rf (rf1 (rf1 (rf1 (rf1 (rf1 (rf1 (rf1 (rf1 (Kd.Ry (Kd.Ry Bi.o Af.o (by decide)) AB.o (by decide))))))))))))) (fun _ h_ => h_.1)) (fun _ h_ => h_.1)))); (case side2 => exact (Kd.RrZ Bi.o).2.1); (case side3 => refine (Kd.RrZ (e := 88) (base := w.heap.size) (ok := fun k_ => (((some k_ ≠ (.slice Bf BM.length Bd : Value).ownBlock ∧ some k_ ≠ (.slice Bm An.length Bg : Value).ownBlock) ∧ some k_ ≠ (.slice CK Cv.length CL : Value).ownBlock) ∧ some k_ ≠ (.slice C3 Bx.length BX : Value).ownBlock)) (n := Ae.length) (c := Bl) ?_).2.2; exact (by refine rK ?_; exact (Kd.Rm (Kd.Rm (rf (rf (rf (rf1 (rf1 (rf1 (rf1 (rf1 (rf1 (rf1 (rf1 (Kd.Ry (Kd.Ry Aa.o Af.o (by decide)) AB.o (by decide))))))))))))) (fun _ h_ => h_.1)) (fun _ h_ => h_.1)))); (case side4 => exact (Kd.RrZ Aa.o).2.1); rintro e SC ⟨rfl, hb⟩; refine ⟨_, rfl, ?_⟩; replace Aa := Z.m (Kd.Rb (by refine rK ?_; exact (Kd.Rm (Kd.Rm (rf (rf (rf (rf1 (rf1 (rf1 (rf1 (rf1 (rf1 (rf1 (rf1 (Kd.Ry (Kd.Ry Aa.o Af.o (by decide)) AB.o (by decide))))))))))))) (fun _ h_ => h_.1)) (fun _ h_ => h_.1))) hb); replace A6 := Z.m (Kd.Rb (by refine rK ?_; exact (Kd.Rm (Kd.Rm (rf (rf (rf (rf1 (rf1 (rf1 (rf1 (rf1 (rf1 (rf1 (rf1 (Kd.Ry (Kd.Ry A6.o Af.o (by decide)) AB.o (by decide))))))))))))) (fun _ h_ => h_.1)) (fun _ h_ => h_.1))) hb); replace A5 := Z.m (Kd.Rb (by refine rK ?_; exact (Kd.Rm (Kd.Rm (rf (rf (rf (rf1 (rf1 (rf1 (rf1 (rf1 (rf1 (rf1 (rf1 (Kd.Ry (Kd.Ry A5.o Af.o (by decide)) AB.o (by decide))))))))))))) (fun _ h_ => h_.1)) (fun _ h_ => h_.1))) hb); replace Bn := Z.m (Kd.Rb (by refine rK ?_; exact (Kd.Rm (Kd.Rm (rf (rf (rf (rf1 (rf1 (rf1 (rf1 (rf1 (rf1 (rf1 (rf1 (Kd.Ry (Kd.Ry Bn.o Af.o (by decide)) AB.o (by decide))))))))))))) (fun _ h_ => h_.1)) (fun _ h_ => h_.1))) hb); replace Bi := Z.m (Kd.Rb (by refine rK ?_; exact (Kd.Rm (Kd.Rm (rf (rf (rf (rf1 (rf1 (rf1 (rf1 (rf1 (rf1 (rf1 (rf1 (Kd.Ry (Kd.Ry Bi.o Af.o (by decide)) AB.o (by decide))))))))))))) (fun _ h_ => h_.1)) (fun _ h_ => h_.1))) hb); replace A1 := Z.m (qb (g := Be) (o := .cells #[.int .i64 a0_0, .int .i64 a0_1, .slice A0_2 l0_2.length c0_2, .int .i64 a0_3, .int .i64 a0_4, .int .i64 a0_5, .int .i64 a0_6, .int .i64 a0_7] 26 (0, 0)) (by refine bK ?_; (iterate 3 refine qF ?_ BO); (iterate 8 refine qF ?_ Bz); exact A1.o) hb); replace A3 := Z.m (qb (g := BY) (o := .cells #[.int .i64 Ao, .int .i64 Ap, .slice Bp Ae.length Bl, .int .i64 Aq, .int .i64 Ar, .int .i64 As, .int .i64 At, .int .i64 Au] 32 (0, 0)) (by refine bK ?_; (iterate 3 refine qF ?_ BB); (iterate 8 refine qF ?_ BA); exact A3.o) hb); replace Ab := Z.m (qb (g := BZ) (o := .cells #[.int .i64 Av, .int .i64 Aw, .int .i64 Ax] 52 (0, 0)) (by refine bK ?_; (iterate 3 refine qF ?_ BP); (iterate 8 refine qF ?_ BD); exact Ab.o) hb); replace A4 := Z.m (qb (g := Bo) (o := .cells #[.int .i64 AD, .int .i64 AE, .slice Bf BM.length Bd, .int .i64 AF, .int .i64 AG, .int .i64 AH, .int .i64 AI, .int .i64 AJ] 32 (0, 0)) (by refine bK ?_; (iterate 3 refine qF ?_ BQ); (iterate 8 refine qF ?_ BF); exact A4.o) hb); replace A0 := Z.m (qb (g := Cf) (o := .cells #[.int .i64 Ag, .int .i64 Ah, .slice Bm An.length Bg, .int .i64 Ai, .int .i64 Aj, .int .i64 Ak, .int .i64 Al, .int .i64 Am] 32 (0, 0)) (by refine bK ?_; (iterate 3 refine qF ?_ BG); (iterate 8 refine qF ?_ Bv); exact A0.o) hb); replace Ad := Z.m (qb (g := Cg) (o := .cells #[.int .i64 AM, .int .i64 AN, .int .i64 AO] 52 (0, 0)) (by refine bK ?_; (iterate 3 refine qF ?_ BU); (iterate 8 refine qF ?_ BH); exact Ad.o) hb); replace Af := Z.m (qb (g := CO) (o := .cells #[.int .i64 Ci, .int .i64 Cj, .slice C3 Bx.length BX, .int .i64 Cl, .int .i64 Cm, .int .i64 Cn, .int .i64 Co, .int .i64 Cp] 32 (0, 0)) (by refine bK ?_; (iterate 3 refine qF ?_ BI); apply st8; refine bK ?_; exact Af.o) hb); replace AB := Z.m (qb (g := CP) (o := .cells #[.int .i64 Cw, .int .i64 Cx, .int .i64 Cy] 52 (0, 0)) (by refine bK ?_; apply st3; refine bK ?_; (iterate 8 refine qF ?_ BJ); exact AB.o) hb); replace HB := bB HB hb; (try clear hb); (try clear CJ); (try clear hk); (try clear hi)))
             go_meet
             case rel => exact ⟨_, (true), (by first | rfl | (simp; done) | (simp [*]; done)), H', ⟨by have := Dl.o; have := GN.o; first | omega | exact Nat.le_refl _⟩, ⟨by (try simp only [Ac]); refine rK ?_; exact Kd.Rm Aa.o (fun _ hk => ⟨hk.1.1.1, ⟨hk.1.1.2, hk.2⟩⟩)⟩, ⟨by (try simp only [Ac]); refine rK ?_; exact Kd.Rm A6.o (fun _ hk => ⟨hk.1.1.1, ⟨hk.1.1.2, hk.2⟩⟩)⟩, ⟨by (try simp only [Ac]); refine rK ?_; exact Kd.Rm A5.o (fun _ hk => ⟨hk.1.1.1, ⟨hk.1.1.2, hk.2⟩⟩)⟩, ⟨by (try simp only [Ac]); refine rK ?_; exact Kd.Rm Bi.o (fun _ hk => ⟨hk.1.1.1.2, ⟨hk.1.1.2, hk.1.2⟩⟩)⟩, ⟨by (try simp only [Ac]); refine bK ?_; exact A1.o⟩, ⟨by (try simp only [Ac]); refine bK ?_; exact A3.o⟩, ⟨by (try simp only [Ac]); refine bK ?_; exact Ab.o⟩, ⟨by (try simp only [Ac]); refine bK ?_; exact A4.o⟩, ⟨by (try simp only [Ac]); refine bK ?_; exact A0.o⟩, ⟨by (try simp only [Ac]); refine bK ?_; exact Ad.o⟩, ⟨by (try simp only [Ac]); refine bK ?_; exact Af.o⟩, ⟨by (try simp only [Ac]); refine bK ?_; exact AB.o⟩, ⟨vB HB⟩⟩
           case rest =>
            clear Dk
            (try clear c180); (try clear Dm); (try clear GX); (try clear GY)
            (try clear Dx); (try clear Dy); (try clear Dz); (try clear DA); (try clear DB); (try clear DC); (try clear DD); (try clear DE)
            (try clear DF); (try clear DG); (try clear DH); (try clear DI); (try clear DJ); (try clear DK); (try clear DL); (try clear DM)
            (try clear DN); (try clear DO); (try clear DP); (try clear DQ); (try clear DR); (try clear DS); (try clear DT); (try clear DU)
            (try clear DV); (try clear DW); (try clear DX); (try clear DY); (try clear DZ); (try clear E0); (try clear E1); (try clear E2)
            (try clear E3); (try clear E4); (try clear E5); (try clear Ee); (try clear Ef); (try clear Eg); (try clear Eh); (try clear Ei)
            (try clear Ej); (try clear Ek); (try clear El); (try clear Em); (try clear En); (try clear Eo); (try clear Ep); (try clear Er)
            (try clear Es); (try clear Et); (try clear Eu); (try clear Ew); (try clear Ex); (try clear Ey); (try clear Ez); (try clear EA)
            (try clear EB); (try clear EC); (try clear ED); (try clear EE); (try clear EF); (try clear EG); (try clear EH); (try clear EI)
            (try clear EJ); (try clear EK); (try clear EL); (try clear EM); (try clear EN); (try clear EO)
            obtain ⟨kq, Cq, rfl, HA, QS, Aa, A6, A5, Ce, A1, A3, Ab, A4, A0, Ad, Af, AB, HB⟩ := hcut
            have Az := (Kd.RrZ A5.o).1
            rw [Az] at A5
            (try simp only [Az])
            (try simp only [Az] at A1)
            (try simp only [Az] at A3)
            (try simp only [Az] at Ab)
            (try simp only [Az] at A4)
            (try simp only [Az] at A0)
            (try simp only [Az] at Ad)
            (try simp only [Az] at Af)
            (try simp only [Az] at AB)
            (try simp only [Az] at Aa)
            (try simp only [Az] at A6)
            (try simp only [Az] at Ce)
            cases kq with
            | zero => exact absurd HA.o (by simp [laws_FnExactStepMachine.j2])
            | succ kj195 =>
             have H := HA.o
             clear HA
             simp only [laws_FnExactStepMachine.j2] at H
             by_cases c308 : Cq = true
             ·(rw [if_pos c308] at H; exact absurd H (by decide))
             ·replace c308 := Bool.eq_false_iff.mpr c308
              subst c308
              have H1 : ((laws_heldMachine.f kj195 Ag Ah AR Ai Aj Ak Al Am 1).bind fun Cz => (if Cz < 0 then (some false) else (if Cz = B0 then (some true) else (some false)))) = some true := by rw [if_neg (show ¬ (false = true) by decide)] at H; exact H
              clear H
              have H := H1
              clear H1
              replace H := Option.bind_eq_some_iff.mp H
              obtain ⟨Cz, GM, H⟩ := H
              replace H : (if Cz < 0 then (some false) else (if Cz = B0 then (some true) else (some false))) = some true := H
              have Mh := Z.m GM
              clear GM
              by_cases c310 : Cz < 0
              ·(rw [if_pos c310] at H; exact absurd H (by decide))
              ·rw [if_neg c310] at H
               have Dn := decide_eq_false c310
               (try simp only [Ac] at Dn)
               (try simp only [Az] at Dn)
               clear c310
               by_cases c320 : Cz = B0
               ·rw [if_pos c320] at H
                have Mk := beq_iff_eq.mpr c320
                have Ml := bne_eq_false_iff_eq.mpr c320
                clear c320
                clear H
                have P8 := Bj.o
                have QG := AU.o
                have P9 := AX.o
                have QH := AL.o
                have Pa := Bb.o
                have QI := AP.o
                have Pb := Bc.o
                have QJ := AQ.o
                have Pc := AY.o
                have QK := AZ.o
                have Pd := Bv.o
                have QL := BV.o
                have Pe := BG.o
                have QM := Cb.o
                have Jw := bc0 A0
                have Jx := bc1 A0
                have Jy := bc2 A0
                have Jz := bc3 A0
                have JA := bc4 A0
                have JB := bc5 A0
                have JC := bc6 A0
                have JD := bc7 A0
                have L1 := qz A0.o 0
                have L2 := qz A0.o 1
                have L3 := qz A0.o 2
                have L4 := qz A0.o 3
                have L5 := qz A0.o 4
                have L6 := qz A0.o 5
                have L7 := qz A0.o 6
                have L8 := qz A0.o 7
                go_wp2_with (first | ((with_reducible refine gc (f := 16) rfl ?_); refine gA (some 114) _ #[.agg #[.int .i64 Ag, .int .i64 Ah, .slice Bm AR.length Bg, .int .i64 Ai, .int .i64 Aj, .int .i64 Ak, .int .i64 Al, .int .i64 Am], .int .i64 1] ?_ Try.func16; (with_reducible refine (laws_heldMachine.calls kj195 Ag Ah _ _ AR Ai Aj Ak Al Am 1 Cz _ ?side1 ?side2 Mh.o).mono ?_); (case side1 => repeat (first | exact (Kd.RrZ A5.o).2.2 | (with_reducible refine Kd.C_alloc ?_ _) | (with_reducible refine Kd.C_drewN ?_ _) | (with_reducible refine Kd.C_drew ?_))); (case side2 => exact (Kd.RrZ A5.o).2.1); rintro e SD ⟨rfl, hb⟩; refine ⟨_, rfl, ?_⟩; replace Aa := Z.m (Kd.Rb (vR Aa) hb); replace A6 := Z.m (Kd.Rb (vR A6) hb); replace A5 := Z.m (Kd.Rb (vR A5) hb); replace Ce := Z.m (Kd.Rb (vR Ce) hb); replace A1 := kB A1 hb; replace A3 := kB A3 hb; replace Ab := kB Ab hb; replace A4 := kB A4 hb; replace A0 := kB A0 hb; replace Ad := kB Ad hb; replace Af := kB Af hb; replace AB := kB AB hb; replace HB := bB HB hb; (try clear hb); (try clear CJ); (try clear hk); (try clear hi)))
                go_ret
                exact ⟨by first | rfl | (simp [eN, eS] <;> rfl) | (simp [*, eN, eS] <;> rfl), vB HB⟩
               ·(rw [if_neg c320] at H; exact absurd H (by decide))
          ·(rw [if_neg c193] at H; exact absurd H (by decide))
     ·(rw [if_neg c109] at H; exact absurd H (by decide))

end Go.Proofs.Ytjkiolpepchpdaa.PAll
