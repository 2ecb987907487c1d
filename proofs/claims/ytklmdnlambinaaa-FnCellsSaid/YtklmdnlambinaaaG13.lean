/- Began as a text that print.sh wrote (of the functions named below); turned and shortened by this session. -/
import Derived.Test.YtklmdnlambinaaaG0
import Derived.Test.YtklmdnlambinaaaG1
import Derived.Test.YtklmdnlambinaaaG3
import Derived.Test.YtklmdnlambinaaaG4
import Derived.Test.YtklmdnlambinaaaG5
import Derived.Test.YtklmdnlambinaaaG6
import Derived.Test.YtklmdnlambinaaaG7
import Derived.Test.YtklmdnlambinaaaG8
import Derived.Test.YtklmdnlambinaaaG9
import Derived.Test.YtklmdnlambinaaaG10
import Derived.Test.YtklmdnlambinaaaG12
namespace Go.Proofs.Ytklmdnlambinaaa.PAll
open Go.RowKit Go.Proofs.YtklmdnlambinaaaW.PrintWords Go.Proofs.YtklmdnlambinaaaW.PrintLast Go.Proofs.YtklmdnlambinaaaW.PrintMore
attribute [local go_sem] max2_int min2_int max_two min_two max_three min_three max_four min_four   -- for this text's walks alone
set_option linter.unusedVariables false
set_option linter.unusedSimpArgs false

attribute [local go_sem high] eqA25
/-! ### laws_FnCells: function 3 -/
mutual
def laws_FnCells.j0 : Nat → List Int → ByteArray → Bool → Bool → Bool → Int → Int → Int → Int → Int → Int → Option (Bool)
 | 0, _, _, _, _, _, _, _, _, _, _, _ => none
 | k + 1, x1, x6, x7, x15, x125, x280000, x280001, x288000, x288001, x296000, x296001 => if x125 = true then (some false) else (if x7 = true then ((impl_ReadCell.f k x6).bind fun bt302 => ((impl_MirrorCell.f x288000 x288001).bind fun bt306 => (if bt302.2.2 = true then (if (!(bt302.1 == x280000) || (!(bt302.2.1 == x280001))) = true then (some false) else (if bt306.2.2 = true then (if (!(bt306.1 == x280000) || (!(bt306.2.1 == x280001))) = true then (some false) else (laws_FnCells.j1 k x1 x15 x280000 x280001 x296000 x296001)) else (some false))) else (some false)))) else (laws_FnCells.j1 k x1 x15 x280000 x280001 x296000 x296001))
def laws_FnCells.j1 : Nat → List Int → Bool → Int → Int → Int → Int → Option (Bool)
 | 0, _, _, _, _, _, _ => none
 | k + 1, x1, x15, x280000, x280001, x296000, x296001 => if x15 = true then ((impl_TurnCell.f x296000 x296001).bind fun bt310 => (if bt310.2.2 = true then (if (!(bt310.1 == x280000) || (!(bt310.2.1 == x280001))) = true then (some false) else (laws_FnCells.j2 k x1)) else (some false))) else (laws_FnCells.j2 k x1)
def laws_FnCells.j2 : Nat → List Int → Option (Bool)
 | 0, _ => none
 | k + 1, x1 => (spec_DrawGoesTo.f k x1).bind fun bt314 => ((impl_GoesTo.f k bt314.1 bt314.2.1 bt314.2.2).bind fun bt318 => ((spec_GoesTo.f k bt314.1 bt314.2.1 bt314.2.2).bind fun bt320 => (if (bt318.2 != bt320.2) = true then (laws_FnCells.j3 k x1 bt314.2.2 bt318.2 bt320.1 true bt314.1 bt314.2.1) else (laws_FnCells.j3 k x1 bt314.2.2 bt318.2 bt320.1 (bt318.1 != bt320.1) bt314.1 bt314.2.1))))
def laws_FnCells.j3 : Nat → List Int → Int → Bool → Int → Bool → Int → Int → Option (Bool)
 | 0, _, _, _, _, _, _, _ => none
 | k + 1, x1, x25, x27, x28, x190, x318000, x318001 => if x190 = true then (some false) else (if x27 = true then ((impl_MirrorCell.f x318000 x318001).bind fun bt322 => ((spec_MirrorCell.f x318000 x318001).bind fun bt326 => ((impl_GoesTo.f k bt322.1 bt322.2.1 (wrap64 (-x25))).bind fun bt330 => (if bt322.2.2 = true then (if bt326.2.2 = true then (if (!(bt322.1 == bt326.1) || (!(bt322.2.1 == bt326.2.1))) = true then (some false) else (if bt330.2 = true then (if bt330.1 = (wrap64 (-x28)) then (if x28 < (-1) then (some false) else (if x28 > 1 then (some false) else (laws_FnCells.j4 k x1))) else (some false)) else (some false))) else (some false)) else (some false))))) else (laws_FnCells.j4 k x1))
def laws_FnCells.j4 : Nat → List Int → Option (Bool)
 | 0, _ => none
 | k + 1, x1 => (spec_DrawKindName.f x1).bind fun t332 => ((impl_KindName.f t332).bind fun bt333 => ((spec_KindName.f t332).bind fun bt335 => ((spec_DrawReadCell.f x1).bind fun t337 => ((impl_ReadCell.f k t337).bind fun bt338 => ((spec_ReadCell.f k t337).bind fun bt342 => (if (bt333.2 == bt335.2) = true then (if bt333.1.toList = bt335.1.toList then (if (bt338.2.2 == bt342.2.2) = true then (some (bt338.1 == bt342.1 && (bt338.2.1 == bt342.2.1))) else (some false)) else (some false)) else (some false)))))))
end
def laws_FnCells.f (k : Nat) (l0 : List Int) (l1 : List Int) : Option (Bool) := (laws_big.f l0 l1).bind fun t276 => (if t276 = true then (some true) else ((spec_DrawCellLetter.f k l0).bind fun bt277 => ((impl_CellLetter.f bt277.1 bt277.2).bind fun bt280 => ((spec_CellLetter.f bt277.1 bt277.2).bind fun bt282 => ((impl_MirrorCell.f bt277.1 bt277.2).bind fun bt284 => ((spec_MirrorCell.f bt277.1 bt277.2).bind fun bt288 => ((impl_TurnCell.f bt277.1 bt277.2).bind fun bt292 => ((spec_TurnCell.f bt277.1 bt277.2).bind fun bt296 => (if (bt280.2 != bt282.2) = true then (laws_FnCells.j0 k l1 bt280.1 bt280.2 bt292.2.2 true bt277.1 bt277.2 bt284.1 bt284.2.1 bt292.1 bt292.2.1) else (if bt280.1.toList = bt282.1.toList then (if (bt284.2.2 != bt288.2.2) = true then (laws_FnCells.j0 k l1 bt280.1 bt280.2 bt292.2.2 true bt277.1 bt277.2 bt284.1 bt284.2.1 bt292.1 bt292.2.1) else (if (!(bt284.1 == bt288.1) || (!(bt284.2.1 == bt288.2.1))) = true then (laws_FnCells.j0 k l1 bt280.1 bt280.2 bt292.2.2 true bt277.1 bt277.2 bt284.1 bt284.2.1 bt292.1 bt292.2.1) else (if (bt292.2.2 != bt296.2.2) = true then (laws_FnCells.j0 k l1 bt280.1 bt280.2 bt292.2.2 true bt277.1 bt277.2 bt284.1 bt284.2.1 bt292.1 bt292.2.1) else (if (!(bt292.1 == bt296.1) || (!(bt292.2.1 == bt296.2.1))) = true then (laws_FnCells.j0 k l1 bt280.1 bt280.2 bt292.2.2 true bt277.1 bt277.2 bt284.1 bt284.2.1 bt292.1 bt292.2.1) else ((impl_IsCell.f bt277.1 bt277.2).bind fun t300 => (if (t300 != bt280.2) = true then (laws_FnCells.j0 k l1 bt280.1 bt280.2 bt292.2.2 true bt277.1 bt277.2 bt284.1 bt284.2.1 bt292.1 bt292.2.1) else (if (bt284.2.2 != bt280.2) = true then (laws_FnCells.j0 k l1 bt280.1 bt280.2 bt292.2.2 true bt277.1 bt277.2 bt284.1 bt284.2.1 bt292.1 bt292.2.1) else ((impl_IsTurning.f bt277.1 bt277.2).bind fun t301 => (laws_FnCells.j0 k l1 bt280.1 bt280.2 bt292.2.2 (t301 != bt292.2.2) bt277.1 bt277.2 bt284.1 bt284.2.1 bt292.1 bt292.2.1))))))))) else (laws_FnCells.j0 k l1 bt280.1 bt280.2 bt292.2.2 true bt277.1 bt277.2 bt284.1 bt284.2.1 bt292.1 bt292.2.1)))))))))))
theorem laws_FnCells.bad_j0 (k : Nat) (y0 : List Int) (y1 : ByteArray) (y2 : Bool) (y3 : Bool) (y5 : Int) (y6 : Int) (y7 : Int) (y8 : Int) (y9 : Int) (y10 : Int) : ¬ laws_FnCells.j0 k y0 y1 y2 y3 true y5 y6 y7 y8 y9 y10 = some true := by
 cases k <;> simp [laws_FnCells.j0]
theorem laws_FnCells.bad_j3 (k : Nat) (y0 : List Int) (y1 : Int) (y2 : Bool) (y3 : Int) (y5 : Int) (y6 : Int) : ¬ laws_FnCells.j3 k y0 y1 y2 y3 true y5 y6 = some true := by
 cases k <;> simp [laws_FnCells.j3]
set_option maxHeartbeats 8000000 in
set_option maxRecDepth 100000 in
theorem laws_FnCells.calls (k : Nat) (A0 : Option Addr) (c0 : Nat) (l0 : List Int) (A1 : Option Addr) (c1 : Nat) (l1 : List Int) (w : World) (hr0 : Kd.C (Kd.int .u8) w A0 l0.length l0) (hc0 : l0.length ≤ c0) (hr1 : Kd.C (Kd.int .u8) w A1 l1.length l1) (hc1 : l1.length ≤ c1) (h : laws_FnCells.f k l0 l1 = some true) :
 Calls Try.prog 3 #[.slice A0 l0.length c0, .slice A1 l1.length c1] w fun e w' => e = .returned (.bool true) ∧ Below w.heap.size w w' := by
 have Lz := Try.underlying25
 have GL := Z.m hr0
 have GK := Z.m hc0
 clear hr0 hc0
 have EO := Z.m hr1
 have EN := Z.m hc1
 clear hr1 hc1
 have HB := Z.m (Below.refl w.heap.size w)
 have H : ((laws_big.f l0 l1).bind fun E3 => (if E3 = true then (some true) else ((spec_DrawCellLetter.f k l0).bind fun bt277 => ((impl_CellLetter.f bt277.1 bt277.2).bind fun bt280 => ((spec_CellLetter.f bt277.1 bt277.2).bind fun bt282 => ((impl_MirrorCell.f bt277.1 bt277.2).bind fun bt284 => ((spec_MirrorCell.f bt277.1 bt277.2).bind fun bt288 => ((impl_TurnCell.f bt277.1 bt277.2).bind fun bt292 => ((spec_TurnCell.f bt277.1 bt277.2).bind fun bt296 => (if (bt280.2 != bt282.2) = true then (laws_FnCells.j0 k l1 bt280.1 bt280.2 bt292.2.2 true bt277.1 bt277.2 bt284.1 bt284.2.1 bt292.1 bt292.2.1) else (if bt280.1.toList = bt282.1.toList then (if (bt284.2.2 != bt288.2.2) = true then (laws_FnCells.j0 k l1 bt280.1 bt280.2 bt292.2.2 true bt277.1 bt277.2 bt284.1 bt284.2.1 bt292.1 bt292.2.1) else (if (!(bt284.1 == bt288.1) || (!(bt284.2.1 == bt288.2.1))) = true then (laws_FnCells.j0 k l1 bt280.1 bt280.2 bt292.2.2 true bt277.1 bt277.2 bt284.1 bt284.2.1 bt292.1 bt292.2.1) else (if (bt292.2.2 != bt296.2.2) = true then (laws_FnCells.j0 k l1 bt280.1 bt280.2 bt292.2.2 true bt277.1 bt277.2 bt284.1 bt284.2.1 bt292.1 bt292.2.1) else (if (!(bt292.1 == bt296.1) || (!(bt292.2.1 == bt296.2.1))) = true then (laws_FnCells.j0 k l1 bt280.1 bt280.2 bt292.2.2 true bt277.1 bt277.2 bt284.1 bt284.2.1 bt292.1 bt292.2.1) else ((impl_IsCell.f bt277.1 bt277.2).bind fun Ar => (if (Ar != bt280.2) = true then (laws_FnCells.j0 k l1 bt280.1 bt280.2 bt292.2.2 true bt277.1 bt277.2 bt284.1 bt284.2.1 bt292.1 bt292.2.1) else (if (bt284.2.2 != bt280.2) = true then (laws_FnCells.j0 k l1 bt280.1 bt280.2 bt292.2.2 true bt277.1 bt277.2 bt284.1 bt284.2.1 bt292.1 bt292.2.1) else ((impl_IsTurning.f bt277.1 bt277.2).bind fun As => (laws_FnCells.j0 k l1 bt280.1 bt280.2 bt292.2.2 (As != bt292.2.2) bt277.1 bt277.2 bt284.1 bt284.2.1 bt292.1 bt292.2.1))))))))) else (laws_FnCells.j0 k l1 bt280.1 bt280.2 bt292.2.2 true bt277.1 bt277.2 bt284.1 bt284.2.1 bt292.1 bt292.2.1)))))))))))) = some true := h
 clear h
 replace H := Option.bind_eq_some_iff.mp H
 obtain ⟨E3, KA, H⟩ := H
 replace H : (if E3 = true then (some true) else ((spec_DrawCellLetter.f k l0).bind fun bt277 => ((impl_CellLetter.f bt277.1 bt277.2).bind fun bt280 => ((spec_CellLetter.f bt277.1 bt277.2).bind fun bt282 => ((impl_MirrorCell.f bt277.1 bt277.2).bind fun bt284 => ((spec_MirrorCell.f bt277.1 bt277.2).bind fun bt288 => ((impl_TurnCell.f bt277.1 bt277.2).bind fun bt292 => ((spec_TurnCell.f bt277.1 bt277.2).bind fun bt296 => (if (bt280.2 != bt282.2) = true then (laws_FnCells.j0 k l1 bt280.1 bt280.2 bt292.2.2 true bt277.1 bt277.2 bt284.1 bt284.2.1 bt292.1 bt292.2.1) else (if bt280.1.toList = bt282.1.toList then (if (bt284.2.2 != bt288.2.2) = true then (laws_FnCells.j0 k l1 bt280.1 bt280.2 bt292.2.2 true bt277.1 bt277.2 bt284.1 bt284.2.1 bt292.1 bt292.2.1) else (if (!(bt284.1 == bt288.1) || (!(bt284.2.1 == bt288.2.1))) = true then (laws_FnCells.j0 k l1 bt280.1 bt280.2 bt292.2.2 true bt277.1 bt277.2 bt284.1 bt284.2.1 bt292.1 bt292.2.1) else (if (bt292.2.2 != bt296.2.2) = true then (laws_FnCells.j0 k l1 bt280.1 bt280.2 bt292.2.2 true bt277.1 bt277.2 bt284.1 bt284.2.1 bt292.1 bt292.2.1) else (if (!(bt292.1 == bt296.1) || (!(bt292.2.1 == bt296.2.1))) = true then (laws_FnCells.j0 k l1 bt280.1 bt280.2 bt292.2.2 true bt277.1 bt277.2 bt284.1 bt284.2.1 bt292.1 bt292.2.1) else ((impl_IsCell.f bt277.1 bt277.2).bind fun Ar => (if (Ar != bt280.2) = true then (laws_FnCells.j0 k l1 bt280.1 bt280.2 bt292.2.2 true bt277.1 bt277.2 bt284.1 bt284.2.1 bt292.1 bt292.2.1) else (if (bt284.2.2 != bt280.2) = true then (laws_FnCells.j0 k l1 bt280.1 bt280.2 bt292.2.2 true bt277.1 bt277.2 bt284.1 bt284.2.1 bt292.1 bt292.2.1) else ((impl_IsTurning.f bt277.1 bt277.2).bind fun As => (laws_FnCells.j0 k l1 bt280.1 bt280.2 bt292.2.2 (As != bt292.2.2) bt277.1 bt277.2 bt284.1 bt284.2.1 bt292.1 bt292.2.1))))))))) else (laws_FnCells.j0 k l1 bt280.1 bt280.2 bt292.2.2 true bt277.1 bt277.2 bt284.1 bt284.2.1 bt292.1 bt292.2.1))))))))))) = some true := H
 have A3 := Z.m KA
 clear KA
 by_cases c4 : E3 = true
 ·subst c4
  have H1 : (some true) = some true := rfl
  clear H
  have H := H1
  clear H1
  have HR_ := Z.m (Option.some.inj H)
  clear H
  go_enter Try.func3, Try.ntmps3
  go_wp2_with (first | ((with_reducible refine gc (f := 5) rfl ?_); refine gA (some 48) _ #[.slice A0 l0.length c0, .slice A1 l1.length c1] ?_ Try.func5; (with_reducible refine (laws_big.calls _ _ l0 _ _ l1 true _ ?side1 ?side2 ?side3 ?side4 A3.o).mono ?_); (case side1 => repeat (first | exact GL.o | (with_reducible refine Kd.C_alloc ?_ _) | (with_reducible refine Kd.C_drewN ?_ _) | (with_reducible refine Kd.C_drew ?_))); (case side2 => exact GK.o); (case side3 => repeat (first | exact EO.o | (with_reducible refine Kd.C_alloc ?_ _) | (with_reducible refine Kd.C_drewN ?_ _) | (with_reducible refine Kd.C_drew ?_))); (case side4 => exact EN.o); rintro e w' ⟨rfl, ⟨nd, rfl⟩⟩; refine ⟨_, rfl, ?_⟩))
  go_ret
  exact ⟨by first | exact congrArg (fun b_ => Ending.returned (Value.bool b_)) HR_.o | rfl | (simp [eN, eS] <;> rfl) | (simp [*, eN, eS] <;> rfl), vB HB⟩
 ·replace c4 := Bool.eq_false_iff.mpr c4
  subst c4
  have H1 : ((spec_DrawCellLetter.f k l0).bind fun bt277 => ((impl_CellLetter.f bt277.1 bt277.2).bind fun bt280 => ((spec_CellLetter.f bt277.1 bt277.2).bind fun bt282 => ((impl_MirrorCell.f bt277.1 bt277.2).bind fun bt284 => ((spec_MirrorCell.f bt277.1 bt277.2).bind fun bt288 => ((impl_TurnCell.f bt277.1 bt277.2).bind fun bt292 => ((spec_TurnCell.f bt277.1 bt277.2).bind fun bt296 => (if (bt280.2 != bt282.2) = true then (laws_FnCells.j0 k l1 bt280.1 bt280.2 bt292.2.2 true bt277.1 bt277.2 bt284.1 bt284.2.1 bt292.1 bt292.2.1) else (if bt280.1.toList = bt282.1.toList then (if (bt284.2.2 != bt288.2.2) = true then (laws_FnCells.j0 k l1 bt280.1 bt280.2 bt292.2.2 true bt277.1 bt277.2 bt284.1 bt284.2.1 bt292.1 bt292.2.1) else (if (!(bt284.1 == bt288.1) || (!(bt284.2.1 == bt288.2.1))) = true then (laws_FnCells.j0 k l1 bt280.1 bt280.2 bt292.2.2 true bt277.1 bt277.2 bt284.1 bt284.2.1 bt292.1 bt292.2.1) else (if (bt292.2.2 != bt296.2.2) = true then (laws_FnCells.j0 k l1 bt280.1 bt280.2 bt292.2.2 true bt277.1 bt277.2 bt284.1 bt284.2.1 bt292.1 bt292.2.1) else (if (!(bt292.1 == bt296.1) || (!(bt292.2.1 == bt296.2.1))) = true then (laws_FnCells.j0 k l1 bt280.1 bt280.2 bt292.2.2 true bt277.1 bt277.2 bt284.1 bt284.2.1 bt292.1 bt292.2.1) else ((impl_IsCell.f bt277.1 bt277.2).bind fun Ar => (if (Ar != bt280.2) = true then (laws_FnCells.j0 k l1 bt280.1 bt280.2 bt292.2.2 true bt277.1 bt277.2 bt284.1 bt284.2.1 bt292.1 bt292.2.1) else (if (bt284.2.2 != bt280.2) = true then (laws_FnCells.j0 k l1 bt280.1 bt280.2 bt292.2.2 true bt277.1 bt277.2 bt284.1 bt284.2.1 bt292.1 bt292.2.1) else ((impl_IsTurning.f bt277.1 bt277.2).bind fun As => (laws_FnCells.j0 k l1 bt280.1 bt280.2 bt292.2.2 (As != bt292.2.2) bt277.1 bt277.2 bt284.1 bt284.2.1 bt292.1 bt292.2.1))))))))) else (laws_FnCells.j0 k l1 bt280.1 bt280.2 bt292.2.2 true bt277.1 bt277.2 bt284.1 bt284.2.1 bt292.1 bt292.2.1)))))))))) = some true := by rw [if_neg (show ¬ (false = true) by decide)] at H; exact H
  clear H
  have H := H1
  clear H1
  replace H := Option.bind_eq_some_iff.mp H
  obtain ⟨⟨Aa, Ab⟩, KB, H⟩ := H
  replace H : ((impl_CellLetter.f Aa Ab).bind fun bt280 => ((spec_CellLetter.f Aa Ab).bind fun bt282 => ((impl_MirrorCell.f Aa Ab).bind fun bt284 => ((spec_MirrorCell.f Aa Ab).bind fun bt288 => ((impl_TurnCell.f Aa Ab).bind fun bt292 => ((spec_TurnCell.f Aa Ab).bind fun bt296 => (if (bt280.2 != bt282.2) = true then (laws_FnCells.j0 k l1 bt280.1 bt280.2 bt292.2.2 true Aa Ab bt284.1 bt284.2.1 bt292.1 bt292.2.1) else (if bt280.1.toList = bt282.1.toList then (if (bt284.2.2 != bt288.2.2) = true then (laws_FnCells.j0 k l1 bt280.1 bt280.2 bt292.2.2 true Aa Ab bt284.1 bt284.2.1 bt292.1 bt292.2.1) else (if (!(bt284.1 == bt288.1) || (!(bt284.2.1 == bt288.2.1))) = true then (laws_FnCells.j0 k l1 bt280.1 bt280.2 bt292.2.2 true Aa Ab bt284.1 bt284.2.1 bt292.1 bt292.2.1) else (if (bt292.2.2 != bt296.2.2) = true then (laws_FnCells.j0 k l1 bt280.1 bt280.2 bt292.2.2 true Aa Ab bt284.1 bt284.2.1 bt292.1 bt292.2.1) else (if (!(bt292.1 == bt296.1) || (!(bt292.2.1 == bt296.2.1))) = true then (laws_FnCells.j0 k l1 bt280.1 bt280.2 bt292.2.2 true Aa Ab bt284.1 bt284.2.1 bt292.1 bt292.2.1) else ((impl_IsCell.f Aa Ab).bind fun Ar => (if (Ar != bt280.2) = true then (laws_FnCells.j0 k l1 bt280.1 bt280.2 bt292.2.2 true Aa Ab bt284.1 bt284.2.1 bt292.1 bt292.2.1) else (if (bt284.2.2 != bt280.2) = true then (laws_FnCells.j0 k l1 bt280.1 bt280.2 bt292.2.2 true Aa Ab bt284.1 bt284.2.1 bt292.1 bt292.2.1) else ((impl_IsTurning.f Aa Ab).bind fun As => (laws_FnCells.j0 k l1 bt280.1 bt280.2 bt292.2.2 (As != bt292.2.2) Aa Ab bt284.1 bt284.2.1 bt292.1 bt292.2.1))))))))) else (laws_FnCells.j0 k l1 bt280.1 bt280.2 bt292.2.2 true Aa Ab bt284.1 bt284.2.1 bt292.1 bt292.2.1))))))))) = some true := H
  have A5 := Z.m KB
  clear KB
  replace H := Option.bind_eq_some_iff.mp H
  obtain ⟨⟨Ah, Af⟩, KC, H⟩ := H
  replace H : ((spec_CellLetter.f Aa Ab).bind fun bt282 => ((impl_MirrorCell.f Aa Ab).bind fun bt284 => ((spec_MirrorCell.f Aa Ab).bind fun bt288 => ((impl_TurnCell.f Aa Ab).bind fun bt292 => ((spec_TurnCell.f Aa Ab).bind fun bt296 => (if (Af != bt282.2) = true then (laws_FnCells.j0 k l1 Ah Af bt292.2.2 true Aa Ab bt284.1 bt284.2.1 bt292.1 bt292.2.1) else (if Ah.toList = bt282.1.toList then (if (bt284.2.2 != bt288.2.2) = true then (laws_FnCells.j0 k l1 Ah Af bt292.2.2 true Aa Ab bt284.1 bt284.2.1 bt292.1 bt292.2.1) else (if (!(bt284.1 == bt288.1) || (!(bt284.2.1 == bt288.2.1))) = true then (laws_FnCells.j0 k l1 Ah Af bt292.2.2 true Aa Ab bt284.1 bt284.2.1 bt292.1 bt292.2.1) else (if (bt292.2.2 != bt296.2.2) = true then (laws_FnCells.j0 k l1 Ah Af bt292.2.2 true Aa Ab bt284.1 bt284.2.1 bt292.1 bt292.2.1) else (if (!(bt292.1 == bt296.1) || (!(bt292.2.1 == bt296.2.1))) = true then (laws_FnCells.j0 k l1 Ah Af bt292.2.2 true Aa Ab bt284.1 bt284.2.1 bt292.1 bt292.2.1) else ((impl_IsCell.f Aa Ab).bind fun Ar => (if (Ar != Af) = true then (laws_FnCells.j0 k l1 Ah Af bt292.2.2 true Aa Ab bt284.1 bt284.2.1 bt292.1 bt292.2.1) else (if (bt284.2.2 != Af) = true then (laws_FnCells.j0 k l1 Ah Af bt292.2.2 true Aa Ab bt284.1 bt284.2.1 bt292.1 bt292.2.1) else ((impl_IsTurning.f Aa Ab).bind fun As => (laws_FnCells.j0 k l1 Ah Af bt292.2.2 (As != bt292.2.2) Aa Ab bt284.1 bt284.2.1 bt292.1 bt292.2.1))))))))) else (laws_FnCells.j0 k l1 Ah Af bt292.2.2 true Aa Ab bt284.1 bt284.2.1 bt292.1 bt292.2.1)))))))) = some true := H
  have A6 := Z.m KC
  clear KC
  replace H := Option.bind_eq_some_iff.mp H
  obtain ⟨⟨C1, Bc⟩, KD, H⟩ := H
  replace H : ((impl_MirrorCell.f Aa Ab).bind fun bt284 => ((spec_MirrorCell.f Aa Ab).bind fun bt288 => ((impl_TurnCell.f Aa Ab).bind fun bt292 => ((spec_TurnCell.f Aa Ab).bind fun bt296 => (if (Af != Bc) = true then (laws_FnCells.j0 k l1 Ah Af bt292.2.2 true Aa Ab bt284.1 bt284.2.1 bt292.1 bt292.2.1) else (if Ah.toList = C1.toList then (if (bt284.2.2 != bt288.2.2) = true then (laws_FnCells.j0 k l1 Ah Af bt292.2.2 true Aa Ab bt284.1 bt284.2.1 bt292.1 bt292.2.1) else (if (!(bt284.1 == bt288.1) || (!(bt284.2.1 == bt288.2.1))) = true then (laws_FnCells.j0 k l1 Ah Af bt292.2.2 true Aa Ab bt284.1 bt284.2.1 bt292.1 bt292.2.1) else (if (bt292.2.2 != bt296.2.2) = true then (laws_FnCells.j0 k l1 Ah Af bt292.2.2 true Aa Ab bt284.1 bt284.2.1 bt292.1 bt292.2.1) else (if (!(bt292.1 == bt296.1) || (!(bt292.2.1 == bt296.2.1))) = true then (laws_FnCells.j0 k l1 Ah Af bt292.2.2 true Aa Ab bt284.1 bt284.2.1 bt292.1 bt292.2.1) else ((impl_IsCell.f Aa Ab).bind fun Ar => (if (Ar != Af) = true then (laws_FnCells.j0 k l1 Ah Af bt292.2.2 true Aa Ab bt284.1 bt284.2.1 bt292.1 bt292.2.1) else (if (bt284.2.2 != Af) = true then (laws_FnCells.j0 k l1 Ah Af bt292.2.2 true Aa Ab bt284.1 bt284.2.1 bt292.1 bt292.2.1) else ((impl_IsTurning.f Aa Ab).bind fun As => (laws_FnCells.j0 k l1 Ah Af bt292.2.2 (As != bt292.2.2) Aa Ab bt284.1 bt284.2.1 bt292.1 bt292.2.1))))))))) else (laws_FnCells.j0 k l1 Ah Af bt292.2.2 true Aa Ab bt284.1 bt284.2.1 bt292.1 bt292.2.1))))))) = some true := H
  have A7 := Z.m KD
  clear KD
  replace H := Option.bind_eq_some_iff.mp H
  obtain ⟨⟨Ai, Aj, AH⟩, KE, H⟩ := H
  replace H : ((spec_MirrorCell.f Aa Ab).bind fun bt288 => ((impl_TurnCell.f Aa Ab).bind fun bt292 => ((spec_TurnCell.f Aa Ab).bind fun bt296 => (if (Af != Bc) = true then (laws_FnCells.j0 k l1 Ah Af bt292.2.2 true Aa Ab Ai Aj bt292.1 bt292.2.1) else (if Ah.toList = C1.toList then (if (AH != bt288.2.2) = true then (laws_FnCells.j0 k l1 Ah Af bt292.2.2 true Aa Ab Ai Aj bt292.1 bt292.2.1) else (if (!(Ai == bt288.1) || (!(Aj == bt288.2.1))) = true then (laws_FnCells.j0 k l1 Ah Af bt292.2.2 true Aa Ab Ai Aj bt292.1 bt292.2.1) else (if (bt292.2.2 != bt296.2.2) = true then (laws_FnCells.j0 k l1 Ah Af bt292.2.2 true Aa Ab Ai Aj bt292.1 bt292.2.1) else (if (!(bt292.1 == bt296.1) || (!(bt292.2.1 == bt296.2.1))) = true then (laws_FnCells.j0 k l1 Ah Af bt292.2.2 true Aa Ab Ai Aj bt292.1 bt292.2.1) else ((impl_IsCell.f Aa Ab).bind fun Ar => (if (Ar != Af) = true then (laws_FnCells.j0 k l1 Ah Af bt292.2.2 true Aa Ab Ai Aj bt292.1 bt292.2.1) else (if (AH != Af) = true then (laws_FnCells.j0 k l1 Ah Af bt292.2.2 true Aa Ab Ai Aj bt292.1 bt292.2.1) else ((impl_IsTurning.f Aa Ab).bind fun As => (laws_FnCells.j0 k l1 Ah Af bt292.2.2 (As != bt292.2.2) Aa Ab Ai Aj bt292.1 bt292.2.1))))))))) else (laws_FnCells.j0 k l1 Ah Af bt292.2.2 true Aa Ab Ai Aj bt292.1 bt292.2.1)))))) = some true := H
  have A8 := Z.m KE
  clear KE
  replace H := Option.bind_eq_some_iff.mp H
  obtain ⟨⟨AE, AF, BW⟩, KF, H⟩ := H
  replace H : ((impl_TurnCell.f Aa Ab).bind fun bt292 => ((spec_TurnCell.f Aa Ab).bind fun bt296 => (if (Af != Bc) = true then (laws_FnCells.j0 k l1 Ah Af bt292.2.2 true Aa Ab Ai Aj bt292.1 bt292.2.1) else (if Ah.toList = C1.toList then (if (AH != BW) = true then (laws_FnCells.j0 k l1 Ah Af bt292.2.2 true Aa Ab Ai Aj bt292.1 bt292.2.1) else (if (!(Ai == AE) || (!(Aj == AF))) = true then (laws_FnCells.j0 k l1 Ah Af bt292.2.2 true Aa Ab Ai Aj bt292.1 bt292.2.1) else (if (bt292.2.2 != bt296.2.2) = true then (laws_FnCells.j0 k l1 Ah Af bt292.2.2 true Aa Ab Ai Aj bt292.1 bt292.2.1) else (if (!(bt292.1 == bt296.1) || (!(bt292.2.1 == bt296.2.1))) = true then (laws_FnCells.j0 k l1 Ah Af bt292.2.2 true Aa Ab Ai Aj bt292.1 bt292.2.1) else ((impl_IsCell.f Aa Ab).bind fun Ar => (if (Ar != Af) = true then (laws_FnCells.j0 k l1 Ah Af bt292.2.2 true Aa Ab Ai Aj bt292.1 bt292.2.1) else (if (AH != Af) = true then (laws_FnCells.j0 k l1 Ah Af bt292.2.2 true Aa Ab Ai Aj bt292.1 bt292.2.1) else ((impl_IsTurning.f Aa Ab).bind fun As => (laws_FnCells.j0 k l1 Ah Af bt292.2.2 (As != bt292.2.2) Aa Ab Ai Aj bt292.1 bt292.2.1))))))))) else (laws_FnCells.j0 k l1 Ah Af bt292.2.2 true Aa Ab Ai Aj bt292.1 bt292.2.1))))) = some true := H
  have A9 := Z.m KF
  clear KF
  replace H := Option.bind_eq_some_iff.mp H
  obtain ⟨⟨Ak, Al, Am⟩, Ex, H⟩ := H
  replace H : ((spec_TurnCell.f Aa Ab).bind fun bt296 => (if (Af != Bc) = true then (laws_FnCells.j0 k l1 Ah Af Am true Aa Ab Ai Aj Ak Al) else (if Ah.toList = C1.toList then (if (AH != BW) = true then (laws_FnCells.j0 k l1 Ah Af Am true Aa Ab Ai Aj Ak Al) else (if (!(Ai == AE) || (!(Aj == AF))) = true then (laws_FnCells.j0 k l1 Ah Af Am true Aa Ab Ai Aj Ak Al) else (if (Am != bt296.2.2) = true then (laws_FnCells.j0 k l1 Ah Af Am true Aa Ab Ai Aj Ak Al) else (if (!(Ak == bt296.1) || (!(Al == bt296.2.1))) = true then (laws_FnCells.j0 k l1 Ah Af Am true Aa Ab Ai Aj Ak Al) else ((impl_IsCell.f Aa Ab).bind fun Ar => (if (Ar != Af) = true then (laws_FnCells.j0 k l1 Ah Af Am true Aa Ab Ai Aj Ak Al) else (if (AH != Af) = true then (laws_FnCells.j0 k l1 Ah Af Am true Aa Ab Ai Aj Ak Al) else ((impl_IsTurning.f Aa Ab).bind fun As => (laws_FnCells.j0 k l1 Ah Af Am (As != Am) Aa Ab Ai Aj Ak Al))))))))) else (laws_FnCells.j0 k l1 Ah Af Am true Aa Ab Ai Aj Ak Al)))) = some true := H
  have Lw := Z.m Ex
  clear Ex
  replace H := Option.bind_eq_some_iff.mp H
  obtain ⟨⟨AT, AV, CY⟩, Ey, H⟩ := H
  replace H : (if (Af != Bc) = true then (laws_FnCells.j0 k l1 Ah Af Am true Aa Ab Ai Aj Ak Al) else (if Ah.toList = C1.toList then (if (AH != BW) = true then (laws_FnCells.j0 k l1 Ah Af Am true Aa Ab Ai Aj Ak Al) else (if (!(Ai == AE) || (!(Aj == AF))) = true then (laws_FnCells.j0 k l1 Ah Af Am true Aa Ab Ai Aj Ak Al) else (if (Am != CY) = true then (laws_FnCells.j0 k l1 Ah Af Am true Aa Ab Ai Aj Ak Al) else (if (!(Ak == AT) || (!(Al == AV))) = true then (laws_FnCells.j0 k l1 Ah Af Am true Aa Ab Ai Aj Ak Al) else ((impl_IsCell.f Aa Ab).bind fun Ar => (if (Ar != Af) = true then (laws_FnCells.j0 k l1 Ah Af Am true Aa Ab Ai Aj Ak Al) else (if (AH != Af) = true then (laws_FnCells.j0 k l1 Ah Af Am true Aa Ab Ai Aj Ak Al) else ((impl_IsTurning.f Aa Ab).bind fun As => (laws_FnCells.j0 k l1 Ah Af Am (As != Am) Aa Ab Ai Aj Ak Al))))))))) else (laws_FnCells.j0 k l1 Ah Af Am true Aa Ab Ai Aj Ak Al))) = some true := H
  have Lx := Z.m Ey
  clear Ey
  have Et := Z.m H
  clear H
  go_enter Try.func3, Try.ntmps3
  go_upto_region 10 with (first | ((with_reducible refine gc (f := 5) rfl ?_); refine gA (some 48) _ #[.slice A0 l0.length c0, .slice A1 l1.length c1] ?_ Try.func5; (with_reducible refine (laws_big.calls _ _ l0 _ _ l1 false _ ?side1 ?side2 ?side3 ?side4 A3.o).mono ?_); (case side1 => repeat (first | exact GL.o | (with_reducible refine Kd.C_alloc ?_ _) | (with_reducible refine Kd.C_drewN ?_ _) | (with_reducible refine Kd.C_drew ?_))); (case side2 => exact GK.o); (case side3 => repeat (first | exact EO.o | (with_reducible refine Kd.C_alloc ?_ _) | (with_reducible refine Kd.C_drewN ?_ _) | (with_reducible refine Kd.C_drew ?_))); (case side4 => exact EN.o); rintro e w' ⟨rfl, ⟨nd, rfl⟩⟩; refine ⟨_, rfl, ?_⟩) | ((with_reducible refine gc (f := 6) rfl ?_); refine gA (some 50) _ #[.slice A0 l0.length c0] ?_ Try.func6; (with_reducible refine (spec_DrawCellLetter.calls k _ _ l0 Aa Ab _ ?side1 ?side2 A5.o).mono ?_); (case side1 => repeat (first | exact GL.o | (with_reducible refine Kd.C_alloc ?_ _) | (with_reducible refine Kd.C_drewN ?_ _) | (with_reducible refine Kd.C_drew ?_))); (case side2 => exact GK.o); rintro e LZ ⟨rfl, hb⟩; refine ⟨_, rfl, ?_⟩; replace HB := bB HB hb; (try clear hb); (try clear Bb); (try clear hk); (try clear hi)) | ((with_reducible refine gq (N := 5) rfl ?_); refine be (N := 5) (cs := #[.int .i64 0, .int .i64 0]) (t := 25) ?_; intro At hg M0 hbox hb; have A2 := Z.m (hbox); have EA := gW (w := w) HB hg; have KG := EA; replace HB := bB HB hb; clear hb hbox hg; have Dp := bc0 A2; have Dq := bc1 A2; have DJ := qz A2.o 0; have DK := qz A2.o 1) | ((with_reducible refine gc (f := 7) rfl ?_); refine gA (some 53) _ #[.agg #[.int .i64 Aa, .int .i64 Ab]] ?_ Try.func7; (with_reducible refine (impl_CellLetter.calls Aa Ab Ah Af _ A6.o).mono ?_); rintro e M1 ⟨rfl, hb⟩; refine ⟨_, rfl, ?_⟩; replace A2 := Z.m (qb (g := At) (o := .cells #[.int .i64 Aa, .int .i64 Ab] 25 (0, 0)) (by refine bK ?_; refine qp (cs := #[iV Aa, iV 0]) ?_ 1 _ rfl; refine bK ?_; refine qp (cs := #[iV 0, iV 0]) ?_ 0 _ rfl; refine bK ?_; exact A2.o) hb); replace HB := bB HB hb; (try clear hb); (try clear Bb); (try clear hk); (try clear hi); have Dr := bc0 A2; have Ds := bc1 A2; have DL := qz A2.o 0; have DM := qz A2.o 1) | ((with_reducible refine gc (f := 8) rfl ?_); refine gA (some 58) _ #[.agg #[.int .i64 Aa, .int .i64 Ab]] ?_ Try.func8; (with_reducible refine (spec_CellLetter.calls Aa Ab C1 Bc _ A7.o).mono ?_); rintro e M2 ⟨rfl, hb⟩; refine ⟨_, rfl, ?_⟩; replace A2 := kB A2 hb; replace HB := bB HB hb; (try clear hb); (try clear Bb); (try clear hk); (try clear hi); have Dt := bc0 A2; have Du := bc1 A2; have DN := qz A2.o 0; have DO := qz A2.o 1) | ((with_reducible refine gc (f := 9) rfl ?_); refine gA (some 63) _ #[.agg #[.int .i64 Aa, .int .i64 Ab]] ?_ Try.func9; (with_reducible refine (impl_MirrorCell.calls Aa Ab Ai Aj AH _ A8.o).mono ?_); rintro e M3 ⟨rfl, hb⟩; refine ⟨_, rfl, ?_⟩; replace A2 := kB A2 hb; replace HB := bB HB hb; (try clear hb); (try clear Bb); (try clear hk); (try clear hi)) | ((with_reducible refine gq (N := 10) rfl ?_); refine be (N := 10) (cs := #[.int .i64 0, .int .i64 0]) (t := 25) ?_; intro Aw hg M4 hbox hb; have A4 := Z.m (hbox); have EB := gW (w := w) HB hg; have KH := EB; have Ay := neL A2 hg; have AK := neG A2 hg; replace A2 := kB A2 hb; replace HB := bB HB hb; clear hb hbox hg; have Lc := AK.o; have Lm := Ay.o; have Dv := bc0 A4; have Dw := bc1 A4; have DP := qz A4.o 0; have DQ := qz A4.o 1; have Dx := bc0 A2; have Dy := bc1 A2; have DR := qz A2.o 0; have DS := qz A2.o 1) | ((with_reducible refine gc (f := 10) rfl ?_); refine gA (some 68) _ #[.agg #[.int .i64 Aa, .int .i64 Ab]] ?_ Try.func10; (with_reducible refine (spec_MirrorCell.calls Aa Ab AE AF BW _ A9.o).mono ?_); rintro e M5 ⟨rfl, hb⟩; refine ⟨_, rfl, ?_⟩; replace A2 := Z.m (qb (g := At) (o := .cells #[.int .i64 Aa, .int .i64 Ab] 25 (0, 0)) (by refine bK ?_; (iterate 2 refine qF ?_ Ay); exact A2.o) hb); replace A4 := Z.m (qb (g := Aw) (o := .cells #[.int .i64 Ai, .int .i64 Aj] 25 (0, 0)) (by refine bK ?_; refine qp (cs := #[iV Ai, iV 0]) ?_ 1 _ rfl; refine bK ?_; refine qp (cs := #[iV 0, iV 0]) ?_ 0 _ rfl; refine bK ?_; exact A4.o) hb); replace HB := bB HB hb; (try clear hb); (try clear Bb); (try clear hk); (try clear hi)) | ((with_reducible refine gq (N := 12) rfl ?_); refine be (N := 12) (cs := #[.int .i64 0, .int .i64 0]) (t := 25) ?_; intro AD hg M6 hbox hb; have Ac := Z.m (hbox); have EC := gW (w := w) HB hg; have KI := EC; have Az := neL A2 hg; have AN := neG A2 hg; have AL := neL A4 hg; have B2 := neG A4 hg; replace A2 := kB A2 hb; replace A4 := kB A4 hb; replace HB := bB HB hb; clear hb hbox hg; have Ld := AN.o; have Ln := Az.o; have Le := B2.o; have Lo := AL.o; have Dz := bc0 Ac; have DA := bc1 Ac; have DT := qz Ac.o 0; have DU := qz Ac.o 1; have DB := bc0 A2; have DC := bc1 A2; have DV := qz A2.o 0; have DW := qz A2.o 1) | ((with_reducible refine gc (f := 11) rfl ?_); refine gA (some 73) _ #[.agg #[.int .i64 Aa, .int .i64 Ab]] ?_ Try.func11; (with_reducible refine (impl_TurnCell.calls Aa Ab Ak Al Am _ Lw.o).mono ?_); rintro e M7 ⟨rfl, hb⟩; refine ⟨_, rfl, ?_⟩; replace A2 := Z.m (qb (g := At) (o := .cells #[.int .i64 Aa, .int .i64 Ab] 25 (0, 0)) (by refine bK ?_; (iterate 2 refine qF ?_ Az); exact A2.o) hb); replace A4 := Z.m (qb (g := Aw) (o := .cells #[.int .i64 Ai, .int .i64 Aj] 25 (0, 0)) (by refine bK ?_; (iterate 2 refine qF ?_ AL); exact A4.o) hb); replace Ac := Z.m (qb (g := AD) (o := .cells #[.int .i64 AE, .int .i64 AF] 25 (0, 0)) (by refine bK ?_; refine qp (cs := #[iV AE, iV 0]) ?_ 1 _ rfl; refine bK ?_; refine qp (cs := #[iV 0, iV 0]) ?_ 0 _ rfl; refine bK ?_; exact Ac.o) hb); replace HB := bB HB hb; (try clear hb); (try clear Bb); (try clear hk); (try clear hi)) | ((with_reducible refine gq (N := 14) rfl ?_); refine be (N := 14) (cs := #[.int .i64 0, .int .i64 0]) (t := 25) ?_; intro AG hg M8 hbox hb; have Ad := Z.m (hbox); have ED := gW (w := w) HB hg; have KJ := ED; have AA := neL A2 hg; have AP := neG A2 hg; have AC := neL A4 hg; have AQ := neG A4 hg; have AO := neL Ac hg; have B5 := neG Ac hg; replace A2 := kB A2 hb; replace A4 := kB A4 hb; replace Ac := kB Ac hb; replace HB := bB HB hb; clear hb hbox hg; have Lf := AP.o; have Lp := AA.o; have Lg := AQ.o; have Lq := AC.o; have Lh := B5.o; have Lr := AO.o; have DD := bc0 Ad; have DE := bc1 Ad; have DX := qz Ad.o 0; have DY := qz Ad.o 1; have DF := bc0 A2; have DG := bc1 A2; have DZ := qz A2.o 0; have E0 := qz A2.o 1) | ((with_reducible refine gc (f := 12) rfl ?_); refine gA (some 78) _ #[.agg #[.int .i64 Aa, .int .i64 Ab]] ?_ Try.func12; (with_reducible refine (spec_TurnCell.calls Aa Ab AT AV CY _ Lx.o).mono ?_); rintro e M9 ⟨rfl, hb⟩; refine ⟨_, rfl, ?_⟩; replace A2 := Z.m (qb (g := At) (o := .cells #[.int .i64 Aa, .int .i64 Ab] 25 (0, 0)) (by refine bK ?_; (iterate 2 refine qF ?_ AA); exact A2.o) hb); replace A4 := Z.m (qb (g := Aw) (o := .cells #[.int .i64 Ai, .int .i64 Aj] 25 (0, 0)) (by refine bK ?_; (iterate 2 refine qF ?_ AC); exact A4.o) hb); replace Ac := Z.m (qb (g := AD) (o := .cells #[.int .i64 AE, .int .i64 AF] 25 (0, 0)) (by refine bK ?_; (iterate 2 refine qF ?_ AO); exact Ac.o) hb); replace Ad := Z.m (qb (g := AG) (o := .cells #[.int .i64 Ak, .int .i64 Al] 25 (0, 0)) (by refine bK ?_; refine qp (cs := #[iV Ak, iV 0]) ?_ 1 _ rfl; refine bK ?_; refine qp (cs := #[iV 0, iV 0]) ?_ 0 _ rfl; refine bK ?_; exact Ad.o) hb); replace HB := bB HB hb; (try clear hb); (try clear Bb); (try clear hk); (try clear hi)) | ((with_reducible refine gq (N := 16) rfl ?_); refine be (N := 16) (cs := #[.int .i64 0, .int .i64 0]) (t := 25) ?_; intro AI hg Ma hbox hb; have Ae := Z.m (hbox); have EE := gW (w := w) HB hg; have KK := EE; have AB := neL A2 hg; have AS := neG A2 hg; have AM := neL A4 hg; have B7 := neG A4 hg; have B3 := neL Ac hg; have BC := neG Ac hg; have AR := neL Ad hg; have B8 := neG Ad hg; replace A2 := kB A2 hb; replace A4 := kB A4 hb; replace Ac := kB Ac hb; replace Ad := kB Ad hb; replace HB := bB HB hb; clear hb hbox hg; have Li := AS.o; have Ls := AB.o; have Lj := B7.o; have Lt := AM.o; have Lk := BC.o; have Lu := B3.o; have Ll := B8.o; have Lv := AR.o; have DH := bc0 Ae; have DI := bc1 Ae; have E1 := qz Ae.o 0; have E2 := qz Ae.o 1))
  (try simp only [Act.put, q1, q2, q3])
  go_cut [125] (fun v125 wc => ∃ (kq : Nat) (Ba : Bool), v125 = .bool Ba ∧ Z (laws_FnCells.j0 kq l1 Ah Af Am Ba Aa Ab Ai Aj Ak Al = some true) ∧ Z (kq ≤ k) ∧ Z (wc.heap[At]? = some (.cells #[.int .i64 Aa, .int .i64 Ab] 25 (0, 0))) ∧ Z (wc.heap[Aw]? = some (.cells #[.int .i64 Ai, .int .i64 Aj] 25 (0, 0))) ∧ Z (wc.heap[AD]? = some (.cells #[.int .i64 AE, .int .i64 AF] 25 (0, 0))) ∧ Z (wc.heap[AG]? = some (.cells #[.int .i64 Ak, .int .i64 Al] 25 (0, 0))) ∧ Z (wc.heap[AI]? = some (.cells #[.int .i64 AT, .int .i64 AV] 25 (0, 0))) ∧ Z (Below w.heap.size w wc))
  case first => as_aux_lemma =>
   have H := Et.o
   clear Et
   by_cases c45 : (Af != Bc) = true
   ·(rw [if_pos c45] at H; exact absurd H (laws_FnCells.bad_j0 _ _ _ _ _ _ _ _ _ _ _))
   ·rw [if_neg c45] at H
    have Er : (Af != Bc) = false := by simpa using c45
    (try (have KU : decide (Af = Bc) = true := by simpa using c45))
    (try (have KV : (Af == Bc) = true := by simpa using c45))
    clear c45
    (first | rw [Er] | (simp only [i64_w, i32_w]; rw [Er]) | skip)
    by_cases c46 : Ah.toList = C1.toList
    ·rw [if_pos c46] at H
     have KW := beq_iff_eq.mpr c46
     have KX := bne_eq_false_iff_eq.mpr c46
     clear c46
     by_cases c47 : (AH != BW) = true
     ·(rw [if_pos c47] at H; exact absurd H (laws_FnCells.bad_j0 _ _ _ _ _ _ _ _ _ _ _))
     ·rw [if_neg c47] at H
      have KY : (AH != BW) = false := by simpa using c47
      (try (have KZ : decide (AH = BW) = true := by simpa using c47))
      (try (have L0 : (AH == BW) = true := by simpa using c47))
      clear c47
      by_cases c48 : (!(Ai == AE) || (!(Aj == AF))) = true
      ·(rw [if_pos c48] at H; exact absurd H (laws_FnCells.bad_j0 _ _ _ _ _ _ _ _ _ _ _))
      ·rw [if_neg c48] at H
       have L1 : (!(Ai == AE) || (!(Aj == AF))) = false := by simpa using c48
       clear c48
       by_cases c58 : (Am != CY) = true
       ·(rw [if_pos c58] at H; exact absurd H (laws_FnCells.bad_j0 _ _ _ _ _ _ _ _ _ _ _))
       ·rw [if_neg c58] at H
        have L2 : (Am != CY) = false := by simpa using c58
        (try (have L3 : decide (Am = CY) = true := by simpa using c58))
        (try (have L4 : (Am == CY) = true := by simpa using c58))
        clear c58
        by_cases c68 : (!(Ak == AT) || (!(Al == AV))) = true
        ·(rw [if_pos c68] at H; exact absurd H (laws_FnCells.bad_j0 _ _ _ _ _ _ _ _ _ _ _))
        ·rw [if_neg c68] at H
         have L5 : (!(Ak == AT) || (!(Al == AV))) = false := by simpa using c68
         clear c68
         replace H := Option.bind_eq_some_iff.mp H
         obtain ⟨Ar, Ez, H⟩ := H
         replace H : (if (Ar != Af) = true then (laws_FnCells.j0 k l1 Ah Af Am true Aa Ab Ai Aj Ak Al) else (if (AH != Af) = true then (laws_FnCells.j0 k l1 Ah Af Am true Aa Ab Ai Aj Ak Al) else ((impl_IsTurning.f Aa Ab).bind fun As => (laws_FnCells.j0 k l1 Ah Af Am (As != Am) Aa Ab Ai Aj Ak Al)))) = some true := H
         have Ly := Z.m Ez
         clear Ez
         by_cases c84 : (Ar != Af) = true
         ·(rw [if_pos c84] at H; exact absurd H (laws_FnCells.bad_j0 _ _ _ _ _ _ _ _ _ _ _))
         ·rw [if_neg c84] at H
          have L6 : (Ar != Af) = false := by simpa using c84
          (try (have L7 : decide (Ar = Af) = true := by simpa using c84))
          (try (have L8 : (Ar == Af) = true := by simpa using c84))
          clear c84
          by_cases c101 : (AH != Af) = true
          ·(rw [if_pos c101] at H; exact absurd H (laws_FnCells.bad_j0 _ _ _ _ _ _ _ _ _ _ _))
          ·rw [if_neg c101] at H
           have GM : (AH != Af) = false := by simpa using c101
           (try (have GN : decide (AH = Af) = true := by simpa using c101))
           (try (have GO : (AH == Af) = true := by simpa using c101))
           clear c101
           replace H := Option.bind_eq_some_iff.mp H
           obtain ⟨As, E9, H⟩ := H
           replace H : (laws_FnCells.j0 k l1 Ah Af Am (As != Am) Aa Ab Ai Aj Ak Al) = some true := H
           have Gu := Z.m E9
           clear E9
           have H' := Z.m H
           clear H
           have H5 := AK.o
           have Jl := Ay.o
           have H6 := AL.o
           have Jm := B2.o
           have H7 := AC.o
           have Jn := AQ.o
           have H8 := AM.o
           have Jo := B7.o
           have ES := bc0 A4
           have ET := bc1 A4
           have FE := qz A4.o 0
           have FF := qz A4.o 1
           have H9 := AN.o
           have Jp := Az.o
           have Ha := AO.o
           have Jq := B5.o
           have Hb := B3.o
           have Jr := BC.o
           have EU := bc0 Ac
           have EV := bc1 Ac
           have FG := qz Ac.o 0
           have FH := qz Ac.o 1
           have Hc := AP.o
           have Js := AA.o
           have Hd := AR.o
           have Jt := B8.o
           have EW := bc0 Ad
           have EX := bc1 Ad
           have FI := qz Ad.o 0
           have FJ := qz Ad.o 1
           have He := AS.o
           have Ju := AB.o
           have EY := bc0 Ae
           have EZ := bc1 Ae
           have FL := qz Ae.o 0
           have FM := qz Ae.o 1
           have F0 := bc0 A2
           have F1 := bc1 A2
           have FN := qz A2.o 0
           have FO := qz A2.o 1
           go_wp2_with (first | (go_at_call 13; (with_reducible refine (impl_IsCell.calls Aa Ab Ar _ Ly.o).mono ?_); rintro e LA ⟨rfl, hb⟩; replace A2 := Z.m (qb (g := At) (o := .cells #[.int .i64 Aa, .int .i64 Ab] 25 (0, 0)) (by refine bK ?_; (iterate 2 refine qF ?_ AB); exact A2.o) hb); replace A4 := Z.m (qb (g := Aw) (o := .cells #[.int .i64 Ai, .int .i64 Aj] 25 (0, 0)) (by refine bK ?_; (iterate 2 refine qF ?_ AM); exact A4.o) hb); replace Ac := Z.m (qb (g := AD) (o := .cells #[.int .i64 AE, .int .i64 AF] 25 (0, 0)) (by refine bK ?_; (iterate 2 refine qF ?_ B3); exact Ac.o) hb); replace Ad := Z.m (qb (g := AG) (o := .cells #[.int .i64 Ak, .int .i64 Al] 25 (0, 0)) (by refine bK ?_; (iterate 2 refine qF ?_ AR); exact Ad.o) hb); replace Ae := Z.m (qb (g := AI) (o := .cells #[.int .i64 AT, .int .i64 AV] 25 (0, 0)) (by refine bK ?_; refine qp (cs := #[iV AT, iV 0]) ?_ 1 _ rfl; refine bK ?_; refine qp (cs := #[iV 0, iV 0]) ?_ 0 _ rfl; refine bK ?_; exact Ae.o) hb); replace HB := bB HB hb; (try clear hb); (try clear Bb); (try clear hk); (try clear hi); have F2 := bc0 A2; have F3 := bc1 A2; have FP := qz A2.o 0; have FQ := qz A2.o 1) | (go_at_call 14; (with_reducible refine (impl_IsTurning.calls Aa Ab As _ Gu.o).mono ?_); rintro e LB ⟨rfl, hb⟩; replace A2 := kB A2 hb; replace A4 := kB A4 hb; replace Ac := kB Ac hb; replace Ad := kB Ad hb; replace Ae := kB Ae hb; replace HB := bB HB hb; (try clear hb); (try clear Bb); (try clear hk); (try clear hi)))
           go_meet
           case rel => exact ⟨_, ((As != Am)), (by first | rfl | (simp; done) | (simp [*]; done)), H', ⟨by first | omega | exact Nat.le_refl _⟩, ⟨vK A2⟩, ⟨vK A4⟩, ⟨vK Ac⟩, ⟨vK Ad⟩, ⟨vK Ae⟩, ⟨vB HB⟩⟩
    ·(rw [if_neg c46] at H; exact absurd H (laws_FnCells.bad_j0 _ _ _ _ _ _ _ _ _ _ _))
  case rest => as_aux_lemma =>
   clear Et
   (try clear c4)
   (try clear Dp); (try clear Dq); (try clear Dr); (try clear Ds); (try clear Dt); (try clear Du); (try clear Dv); (try clear Dw)
   (try clear Dx); (try clear Dy); (try clear Dz); (try clear DA); (try clear DB); (try clear DC); (try clear DD); (try clear DE)
   (try clear DF); (try clear DG); (try clear DH); (try clear DI); (try clear DJ); (try clear DK); (try clear DL); (try clear DM)
   (try clear DN); (try clear DO); (try clear DP); (try clear DQ); (try clear DR); (try clear DS); (try clear DT); (try clear DU)
   (try clear DV); (try clear DW); (try clear DX); (try clear DY); (try clear DZ); (try clear E0); (try clear E1); (try clear E2)
   obtain ⟨kq, Ba, rfl, HA, C0, A2, A4, Ac, Ad, Ae, HB⟩ := hcut
   cases kq with
   | zero => exact absurd HA.o (by simp [laws_FnCells.j0])
   | succ kj11 =>
    have H := HA.o
    clear HA
    simp only [laws_FnCells.j0] at H
    by_cases c137 : Ba = true
    ·(rw [if_pos c137] at H; exact absurd H (by decide))
    ·replace c137 := Bool.eq_false_iff.mpr c137
     subst c137
     have H1 : (if Af = true then ((impl_ReadCell.f kj11 Ah).bind fun bt302 => ((impl_MirrorCell.f Ai Aj).bind fun bt306 => (if bt302.2.2 = true then (if (!(bt302.1 == Aa) || (!(bt302.2.1 == Ab))) = true then (some false) else (if bt306.2.2 = true then (if (!(bt306.1 == Aa) || (!(bt306.2.1 == Ab))) = true then (some false) else (laws_FnCells.j1 kj11 l1 Am Aa Ab Ak Al)) else (some false))) else (some false)))) else (laws_FnCells.j1 kj11 l1 Am Aa Ab Ak Al)) = some true := by rw [if_neg (show ¬ (false = true) by decide)] at H; exact H
     clear H
     have H := H1
     clear H1
     have D5 := Z.m H
     clear H
     go_upto_if 126 with (fail)
     go_cut [] (fun wc => ∃ (kq : Nat), Z (laws_FnCells.j1 kq l1 Am Aa Ab Ak Al = some true) ∧ Z (kq ≤ kj11) ∧ Z (wc.heap[At]? = some (.cells #[.int .i64 Aa, .int .i64 Ab] 25 (0, 0))) ∧ Z (wc.heap[Aw]? = some (.cells #[.int .i64 Ai, .int .i64 Aj] 25 (0, 0))) ∧ Z (wc.heap[AD]? = some (.cells #[.int .i64 AE, .int .i64 AF] 25 (0, 0))) ∧ Z (wc.heap[AG]? = some (.cells #[.int .i64 Ak, .int .i64 Al] 25 (0, 0))) ∧ Z (wc.heap[AI]? = some (.cells #[.int .i64 AT, .int .i64 AV] 25 (0, 0))) ∧ Z (Below w.heap.size w wc))
     case first => as_aux_lemma =>
      have H := D5.o
      clear D5
      by_cases c139 : Af = true
      ·subst c139
       have H1 : ((impl_ReadCell.f kj11 Ah).bind fun bt302 => ((impl_MirrorCell.f Ai Aj).bind fun bt306 => (if bt302.2.2 = true then (if (!(bt302.1 == Aa) || (!(bt302.2.1 == Ab))) = true then (some false) else (if bt306.2.2 = true then (if (!(bt306.1 == Aa) || (!(bt306.2.1 == Ab))) = true then (some false) else (laws_FnCells.j1 kj11 l1 Am Aa Ab Ak Al)) else (some false))) else (some false)))) = some true := by rw [if_pos rfl] at H; exact H
       clear H
       have H := H1
       clear H1
       replace H := Option.bind_eq_some_iff.mp H
       obtain ⟨⟨BX, C2, Eu⟩, Ea, H⟩ := H
       replace H : ((impl_MirrorCell.f Ai Aj).bind fun bt306 => (if Eu = true then (if (!(BX == Aa) || (!(C2 == Ab))) = true then (some false) else (if bt306.2.2 = true then (if (!(bt306.1 == Aa) || (!(bt306.2.1 == Ab))) = true then (some false) else (laws_FnCells.j1 kj11 l1 Am Aa Ab Ak Al)) else (some false))) else (some false))) = some true := H
       have Gv := Z.m Ea
       clear Ea
       replace H := Option.bind_eq_some_iff.mp H
       obtain ⟨⟨CZ, D0, Ew⟩, Eb, H⟩ := H
       replace H : (if Eu = true then (if (!(BX == Aa) || (!(C2 == Ab))) = true then (some false) else (if Ew = true then (if (!(CZ == Aa) || (!(D0 == Ab))) = true then (some false) else (laws_FnCells.j1 kj11 l1 Am Aa Ab Ak Al)) else (some false))) else (some false)) = some true := H
       have Gw := Z.m Eb
       clear Eb
       by_cases c142 : Eu = true
       ·subst c142
        have H1 : (if (!(BX == Aa) || (!(C2 == Ab))) = true then (some false) else (if Ew = true then (if (!(CZ == Aa) || (!(D0 == Ab))) = true then (some false) else (laws_FnCells.j1 kj11 l1 Am Aa Ab Ak Al)) else (some false))) = some true := by rw [if_pos rfl] at H; exact H
        clear H
        have H := H1
        clear H1
        by_cases c143 : (!(BX == Aa) || (!(C2 == Ab))) = true
        ·(rw [if_pos c143] at H; exact absurd H (by decide))
        ·rw [if_neg c143] at H
         have Da : (!(BX == Aa) || (!(C2 == Ab))) = false := by simpa using c143
         clear c143
         (first | rw [Da] | (simp only [i64_w, i32_w]; rw [Da]) | skip)
         by_cases c171 : Ew = true
         ·subst c171
          have H1 : (if (!(CZ == Aa) || (!(D0 == Ab))) = true then (some false) else (laws_FnCells.j1 kj11 l1 Am Aa Ab Ak Al)) = some true := by rw [if_pos rfl] at H; exact H
          clear H
          have H := H1
          clear H1
          by_cases c172 : (!(CZ == Aa) || (!(D0 == Ab))) = true
          ·(rw [if_pos c172] at H; exact absurd H (by decide))
          ·rw [if_neg c172] at H
           have GP : (!(CZ == Aa) || (!(D0 == Ab))) = false := by simpa using c172
           clear c172
           have H' := Z.m H
           clear H
           go_wp2_with (first | ((with_reducible refine gc (f := 15) rfl ?_); refine gA (some 129) _ #[.string Ah] ?_ Try.func15; (with_reducible refine (impl_ReadCell.calls kj11 Ah BX C2 true _ Gv.o).mono ?_); rintro e LC ⟨rfl, hb⟩; refine ⟨_, rfl, ?_⟩; replace A2 := kB A2 hb; replace A4 := kB A4 hb; replace Ac := kB Ac hb; replace Ad := kB Ad hb; replace Ae := kB Ae hb; replace HB := bB HB hb; (try clear hb); (try clear Bb); (try clear hk); (try clear hi)) | ((with_reducible refine gq (N := 18) rfl ?_); refine be (N := 18) (cs := #[.int .i64 0, .int .i64 0]) (t := 25) ?_; intro EP hg LD hbox hb; have Au := Z.m (hbox); have EF := gW (w := w) HB hg; have KL := EF; have Be := neL A2 hg; have Ce := neG A2 hg; have Bk := neL A4 hg; have Cf := neG A4 hg; have Bq := neL Ac hg; have Cg := neG Ac hg; have Bw := neL Ad hg; have Ch := neG Ad hg; have BD := neL Ae hg; have Ci := neG Ae hg; replace A2 := kB A2 hb; replace A4 := kB A4 hb; replace Ac := kB Ac hb; replace Ad := kB Ad hb; replace Ae := kB Ae hb; replace HB := bB HB hb; clear hb hbox hg; have Hf := Ce.o; have Jv := Be.o; have Hg := Cf.o; have Jw := Bk.o; have Hh := Cg.o; have Jx := Bq.o; have Hi := Ch.o; have Jy := Bw.o; have Hj := Ci.o; have Jz := BD.o; have F4 := bc0 Au; have F5 := bc1 Au; have FR := qz Au.o 0; have FS := qz Au.o 1; have Hk := AK.o; have JA := Ay.o; have Hl := AL.o; have JB := B2.o; have Hm := AC.o; have JC := AQ.o; have Hn := AM.o; have JD := B7.o; have F6 := bc0 A4; have F7 := bc1 A4; have FT := qz A4.o 0; have FU := qz A4.o 1) | ((with_reducible refine gc (f := 9) rfl ?_); refine gA (some 134) _ #[.agg #[.int .i64 Ai, .int .i64 Aj]] ?_ Try.func9; (with_reducible refine (impl_MirrorCell.calls Ai Aj CZ D0 true _ Gw.o).mono ?_); rintro e LE ⟨rfl, hb⟩; refine ⟨_, rfl, ?_⟩; replace A2 := Z.m (qb (g := At) (o := .cells #[.int .i64 Aa, .int .i64 Ab] 25 (0, 0)) (by refine bK ?_; (iterate 2 refine qF ?_ Be); exact A2.o) hb); replace A4 := Z.m (qb (g := Aw) (o := .cells #[.int .i64 Ai, .int .i64 Aj] 25 (0, 0)) (by refine bK ?_; (iterate 2 refine qF ?_ Bk); exact A4.o) hb); replace Ac := Z.m (qb (g := AD) (o := .cells #[.int .i64 AE, .int .i64 AF] 25 (0, 0)) (by refine bK ?_; (iterate 2 refine qF ?_ Bq); exact Ac.o) hb); replace Ad := Z.m (qb (g := AG) (o := .cells #[.int .i64 Ak, .int .i64 Al] 25 (0, 0)) (by refine bK ?_; (iterate 2 refine qF ?_ Bw); exact Ad.o) hb); replace Ae := Z.m (qb (g := AI) (o := .cells #[.int .i64 AT, .int .i64 AV] 25 (0, 0)) (by refine bK ?_; (iterate 2 refine qF ?_ BD); exact Ae.o) hb); replace Au := Z.m (qb (g := EP) (o := .cells #[.int .i64 BX, .int .i64 C2] 25 (0, 0)) (by refine bK ?_; refine qp (cs := #[iV BX, iV 0]) ?_ 1 _ rfl; refine bK ?_; refine qp (cs := #[iV 0, iV 0]) ?_ 0 _ rfl; refine bK ?_; exact Au.o) hb); replace HB := bB HB hb; (try clear hb); (try clear Bb); (try clear hk); (try clear hi)) | ((with_reducible refine gq (N := 20) rfl ?_); refine be (N := 20) (cs := #[.int .i64 0, .int .i64 0]) (t := 25) ?_; intro L9 hg LF hbox hb; have C5 := Z.m (hbox); have EG := gW (w := w) HB hg; have KM := EG; have Bf := neL A2 hg; have Cl := neG A2 hg; have Bl := neL A4 hg; have Cm := neG A4 hg; have Br := neL Ac hg; have Cn := neG Ac hg; have Bx := neL Ad hg; have Co := neG Ad hg; have BE := neL Ae hg; have Cp := neG Ae hg; have Cj := neL Au hg; have Cq := neG Au hg; replace A2 := kB A2 hb; replace A4 := kB A4 hb; replace Ac := kB Ac hb; replace Ad := kB Ad hb; replace Ae := kB Ae hb; replace Au := kB Au hb; replace HB := bB HB hb; clear hb hbox hg; have Ho := Cl.o; have JE := Bf.o; have Hp := Cm.o; have JF := Bl.o; have Hq := Cn.o; have JG := Br.o; have Hr := Co.o; have JH := Bx.o; have Hs := Cp.o; have JI := BE.o; have Ht := Cq.o; have JJ := Cj.o; have F8 := bc0 C5; have F9 := bc1 C5; have FV := qz C5.o 0; have FW := qz C5.o 1; have Fa := bc0 Au; have Fb := bc1 Au; have FX := qz Au.o 0; have FY := qz Au.o 1; have Hu := Az.o; have JK := AN.o; have Hv := AA.o; have JL := AP.o; have Hw := AB.o; have JM := AS.o; have Fc := bc0 A2; have Fd := bc1 A2; have FZ := qz A2.o 0; have G0 := qz A2.o 1))
           go_meet
           case rel => exact ⟨_, H', ⟨by have := C0.o; first | omega | exact Nat.le_refl _⟩, ⟨by refine bK ?_; (iterate 2 refine qF ?_ Bf); exact A2.o⟩, ⟨by refine bK ?_; (iterate 2 refine qF ?_ Bl); exact A4.o⟩, ⟨by refine bK ?_; (iterate 2 refine qF ?_ Br); exact Ac.o⟩, ⟨by refine bK ?_; (iterate 2 refine qF ?_ Bx); exact Ad.o⟩, ⟨by refine bK ?_; (iterate 2 refine qF ?_ BE); exact Ae.o⟩, ⟨vB HB⟩⟩
         ·(rw [if_neg c171] at H; exact absurd H (by decide))
       ·(rw [if_neg c142] at H; exact absurd H (by decide))
      ·replace c139 := Bool.eq_false_iff.mpr c139
       subst c139
       have H1 : (laws_FnCells.j1 kj11 l1 Am Aa Ab Ak Al) = some true := by rw [if_neg (show ¬ (false = true) by decide)] at H; exact H
       clear H
       have H := H1
       clear H1
       have H' := Z.m H
       clear H
       go_wp2
       go_meet
       case rel => exact ⟨_, H', ⟨by have := C0.o; first | omega | exact Nat.le_refl _⟩, ⟨vK A2⟩, ⟨vK A4⟩, ⟨vK Ac⟩, ⟨vK Ad⟩, ⟨vK Ae⟩, ⟨vB HB⟩⟩
     case rest => as_aux_lemma =>
      clear D5
      (try clear c137)
      obtain ⟨kq, HA, BV, A2, A4, Ac, Ad, Ae, HB⟩ := hcut
      cases kq with
      | zero => exact absurd HA.o (by simp [laws_FnCells.j1])
      | succ kj137 =>
       have H := HA.o
       clear HA
       simp only [laws_FnCells.j1] at H
       have D6 := Z.m H
       clear H
       go_upto_if 153 with (fail)
       go_cut [] (fun wc => ∃ (kq : Nat), Z (laws_FnCells.j2 kq l1 = some true) ∧ Z (kq ≤ kj137) ∧ Z (wc.heap[At]? = some (.cells #[.int .i64 Aa, .int .i64 Ab] 25 (0, 0))) ∧ Z (wc.heap[Aw]? = some (.cells #[.int .i64 Ai, .int .i64 Aj] 25 (0, 0))) ∧ Z (wc.heap[AD]? = some (.cells #[.int .i64 AE, .int .i64 AF] 25 (0, 0))) ∧ Z (wc.heap[AG]? = some (.cells #[.int .i64 Ak, .int .i64 Al] 25 (0, 0))) ∧ Z (wc.heap[AI]? = some (.cells #[.int .i64 AT, .int .i64 AV] 25 (0, 0))) ∧ Z (Below w.heap.size w wc))
       case first => as_aux_lemma =>
        have H := D6.o
        clear D6
        by_cases c277 : Am = true
        ·subst c277
         have H1 : ((impl_TurnCell.f Ak Al).bind fun bt310 => (if bt310.2.2 = true then (if (!(bt310.1 == Aa) || (!(bt310.2.1 == Ab))) = true then (some false) else (laws_FnCells.j2 kj137 l1)) else (some false))) = some true := by rw [if_pos rfl] at H; exact H
         clear H
         have H := H1
         clear H1
         replace H := Option.bind_eq_some_iff.mp H
         obtain ⟨⟨Dm, Dn, Gr⟩, Ec, H⟩ := H
         replace H : (if Gr = true then (if (!(Dm == Aa) || (!(Dn == Ab))) = true then (some false) else (laws_FnCells.j2 kj137 l1)) else (some false)) = some true := H
         have Gx := Z.m Ec
         clear Ec
         by_cases c279 : Gr = true
         ·subst c279
          have H1 : (if (!(Dm == Aa) || (!(Dn == Ab))) = true then (some false) else (laws_FnCells.j2 kj137 l1)) = some true := by rw [if_pos rfl] at H; exact H
          clear H
          have H := H1
          clear H1
          by_cases c280 : (!(Dm == Aa) || (!(Dn == Ab))) = true
          ·(rw [if_pos c280] at H; exact absurd H (by decide))
          ·rw [if_neg c280] at H
           have Db : (!(Dm == Aa) || (!(Dn == Ab))) = false := by simpa using c280
           clear c280
           (first | rw [Db] | (simp only [i64_w, i32_w]; rw [Db]) | skip)
           have H' := Z.m H
           clear H
           have Hx := AP.o
           have JN := AA.o
           have Hy := AQ.o
           have JO := AC.o
           have Hz := B5.o
           have JP := AO.o
           have HC := AR.o
           have JQ := B8.o
           have Fe := bc0 Ad
           have Ff := bc1 Ad
           have G1 := qz Ad.o 0
           have G2 := qz Ad.o 1
           go_wp2_with (first | ((with_reducible refine gc (f := 11) rfl ?_); refine gA (some 156) _ #[.agg #[.int .i64 Ak, .int .i64 Al]] ?_ Try.func11; (with_reducible refine (impl_TurnCell.calls Ak Al Dm Dn true _ Gx.o).mono ?_); rintro e LG ⟨rfl, hb⟩; refine ⟨_, rfl, ?_⟩; replace A2 := kB A2 hb; replace A4 := kB A4 hb; replace Ac := kB Ac hb; replace Ad := kB Ad hb; replace Ae := kB Ae hb; replace HB := bB HB hb; (try clear hb); (try clear Bb); (try clear hk); (try clear hi)) | ((with_reducible refine gq (N := 22) rfl ?_); refine be (N := 22) (cs := #[.int .i64 0, .int .i64 0]) (t := 25) ?_; intro La hg LH hbox hb; have C6 := Z.m (hbox); have EH := gW (w := w) HB hg; have KN := EH; have Bg := neL A2 hg; have Cr := neG A2 hg; have Bm := neL A4 hg; have Cs := neG A4 hg; have Bs := neL Ac hg; have Ct := neG Ac hg; have By := neL Ad hg; have Cu := neG Ad hg; have BF := neL Ae hg; have Cv := neG Ae hg; replace A2 := kB A2 hb; replace A4 := kB A4 hb; replace Ac := kB Ac hb; replace Ad := kB Ad hb; replace Ae := kB Ae hb; replace HB := bB HB hb; clear hb hbox hg; have HD := Cr.o; have JR := Bg.o; have HE := Cs.o; have JS := Bm.o; have HF := Ct.o; have JT := Bs.o; have HG := Cu.o; have JU := By.o; have HH := Cv.o; have JV := BF.o; have Fg := bc0 C6; have Fh := bc1 C6; have G3 := qz C6.o 0; have G4 := qz C6.o 1; have HI := Ay.o; have JW := AK.o; have HJ := Az.o; have JX := AN.o; have HK := AB.o; have JY := AS.o; have Fi := bc0 A2; have Fj := bc1 A2; have G5 := qz A2.o 0; have G6 := qz A2.o 1))
           go_meet
           case rel => exact ⟨_, H', ⟨by have := C0.o; have := BV.o; first | omega | exact Nat.le_refl _⟩, ⟨by refine bK ?_; (iterate 2 refine qF ?_ Bg); exact A2.o⟩, ⟨by refine bK ?_; (iterate 2 refine qF ?_ Bm); exact A4.o⟩, ⟨by refine bK ?_; (iterate 2 refine qF ?_ Bs); exact Ac.o⟩, ⟨by refine bK ?_; (iterate 2 refine qF ?_ By); exact Ad.o⟩, ⟨by refine bK ?_; (iterate 2 refine qF ?_ BF); exact Ae.o⟩, ⟨vB HB⟩⟩
         ·(rw [if_neg c279] at H; exact absurd H (by decide))
        ·replace c277 := Bool.eq_false_iff.mpr c277
         subst c277
         have H1 : (laws_FnCells.j2 kj137 l1) = some true := by rw [if_neg (show ¬ (false = true) by decide)] at H; exact H
         clear H
         have H := H1
         clear H1
         have H' := Z.m H
         clear H
         go_wp2
         go_meet
         case rel => exact ⟨_, H', ⟨by have := C0.o; have := BV.o; first | omega | exact Nat.le_refl _⟩, ⟨vK A2⟩, ⟨vK A4⟩, ⟨vK Ac⟩, ⟨vK Ad⟩, ⟨vK Ae⟩, ⟨vB HB⟩⟩
       case rest => as_aux_lemma =>
        clear D6
        obtain ⟨kq, HA, D9, A2, A4, Ac, Ad, Ae, HB⟩ := hcut
        cases kq with
        | zero => exact absurd HA.o (by simp [laws_FnCells.j2])
        | succ kj275 =>
         have H := HA.o
         clear HA
         simp only [laws_FnCells.j2] at H
         replace H := Option.bind_eq_some_iff.mp H
         obtain ⟨⟨Ao, Aq, Ax⟩, Ed, H⟩ := H
         replace H : ((impl_GoesTo.f kj275 Ao Aq Ax).bind fun bt318 => ((spec_GoesTo.f kj275 Ao Aq Ax).bind fun bt320 => (if (bt318.2 != bt320.2) = true then (laws_FnCells.j3 kj275 l1 Ax bt318.2 bt320.1 true Ao Aq) else (laws_FnCells.j3 kj275 l1 Ax bt318.2 bt320.1 (bt318.1 != bt320.1) Ao Aq)))) = some true := H
         have Gy := Z.m Ed
         clear Ed
         replace H := Option.bind_eq_some_iff.mp H
         obtain ⟨⟨E4, AX⟩, Ee, H⟩ := H
         replace H : ((spec_GoesTo.f kj275 Ao Aq Ax).bind fun bt320 => (if (AX != bt320.2) = true then (laws_FnCells.j3 kj275 l1 Ax AX bt320.1 true Ao Aq) else (laws_FnCells.j3 kj275 l1 Ax AX bt320.1 (E4 != bt320.1) Ao Aq))) = some true := H
         have Gz := Z.m Ee
         clear Ee
         replace H := Option.bind_eq_some_iff.mp H
         obtain ⟨⟨An, D1⟩, Ef, H⟩ := H
         replace H : (if (AX != D1) = true then (laws_FnCells.j3 kj275 l1 Ax AX An true Ao Aq) else (laws_FnCells.j3 kj275 l1 Ax AX An (E4 != An) Ao Aq)) = some true := H
         have GA := Z.m Ef
         clear Ef
         have D7 := Z.m H
         clear H
         go_upto_region 24 with (first | ((with_reducible refine gc (f := 16) rfl ?_); refine gA (some 168) _ #[.slice A1 l1.length c1] ?_ Try.func16; (with_reducible refine (spec_DrawGoesTo.calls kj275 _ _ l1 Ao Aq Ax _ ?side1 ?side2 Gy.o).mono ?_); (case side1 => repeat (first | exact (Kd.C_below EO.o HB.o) | (with_reducible refine Kd.C_alloc ?_ _) | (with_reducible refine Kd.C_drewN ?_ _) | (with_reducible refine Kd.C_drew ?_))); (case side2 => exact EN.o); rintro e LI ⟨rfl, hb⟩; refine ⟨_, rfl, ?_⟩; replace A2 := kB A2 hb; replace A4 := kB A4 hb; replace Ac := kB Ac hb; replace Ad := kB Ad hb; replace Ae := kB Ae hb; replace HB := bB HB hb; (try clear hb); (try clear Bb); (try clear hk); (try clear hi)) | ((with_reducible refine gq (N := 24) rfl ?_); refine be (N := 24) (cs := #[.int .i64 0, .int .i64 0]) (t := 25) ?_; intro BS hg LJ hbox hb; have Ag := Z.m (hbox); have EI := gW (w := w) HB hg; have KO := EI; have B0 := neL A2 hg; have BJ := neG A2 hg; have B1 := neL A4 hg; have BK := neG A4 hg; have B4 := neL Ac hg; have BL := neG Ac hg; have B6 := neL Ad hg; have BM := neG Ad hg; have B9 := neL Ae hg; have BN := neG Ae hg; replace A2 := kB A2 hb; replace A4 := kB A4 hb; replace Ac := kB Ac hb; replace Ad := kB Ad hb; replace Ae := kB Ae hb; replace HB := bB HB hb; clear hb hbox hg; have HL := BJ.o; have JZ := B0.o; have HM := BK.o; have K0 := B1.o; have HN := BL.o; have K1 := B4.o; have HO := BM.o; have K2 := B6.o; have HP := BN.o; have K3 := B9.o; have De := bc0 Ag; have Df := bc1 Ag; have Di := qz Ag.o 0; have Dj := qz Ag.o 1) | ((with_reducible refine gc (f := 17) rfl ?_); refine gA (some 174) _ #[.agg #[.int .i64 Ao, .int .i64 Aq], .int .i64 Ax] ?_ Try.func17; (with_reducible refine (impl_GoesTo.calls kj275 Ao Aq Ax E4 AX _ Gz.o).mono ?_); rintro e LK ⟨rfl, hb⟩; refine ⟨_, rfl, ?_⟩; replace A2 := Z.m (qb (g := At) (o := .cells #[.int .i64 Aa, .int .i64 Ab] 25 (0, 0)) (by refine bK ?_; (iterate 2 refine qF ?_ B0); exact A2.o) hb); replace A4 := Z.m (qb (g := Aw) (o := .cells #[.int .i64 Ai, .int .i64 Aj] 25 (0, 0)) (by refine bK ?_; (iterate 2 refine qF ?_ B1); exact A4.o) hb); replace Ac := Z.m (qb (g := AD) (o := .cells #[.int .i64 AE, .int .i64 AF] 25 (0, 0)) (by refine bK ?_; (iterate 2 refine qF ?_ B4); exact Ac.o) hb); replace Ad := Z.m (qb (g := AG) (o := .cells #[.int .i64 Ak, .int .i64 Al] 25 (0, 0)) (by refine bK ?_; (iterate 2 refine qF ?_ B6); exact Ad.o) hb); replace Ae := Z.m (qb (g := AI) (o := .cells #[.int .i64 AT, .int .i64 AV] 25 (0, 0)) (by refine bK ?_; (iterate 2 refine qF ?_ B9); exact Ae.o) hb); replace Ag := Z.m (qb (g := BS) (o := .cells #[.int .i64 Ao, .int .i64 Aq] 25 (0, 0)) (by refine bK ?_; refine qp (cs := #[iV Ao, iV 0]) ?_ 1 _ rfl; refine bK ?_; refine qp (cs := #[iV 0, iV 0]) ?_ 0 _ rfl; refine bK ?_; exact Ag.o) hb); replace HB := bB HB hb; (try clear hb); (try clear Bb); (try clear hk); (try clear hi); have Dg := bc0 Ag; have Dh := bc1 Ag; have Dk := qz Ag.o 0; have Dl := qz Ag.o 1) | ((with_reducible refine gc (f := 18) rfl ?_); refine gA (some 180) _ #[.agg #[.int .i64 Ao, .int .i64 Aq], .int .i64 Ax] ?_ Try.func18; (with_reducible refine (spec_GoesTo.calls kj275 Ao Aq Ax An D1 _ GA.o).mono ?_); rintro e LL ⟨rfl, hb⟩; refine ⟨_, rfl, ?_⟩; replace A2 := kB A2 hb; replace A4 := kB A4 hb; replace Ac := kB Ac hb; replace Ad := kB Ad hb; replace Ae := kB Ae hb; replace Ag := kB Ag hb; replace HB := bB HB hb; (try clear hb); (try clear Bb); (try clear hk); (try clear hi)))
         (try simp only [Act.put, q1, q2, q3])
         go_cut [190] (fun v190 wc => ∃ (kq : Nat) (AZ : Bool), v190 = .bool AZ ∧ Z (laws_FnCells.j3 kq l1 Ax AX An AZ Ao Aq = some true) ∧ Z (kq ≤ kj275) ∧ Z (wc.heap[At]? = some (.cells #[.int .i64 Aa, .int .i64 Ab] 25 (0, 0))) ∧ Z (wc.heap[Aw]? = some (.cells #[.int .i64 Ai, .int .i64 Aj] 25 (0, 0))) ∧ Z (wc.heap[AD]? = some (.cells #[.int .i64 AE, .int .i64 AF] 25 (0, 0))) ∧ Z (wc.heap[AG]? = some (.cells #[.int .i64 Ak, .int .i64 Al] 25 (0, 0))) ∧ Z (wc.heap[AI]? = some (.cells #[.int .i64 AT, .int .i64 AV] 25 (0, 0))) ∧ Z (wc.heap[BS]? = some (.cells #[.int .i64 Ao, .int .i64 Aq] 25 (0, 0))) ∧ Z (Below w.heap.size w wc))
         case first => as_aux_lemma =>
          have H := D7.o
          clear D7
          by_cases c343 : (AX != D1) = true
          ·(rw [if_pos c343] at H; exact absurd H (laws_FnCells.bad_j3 _ _ _ _ _ _ _))
          ·rw [if_neg c343] at H
           have Dc : (AX != D1) = false := by simpa using c343
           (try (have GQ : decide (AX = D1) = true := by simpa using c343))
           (try (have GR : (AX == D1) = true := by simpa using c343))
           clear c343
           (first | rw [Dc] | (simp only [i64_w, i32_w]; rw [Dc]) | skip)
           have H' := Z.m H
           clear H
           go_wp2
           go_meet
           case rel => exact ⟨_, ((E4 != An)), (by first | rfl | (simp; done) | (simp [*]; done)), H', ⟨by have := C0.o; have := BV.o; have := D9.o; first | omega | exact Nat.le_refl _⟩, ⟨vK A2⟩, ⟨vK A4⟩, ⟨vK Ac⟩, ⟨vK Ad⟩, ⟨vK Ae⟩, ⟨vK Ag⟩, ⟨vB HB⟩⟩
         case rest => as_aux_lemma =>
          clear D7
          (try clear De); (try clear Df); (try clear Dg); (try clear Dh); (try clear Di); (try clear Dj); (try clear Dk); (try clear Dl)
          obtain ⟨kq, AZ, rfl, HA, Ep, A2, A4, Ac, Ad, Ae, Ag, HB⟩ := hcut
          cases kq with
          | zero => exact absurd HA.o (by simp [laws_FnCells.j3])
          | succ kj330 =>
           have H := HA.o
           clear HA
           simp only [laws_FnCells.j3] at H
           by_cases c344 : AZ = true
           ·(rw [if_pos c344] at H; exact absurd H (by decide))
           ·replace c344 := Bool.eq_false_iff.mpr c344
            subst c344
            have H1 : (if AX = true then ((impl_MirrorCell.f Ao Aq).bind fun bt322 => ((spec_MirrorCell.f Ao Aq).bind fun bt326 => ((impl_GoesTo.f kj330 bt322.1 bt322.2.1 (wrap64 (-Ax))).bind fun bt330 => (if bt322.2.2 = true then (if bt326.2.2 = true then (if (!(bt322.1 == bt326.1) || (!(bt322.2.1 == bt326.2.1))) = true then (some false) else (if bt330.2 = true then (if bt330.1 = (wrap64 (-An)) then (if An < (-1) then (some false) else (if An > 1 then (some false) else (laws_FnCells.j4 kj330 l1))) else (some false)) else (some false))) else (some false)) else (some false))))) else (laws_FnCells.j4 kj330 l1)) = some true := by rw [if_neg (show ¬ (false = true) by decide)] at H; exact H
            clear H
            have H := H1
            clear H1
            have D8 := Z.m H
            clear H
            go_upto_if 191 with (fail)
            go_cut [] (fun wc => ∃ (kq : Nat), Z (laws_FnCells.j4 kq l1 = some true) ∧ Z (kq ≤ kj330) ∧ Z (wc.heap[At]? = some (.cells #[.int .i64 Aa, .int .i64 Ab] 25 (0, 0))) ∧ Z (wc.heap[Aw]? = some (.cells #[.int .i64 Ai, .int .i64 Aj] 25 (0, 0))) ∧ Z (wc.heap[AD]? = some (.cells #[.int .i64 AE, .int .i64 AF] 25 (0, 0))) ∧ Z (wc.heap[AG]? = some (.cells #[.int .i64 Ak, .int .i64 Al] 25 (0, 0))) ∧ Z (wc.heap[AI]? = some (.cells #[.int .i64 AT, .int .i64 AV] 25 (0, 0))) ∧ Z (wc.heap[BS]? = some (.cells #[.int .i64 Ao, .int .i64 Aq] 25 (0, 0))) ∧ Z (Below w.heap.size w wc))
            case first => as_aux_lemma =>
             have H := D8.o
             clear D8
             by_cases c346 : AX = true
             ·subst c346
              have H1 : ((impl_MirrorCell.f Ao Aq).bind fun bt322 => ((spec_MirrorCell.f Ao Aq).bind fun bt326 => ((impl_GoesTo.f kj330 bt322.1 bt322.2.1 (wrap64 (-Ax))).bind fun bt330 => (if bt322.2.2 = true then (if bt326.2.2 = true then (if (!(bt322.1 == bt326.1) || (!(bt322.2.1 == bt326.2.1))) = true then (some false) else (if bt330.2 = true then (if bt330.1 = (wrap64 (-An)) then (if An < (-1) then (some false) else (if An > 1 then (some false) else (laws_FnCells.j4 kj330 l1))) else (some false)) else (some false))) else (some false)) else (some false))))) = some true := by rw [if_pos rfl] at H; exact H
              clear H
              have H := H1
              clear H1
              replace H := Option.bind_eq_some_iff.mp H
              obtain ⟨⟨AW, AY, E5⟩, Eg, H⟩ := H
              replace H : ((spec_MirrorCell.f Ao Aq).bind fun bt326 => ((impl_GoesTo.f kj330 AW AY (wrap64 (-Ax))).bind fun bt330 => (if E5 = true then (if bt326.2.2 = true then (if (!(AW == bt326.1) || (!(AY == bt326.2.1))) = true then (some false) else (if bt330.2 = true then (if bt330.1 = (wrap64 (-An)) then (if An < (-1) then (some false) else (if An > 1 then (some false) else (laws_FnCells.j4 kj330 l1))) else (some false)) else (some false))) else (some false)) else (some false)))) = some true := H
              have GB := Z.m Eg
              clear Eg
              replace H := Option.bind_eq_some_iff.mp H
              obtain ⟨⟨BT, BY, E6⟩, Eh, H⟩ := H
              replace H : ((impl_GoesTo.f kj330 AW AY (wrap64 (-Ax))).bind fun bt330 => (if E5 = true then (if E6 = true then (if (!(AW == BT) || (!(AY == BY))) = true then (some false) else (if bt330.2 = true then (if bt330.1 = (wrap64 (-An)) then (if An < (-1) then (some false) else (if An > 1 then (some false) else (laws_FnCells.j4 kj330 l1))) else (some false)) else (some false))) else (some false)) else (some false))) = some true := H
              have GC := Z.m Eh
              clear Eh
              replace H := Option.bind_eq_some_iff.mp H
              obtain ⟨⟨D2, E7⟩, Ei, H⟩ := H
              replace H : (if E5 = true then (if E6 = true then (if (!(AW == BT) || (!(AY == BY))) = true then (some false) else (if E7 = true then (if D2 = (wrap64 (-An)) then (if An < (-1) then (some false) else (if An > 1 then (some false) else (laws_FnCells.j4 kj330 l1))) else (some false)) else (some false))) else (some false)) else (some false)) = some true := H
              have GD := Z.m Ei
              clear Ei
              by_cases c350 : E5 = true
              ·subst c350
               have H1 : (if E6 = true then (if (!(AW == BT) || (!(AY == BY))) = true then (some false) else (if E7 = true then (if D2 = (wrap64 (-An)) then (if An < (-1) then (some false) else (if An > 1 then (some false) else (laws_FnCells.j4 kj330 l1))) else (some false)) else (some false))) else (some false)) = some true := by rw [if_pos rfl] at H; exact H
               clear H
               have H := H1
               clear H1
               by_cases c351 : E6 = true
               ·subst c351
                have H1 : (if (!(AW == BT) || (!(AY == BY))) = true then (some false) else (if E7 = true then (if D2 = (wrap64 (-An)) then (if An < (-1) then (some false) else (if An > 1 then (some false) else (laws_FnCells.j4 kj330 l1))) else (some false)) else (some false))) = some true := by rw [if_pos rfl] at H; exact H
                clear H
                have H := H1
                clear H1
                by_cases c352 : (!(AW == BT) || (!(AY == BY))) = true
                ·(rw [if_pos c352] at H; exact absurd H (by decide))
                ·rw [if_neg c352] at H
                 have Dd : (!(AW == BT) || (!(AY == BY))) = false := by simpa using c352
                 clear c352
                 (first | rw [Dd] | (simp only [i64_w, i32_w]; rw [Dd]) | skip)
                 by_cases c383 : E7 = true
                 ·subst c383
                  have H1 : (if D2 = (wrap64 (-An)) then (if An < (-1) then (some false) else (if An > 1 then (some false) else (laws_FnCells.j4 kj330 l1))) else (some false)) = some true := by rw [if_pos rfl] at H; exact H
                  clear H
                  have H := H1
                  clear H1
                  by_cases c384 : D2 = (wrap64 (-An))
                  ·rw [if_pos c384] at H
                   have GS := beq_iff_eq.mpr c384
                   have GT := bne_eq_false_iff_eq.mpr c384
                   clear c384
                   by_cases c385 : An < (-1)
                   ·(rw [if_pos c385] at H; exact absurd H (by decide))
                   ·rw [if_neg c385] at H
                    have GU := decide_eq_false c385
                    clear c385
                    by_cases c416 : An > 1
                    ·(rw [if_pos c416] at H; exact absurd H (by decide))
                    ·rw [if_neg c416] at H
                     have GV := decide_eq_false c416
                     clear c416
                     have H' := Z.m H
                     clear H
                     have HQ := BJ.o
                     have K4 := B0.o
                     have HR := BK.o
                     have K5 := B1.o
                     have HS := BL.o
                     have K6 := B4.o
                     have HT := BM.o
                     have K7 := B6.o
                     have HU := BN.o
                     have K8 := B9.o
                     have Fk := bc0 Ag
                     have Fl := bc1 Ag
                     have G7 := qz Ag.o 0
                     have G8 := qz Ag.o 1
                     go_wp2_with (first | ((with_reducible refine gc (f := 9) rfl ?_); refine gA (some 194) _ #[.agg #[.int .i64 Ao, .int .i64 Aq]] ?_ Try.func9; (with_reducible refine (impl_MirrorCell.calls Ao Aq AW AY true _ GB.o).mono ?_); rintro e LM ⟨rfl, hb⟩; refine ⟨_, rfl, ?_⟩; replace A2 := kB A2 hb; replace A4 := kB A4 hb; replace Ac := kB Ac hb; replace Ad := kB Ad hb; replace Ae := kB Ae hb; replace Ag := kB Ag hb; replace HB := bB HB hb; (try clear hb); (try clear Bb); (try clear hk); (try clear hi)) | ((with_reducible refine gq (N := 30) rfl ?_); refine be (N := 30) (cs := #[.int .i64 0, .int .i64 0]) (t := 25) ?_; intro Es hg LN hbox hb; have Ap := Z.m (hbox); have EJ := gW (w := w) HB hg; have KP := EJ; have Bh := neL A2 hg; have Cx := neG A2 hg; have Bn := neL A4 hg; have Cy := neG A4 hg; have Bt := neL Ac hg; have Cz := neG Ac hg; have Bz := neL Ad hg; have CA := neG Ad hg; have BG := neL Ae hg; have CB := neG Ae hg; have BO := neL Ag hg; have CC := neG Ag hg; replace A2 := kB A2 hb; replace A4 := kB A4 hb; replace Ac := kB Ac hb; replace Ad := kB Ad hb; replace Ae := kB Ae hb; replace Ag := kB Ag hb; replace HB := bB HB hb; clear hb hbox hg; have HV := Cx.o; have K9 := Bh.o; have HW := Cy.o; have Ka := Bn.o; have HX := Cz.o; have Kb := Bt.o; have HY := CA.o; have Kc := Bz.o; have HZ := CB.o; have Ke := BG.o; have J0 := CC.o; have Kf := BO.o; have Fm := bc0 Ap; have Fn := bc1 Ap; have G9 := qz Ap.o 0; have Ga := qz Ap.o 1; have Fo := bc0 Ag; have Fp := bc1 Ag; have Gb := qz Ag.o 0; have Gc := qz Ag.o 1) | ((with_reducible refine gc (f := 10) rfl ?_); refine gA (some 199) _ #[.agg #[.int .i64 Ao, .int .i64 Aq]] ?_ Try.func10; (with_reducible refine (spec_MirrorCell.calls Ao Aq BT BY true _ GC.o).mono ?_); rintro e LO ⟨rfl, hb⟩; refine ⟨_, rfl, ?_⟩; replace A2 := Z.m (qb (g := At) (o := .cells #[.int .i64 Aa, .int .i64 Ab] 25 (0, 0)) (by refine bK ?_; (iterate 2 refine qF ?_ Bh); exact A2.o) hb); replace A4 := Z.m (qb (g := Aw) (o := .cells #[.int .i64 Ai, .int .i64 Aj] 25 (0, 0)) (by refine bK ?_; (iterate 2 refine qF ?_ Bn); exact A4.o) hb); replace Ac := Z.m (qb (g := AD) (o := .cells #[.int .i64 AE, .int .i64 AF] 25 (0, 0)) (by refine bK ?_; (iterate 2 refine qF ?_ Bt); exact Ac.o) hb); replace Ad := Z.m (qb (g := AG) (o := .cells #[.int .i64 Ak, .int .i64 Al] 25 (0, 0)) (by refine bK ?_; (iterate 2 refine qF ?_ Bz); exact Ad.o) hb); replace Ae := Z.m (qb (g := AI) (o := .cells #[.int .i64 AT, .int .i64 AV] 25 (0, 0)) (by refine bK ?_; (iterate 2 refine qF ?_ BG); exact Ae.o) hb); replace Ag := Z.m (qb (g := BS) (o := .cells #[.int .i64 Ao, .int .i64 Aq] 25 (0, 0)) (by refine bK ?_; (iterate 2 refine qF ?_ BO); exact Ag.o) hb); replace Ap := Z.m (qb (g := Es) (o := .cells #[.int .i64 AW, .int .i64 AY] 25 (0, 0)) (by refine bK ?_; refine qp (cs := #[iV AW, iV 0]) ?_ 1 _ rfl; refine bK ?_; refine qp (cs := #[iV 0, iV 0]) ?_ 0 _ rfl; refine bK ?_; exact Ap.o) hb); replace HB := bB HB hb; (try clear hb); (try clear Bb); (try clear hk); (try clear hi)) | ((with_reducible refine gq (N := 32) rfl ?_); refine be (N := 32) (cs := #[.int .i64 0, .int .i64 0]) (t := 25) ?_; intro EQ hg LP hbox hb; have AU := Z.m (hbox); have EK := gW (w := w) HB hg; have KQ := EK; have Bi := neL A2 hg; have CD := neG A2 hg; have Bo := neL A4 hg; have CE := neG A4 hg; have Bu := neL Ac hg; have CF := neG Ac hg; have BA := neL Ad hg; have CG := neG Ad hg; have BH := neL Ae hg; have CH := neG Ae hg; have BP := neL Ag hg; have CI := neG Ag hg; have BR := neL Ap hg; have CJ := neG Ap hg; replace A2 := kB A2 hb; replace A4 := kB A4 hb; replace Ac := kB Ac hb; replace Ad := kB Ad hb; replace Ae := kB Ae hb; replace Ag := kB Ag hb; replace Ap := kB Ap hb; replace HB := bB HB hb; clear hb hbox hg; have J1 := CD.o; have Kg := Bi.o; have J2 := CE.o; have Kh := Bo.o; have J3 := CF.o; have Ki := Bu.o; have J4 := CG.o; have Kj := BA.o; have J5 := CH.o; have Kk := BH.o; have J6 := CI.o; have Kl := BP.o; have J7 := CJ.o; have Km := BR.o; have Fq := bc0 AU; have Fr := bc1 AU; have Gd := qz AU.o 0; have Ge := qz AU.o 1; have Fs := bc0 Ap; have Ft := bc1 Ap; have Gf := qz Ap.o 0; have Gg := qz Ap.o 1) | ((with_reducible refine gc (f := 17) rfl ?_); refine gA (some 206) _ #[.agg #[.int .i64 AW, .int .i64 AY], .int .i64 (wrap64 (-Ax))] ?_ Try.func17; (with_reducible refine (impl_GoesTo.calls kj330 AW AY (wrap64 (-Ax)) D2 true _ GD.o).mono ?_); rintro e LQ ⟨rfl, hb⟩; refine ⟨_, rfl, ?_⟩; replace A2 := Z.m (qb (g := At) (o := .cells #[.int .i64 Aa, .int .i64 Ab] 25 (0, 0)) (by refine bK ?_; (iterate 2 refine qF ?_ Bi); exact A2.o) hb); replace A4 := Z.m (qb (g := Aw) (o := .cells #[.int .i64 Ai, .int .i64 Aj] 25 (0, 0)) (by refine bK ?_; (iterate 2 refine qF ?_ Bo); exact A4.o) hb); replace Ac := Z.m (qb (g := AD) (o := .cells #[.int .i64 AE, .int .i64 AF] 25 (0, 0)) (by refine bK ?_; (iterate 2 refine qF ?_ Bu); exact Ac.o) hb); replace Ad := Z.m (qb (g := AG) (o := .cells #[.int .i64 Ak, .int .i64 Al] 25 (0, 0)) (by refine bK ?_; (iterate 2 refine qF ?_ BA); exact Ad.o) hb); replace Ae := Z.m (qb (g := AI) (o := .cells #[.int .i64 AT, .int .i64 AV] 25 (0, 0)) (by refine bK ?_; (iterate 2 refine qF ?_ BH); exact Ae.o) hb); replace Ag := Z.m (qb (g := BS) (o := .cells #[.int .i64 Ao, .int .i64 Aq] 25 (0, 0)) (by refine bK ?_; (iterate 2 refine qF ?_ BP); exact Ag.o) hb); replace Ap := Z.m (qb (g := Es) (o := .cells #[.int .i64 AW, .int .i64 AY] 25 (0, 0)) (by refine bK ?_; (iterate 2 refine qF ?_ BR); exact Ap.o) hb); replace AU := Z.m (qb (g := EQ) (o := .cells #[.int .i64 BT, .int .i64 BY] 25 (0, 0)) (by refine bK ?_; refine qp (cs := #[iV BT, iV 0]) ?_ 1 _ rfl; refine bK ?_; refine qp (cs := #[iV 0, iV 0]) ?_ 0 _ rfl; refine bK ?_; exact AU.o) hb); replace HB := bB HB hb; (try clear hb); (try clear Bb); (try clear hk); (try clear hi); have Fu := bc0 Ap; have Fv := bc1 Ap; have Gh := qz Ap.o 0; have Gi := qz Ap.o 1; have Fw := bc0 AU; have Fx := bc1 AU; have Gj := qz AU.o 0; have Gk := qz AU.o 1))
                     go_meet
                     case rel => exact ⟨_, H', ⟨by have := C0.o; have := BV.o; have := D9.o; have := Ep.o; first | omega | exact Nat.le_refl _⟩, ⟨vK A2⟩, ⟨vK A4⟩, ⟨vK Ac⟩, ⟨vK Ad⟩, ⟨vK Ae⟩, ⟨vK Ag⟩, ⟨vB HB⟩⟩
                  ·(rw [if_neg c384] at H; exact absurd H (by decide))
                 ·(rw [if_neg c383] at H; exact absurd H (by decide))
               ·(rw [if_neg c351] at H; exact absurd H (by decide))
              ·(rw [if_neg c350] at H; exact absurd H (by decide))
             ·replace c346 := Bool.eq_false_iff.mpr c346
              subst c346
              have H1 : (laws_FnCells.j4 kj330 l1) = some true := by rw [if_neg (show ¬ (false = true) by decide)] at H; exact H
              clear H
              have H := H1
              clear H1
              have H' := Z.m H
              clear H
              go_wp2
              go_meet
              case rel => exact ⟨_, H', ⟨by have := C0.o; have := BV.o; have := D9.o; have := Ep.o; first | omega | exact Nat.le_refl _⟩, ⟨vK A2⟩, ⟨vK A4⟩, ⟨vK Ac⟩, ⟨vK Ad⟩, ⟨vK Ae⟩, ⟨vK Ag⟩, ⟨vB HB⟩⟩
            case rest => as_aux_lemma =>
             clear D8
             (try clear c344)
             obtain ⟨kq, HA, KT, A2, A4, Ac, Ad, Ae, Ag, HB⟩ := hcut
             cases kq with
             | zero => exact absurd HA.o (by simp [laws_FnCells.j4])
             | succ kj344 =>
              have H := HA.o
              clear HA
              simp only [laws_FnCells.j4] at H
              replace H := Option.bind_eq_some_iff.mp H
              obtain ⟨BZ, Ej, H⟩ := H
              replace H : ((impl_KindName.f BZ).bind fun bt333 => ((spec_KindName.f BZ).bind fun bt335 => ((spec_DrawReadCell.f l1).bind fun AJ => ((impl_ReadCell.f kj344 AJ).bind fun bt338 => ((spec_ReadCell.f kj344 AJ).bind fun bt342 => (if (bt333.2 == bt335.2) = true then (if bt333.1.toList = bt335.1.toList then (if (bt338.2.2 == bt342.2.2) = true then (some (bt338.1 == bt342.1 && (bt338.2.1 == bt342.2.1))) else (some false)) else (some false)) else (some false))))))) = some true := H
              have GE := Z.m Ej
              clear Ej
              replace H := Option.bind_eq_some_iff.mp H
              obtain ⟨⟨C3, Bd⟩, Ek, H⟩ := H
              replace H : ((spec_KindName.f BZ).bind fun bt335 => ((spec_DrawReadCell.f l1).bind fun AJ => ((impl_ReadCell.f kj344 AJ).bind fun bt338 => ((spec_ReadCell.f kj344 AJ).bind fun bt342 => (if (Bd == bt335.2) = true then (if C3.toList = bt335.1.toList then (if (bt338.2.2 == bt342.2.2) = true then (some (bt338.1 == bt342.1 && (bt338.2.1 == bt342.2.1))) else (some false)) else (some false)) else (some false)))))) = some true := H
              have GF := Z.m Ek
              clear Ek
              replace H := Option.bind_eq_some_iff.mp H
              obtain ⟨⟨D3, BU⟩, El, H⟩ := H
              replace H : ((spec_DrawReadCell.f l1).bind fun AJ => ((impl_ReadCell.f kj344 AJ).bind fun bt338 => ((spec_ReadCell.f kj344 AJ).bind fun bt342 => (if (Bd == BU) = true then (if C3.toList = D3.toList then (if (bt338.2.2 == bt342.2.2) = true then (some (bt338.1 == bt342.1 && (bt338.2.1 == bt342.2.1))) else (some false)) else (some false)) else (some false))))) = some true := H
              have GG := Z.m El
              clear El
              replace H := Option.bind_eq_some_iff.mp H
              obtain ⟨AJ, Em, H⟩ := H
              replace H : ((impl_ReadCell.f kj344 AJ).bind fun bt338 => ((spec_ReadCell.f kj344 AJ).bind fun bt342 => (if (Bd == BU) = true then (if C3.toList = D3.toList then (if (bt338.2.2 == bt342.2.2) = true then (some (bt338.1 == bt342.1 && (bt338.2.1 == bt342.2.1))) else (some false)) else (some false)) else (some false)))) = some true := H
              have GH := Z.m Em
              clear Em
              replace H := Option.bind_eq_some_iff.mp H
              obtain ⟨⟨Do, E8, C4⟩, En, H⟩ := H
              replace H : ((spec_ReadCell.f kj344 AJ).bind fun bt342 => (if (Bd == BU) = true then (if C3.toList = D3.toList then (if (C4 == bt342.2.2) = true then (some (Do == bt342.1 && (E8 == bt342.2.1))) else (some false)) else (some false)) else (some false))) = some true := H
              have GI := Z.m En
              clear En
              replace H := Option.bind_eq_some_iff.mp H
              obtain ⟨⟨Gs, Gt, D4⟩, Eo, H⟩ := H
              replace H : (if (Bd == BU) = true then (if C3.toList = D3.toList then (if (C4 == D4) = true then (some (Do == Gs && (E8 == Gt))) else (some false)) else (some false)) else (some false)) = some true := H
              have GJ := Z.m Eo
              clear Eo
              by_cases c599 : (Bd == BU) = true
              ·rw [if_pos c599] at H
               have GW : (Bd == BU) = true := c599
               (try (have GX : decide (Bd = BU) = true := by simpa using c599))
               (try (have GY : (Bd == BU) = true := by simpa using c599))
               clear c599
               by_cases c600 : C3.toList = D3.toList
               ·rw [if_pos c600] at H
                have GZ := beq_iff_eq.mpr c600
                have H0 := bne_eq_false_iff_eq.mpr c600
                clear c600
                by_cases c601 : (C4 == D4) = true
                ·rw [if_pos c601] at H
                 have H2 : (C4 == D4) = true := c601
                 (try (have H3 : decide (C4 = D4) = true := by simpa using c601))
                 (try (have H4 : (C4 == D4) = true := by simpa using c601))
                 clear c601
                 have HR_ := Z.m (Option.some.inj H)
                 clear H
                 go_wp2_with (first | ((with_reducible refine gc (f := 19) rfl ?_); refine gA (some 239) _ #[.slice A1 l1.length c1] ?_ Try.func19; (with_reducible refine (spec_DrawKindName.calls _ _ l1 BZ _ ?side1 ?side2 GE.o).mono ?_); (case side1 => repeat (first | exact (Kd.C_below EO.o HB.o) | (with_reducible refine Kd.C_alloc ?_ _) | (with_reducible refine Kd.C_drewN ?_ _) | (with_reducible refine Kd.C_drew ?_))); (case side2 => exact EN.o); rintro e LR ⟨rfl, hb⟩; refine ⟨_, rfl, ?_⟩; replace A2 := kB A2 hb; replace A4 := kB A4 hb; replace Ac := kB Ac hb; replace Ad := kB Ad hb; replace Ae := kB Ae hb; replace Ag := kB Ag hb; replace HB := bB HB hb; (try clear hb); (try clear Bb); (try clear hk); (try clear hi)) | ((with_reducible refine gc (f := 20) rfl ?_); refine gA (some 242) _ #[.int .i64 BZ] ?_ Try.func20; (with_reducible refine (impl_KindName.calls BZ C3 Bd _ GF.o).mono ?_); rintro e LS ⟨rfl, hb⟩; refine ⟨_, rfl, ?_⟩; replace A2 := kB A2 hb; replace A4 := kB A4 hb; replace Ac := kB Ac hb; replace Ad := kB Ad hb; replace Ae := kB Ae hb; replace Ag := kB Ag hb; replace HB := bB HB hb; (try clear hb); (try clear Bb); (try clear hk); (try clear hi)) | ((with_reducible refine gc (f := 21) rfl ?_); refine gA (some 247) _ #[.int .i64 BZ] ?_ Try.func21; (with_reducible refine (spec_KindName.calls BZ D3 BU _ GG.o).mono ?_); rintro e LT ⟨rfl, hb⟩; refine ⟨_, rfl, ?_⟩; replace A2 := kB A2 hb; replace A4 := kB A4 hb; replace Ac := kB Ac hb; replace Ad := kB Ad hb; replace Ae := kB Ae hb; replace Ag := kB Ag hb; replace HB := bB HB hb; (try clear hb); (try clear Bb); (try clear hk); (try clear hi)) | ((with_reducible refine gc (f := 22) rfl ?_); refine gA (some 251) _ #[.slice A1 l1.length c1] ?_ Try.func22; (with_reducible refine (spec_DrawReadCell.calls _ _ l1 AJ _ ?side1 ?side2 GH.o).mono ?_); (case side1 => repeat (first | exact (Kd.C_below EO.o HB.o) | (with_reducible refine Kd.C_alloc ?_ _) | (with_reducible refine Kd.C_drewN ?_ _) | (with_reducible refine Kd.C_drew ?_))); (case side2 => exact EN.o); rintro e LU ⟨rfl, hb⟩; refine ⟨_, rfl, ?_⟩; replace A2 := kB A2 hb; replace A4 := kB A4 hb; replace Ac := kB Ac hb; replace Ad := kB Ad hb; replace Ae := kB Ae hb; replace Ag := kB Ag hb; replace HB := bB HB hb; (try clear hb); (try clear Bb); (try clear hk); (try clear hi)) | ((with_reducible refine gc (f := 15) rfl ?_); refine gA (some 254) _ #[.string AJ] ?_ Try.func15; (with_reducible refine (impl_ReadCell.calls kj344 AJ Do E8 C4 _ GI.o).mono ?_); rintro e LV ⟨rfl, hb⟩; refine ⟨_, rfl, ?_⟩; replace A2 := kB A2 hb; replace A4 := kB A4 hb; replace Ac := kB Ac hb; replace Ad := kB Ad hb; replace Ae := kB Ae hb; replace Ag := kB Ag hb; replace HB := bB HB hb; (try clear hb); (try clear Bb); (try clear hk); (try clear hi)) | ((with_reducible refine gq (N := 42) rfl ?_); refine be (N := 42) (cs := #[.int .i64 0, .int .i64 0]) (t := 25) ?_; intro ER hg LW hbox hb; have Av := Z.m (hbox); have EL := gW (w := w) HB hg; have KR := EL; have Bj := neL A2 hg; have CK := neG A2 hg; have Bp := neL A4 hg; have CL := neG A4 hg; have Bv := neL Ac hg; have CM := neG Ac hg; have BB := neL Ad hg; have CN := neG Ad hg; have BI := neL Ae hg; have CO := neG Ae hg; have BQ := neL Ag hg; have CP := neG Ag hg; replace A2 := kB A2 hb; replace A4 := kB A4 hb; replace Ac := kB Ac hb; replace Ad := kB Ad hb; replace Ae := kB Ae hb; replace Ag := kB Ag hb; replace HB := bB HB hb; clear hb hbox hg; have J8 := CK.o; have Kn := Bj.o; have J9 := CL.o; have Ko := Bp.o; have Ja := CM.o; have Kp := Bv.o; have Jb := CN.o; have Kq := BB.o; have Jc := CO.o; have Kr := BI.o; have Jd := CP.o; have Ks := BQ.o; have Fy := bc0 Av; have Fz := bc1 Av; have Gl := qz Av.o 0; have Gm := qz Av.o 1) | ((with_reducible refine gc (f := 23) rfl ?_); refine gA (some 259) _ #[.string AJ] ?_ Try.func23; (with_reducible refine (spec_ReadCell.calls kj344 AJ Gs Gt D4 _ GJ.o).mono ?_); rintro e LX ⟨rfl, hb⟩; refine ⟨_, rfl, ?_⟩; replace A2 := Z.m (qb (g := At) (o := .cells #[.int .i64 Aa, .int .i64 Ab] 25 (0, 0)) (by refine bK ?_; (iterate 2 refine qF ?_ Bj); exact A2.o) hb); replace A4 := Z.m (qb (g := Aw) (o := .cells #[.int .i64 Ai, .int .i64 Aj] 25 (0, 0)) (by refine bK ?_; (iterate 2 refine qF ?_ Bp); exact A4.o) hb); replace Ac := Z.m (qb (g := AD) (o := .cells #[.int .i64 AE, .int .i64 AF] 25 (0, 0)) (by refine bK ?_; (iterate 2 refine qF ?_ Bv); exact Ac.o) hb); replace Ad := Z.m (qb (g := AG) (o := .cells #[.int .i64 Ak, .int .i64 Al] 25 (0, 0)) (by refine bK ?_; (iterate 2 refine qF ?_ BB); exact Ad.o) hb); replace Ae := Z.m (qb (g := AI) (o := .cells #[.int .i64 AT, .int .i64 AV] 25 (0, 0)) (by refine bK ?_; (iterate 2 refine qF ?_ BI); exact Ae.o) hb); replace Ag := Z.m (qb (g := BS) (o := .cells #[.int .i64 Ao, .int .i64 Aq] 25 (0, 0)) (by refine bK ?_; (iterate 2 refine qF ?_ BQ); exact Ag.o) hb); replace Av := Z.m (qb (g := ER) (o := .cells #[.int .i64 Do, .int .i64 E8] 25 (0, 0)) (by refine bK ?_; refine qp (cs := #[iV Do, iV 0]) ?_ 1 _ rfl; refine bK ?_; refine qp (cs := #[iV 0, iV 0]) ?_ 0 _ rfl; refine bK ?_; exact Av.o) hb); replace HB := bB HB hb; (try clear hb); (try clear Bb); (try clear hk); (try clear hi)) | ((with_reducible refine gq (N := 44) rfl ?_); refine be (N := 44) (cs := #[.int .i64 0, .int .i64 0]) (t := 25) ?_; intro Lb hg LY hbox hb; have C7 := Z.m (hbox); have EM := gW (w := w) HB hg; have KS := EM; have C8 := neL A2 hg; have CR := neG A2 hg; have C9 := neL A4 hg; have CS := neG A4 hg; have Ca := neL Ac hg; have CT := neG Ac hg; have Cb := neL Ad hg; have CU := neG Ad hg; have Cd := neL Ae hg; have CV := neG Ae hg; have Cw := neL Ag hg; have CW := neG Ag hg; have CQ := neL Av hg; have CX := neG Av hg; replace A2 := kB A2 hb; replace A4 := kB A4 hb; replace Ac := kB Ac hb; replace Ad := kB Ad hb; replace Ae := kB Ae hb; replace Ag := kB Ag hb; replace Av := kB Av hb; replace HB := bB HB hb; clear hb hbox hg; have Je := CR.o; have Kt := C8.o; have Jf := CS.o; have Ku := C9.o; have Jg := CT.o; have Kv := Ca.o; have Jh := CU.o; have Kw := Cb.o; have Ji := CV.o; have Kx := Cd.o; have Jj := CW.o; have Ky := Cw.o; have Jk := CX.o; have Kz := CQ.o; have FA := bc0 C7; have FB := bc1 C7; have Gn := qz C7.o 0; have Go := qz C7.o 1; have FC := bc0 Av; have FD := bc1 Av; have Gp := qz Av.o 0; have Gq := qz Av.o 1))
                 go_ret
                 exact ⟨by first | exact congrArg (fun b_ => Ending.returned (Value.bool b_)) HR_.o | rfl | (simp [eN, eS] <;> rfl) | (simp [*, eN, eS] <;> rfl), vB HB⟩
                ·(rw [if_neg c601] at H; exact absurd H (by decide))
               ·(rw [if_neg c600] at H; exact absurd H (by decide))
              ·(rw [if_neg c599] at H; exact absurd H (by decide))
/-- THE ONE PURE STATEMENT of laws_FnCells: yours. -/
def laws_FnCells.Pure : Prop := ∀ (l0 : List Int) (l1 : List Int), l0.length ≤ maxLen → l0.length * 1 ≤ 140737488351232 → (∀ x ∈ l0, (Lit.int .u8 x).wf = true) → l1.length ≤ maxLen → l1.length * 1 ≤ 140737488351232 → (∀ x ∈ l1, (Lit.int .u8 x).wf = true) → ∃ k, laws_FnCells.f k l0 l1 = some true
theorem laws_FnCells.walk (P : laws_FnCells.Pure) (a0 : Option Addr) (len0 cap0 : Nat) (z0 : List Int) (a1 : Option Addr) (len1 cap1 : Nat) (z1 : List Int) (w : World) (w0 : (a0 = none ∧ len0 = 0 ∧ cap0 = 0 ∧ z0 = []) ∨ ∃ x, a0 = some x ∧ len0 ≤ cap0 ∧ cap0 ≤ maxLen ∧ z0.length = cap0 ∧ (∀ i, i < z0.length → w.cell? (x.add i) = some (.int .u8 (z0.getD i 0))) ∧ ∀ n ∈ z0, (Lit.int .u8 n).wf = true) (y0 : len0 * 1 ≤ 140737488351232) (w1 : (a1 = none ∧ len1 = 0 ∧ cap1 = 0 ∧ z1 = []) ∨ ∃ x, a1 = some x ∧ len1 ≤ cap1 ∧ cap1 ≤ maxLen ∧ z1.length = cap1 ∧ (∀ i, i < z1.length → w.cell? (x.add i) = some (.int .u8 (z1.getD i 0))) ∧ ∀ n ∈ z1, (Lit.int .u8 n).wf = true) (y1 : len1 * 1 ≤ 140737488351232) :
 Calls Try.prog 3 #[.slice a0 len0 cap0, .slice a1 len1 cap1] w fun e w' => e = .returned (.bool true) ∧ Below w.heap.size w w' := by
 obtain ⟨l0, rfl, hr0, hm0, hw0, hc0⟩ := ReadsInt.ofRowC w0
 obtain ⟨l1, rfl, hr1, hm1, hw1, hc1⟩ := ReadsInt.ofRowC w1
 obtain ⟨k, h⟩ := P l0 l1 hm0 y0 hw0 hm1 y1 hw1
 refine (laws_FnCells.calls k _ _ l0 _ _ l1 w (Kd.C_of_reads (d := (0 : Int)) (h1 := fun _ => rfl) hr0) hc0 (Kd.C_of_reads (d := (0 : Int)) (h1 := fun _ => rfl) hr1) hc1 h).mono ?_
 rintro e w' ⟨rfl, hd⟩
 exact ⟨rfl, hd⟩

end Go.Proofs.Ytklmdnlambinaaa.PAll
