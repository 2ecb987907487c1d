/- Began as a text that print.sh wrote (of the functions named below); turned and shortened by this session. -/
import Derived.Test.YtklmdnlambinaaaG0
import Derived.Test.YtklmdnlambinaaaG1
import Derived.Test.YtklmdnlambinaaaG4
import Derived.Test.YtklmdnlambinaaaG6
import Derived.Test.YtklmdnlambinaaaG14
import Derived.Test.YtklmdnlambinaaaG15
import Derived.Test.YtklmdnlambinaaaG16
import Derived.Test.YtklmdnlambinaaaG17
import Derived.Test.YtklmdnlambinaaaG19
namespace Go.Proofs.Ytklmdnlambinaaa.PAll
open Go.RowKit Go.Proofs.YtklmdnlambinaaaW.PrintWords Go.Proofs.YtklmdnlambinaaaW.PrintLast Go.Proofs.YtklmdnlambinaaaW.PrintMore
attribute [local go_sem] max2_int min2_int max_two min_two max_three min_three max_four min_four   -- for this text's walks alone
set_option linter.unusedVariables false
set_option linter.unusedSimpArgs false

/-! ### laws_FnCellLists: function 4 -/
mutual
def laws_FnCellLists.j0 : Nat → List Int → List (S25) → ByteArray → Bool → ByteArray → List Int → Bool → Option (Bool)
 | 0, _, _, _, _, _, _, _ => none
 | k + 1, x1, x5, x6, x7, x8, x12, x74 => if x74 = true then (some false) else (if x7 = true then ((impl_ReadCells.f k x6).bind fun bt507 => (if bt507.2 = true then ((laws_pSameCells.f k bt507.1 x5).bind fun t511 => (if t511 = true then (if (x8.size : Int) = (x5.length : Int) then (if (x12.length : Int) = 8 then ((laws_pSum.f k x12).bind fun t512 => (laws_FnCellLists.j1 k x1 x5 x8 x12 (t512 != (x5.length : Int)))) else (laws_FnCellLists.j1 k x1 x5 x8 x12 true)) else (laws_FnCellLists.j1 k x1 x5 x8 x12 true)) else (laws_FnCellLists.j1 k x1 x5 x8 x12 true))) else (laws_FnCellLists.j1 k x1 x5 x8 x12 true))) else (laws_FnCellLists.j3 k x1))
def laws_FnCellLists.j3 : Nat → List Int → Option (Bool)
 | 0, _ => none
 | k + 1, x1 => (spec_DrawReadCells.f k x1).bind fun t518 => ((impl_ReadCells.f k t518).bind fun bt519 => ((spec_ReadCells.f k t518).bind fun bt523 => ((spec_DrawIsTurning.f k x1).bind fun bt527 => (if (bt519.2 == bt523.2) = true then ((laws_pSameCells.f k bt519.1 bt523.1).bind fun t530 => (if t530 = true then ((impl_IsTurning.f bt527.1 bt527.2).bind fun t531 => ((spec_IsTurning.f bt527.1 bt527.2).bind fun t532 => (some (t531 == t532)))) else (some false))) else (some false)))))
def laws_FnCellLists.j1 : Nat → List Int → List (S25) → ByteArray → List Int → Bool → Option (Bool)
 | 0, _, _, _, _, _ => none
 | k + 1, x1, x5, x8, x12, x107 => if x107 = true then (some false) else (laws_FnCellLists.l0 k x1 x8 x12 x5 (x5.length : Int) 0)
def laws_FnCellLists.l0 : Nat → List Int → ByteArray → List Int → List (S25) → Int → Int → Option (Bool)
 | 0, _, _, _, _, _, _ => none
 | k + 1, x1, x8, x12, x108, x109, x110 => if x110 < x109 then (if 0 ≤ x110 then (if x110 < (x108.length : Int) then ((impl_CellLetter.f ((rd_T25 x108 x110).f0) ((rd_T25 x108 x110).f1)).bind fun bt515 => (if bt515.2 = true then (if x110 ≤ (wrap64 (x110 + 1)) then (if (wrap64 (x110 + 1)) ≤ (x8.size : Int) then (if bt515.1.toList = (x8.extract (x110 : Int).toNat ((wrap64 (x110 + 1)) : Int).toNat).toList then (if 0 ≤ ((rd_T25 x108 x110).f0) then (if ((rd_T25 x108 x110).f0) < (x12.length : Int) then (if (rd x12 ((rd_T25 x108 x110).f0)) < 1 then (some false) else (laws_FnCellLists.l0 k x1 x8 x12 x108 x109 (wrap64 (x110 + 1)))) else (none)) else (none)) else (some false)) else (none)) else (none)) else (some false))) else (none)) else (none)) else (laws_FnCellLists.j3 k x1)
end
def laws_FnCellLists.f (k : Nat) (l0 : List Int) (l1 : List Int) : Option (Bool) := (laws_big.f l0 l1).bind fun t490 => (if t490 = true then (some true) else ((spec_DrawCellsText.f k l0).bind fun t491 => ((impl_CellsText.f k t491).bind fun bt494 => ((spec_CellsText.f k t491).bind fun bt496 => ((impl_CountKinds.f k t491).bind fun bt498 => ((spec_CountKinds.f k t491).bind fun bt502 => (if (bt494.2 != bt496.2) = true then (laws_FnCellLists.j0 k l1 t491 bt494.1 bt494.2 bt496.1 bt502.1 true) else (if bt494.1.toList = bt496.1.toList then (if (bt498.2 != bt502.2) = true then (laws_FnCellLists.j0 k l1 t491 bt494.1 bt494.2 bt496.1 bt502.1 true) else ((laws_sameInts.f k bt498.1 bt502.1).bind fun t506 => (if t506 = true then (laws_FnCellLists.j0 k l1 t491 bt494.1 bt494.2 bt496.1 bt502.1 (bt498.2 != bt494.2)) else (laws_FnCellLists.j0 k l1 t491 bt494.1 bt494.2 bt496.1 bt502.1 true)))) else (laws_FnCellLists.j0 k l1 t491 bt494.1 bt494.2 bt496.1 bt502.1 true)))))))))
def laws_FnCellLists.T25 : Bool × List (List Nat × List Nat) := (true, [([], []), ([], []), ([0, 1], [0, 1]), ([2], [2]), ([3], [3]), ([3], [3]), ([4, 5, 3, 3], [3, 4, 5]), ([3, 6], [3, 6]), ([7, 6], [7]), ([8], [8]), ([9, 8, 8], [8, 9]), ([8], [8]), ([11, 10, 8], [8, 11]), ([10, 12, 8], [8, 10, 12]), ([8, 13], [8, 13]), ([14, 12, 0, 1, 2, 3, 4, 5, 6, 7, 8, 9, 10, 11, 12, 13, 14], [14])])
def laws_FnCellLists.B25 : List Nat := [0, 0, 3, 7, 15, 15, 63, 127, 255, 511, 1023, 511, 4095, 8191, 16383, 32767]
theorem laws_FnCellLists.tab25 : rtab .any (opsOf Try.f4 25) = laws_FnCellLists.T25 := by kernel_rfl
theorem laws_FnCellLists.bits25 : waitsOk laws_FnCellLists.T25.2 laws_FnCellLists.B25 = true := by kernel_rfl
theorem laws_FnCellLists.bad_j0 (k : Nat) (y0 : List Int) (y1 : List (S25)) (y2 : ByteArray) (y3 : Bool) (y4 : ByteArray) (y5 : List Int) : ¬ laws_FnCellLists.j0 k y0 y1 y2 y3 y4 y5 true = some true := by
 cases k <;> simp [laws_FnCellLists.j0]
theorem laws_FnCellLists.bad_j1 (k : Nat) (y0 : List Int) (y1 : List (S25)) (y2 : ByteArray) (y3 : List Int) : ¬ laws_FnCellLists.j1 k y0 y1 y2 y3 true = some true := by
 cases k <;> simp [laws_FnCellLists.j1]
set_option maxHeartbeats 8000000 in
set_option maxRecDepth 100000 in
theorem laws_FnCellLists.calls (k : Nat) (A0 : Option Addr) (c0 : Nat) (l0 : List Int) (A1 : Option Addr) (c1 : Nat) (l1 : List Int) (w : World) (hr0 : Kd.C (Kd.int .u8) w A0 l0.length l0) (hc0 : l0.length ≤ c0) (hr1 : Kd.C (Kd.int .u8) w A1 l1.length l1) (hc1 : l1.length ≤ c1) (h : laws_FnCellLists.f k l0 l1 = some true) :
 Calls Try.prog 4 #[.slice A0 l0.length c0, .slice A1 l1.length c1] w fun e w' => e = .returned (.bool true) ∧ Below w.heap.size w w' := by
 have CN := Try.underlying25
 have BH := Z.m hr0
 have BF := Z.m hc0
 clear hr0 hc0
 have Bn := Z.m hr1
 have Bm := Z.m hc1
 clear hr1 hc1
 have HB := Z.m (Below.refl w.heap.size w)
 have H : ((laws_big.f l0 l1).bind fun AN => (if AN = true then (some true) else ((spec_DrawCellsText.f k l0).bind fun A2 => ((impl_CellsText.f k A2).bind fun bt494 => ((spec_CellsText.f k A2).bind fun bt496 => ((impl_CountKinds.f k A2).bind fun bt498 => ((spec_CountKinds.f k A2).bind fun bt502 => (if (bt494.2 != bt496.2) = true then (laws_FnCellLists.j0 k l1 A2 bt494.1 bt494.2 bt496.1 bt502.1 true) else (if bt494.1.toList = bt496.1.toList then (if (bt498.2 != bt502.2) = true then (laws_FnCellLists.j0 k l1 A2 bt494.1 bt494.2 bt496.1 bt502.1 true) else ((laws_sameInts.f k bt498.1 bt502.1).bind fun Am => (if Am = true then (laws_FnCellLists.j0 k l1 A2 bt494.1 bt494.2 bt496.1 bt502.1 (bt498.2 != bt494.2)) else (laws_FnCellLists.j0 k l1 A2 bt494.1 bt494.2 bt496.1 bt502.1 true)))) else (laws_FnCellLists.j0 k l1 A2 bt494.1 bt494.2 bt496.1 bt502.1 true)))))))))) = some true := h
 clear h
 replace H := Option.bind_eq_some_iff.mp H
 obtain ⟨AN, BQ, H⟩ := H
 replace H : (if AN = true then (some true) else ((spec_DrawCellsText.f k l0).bind fun A2 => ((impl_CellsText.f k A2).bind fun bt494 => ((spec_CellsText.f k A2).bind fun bt496 => ((impl_CountKinds.f k A2).bind fun bt498 => ((spec_CountKinds.f k A2).bind fun bt502 => (if (bt494.2 != bt496.2) = true then (laws_FnCellLists.j0 k l1 A2 bt494.1 bt494.2 bt496.1 bt502.1 true) else (if bt494.1.toList = bt496.1.toList then (if (bt498.2 != bt502.2) = true then (laws_FnCellLists.j0 k l1 A2 bt494.1 bt494.2 bt496.1 bt502.1 true) else ((laws_sameInts.f k bt498.1 bt502.1).bind fun Am => (if Am = true then (laws_FnCellLists.j0 k l1 A2 bt494.1 bt494.2 bt496.1 bt502.1 (bt498.2 != bt494.2)) else (laws_FnCellLists.j0 k l1 A2 bt494.1 bt494.2 bt496.1 bt502.1 true)))) else (laws_FnCellLists.j0 k l1 A2 bt494.1 bt494.2 bt496.1 bt502.1 true))))))))) = some true := H
 have A3 := Z.m BQ
 clear BQ
 by_cases c4 : AN = true
 ·subst c4
  have H1 : (some true) = some true := rfl
  clear H
  have H := H1
  clear H1
  have HR_ := Z.m (Option.some.inj H)
  clear H
  go_enter Try.func4, Try.ntmps4
  go_wp2_with (first | ((with_reducible refine gc (f := 5) rfl ?_); refine gA (some 28) _ #[.slice A0 l0.length c0, .slice A1 l1.length c1] ?_ Try.func5; (with_reducible refine (laws_big.calls _ _ l0 _ _ l1 true _ ?side1 ?side2 ?side3 ?side4 A3.o).mono ?_); (case side1 => repeat (first | exact BH.o | (with_reducible refine Kd.C_alloc ?_ _) | (with_reducible refine Kd.C_drewN ?_ _) | (with_reducible refine Kd.C_drew ?_))); (case side2 => exact BF.o); (case side3 => repeat (first | exact Bn.o | (with_reducible refine Kd.C_alloc ?_ _) | (with_reducible refine Kd.C_drewN ?_ _) | (with_reducible refine Kd.C_drew ?_))); (case side4 => exact Bm.o); rintro e w' ⟨rfl, ⟨nd, rfl⟩⟩; refine ⟨_, rfl, ?_⟩))
  go_ret
  exact ⟨by first | exact congrArg (fun b_ => Ending.returned (Value.bool b_)) HR_.o | rfl | (simp [eN, eS] <;> rfl) | (simp [*, eN, eS] <;> rfl), vB HB⟩
 ·replace c4 := Bool.eq_false_iff.mpr c4
  subst c4
  have H1 : ((spec_DrawCellsText.f k l0).bind fun A2 => ((impl_CellsText.f k A2).bind fun bt494 => ((spec_CellsText.f k A2).bind fun bt496 => ((impl_CountKinds.f k A2).bind fun bt498 => ((spec_CountKinds.f k A2).bind fun bt502 => (if (bt494.2 != bt496.2) = true then (laws_FnCellLists.j0 k l1 A2 bt494.1 bt494.2 bt496.1 bt502.1 true) else (if bt494.1.toList = bt496.1.toList then (if (bt498.2 != bt502.2) = true then (laws_FnCellLists.j0 k l1 A2 bt494.1 bt494.2 bt496.1 bt502.1 true) else ((laws_sameInts.f k bt498.1 bt502.1).bind fun Am => (if Am = true then (laws_FnCellLists.j0 k l1 A2 bt494.1 bt494.2 bt496.1 bt502.1 (bt498.2 != bt494.2)) else (laws_FnCellLists.j0 k l1 A2 bt494.1 bt494.2 bt496.1 bt502.1 true)))) else (laws_FnCellLists.j0 k l1 A2 bt494.1 bt494.2 bt496.1 bt502.1 true)))))))) = some true := by rw [if_neg (show ¬ (false = true) by decide)] at H; exact H
  clear H
  have H := H1
  clear H1
  replace H := Option.bind_eq_some_iff.mp H
  obtain ⟨A2, BR, H⟩ := H
  replace H : ((impl_CellsText.f k A2).bind fun bt494 => ((spec_CellsText.f k A2).bind fun bt496 => ((impl_CountKinds.f k A2).bind fun bt498 => ((spec_CountKinds.f k A2).bind fun bt502 => (if (bt494.2 != bt496.2) = true then (laws_FnCellLists.j0 k l1 A2 bt494.1 bt494.2 bt496.1 bt502.1 true) else (if bt494.1.toList = bt496.1.toList then (if (bt498.2 != bt502.2) = true then (laws_FnCellLists.j0 k l1 A2 bt494.1 bt494.2 bt496.1 bt502.1 true) else ((laws_sameInts.f k bt498.1 bt502.1).bind fun Am => (if Am = true then (laws_FnCellLists.j0 k l1 A2 bt494.1 bt494.2 bt496.1 bt502.1 (bt498.2 != bt494.2)) else (laws_FnCellLists.j0 k l1 A2 bt494.1 bt494.2 bt496.1 bt502.1 true)))) else (laws_FnCellLists.j0 k l1 A2 bt494.1 bt494.2 bt496.1 bt502.1 true))))))) = some true := H
  have A5 := Z.m BR
  clear BR
  replace H := Option.bind_eq_some_iff.mp H
  obtain ⟨⟨Ad, Ac⟩, BS, H⟩ := H
  replace H : ((spec_CellsText.f k A2).bind fun bt496 => ((impl_CountKinds.f k A2).bind fun bt498 => ((spec_CountKinds.f k A2).bind fun bt502 => (if (Ac != bt496.2) = true then (laws_FnCellLists.j0 k l1 A2 Ad Ac bt496.1 bt502.1 true) else (if Ad.toList = bt496.1.toList then (if (bt498.2 != bt502.2) = true then (laws_FnCellLists.j0 k l1 A2 Ad Ac bt496.1 bt502.1 true) else ((laws_sameInts.f k bt498.1 bt502.1).bind fun Am => (if Am = true then (laws_FnCellLists.j0 k l1 A2 Ad Ac bt496.1 bt502.1 (bt498.2 != Ac)) else (laws_FnCellLists.j0 k l1 A2 Ad Ac bt496.1 bt502.1 true)))) else (laws_FnCellLists.j0 k l1 A2 Ad Ac bt496.1 bt502.1 true)))))) = some true := H
  have A6 := Z.m BS
  clear BS
  replace H := Option.bind_eq_some_iff.mp H
  obtain ⟨⟨Aa, Az⟩, BT, H⟩ := H
  replace H : ((impl_CountKinds.f k A2).bind fun bt498 => ((spec_CountKinds.f k A2).bind fun bt502 => (if (Ac != Az) = true then (laws_FnCellLists.j0 k l1 A2 Ad Ac Aa bt502.1 true) else (if Ad.toList = Aa.toList then (if (bt498.2 != bt502.2) = true then (laws_FnCellLists.j0 k l1 A2 Ad Ac Aa bt502.1 true) else ((laws_sameInts.f k bt498.1 bt502.1).bind fun Am => (if Am = true then (laws_FnCellLists.j0 k l1 A2 Ad Ac Aa bt502.1 (bt498.2 != Ac)) else (laws_FnCellLists.j0 k l1 A2 Ad Ac Aa bt502.1 true)))) else (laws_FnCellLists.j0 k l1 A2 Ad Ac Aa bt502.1 true))))) = some true := H
  have A7 := Z.m BT
  clear BT
  replace H := Option.bind_eq_some_iff.mp H
  obtain ⟨⟨AO, As⟩, Bl, H⟩ := H
  replace H : ((spec_CountKinds.f k A2).bind fun bt502 => (if (Ac != Az) = true then (laws_FnCellLists.j0 k l1 A2 Ad Ac Aa bt502.1 true) else (if Ad.toList = Aa.toList then (if (As != bt502.2) = true then (laws_FnCellLists.j0 k l1 A2 Ad Ac Aa bt502.1 true) else ((laws_sameInts.f k AO bt502.1).bind fun Am => (if Am = true then (laws_FnCellLists.j0 k l1 A2 Ad Ac Aa bt502.1 (As != Ac)) else (laws_FnCellLists.j0 k l1 A2 Ad Ac Aa bt502.1 true)))) else (laws_FnCellLists.j0 k l1 A2 Ad Ac Aa bt502.1 true)))) = some true := H
  have A8 := Z.m Bl
  clear Bl
  replace H := Option.bind_eq_some_iff.mp H
  obtain ⟨⟨Ab, AI⟩, BU, H⟩ := H
  replace H : (if (Ac != Az) = true then (laws_FnCellLists.j0 k l1 A2 Ad Ac Aa Ab true) else (if Ad.toList = Aa.toList then (if (As != AI) = true then (laws_FnCellLists.j0 k l1 A2 Ad Ac Aa Ab true) else ((laws_sameInts.f k AO Ab).bind fun Am => (if Am = true then (laws_FnCellLists.j0 k l1 A2 Ad Ac Aa Ab (As != Ac)) else (laws_FnCellLists.j0 k l1 A2 Ad Ac Aa Ab true)))) else (laws_FnCellLists.j0 k l1 A2 Ad Ac Aa Ab true))) = some true := H
  have A9 := Z.m BU
  clear BU
  have AT := Z.m H
  clear H
  go_enter Try.func4, Try.ntmps4
  go_upto_region 8 with (first | ((with_reducible refine gc (f := 5) rfl ?_); refine gA (some 28) _ #[.slice A0 l0.length c0, .slice A1 l1.length c1] ?_ Try.func5; (with_reducible refine (laws_big.calls _ _ l0 _ _ l1 false _ ?side1 ?side2 ?side3 ?side4 A3.o).mono ?_); (case side1 => repeat (first | exact BH.o | (with_reducible refine Kd.C_alloc ?_ _) | (with_reducible refine Kd.C_drewN ?_ _) | (with_reducible refine Kd.C_drew ?_))); (case side2 => exact BF.o); (case side3 => repeat (first | exact Bn.o | (with_reducible refine Kd.C_alloc ?_ _) | (with_reducible refine Kd.C_drewN ?_ _) | (with_reducible refine Kd.C_drew ?_))); (case side4 => exact Bm.o); rintro e w' ⟨rfl, ⟨nd, rfl⟩⟩; refine ⟨_, rfl, ?_⟩) | ((with_reducible refine gc (f := 24) rfl ?_); refine gA (some 30) _ #[.slice A0 l0.length c0] ?_ Try.func24; (with_reducible refine (spec_DrawCellsText.calls k _ _ l0 A2 _ ?side1 ?side2 A5.o).mono ?_); (case side1 => repeat (first | exact BH.o | (with_reducible refine Kd.C_alloc ?_ _) | (with_reducible refine Kd.C_drewN ?_ _) | (with_reducible refine Kd.C_drew ?_))); (case side2 => exact BF.o); rintro e CS ⟨CO, rfl, Ax, hb⟩; refine ⟨_, rfl, ?_⟩; have Ah := Z.m (Kd.R_lower Ax (below_size (vB HB))); replace HB := bB HB hb; (try clear hb); (try clear AM); (try clear hk); (try clear hi); (try clear Ax); obtain ⟨AC, AD, BK⟩ := Kd.R_slice Ah.o; subst BK) | ((with_reducible refine gc (f := 25) rfl ?_); refine gA (some 33) _ #[.slice AC A2.length AD] ?_ Try.func25; (with_reducible refine (impl_CellsText.calls k _ _ A2 Ad Ac _ ?side1 ?side2 A6.o).mono ?_); (case side1 => repeat (first | exact (Kd.RrZ Ah.o).2.2 | (with_reducible refine Kd.C_alloc ?_ _) | (with_reducible refine Kd.C_drewN ?_ _) | (with_reducible refine Kd.C_drew ?_))); (case side2 => exact (Kd.RrZ Ah.o).2.1); rintro e CT ⟨rfl, hb⟩; refine ⟨_, rfl, ?_⟩; replace Ah := Z.m (Kd.Rb (vR Ah) hb); replace HB := bB HB hb; (try clear hb); (try clear AM); (try clear hk); (try clear hi)) | ((with_reducible refine gc (f := 26) rfl ?_); refine gA (some 38) _ #[.slice AC A2.length AD] ?_ Try.func26; (with_reducible refine (spec_CellsText.calls k _ _ A2 Aa Az _ ?side1 ?side2 A7.o).mono ?_); (case side1 => repeat (first | exact (Kd.RrZ Ah.o).2.2 | (with_reducible refine Kd.C_alloc ?_ _) | (with_reducible refine Kd.C_drewN ?_ _) | (with_reducible refine Kd.C_drew ?_))); (case side2 => exact (Kd.RrZ Ah.o).2.1); rintro e CU ⟨rfl, hb⟩; refine ⟨_, rfl, ?_⟩; replace Ah := Z.m (Kd.Rb (vR Ah) hb); replace HB := bB HB hb; (try clear hb); (try clear AM); (try clear hk); (try clear hi)) | ((with_reducible refine gc (f := 27) rfl ?_); refine gA (some 43) _ #[.slice AC A2.length AD] ?_ Try.func27; (with_reducible refine (impl_CountKinds.calls k _ _ A2 AO As _ ?side1 ?side2 A8.o).mono ?_); (case side1 => repeat (first | exact (Kd.RrZ Ah.o).2.2 | (with_reducible refine Kd.C_alloc ?_ _) | (with_reducible refine Kd.C_drewN ?_ _) | (with_reducible refine Kd.C_drew ?_))); (case side2 => exact (Kd.RrZ Ah.o).2.1); rintro e CV ⟨CP, rfl, Ax, hb⟩; refine ⟨_, rfl, ?_⟩; have Aw := Z.m (Kd.R_lower Ax (below_size (vB HB))); replace Ah := Z.m (Kd.Rb (vR Ah) hb); replace HB := bB HB hb; (try clear hb); (try clear AM); (try clear hk); (try clear hi); (try clear Ax)) | ((with_reducible refine gc (f := 28) rfl ?_); refine gA (some 48) _ #[.slice AC A2.length AD] ?_ Try.func28; (with_reducible refine (spec_CountKinds.calls k _ _ A2 Ab AI _ ?side1 ?side2 A9.o).mono ?_); (case side1 => repeat (first | exact (Kd.RrZ Ah.o).2.2 | (with_reducible refine Kd.C_alloc ?_ _) | (with_reducible refine Kd.C_drewN ?_ _) | (with_reducible refine Kd.C_drew ?_))); (case side2 => exact (Kd.RrZ Ah.o).2.1); rintro e CW ⟨AY, rfl, Ax, hb⟩; refine ⟨_, rfl, ?_⟩; have AG := Z.m (Kd.R_lower (Kd.R_new' Ax (Kd.R_lt (vR Aw))) (below_size (vB HB))); replace Ah := Z.m (Kd.Rb (vR Ah) hb); replace Aw := Z.m (Kd.R_elder' (vR Aw) (Kd.R_base Ax) hb); replace HB := bB HB hb; (try clear hb); (try clear AM); (try clear hk); (try clear hi); (try clear Ax)))
  (try simp only [Act.put, q1, q2, q3])
  go_cut [74] (fun v74 wc => ∃ (kq : Nat) (AH : Bool), v74 = .bool AH ∧ Z (laws_FnCellLists.j0 kq l1 A2 Ad Ac Aa Ab AH = some true) ∧ Z (kq ≤ k) ∧ Z (Kd.R k25 25 wc w.heap.size (fun _ => True) (.slice AC A2.length AD) A2) ∧ Z (Kd.R (Kd.int .i64) 3 wc w.heap.size (fun _ => True) AY Ab) ∧ Z (Below w.heap.size w wc))
  case first =>
   have H := AT.o
   clear AT
   by_cases c17 : (Ac != Az) = true
   ·(rw [if_pos c17] at H; exact absurd H (laws_FnCellLists.bad_j0 _ _ _ _ _ _ _))
   ·rw [if_neg c17] at H
    have AR : (Ac != Az) = false := by simpa using c17
    (try (have BZ : decide (Ac = Az) = true := by simpa using c17))
    (try (have C0 : (Ac == Az) = true := by simpa using c17))
    clear c17
    (first | rw [AR] | (simp only [i64_w, i32_w]; rw [AR]) | skip)
    by_cases c18 : Ad.toList = Aa.toList
    ·rw [if_pos c18] at H
     have C1 := beq_iff_eq.mpr c18
     have C2 := bne_eq_false_iff_eq.mpr c18
     clear c18
     by_cases c19 : (As != AI) = true
     ·(rw [if_pos c19] at H; exact absurd H (laws_FnCellLists.bad_j0 _ _ _ _ _ _ _))
     ·rw [if_neg c19] at H
      have C3 : (As != AI) = false := by simpa using c19
      (try (have C4 : decide (As = AI) = true := by simpa using c19))
      (try (have C5 : (As == AI) = true := by simpa using c19))
      clear c19
      replace H := Option.bind_eq_some_iff.mp H
      obtain ⟨Am, AZ, H⟩ := H
      replace H : (if Am = true then (laws_FnCellLists.j0 k l1 A2 Ad Ac Aa Ab (As != Ac)) else (laws_FnCellLists.j0 k l1 A2 Ad Ac Aa Ab true)) = some true := H
      have Cr := Z.m AZ
      clear AZ
      by_cases c21 : Am = true
      ·subst c21
       have H1 : (laws_FnCellLists.j0 k l1 A2 Ad Ac Aa Ab (As != Ac)) = some true := by rw [if_pos rfl] at H; exact H
       clear H
       have H := H1
       clear H1
       have H' := Z.m H
       clear H
       obtain ⟨CC, CI, BL⟩ := Kd.R_slice Aw.o
       subst BL
       obtain ⟨CD, CJ, BM⟩ := Kd.R_slice AG.o
       subst BM
       go_wp2_with (first | (go_at_call 29; (with_reducible refine (laws_sameInts.calls k _ _ AO _ _ Ab true _ ?side1 ?side2 ?side3 ?side4 Cr.o).mono ?_); (case side1 => repeat (first | exact (Kd.RrZ Aw.o).2.2 | (with_reducible refine Kd.C_alloc ?_ _) | (with_reducible refine Kd.C_drewN ?_ _) | (with_reducible refine Kd.C_drew ?_))); (case side2 => exact (Kd.RrZ Aw.o).2.1); (case side3 => repeat (first | exact (Kd.RrZ AG.o).2.2 | (with_reducible refine Kd.C_alloc ?_ _) | (with_reducible refine Kd.C_drewN ?_ _) | (with_reducible refine Kd.C_drew ?_))); (case side4 => exact (Kd.RrZ AG.o).2.1); rintro e w' ⟨rfl, ⟨nd, rfl⟩⟩))
       go_meet
       case rel => exact ⟨_, ((As != Ac)), (by first | rfl | (simp; done) | (simp [*]; done)), H', ⟨by first | omega | exact Nat.le_refl _⟩, ⟨vR Ah⟩, ⟨by refine rK ?_; exact Kd.Rm AG.o (fun _ hk => trivial)⟩, ⟨vB HB⟩⟩
      ·(rw [if_neg c21] at H; exact absurd H (laws_FnCellLists.bad_j0 _ _ _ _ _ _ _))
    ·(rw [if_neg c18] at H; exact absurd H (laws_FnCellLists.bad_j0 _ _ _ _ _ _ _))
  case rest =>
   clear AT
   (try clear c4)
   obtain ⟨kq, AH, rfl, HA, Bd, Ay, Aj, HB⟩ := hcut
   cases kq with
   | zero => exact absurd HA.o (by simp [laws_FnCellLists.j0])
   | succ kj9 =>
    have H := HA.o
    clear HA
    simp only [laws_FnCellLists.j0] at H
    by_cases c26 : AH = true
    ·(rw [if_pos c26] at H; exact absurd H (by decide))
    ·replace c26 := Bool.eq_false_iff.mpr c26
     subst c26
     have H1 : (if Ac = true then ((impl_ReadCells.f kj9 Ad).bind fun bt507 => (if bt507.2 = true then ((laws_pSameCells.f kj9 bt507.1 A2).bind fun Au => (if Au = true then (if (Aa.size : Int) = (A2.length : Int) then (if (Ab.length : Int) = 8 then ((laws_pSum.f kj9 Ab).bind fun Ap => (laws_FnCellLists.j1 kj9 l1 A2 Aa Ab (Ap != (A2.length : Int)))) else (laws_FnCellLists.j1 kj9 l1 A2 Aa Ab true)) else (laws_FnCellLists.j1 kj9 l1 A2 Aa Ab true)) else (laws_FnCellLists.j1 kj9 l1 A2 Aa Ab true))) else (laws_FnCellLists.j1 kj9 l1 A2 Aa Ab true))) else (laws_FnCellLists.j3 kj9 l1)) = some true := by rw [if_neg (show ¬ (false = true) by decide)] at H; exact H
     clear H
     have H := H1
     clear H1
     have AU := Z.m H
     clear H
     go_upto_if 75 with (fail)
     go_cut [] (fun wc => ∃ (kq : Nat), Z (laws_FnCellLists.j3 kq l1 = some true) ∧ Z (kq ≤ kj9) ∧ Z (Below w.heap.size w wc))
     case first =>
      have H := AU.o
      clear AU
      by_cases c28 : Ac = true
      ·subst c28
       have H1 : ((impl_ReadCells.f kj9 Ad).bind fun bt507 => (if bt507.2 = true then ((laws_pSameCells.f kj9 bt507.1 A2).bind fun Au => (if Au = true then (if (Aa.size : Int) = (A2.length : Int) then (if (Ab.length : Int) = 8 then ((laws_pSum.f kj9 Ab).bind fun Ap => (laws_FnCellLists.j1 kj9 l1 A2 Aa Ab (Ap != (A2.length : Int)))) else (laws_FnCellLists.j1 kj9 l1 A2 Aa Ab true)) else (laws_FnCellLists.j1 kj9 l1 A2 Aa Ab true)) else (laws_FnCellLists.j1 kj9 l1 A2 Aa Ab true))) else (laws_FnCellLists.j1 kj9 l1 A2 Aa Ab true))) = some true := by rw [if_pos rfl] at H; exact H
       clear H
       have H := H1
       clear H1
       replace H := Option.bind_eq_some_iff.mp H
       obtain ⟨⟨AP, AX⟩, B0, H⟩ := H
       replace H : (if AX = true then ((laws_pSameCells.f kj9 AP A2).bind fun Au => (if Au = true then (if (Aa.size : Int) = (A2.length : Int) then (if (Ab.length : Int) = 8 then ((laws_pSum.f kj9 Ab).bind fun Ap => (laws_FnCellLists.j1 kj9 l1 A2 Aa Ab (Ap != (A2.length : Int)))) else (laws_FnCellLists.j1 kj9 l1 A2 Aa Ab true)) else (laws_FnCellLists.j1 kj9 l1 A2 Aa Ab true)) else (laws_FnCellLists.j1 kj9 l1 A2 Aa Ab true))) else (laws_FnCellLists.j1 kj9 l1 A2 Aa Ab true)) = some true := H
       have Cs := Z.m B0
       clear B0
       have AV := Z.m H
       clear H
       go_upto_region 12 with (first | ((with_reducible refine gc (f := 30) rfl ?_); refine gA (some 78) _ #[.string Ad] ?_ Try.func30; (with_reducible refine (impl_ReadCells.calls kj9 Ad AP AX _ Cs.o).mono ?_); rintro e CX ⟨CQ, rfl, Ax, hb⟩; refine ⟨_, rfl, ?_⟩; have AK := Z.m (Kd.R_lower (Kd.R_new' Ax (Kd.R_lt (vR Ay))) (below_size (vB HB))); replace Ay := Z.m (Kd.R_elder' (vR Ay) (Kd.R_base Ax) hb); replace Aj := Z.m (Kd.Rb (vR Aj) hb); replace HB := bB HB hb; (try clear hb); (try clear AM); (try clear hk); (try clear hi); (try clear Ax)))
       (try simp only [Act.put, q1, q2, q3])
       go_cut [107] (fun v107 wc => ∃ (kq : Nat) (At : Bool), v107 = .bool At ∧ Z (laws_FnCellLists.j1 kq l1 A2 Aa Ab At = some true) ∧ Z (kq ≤ kj9) ∧ Z (Kd.R k25 25 wc w.heap.size (fun _ => True) (.slice AC A2.length AD) A2) ∧ Z (Kd.R (Kd.int .i64) 3 wc w.heap.size (fun _ => True) AY Ab) ∧ Z (Below w.heap.size w wc))
       case first =>
        have H := AV.o
        clear AV
        by_cases c32 : AX = true
        ·subst c32
         have H1 : ((laws_pSameCells.f kj9 AP A2).bind fun Au => (if Au = true then (if (Aa.size : Int) = (A2.length : Int) then (if (Ab.length : Int) = 8 then ((laws_pSum.f kj9 Ab).bind fun Ap => (laws_FnCellLists.j1 kj9 l1 A2 Aa Ab (Ap != (A2.length : Int)))) else (laws_FnCellLists.j1 kj9 l1 A2 Aa Ab true)) else (laws_FnCellLists.j1 kj9 l1 A2 Aa Ab true)) else (laws_FnCellLists.j1 kj9 l1 A2 Aa Ab true))) = some true := by rw [if_pos rfl] at H; exact H
         clear H
         have H := H1
         clear H1
         replace H := Option.bind_eq_some_iff.mp H
         obtain ⟨Au, B1, H⟩ := H
         replace H : (if Au = true then (if (Aa.size : Int) = (A2.length : Int) then (if (Ab.length : Int) = 8 then ((laws_pSum.f kj9 Ab).bind fun Ap => (laws_FnCellLists.j1 kj9 l1 A2 Aa Ab (Ap != (A2.length : Int)))) else (laws_FnCellLists.j1 kj9 l1 A2 Aa Ab true)) else (laws_FnCellLists.j1 kj9 l1 A2 Aa Ab true)) else (laws_FnCellLists.j1 kj9 l1 A2 Aa Ab true)) = some true := H
         have Ct := Z.m B1
         clear B1
         by_cases c34 : Au = true
         ·subst c34
          have H1 : (if (Aa.size : Int) = (A2.length : Int) then (if (Ab.length : Int) = 8 then ((laws_pSum.f kj9 Ab).bind fun Ap => (laws_FnCellLists.j1 kj9 l1 A2 Aa Ab (Ap != (A2.length : Int)))) else (laws_FnCellLists.j1 kj9 l1 A2 Aa Ab true)) else (laws_FnCellLists.j1 kj9 l1 A2 Aa Ab true)) = some true := by rw [if_pos rfl] at H; exact H
          clear H
          have H := H1
          clear H1
          by_cases c35 : (Aa.size : Int) = (A2.length : Int)
          ·rw [if_pos c35] at H
           have AS := beq_iff_eq.mpr c35
           have C6 := bne_eq_false_iff_eq.mpr c35
           have C7 : (Aa.size == A2.length) = true := by first | simpa using c35 | (simp at c35 ⊢; omega)
           clear c35
           (first | rw [AS] | (simp only [i64_w, i32_w]; rw [AS]) | skip)
           by_cases c36 : (Ab.length : Int) = 8
           ·rw [if_pos c36] at H
            have C8 := beq_iff_eq.mpr c36
            have C9 := bne_eq_false_iff_eq.mpr c36
            clear c36
            replace H := Option.bind_eq_some_iff.mp H
            obtain ⟨Ap, B2, H⟩ := H
            replace H : (laws_FnCellLists.j1 kj9 l1 A2 Aa Ab (Ap != (A2.length : Int))) = some true := H
            have Cu := Z.m B2
            clear B2
            have H' := Z.m H
            clear H
            obtain ⟨CE, CK, BN⟩ := Kd.R_slice AK.o
            subst BN
            go_wp2_with (first | (go_at_call 31; (with_reducible refine (laws_pSameCells.calls kj9 _ _ AP _ _ A2 true _ ?side1 ?side2 ?side3 ?side4 Ct.o).mono ?_); (case side1 => repeat (first | exact (Kd.RrZ AK.o).2.2 | (with_reducible refine Kd.C_alloc ?_ _) | (with_reducible refine Kd.C_drewN ?_ _) | (with_reducible refine Kd.C_drew ?_))); (case side2 => exact (Kd.RrZ AK.o).2.1); (case side3 => repeat (first | exact (Kd.RrZ Ay.o).2.2 | (with_reducible refine Kd.C_alloc ?_ _) | (with_reducible refine Kd.C_drewN ?_ _) | (with_reducible refine Kd.C_drew ?_))); (case side4 => exact (Kd.RrZ Ay.o).2.1); rintro e w' ⟨rfl, ⟨nd, rfl⟩⟩; obtain ⟨CF, CL, BO⟩ := Kd.R_slice Aj.o; subst BO) | (go_at_call 32; (with_reducible refine (laws_pSum.calls kj9 _ _ Ab Ap _ ?side1 ?side2 Cu.o).mono ?_); (case side1 => repeat (first | exact (Kd.RrZ Aj.o).2.2 | (with_reducible refine Kd.C_alloc ?_ _) | (with_reducible refine Kd.C_drewN ?_ _) | (with_reducible refine Kd.C_drew ?_))); (case side2 => exact (Kd.RrZ Aj.o).2.1); rintro e w' ⟨rfl, ⟨nd, rfl⟩⟩))
            go_meet
            case rel => exact ⟨_, ((Ap != (A2.length : Int))), (by first | rfl | (simp; done) | (simp [*]; done)), H', ⟨by have := Bd.o; first | omega | exact Nat.le_refl _⟩, ⟨by refine rK ?_; exact Kd.Rm Ay.o (fun _ hk => trivial)⟩, ⟨vR Aj⟩, ⟨vB HB⟩⟩
           ·(rw [if_neg c36] at H; exact absurd H (laws_FnCellLists.bad_j1 _ _ _ _ _))
          ·(rw [if_neg c35] at H; exact absurd H (laws_FnCellLists.bad_j1 _ _ _ _ _))
         ·(rw [if_neg c34] at H; exact absurd H (laws_FnCellLists.bad_j1 _ _ _ _ _))
        ·(rw [if_neg c32] at H; exact absurd H (laws_FnCellLists.bad_j1 _ _ _ _ _))
       case rest =>
        clear AV
        (try clear c26); (try clear c28)
        obtain ⟨kq, At, rfl, HA, AW, Ay, Aj, HB⟩ := hcut
        cases kq with
        | zero => exact absurd HA.o (by simp [laws_FnCellLists.j1])
        | succ kj29 =>
         have H := HA.o
         clear HA
         simp only [laws_FnCellLists.j1] at H
         by_cases c44 : At = true
         ·(rw [if_pos c44] at H; exact absurd H (by decide))
         ·replace c44 := Bool.eq_false_iff.mpr c44
          subst c44
          have H1 : (laws_FnCellLists.l0 kj29 l1 Aa Ab A2 (A2.length : Int) 0) = some true := by rw [if_neg (show ¬ (false = true) by decide)] at H; exact H
          clear H
          have H := H1
          clear H1
          have H' := Z.m H
          clear H
          go_wp2
          go_loopg [110] kj29 (fun kq v110 w' => ∃ (A4 : Int), v110 = .int .i64 A4 ∧ Z (laws_FnCellLists.l0 kq l1 Aa Ab A2 (A2.length : Int) A4 = some true) ∧ Z (kq ≤ kj29) ∧ Z (Kd.R (Kd.int .i64) 3 w' w.heap.size (fun _ => True) AY Ab) ∧ Z (Kd.R k25 25 w' w.heap.size (fun _ => True) (.slice AC A2.length AD) A2) ∧ Z (Below w.heap.size w w'))
          case atStart => exact ⟨(0), (by first | rfl | (simp; done) | (simp [*]; done)), H', ⟨Nat.le_refl _⟩, ⟨vR Aj⟩, ⟨vR Ay⟩, ⟨vB HB⟩⟩
          case round =>
           clear H'
           (try clear c44)
           obtain ⟨A4, rfl, HA, BG, Aj, Ar, HB⟩ := hrel
           cases gk with
           | zero => exact absurd HA.o (by simp [laws_FnCellLists.l0])
           | succ k3 =>
            have H := HA.o
            clear HA
            simp only [laws_FnCellLists.l0] at H
            by_cases c45 : A4 < (A2.length : Int)
            ·rw [if_pos c45] at H
             have Be := decide_eq_true c45
             clear c45
             by_cases c46 : 0 ≤ A4
             ·rw [if_pos c46] at H
              have Ca := decide_eq_true c46
              clear c46
              by_cases c47 : A4 < (A2.length : Int)
              ·rw [if_pos c47] at H
               have Cb := decide_eq_true c47
               clear c47
               replace H := Option.bind_eq_some_iff.mp H
               obtain ⟨⟨AQ, Bh⟩, B3, H⟩ := H
               replace H : (if Bh = true then (if A4 ≤ (wrap64 (A4 + 1)) then (if (wrap64 (A4 + 1)) ≤ (Aa.size : Int) then (if AQ.toList = (Aa.extract (A4 : Int).toNat ((wrap64 (A4 + 1)) : Int).toNat).toList then (if 0 ≤ ((rd_T25 A2 A4).f0) then (if ((rd_T25 A2 A4).f0) < (Ab.length : Int) then (if (rd Ab ((rd_T25 A2 A4).f0)) < 1 then (some false) else (laws_FnCellLists.l0 k3 l1 Aa Ab A2 (A2.length : Int) (wrap64 (A4 + 1)))) else (none)) else (none)) else (some false)) else (none)) else (none)) else (some false)) = some true := H
               have Cv := Z.m B3
               clear B3
               by_cases c49 : Bh = true
               ·subst c49
                have H1 : (if A4 ≤ (wrap64 (A4 + 1)) then (if (wrap64 (A4 + 1)) ≤ (Aa.size : Int) then (if AQ.toList = (Aa.extract (A4 : Int).toNat ((wrap64 (A4 + 1)) : Int).toNat).toList then (if 0 ≤ ((rd_T25 A2 A4).f0) then (if ((rd_T25 A2 A4).f0) < (Ab.length : Int) then (if (rd Ab ((rd_T25 A2 A4).f0)) < 1 then (some false) else (laws_FnCellLists.l0 k3 l1 Aa Ab A2 (A2.length : Int) (wrap64 (A4 + 1)))) else (none)) else (none)) else (some false)) else (none)) else (none)) = some true := by rw [if_pos rfl] at H; exact H
                clear H
                have H := H1
                clear H1
                have Cd := eq_true (ofD : 0 ≤ A4)
                by_cases c51 : A4 ≤ (wrap64 (A4 + 1))
                ·rw [if_pos c51] at H
                 have Ce := eq_true c51
                 have Cf := decide_eq_true c51
                 by_cases c52 : (wrap64 (A4 + 1)) ≤ (Aa.size : Int)
                 ·rw [if_pos c52] at H
                  have Cg := eq_true c52
                  have Ch := decide_eq_true c52
                  by_cases c53 : AQ.toList = (Aa.extract (A4 : Int).toNat ((wrap64 (A4 + 1)) : Int).toNat).toList
                  ·rw [if_pos c53] at H
                   have Ci := beq_iff_eq.mpr c53
                   have Cj := bne_eq_false_iff_eq.mpr c53
                   clear c53
                   by_cases c54 : 0 ≤ ((rd_T25 A2 A4).f0)
                   ·rw [if_pos c54] at H
                    have Cl := decide_eq_true c54
                    clear c54
                    by_cases c55 : ((rd_T25 A2 A4).f0) < (Ab.length : Int)
                    ·rw [if_pos c55] at H
                     have Cm := decide_eq_true c55
                     clear c55
                     by_cases c56 : (rd Ab ((rd_T25 A2 A4).f0)) < 1
                     ·(rw [if_pos c56] at H; exact absurd H (by decide))
                     ·rw [if_neg c56] at H
                      have Cn := decide_eq_false c56
                      clear c56
                      have H' := Z.m H
                      clear H
                      have p513 : 0 ≤ (A4 : Int) := ofD
                      have q513 : A4 < (A2.length : Int) := ofD
                      obtain ⟨BX, e513, BA, BB⟩ := at_T25 (Kd.RrZ Ar.o).2.2 A4 p513 q513
                      cases e513
                      replace p513 := eq_true p513
                      replace q513 := eq_true q513
                      go_wp2_with (first | ((with_reducible refine gq (N := 17) rfl ?_); (try (refine gate_guard (by rfl) ?_; dsimp only)); refine be (N := 17) (cs := #[.int .i64 0, .int .i64 0]) (t := 25) ?_; intro AL hg CY hbox hb; have An := Z.m (hbox); have Bb := gW (w := w) HB hg; have BV := Bb; replace Aj := Z.m (Kd.Rb (vR Aj) hb); replace Ar := Z.m (Kd.Rb (Kd.R_elderB (vR Ar) AL (Nat.le_of_eq hg.symm)) hb); replace HB := bB HB hb; clear hb hbox hg; have Bo := bc0 An; have Bp := bc1 An; have Bu := qz An.o 0; have Bv := qz An.o 1) | ((with_reducible refine gc (f := 7) rfl ?_); refine gA (some 117) _ #[.agg #[.int .i64 ((rd_T25 A2 A4).f0), .int .i64 ((rd_T25 A2 A4).f1)]] ?_ Try.func7; (with_reducible refine (impl_CellLetter.calls ((rd_T25 A2 A4).f0) ((rd_T25 A2 A4).f1) AQ true _ Cv.o).mono ?_); rintro e CZ ⟨rfl, hb⟩; refine ⟨_, rfl, ?_⟩; replace Aj := Z.m (Kd.Rb (by refine rK ?_; exact (Kd.Rm (rf (rf (Kd.Ry Aj.o An.o (by decide)))) (fun _ h_ => h_.1))) hb); replace Ar := Z.m (Kd.Rb (by refine rK ?_; exact (Kd.Rm (rf (rf (Kd.Rm Ar.o (fun k_ hk => (⟨hk, hk.2⟩ : _ ∧ k_ ≠ AL))))) (fun _ h_ => h_.1))) hb); replace An := Z.m (qb (g := AL) (o := .cells #[.int .i64 ((rd_T25 A2 A4).f0), .int .i64 ((rd_T25 A2 A4).f1)] 25 (0, 0)) (by refine bK ?_; refine qp (cs := #[iV ((rd_T25 A2 A4).f0), iV 0]) ?_ 1 _ rfl; refine bK ?_; refine qp (cs := #[iV 0, iV 0]) ?_ 0 _ rfl; refine bK ?_; exact An.o) hb); replace HB := bB HB hb; (try clear hb); (try clear AM); (try clear hk); (try clear hi); have Bq := bc0 An; have Br := bc1 An; have Bw := qz An.o 0; have Bx := qz An.o 1; obtain ⟨CG, CM, BP⟩ := Kd.R_slice Aj.o; subst BP; have p517 : 0 ≤ (((rd_T25 A2 A4).f0) : Int) := ofD; have q517 : ((rd_T25 A2 A4).f0) < (Ab.length : Int) := ofD; obtain ⟨BY, e517, BC⟩ := Kd.at_int (Kd.RrZ Aj.o).2.2 ((rd_T25 A2 A4).f0) p517 q517; cases e517; replace p517 := eq_true p517; replace q517 := eq_true q517))
                      go_roundg k3
                      case measure => have := Bd.o; have := AW.o; have := BG.o; omega
                      case rel => exact ⟨(wrap64 (A4 + 1)), (by first | rfl | (simp; done) | (simp [*]; done)), H', ⟨by have := Bd.o; have := AW.o; have := BG.o; omega⟩, ⟨vR Aj⟩, ⟨by refine rK ?_; exact Kd.Rm Ar.o (fun _ hk => trivial)⟩, ⟨vB HB⟩⟩
                    ·rw [if_neg c55] at H
                     exact absurd H (by simp)
                   ·rw [if_neg c54] at H
                    exact absurd H (by simp)
                  ·(rw [if_neg c53] at H; exact absurd H (by decide))
                 ·rw [if_neg c52] at H
                  exact absurd H (by simp)
                ·rw [if_neg c51] at H
                 exact absurd H (by simp)
               ·(rw [if_neg c49] at H; exact absurd H (by decide))
              ·rw [if_neg c47] at H
               exact absurd H (by simp)
             ·rw [if_neg c46] at H
              exact absurd H (by simp)
            ·rw [if_neg c45] at H
             have Be := decide_eq_false c45
             clear c45
             have H' := Z.m H
             clear H
             go_wp2
             go_meet
             case rel => exact ⟨_, H', ⟨by have := Bd.o; have := AW.o; have := BG.o; first | omega | exact Nat.le_refl _⟩, ⟨vB HB⟩⟩
      ·replace c28 := Bool.eq_false_iff.mpr c28
       subst c28
       have H1 : (laws_FnCellLists.j3 kj9 l1) = some true := by rw [if_neg (show ¬ (false = true) by decide)] at H; exact H
       clear H
       have H := H1
       clear H1
       have H' := Z.m H
       clear H
       go_wp2
       go_meet
       case rel => exact ⟨_, H', ⟨by have := Bd.o; first | omega | exact Nat.le_refl _⟩, ⟨vB HB⟩⟩
     case rest =>
      clear AU
      (try clear c26)
      obtain ⟨kq, HA, CH, HB⟩ := hcut
      cases kq with
      | zero => exact absurd HA.o (by simp [laws_FnCellLists.j3])
      | succ kj26 =>
       have H := HA.o
       clear HA
       simp only [laws_FnCellLists.j3] at H
       replace H := Option.bind_eq_some_iff.mp H
       obtain ⟨AA, B4, H⟩ := H
       replace H : ((impl_ReadCells.f kj26 AA).bind fun bt519 => ((spec_ReadCells.f kj26 AA).bind fun bt523 => ((spec_DrawIsTurning.f kj26 l1).bind fun bt527 => (if (bt519.2 == bt523.2) = true then ((laws_pSameCells.f kj26 bt519.1 bt523.1).bind fun Av => (if Av = true then ((impl_IsTurning.f bt527.1 bt527.2).bind fun Aq => ((spec_IsTurning.f bt527.1 bt527.2).bind fun Ao => (some (Aq == Ao)))) else (some false))) else (some false))))) = some true := H
       have Cw := Z.m B4
       clear B4
       replace H := Option.bind_eq_some_iff.mp H
       obtain ⟨⟨AE, AB⟩, B5, H⟩ := H
       replace H : ((spec_ReadCells.f kj26 AA).bind fun bt523 => ((spec_DrawIsTurning.f kj26 l1).bind fun bt527 => (if (AB == bt523.2) = true then ((laws_pSameCells.f kj26 AE bt523.1).bind fun Av => (if Av = true then ((impl_IsTurning.f bt527.1 bt527.2).bind fun Aq => ((spec_IsTurning.f bt527.1 bt527.2).bind fun Ao => (some (Aq == Ao)))) else (some false))) else (some false)))) = some true := H
       have Cx := Z.m B5
       clear B5
       replace H := Option.bind_eq_some_iff.mp H
       obtain ⟨⟨AJ, AF⟩, B6, H⟩ := H
       replace H : ((spec_DrawIsTurning.f kj26 l1).bind fun bt527 => (if (AB == AF) = true then ((laws_pSameCells.f kj26 AE AJ).bind fun Av => (if Av = true then ((impl_IsTurning.f bt527.1 bt527.2).bind fun Aq => ((spec_IsTurning.f bt527.1 bt527.2).bind fun Ao => (some (Aq == Ao)))) else (some false))) else (some false))) = some true := H
       have Cy := Z.m B6
       clear B6
       replace H := Option.bind_eq_some_iff.mp H
       obtain ⟨⟨Ak, Al⟩, B7, H⟩ := H
       replace H : (if (AB == AF) = true then ((laws_pSameCells.f kj26 AE AJ).bind fun Av => (if Av = true then ((impl_IsTurning.f Ak Al).bind fun Aq => ((spec_IsTurning.f Ak Al).bind fun Ao => (some (Aq == Ao)))) else (some false))) else (some false)) = some true := H
       have Cz := Z.m B7
       clear B7
       by_cases c77 : (AB == AF) = true
       ·rw [if_pos c77] at H
        have Co : (AB == AF) = true := c77
        (try (have Cp : decide (AB = AF) = true := by simpa using c77))
        (try (have Cq : (AB == AF) = true := by simpa using c77))
        clear c77
        replace H := Option.bind_eq_some_iff.mp H
        obtain ⟨Av, B8, H⟩ := H
        replace H : (if Av = true then ((impl_IsTurning.f Ak Al).bind fun Aq => ((spec_IsTurning.f Ak Al).bind fun Ao => (some (Aq == Ao)))) else (some false)) = some true := H
        have CA := Z.m B8
        clear B8
        by_cases c79 : Av = true
        ·subst c79
         have H1 : ((impl_IsTurning.f Ak Al).bind fun Aq => ((spec_IsTurning.f Ak Al).bind fun Ao => (some (Aq == Ao)))) = some true := by rw [if_pos rfl] at H; exact H
         clear H
         have H := H1
         clear H1
         replace H := Option.bind_eq_some_iff.mp H
         obtain ⟨Aq, B9, H⟩ := H
         replace H : ((spec_IsTurning.f Ak Al).bind fun Ao => (some (Aq == Ao))) = some true := H
         have Bl := Z.m B9
         clear B9
         replace H := Option.bind_eq_some_iff.mp H
         obtain ⟨Ao, Ba, H⟩ := H
         replace H : (some (Aq == Ao)) = some true := H
         have CB := Z.m Ba
         clear Ba
         have HR_ := Z.m (Option.some.inj H)
         clear H
         try go_wp2_with (first | ((with_reducible refine gc (f := 33) rfl ?_); refine gA (some 141) _ #[.slice A1 l1.length c1] ?_ Try.func33; (with_reducible refine (spec_DrawReadCells.calls kj26 _ _ l1 AA _ ?side1 ?side2 Cw.o).mono ?_); (case side1 => repeat (first | exact (Kd.C_below Bn.o HB.o) | (with_reducible refine Kd.C_alloc ?_ _) | (with_reducible refine Kd.C_drewN ?_ _) | (with_reducible refine Kd.C_drew ?_))); (case side2 => exact Bm.o); rintro e D0 ⟨rfl, hb⟩; refine ⟨_, rfl, ?_⟩; replace HB := bB HB hb; (try clear hb); (try clear AM); (try clear hk); (try clear hi)) | ((with_reducible refine gc (f := 30) rfl ?_); refine gA (some 144) _ #[.string AA] ?_ Try.func30; (with_reducible refine (impl_ReadCells.calls kj26 AA AE AB _ Cx.o).mono ?_); rintro e D1 ⟨Bi, rfl, Ax, hb⟩; refine ⟨_, rfl, ?_⟩; have Af := Z.m (Kd.R_lower Ax (below_size (vB HB))); replace HB := bB HB hb; (try clear hb); (try clear AM); (try clear hk); (try clear hi); (try clear Ax)) | ((with_reducible refine gc (f := 34) rfl ?_); refine gA (some 149) _ #[.string AA] ?_ Try.func34; (with_reducible refine (spec_ReadCells.calls kj26 AA AJ AF _ Cy.o).mono ?_); rintro e D2 ⟨Bj, rfl, Ax, hb⟩; refine ⟨_, rfl, ?_⟩; have Ai := Z.m (Kd.R_lower (Kd.R_new' Ax (Kd.R_lt (vR Af))) (below_size (vB HB))); replace Af := Z.m (Kd.R_elder' (vR Af) (Kd.R_base Ax) hb); replace HB := bB HB hb; (try clear hb); (try clear AM); (try clear hk); (try clear hi); (try clear Ax)) | ((with_reducible refine gc (f := 35) rfl ?_); refine gA (some 153) _ #[.slice A1 l1.length c1] ?_ Try.func35; (with_reducible refine (spec_DrawIsTurning.calls kj26 _ _ l1 Ak Al _ ?side1 ?side2 Cz.o).mono ?_); (case side1 => repeat (first | exact (Kd.C_below Bn.o HB.o) | (with_reducible refine Kd.C_alloc ?_ _) | (with_reducible refine Kd.C_drewN ?_ _) | (with_reducible refine Kd.C_drew ?_))); (case side2 => exact Bm.o); rintro e D3 ⟨rfl, hb⟩; refine ⟨_, rfl, ?_⟩; replace Af := Z.m (Kd.Rb (vR Af) hb); replace Ai := Z.m (Kd.Rb (vR Ai) hb); replace HB := bB HB hb; (try clear hb); (try clear AM); (try clear hk); (try clear hi)) | ((with_reducible refine gq (N := 25) rfl ?_); (try (refine gate_guard (by rfl) ?_; dsimp only)); refine be (N := 25) (cs := #[.int .i64 0, .int .i64 0]) (t := 25) ?_; intro Ag hg Bk hbox hb; have Ae := Z.m (hbox); have Bc := gW (w := w) HB hg; have BW := Bc; replace Af := Z.m (Kd.Rb (Kd.R_elderB (vR Af) Ag (Nat.le_of_eq hg.symm)) hb); replace Ai := Z.m (Kd.Rb (Kd.R_elderB (vR Ai) Ag (Nat.le_of_eq hg.symm)) hb); replace HB := bB HB hb; clear hb hbox hg; have Bs := bc0 Ae; have Bt := bc1 Ae; have By := qz Ae.o 0; have Bz := qz Ae.o 1))
         have n0_ : Z (Kd.R k25 25 ((Bk.setCell ⟨Ag, 0, none⟩ (.int .i64 Ak)).setCell ⟨Ag, 1, none⟩ (.int .i64 Al)) w.heap.size (fun k_ => some k_ ≠ (Bj : Value).ownBlock ∧ k_ ≠ Ag) Bi AE) := ⟨by refine rK ?_; exact Kd.Rm (rf (rf (Kd.Rm Af.o (fun k_ hk => (⟨hk, hk.2⟩ : _ ∧ k_ ≠ Ag))))) (fun _ hk => ⟨hk.1.1.2, hk.1.2⟩)⟩
         have n1_ : Z (Kd.R k25 25 ((Bk.setCell ⟨Ag, 0, none⟩ (.int .i64 Ak)).setCell ⟨Ag, 1, none⟩ (.int .i64 Al)) w.heap.size (fun k_ => some k_ ≠ (Bi : Value).ownBlock ∧ k_ ≠ Ag) Bj AJ) := ⟨by refine rK ?_; exact Kd.Rm (rf (rf (Kd.Rm Ai.o (fun k_ hk => (⟨hk, hk.2⟩ : _ ∧ k_ ≠ Ag))))) (fun _ hk => ⟨hk.1.1.2, hk.1.2⟩)⟩
         have n2_ : Z (((Bk.setCell ⟨Ag, 0, none⟩ (.int .i64 Ak)).setCell ⟨Ag, 1, none⟩ (.int .i64 Al)).heap[Ag]? = some (.cells #[.int .i64 Ak, .int .i64 Al] 25 (0, 0))) := ⟨by refine bK ?_; refine qp (cs := #[iV Ak, iV 0]) ?_ 1 _ rfl; refine bK ?_; refine qp (cs := #[iV 0, iV 0]) ?_ 0 _ rfl; refine bK ?_; exact Ae.o⟩
         have n3_ : Z (Below w.heap.size w ((Bk.setCell ⟨Ag, 0, none⟩ (.int .i64 Ak)).setCell ⟨Ag, 1, none⟩ (.int .i64 Al))) := ⟨vB HB⟩
         (try clear Af); (try clear Ai); (try clear Ae); (try clear HB)
         generalize ((Bk.setCell ⟨Ag, 0, none⟩ (.int .i64 Ak)).setCell ⟨Ag, 1, none⟩ (.int .i64 Al)) = CR at n0_ n1_ n2_ n3_ ⊢
         have Af := n0_
         have Ai := n1_
         have Ae := n2_
         have HB := n3_
         clear n0_ n1_ n2_ n3_
         replace Af := Z.m (Kd.R_drew Af.o)
         replace Ai := Z.m (Kd.R_drew Ai.o)
         replace Ae := Z.m (blk_drew Ae.o)
         replace HB := Z.m (qd HB.o)
         obtain ⟨BD, BI, Bf⟩ := Kd.R_slice Af.o
         (first | subst Bf | (injection Bf with f1_ f2_ f3_; have f4_ := f1_.symm; have f5_ := f3_.symm; clear f1_ f2_ f3_; subst f4_; subst f5_))
         obtain ⟨BE, BJ, Bg⟩ := Kd.R_slice Ai.o
         (first | subst Bg | (injection Bg with f1_ f2_ f3_; have f4_ := f1_.symm; have f5_ := f3_.symm; clear f1_ f2_ f3_; subst f4_; subst f5_))
         refine start_ (n := 16) (S := fun w' => w'.cell? ⟨Ag, 0, none⟩ = some (.int .i64 Ak) ∧ w'.cell? ⟨Ag, 1, none⟩ = some (.int .i64 Al)) (ds := []) #[false, false, false, false, false, false, false, false, false, false, false, false, false, false, false, false] (by kernel_rfl) rfl rfl ⟨(ql Ae.o 0).trans rfl, (ql Ae.o 1).trans rfl⟩ (fun hHeld => ?_); refine with_tabW laws_FnCellLists.tab25 laws_FnCellLists.bits25 (fun HT_ HW_ => ?_)
         generalize CR.drew = D4 at Af Ai Ae HB hHeld ⊢
         refine pure_ (i := 0) (N := some 154) (v := ?_) (a' := ?_) #[true, false, false, false, false, false, false, false, false, false, false, false, false, false, false, false] rfl rfl (any_of HT_.o (by kernel_rfl)) (fun _ _ _ h => h) (Or.inl ⟨by rfl, ?_⟩) ?_ ?_
         rotate_left
         ·intro w'
          go_simp
          with_reducible rfl
         rotate_left
         ·simp only [Act.put, q1, q2, q3, i64_w, i32_w]
          rfl
         refine pure_ (i := 1) (N := some 155) (v := ?_) (a' := ?_) #[true, true, false, false, false, false, false, false, false, false, false, false, false, false, false, false] rfl rfl (any_of HT_.o (by kernel_rfl)) (fun _ _ _ h => h) (Or.inl ⟨by rfl, ?_⟩) ?_ ?_
         rotate_left
         ·intro w'
          go_simp
          with_reducible rfl
         rotate_left
         ·simp only [Act.put, q1, q2, q3, i64_w, i32_w]
          rfl
         refine pure_ (i := 2) (N := some 156) (v := ?_) (a' := ?_) #[true, true, true, false, false, false, false, false, false, false, false, false, false, false, false, false] rfl rfl (any_of HT_.o (by kernel_rfl)) (fun _ _ _ h => h) (Or.inl ⟨by rfl, ?_⟩) ?_ ?_
         rotate_left
         ·intro w'
          go_simp
          with_reducible rfl
         rotate_left
         ·simp only [Act.put, q1, q2, q3, i64_w, i32_w]
          rfl
         refine pure_ (i := 3) (N := some 157) (v := ?_) (a' := ?_) #[true, true, true, true, false, false, false, false, false, false, false, false, false, false, false, false] rfl rfl (any_of HT_.o (by kernel_rfl)) (fun _ _ _ h => h) (Or.inl ⟨by rfl, ?_⟩) ?_ ?_
         rotate_left
         ·intro w'
          go_simp
          with_reducible rfl
         rotate_left
         ·simp only [Act.put, q1, q2, q3, i64_w, i32_w]
          rfl
         refine pure_ (i := 4) (N := some 158) (v := ?_) (a' := ?_) #[true, true, true, true, true, false, false, false, false, false, false, false, false, false, false, false] rfl rfl (any_of HT_.o (by kernel_rfl)) (fun _ _ _ h => h) (Or.inl ⟨by rfl, ?_⟩) ?_ ?_
         rotate_left
         ·intro w'
          go_simp
          with_reducible rfl
         rotate_left
         ·simp only [Act.put, q1, q2, q3, i64_w, i32_w]
          rfl
         refine pure_ (i := 5) (N := some 159) (v := ?_) (a' := ?_) #[true, true, true, true, true, true, false, false, false, false, false, false, false, false, false, false] rfl rfl (any_of HT_.o (by kernel_rfl)) (fun _ _ _ h => h) (Or.inl ⟨by rfl, ?_⟩) ?_ ?_
         rotate_left
         ·intro w'
          go_simp
          with_reducible rfl
         rotate_left
         ·simp only [Act.put, q1, q2, q3, i64_w, i32_w]
          rfl
         refine one_ (i := 6) (N := some 160) #[true, true, true, true, true, true, true, false, false, false, false, false, false, false, false, false] rfl rfl (one_of HT_.o (by kernel_rfl)) (by decide) (fun K hK => ?_)
         refine goes_ Try.func31 (by kernel_rfl) rfl #[.slice BD AE.length BI, .slice BE AJ.length BJ] (by rfl) rfl rfl (by (try simp only [List.map_toArray, List.map_cons, List.map_nil]); first | done | rfl | (simp only [List.length_drop, List.length_take]; rfl)) ?_
         with_reducible refine (laws_pSameCells.calls kj26 _ _ AE _ _ AJ true _ ?side1 ?side2 ?side3 ?side4 CA.o).mono ?_
         (case side1 => repeat (first | exact (Kd.RrZ Af.o).2.2 | (with_reducible refine Kd.C_alloc ?_ _) | (with_reducible refine Kd.C_drewN ?_ _) | (with_reducible refine Kd.C_drew ?_)))
         (case side2 => exact (Kd.RrZ Af.o).2.1)
         (case side3 => repeat (first | exact (Kd.RrZ Ai.o).2.2 | (with_reducible refine Kd.C_alloc ?_ _) | (with_reducible refine Kd.C_drewN ?_ _) | (with_reducible refine Kd.C_drew ?_)))
         (case side4 => exact (Kd.RrZ Ai.o).2.1)
         rintro e w' ⟨rfl, ⟨nd, rfl⟩⟩
         refine ⟨_, rfl, ?_⟩
         refine hK.out _ _ ⟨(ql Ae.o 0).trans rfl, (ql Ae.o 1).trans rfl⟩ (fun hHeld => ?_)
         clear hK K
         refine norm_ (a' := ?_) ?_ ?_
         rotate_left
         ·show Act.put _ (some 160) _ = _
          simp only [Act.put, q1, q2, q3, i64_w, i32_w]
          rfl
         refine pure_ (i := 7) (N := some 161) (v := ?_) (a' := ?_) #[true, true, true, true, true, true, true, true, false, false, false, false, false, false, false, false] rfl rfl (any_of HT_.o (by kernel_rfl)) (fun _ _ _ h => h) (Or.inl ⟨by rfl, ?_⟩) ?_ ?_
         rotate_left
         ·intro w'
          go_simp
          with_reducible rfl
         rotate_left
         ·simp only [Act.put, q1, q2, q3, i64_w, i32_w]
          rfl
         refine pure_ (i := 8) (N := some 162) (v := ?_) (a' := ?_) #[true, true, true, true, true, true, true, true, true, false, false, false, false, false, false, false] rfl rfl (any_of HT_.o (by kernel_rfl)) (fun _ _ _ h => h) (Or.inl ⟨by rfl, ?_⟩) ?_ ?_
         rotate_left
         ·intro w'
          go_simp
          with_reducible rfl
         rotate_left
         ·simp only [Act.put, q1, q2, q3, i64_w, i32_w]
          rfl
         refine take_ (i := 9) (N := some 163) (v := ?_) (a' := ?_) #[true, true, true, true, true, true, true, true, true, true, false, false, false, false, false, false] rfl rfl (take_ofW HT_.o HW_.o (by kernel_rfl)) (fun _ _ _ h => h) (Or.inl ⟨by rfl, ?_⟩) hHeld ?_ ?_
         rotate_left
         ·rintro w' ⟨s0, s1⟩
          go_simp
          with_reducible rfl
         rotate_left
         ·simp only [Act.put, q1, q2, q3, i64_w, i32_w]
          rfl
         refine take_ (i := 11) (N := some 165) (v := ?_) (a' := ?_) #[true, true, true, true, true, true, true, true, true, true, false, true, false, false, false, false] rfl rfl (take_ofW HT_.o HW_.o (by kernel_rfl)) (fun _ _ _ h => h) (Or.inl ⟨by rfl, ?_⟩) hHeld ?_ ?_
         rotate_left
         ·rintro w' ⟨s0, s1⟩
          go_simp
          with_reducible rfl
         rotate_left
         ·simp only [Act.put, q1, q2, q3, i64_w, i32_w]
          rfl
         refine one_ (i := 10) (N := some 164) #[true, true, true, true, true, true, true, true, true, true, true, true, false, false, false, false] rfl rfl (one_of HT_.o (by kernel_rfl)) (by decide) (fun K hK => ?_)
         refine goes_ Try.func14 (by kernel_rfl) rfl #[.agg #[.int .i64 Ak, .int .i64 Al]] (by rfl) rfl rfl (by (try simp only [List.map_toArray, List.map_cons, List.map_nil]); first | done | rfl | (simp only [List.length_drop, List.length_take]; rfl)) ?_
         with_reducible refine (impl_IsTurning.calls Ak Al Aq _ Bl.o).mono ?_
         rintro e D5 ⟨rfl, hb⟩
         refine ⟨_, rfl, ?_⟩
         replace Af := Z.m (Kd.Rb (vR Af) hb)
         replace Ai := Z.m (Kd.Rb (vR Ai) hb)
         replace Ae := kB Ae hb
         replace HB := bB HB hb
         (try clear hb)
         refine hK.out _ _ ⟨(ql Ae.o 0).trans rfl, (ql Ae.o 1).trans rfl⟩ (fun hHeld => ?_)
         clear hK K
         refine norm_ (a' := ?_) ?_ ?_
         rotate_left
         ·show Act.put _ (some 164) _ = _
          simp only [Act.put, q1, q2, q3, i64_w, i32_w]
          rfl
         refine one_ (i := 12) (N := some 166) #[true, true, true, true, true, true, true, true, true, true, true, true, true, false, false, false] rfl rfl (one_of HT_.o (by kernel_rfl)) (by decide) (fun K hK => ?_)
         refine goes_ Try.func36 (by kernel_rfl) rfl #[.agg #[.int .i64 Ak, .int .i64 Al]] (by rfl) rfl rfl (by (try simp only [List.map_toArray, List.map_cons, List.map_nil]); first | done | rfl | (simp only [List.length_drop, List.length_take]; rfl)) ?_
         with_reducible refine (spec_IsTurning.calls Ak Al Ao _ CB.o).mono ?_
         rintro e D6 ⟨rfl, hb⟩
         refine ⟨_, rfl, ?_⟩
         replace Af := Z.m (Kd.Rb (vR Af) hb)
         replace Ai := Z.m (Kd.Rb (vR Ai) hb)
         replace Ae := kB Ae hb
         replace HB := bB HB hb
         (try clear hb)
         refine hK.out _ _ ⟨(ql Ae.o 0).trans rfl, (ql Ae.o 1).trans rfl⟩ (fun hHeld => ?_)
         clear hK K
         refine norm_ (a' := ?_) ?_ ?_
         rotate_left
         ·show Act.put _ (some 166) _ = _
          simp only [Act.put, q1, q2, q3, i64_w, i32_w]
          rfl
         refine pure_ (i := 13) (N := some 167) (v := ?_) (a' := ?_) #[true, true, true, true, true, true, true, true, true, true, true, true, true, true, false, false] rfl rfl (any_of HT_.o (by kernel_rfl)) (fun _ _ _ h => h) (Or.inl ⟨by rfl, ?_⟩) ?_ ?_
         rotate_left
         ·intro w'
          go_simp
          with_reducible rfl
         rotate_left
         ·simp only [Act.put, q1, q2, q3, i64_w, i32_w]
          rfl
         refine pure_ (i := 14) (N := some 168) (v := ?_) (a' := ?_) #[true, true, true, true, true, true, true, true, true, true, true, true, true, true, true, false] rfl rfl (any_of HT_.o (by kernel_rfl)) (fun _ _ _ h => h) (Or.inl ⟨by rfl, ?_⟩) ?_ ?_
         rotate_left
         ·intro w'
          go_simp
          with_reducible rfl
         rotate_left
         ·simp only [Act.put, q1, q2, q3, i64_w, i32_w]
          rfl
         refine pure_ (i := 15) (N := some 4) (v := ?_) (a' := ?_) #[true, true, true, true, true, true, true, true, true, true, true, true, true, true, true, true] rfl rfl (any_of HT_.o (by kernel_rfl)) (fun _ _ _ h => h) (Or.inl ⟨by rfl, ?_⟩) ?_ ?_
         rotate_left
         ·intro w'
          go_simp
          with_reducible rfl
         rotate_left
         ·simp only [Act.put, q1, q2, q3, i64_w, i32_w]
          rfl
         refine done_ (done_of HT_.o (by kernel_rfl)) ?_
         try go_wp2
         go_ret
         exact ⟨by first | exact congrArg (fun b_ => Ending.returned (Value.bool b_)) HR_.o | rfl | (simp [eN, eS] <;> rfl) | (simp [*, eN, eS] <;> rfl), vB HB⟩
        ·(rw [if_neg c79] at H; exact absurd H (by decide))
       ·(rw [if_neg c77] at H; exact absurd H (by decide))
/-- THE ONE PURE STATEMENT of laws_FnCellLists: yours. -/
def laws_FnCellLists.Pure : Prop := ∀ (l0 : List Int) (l1 : List Int), l0.length ≤ maxLen → l0.length * 1 ≤ 140737488351232 → (∀ x ∈ l0, (Lit.int .u8 x).wf = true) → l1.length ≤ maxLen → l1.length * 1 ≤ 140737488351232 → (∀ x ∈ l1, (Lit.int .u8 x).wf = true) → ∃ k, laws_FnCellLists.f k l0 l1 = some true
theorem laws_FnCellLists.walk (P : laws_FnCellLists.Pure) (a0 : Option Addr) (len0 cap0 : Nat) (z0 : List Int) (a1 : Option Addr) (len1 cap1 : Nat) (z1 : List Int) (w : World) (w0 : (a0 = none ∧ len0 = 0 ∧ cap0 = 0 ∧ z0 = []) ∨ ∃ x, a0 = some x ∧ len0 ≤ cap0 ∧ cap0 ≤ maxLen ∧ z0.length = cap0 ∧ (∀ i, i < z0.length → w.cell? (x.add i) = some (.int .u8 (z0.getD i 0))) ∧ ∀ n ∈ z0, (Lit.int .u8 n).wf = true) (y0 : len0 * 1 ≤ 140737488351232) (w1 : (a1 = none ∧ len1 = 0 ∧ cap1 = 0 ∧ z1 = []) ∨ ∃ x, a1 = some x ∧ len1 ≤ cap1 ∧ cap1 ≤ maxLen ∧ z1.length = cap1 ∧ (∀ i, i < z1.length → w.cell? (x.add i) = some (.int .u8 (z1.getD i 0))) ∧ ∀ n ∈ z1, (Lit.int .u8 n).wf = true) (y1 : len1 * 1 ≤ 140737488351232) :
 Calls Try.prog 4 #[.slice a0 len0 cap0, .slice a1 len1 cap1] w fun e w' => e = .returned (.bool true) ∧ Below w.heap.size w w' := by
 obtain ⟨l0, rfl, hr0, hm0, hw0, hc0⟩ := ReadsInt.ofRowC w0
 obtain ⟨l1, rfl, hr1, hm1, hw1, hc1⟩ := ReadsInt.ofRowC w1
 obtain ⟨k, h⟩ := P l0 l1 hm0 y0 hw0 hm1 y1 hw1
 refine (laws_FnCellLists.calls k _ _ l0 _ _ l1 w (Kd.C_of_reads (d := (0 : Int)) (h1 := fun _ => rfl) hr0) hc0 (Kd.C_of_reads (d := (0 : Int)) (h1 := fun _ => rfl) hr1) hc1 h).mono ?_
 rintro e w' ⟨rfl, hd⟩
 exact ⟨rfl, hd⟩

end Go.Proofs.Ytklmdnlambinaaa.PAll
