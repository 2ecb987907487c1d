/- Began as a text that print.sh wrote (of the functions named below); turned and shortened by this session. -/
import Derived.Test.YtlkiakpipcnijaaG0
import Derived.Test.YtlkiakpipcnijaaG1
import Derived.Test.YtlkiakpipcnijaaG3
import Derived.Test.YtlkiakpipcnijaaG16
import Derived.Test.YtlkiakpipcnijaaG30
import Derived.Test.YtlkiakpipcnijaaG33
namespace Go.Proofs.Ytlkiakpipcnijaa.PAll
open Go.RowKit Go.Proofs.YtlkiakpipcnijaaW.PrintWords Go.Proofs.YtlkiakpipcnijaaW.PrintLast Go.Proofs.YtlkiakpipcnijaaW.PrintMore
attribute [local go_sem] max2_int min2_int max_two min_two max_three min_three max_four min_four   -- for this text's walks alone
set_option linter.unusedVariables false
set_option linter.unusedSimpArgs false

/-! ### laws_FnExactTurnGear: function 8 -/
mutual
def laws_FnExactTurnGear.j0 : Nat → Int → Int → Bool → Bool → Bool → Int → Int → List (S84) → Int → Int → List (S71) → Int → Int → List (S71) → Int → Int → List (S71) → Option (Bool)
 | 0, _, _, _, _, _, _, _, _, _, _, _, _, _, _, _, _, _ => none
 | k + 1, x1, x2, x9, x12, x48, x773000, x773001, x773002, x786000, x786001, x786002, x792000, x792001, x792002, x799000, x799001, x799002 => if x48 = true then (some false) else ((laws_toBoard.f k x773000 x773001 x773002).bind fun bt800 => ((laws_eqBoard.f k x792000 x792001 x792002 bt800.1 bt800.2.1 bt800.2.2).bind fun t805 => (if t805 = true then ((laws_markBoard.f k x792000 x792001 x792002 1).bind fun bt806 => (if bt806.1 < 0 then (laws_FnExactTurnGear.j1 k x1 x2 x9 true x773000 x773001 x773002 x786000 x786001 x786002 x799000 x799001 x799002) else ((laws_eqBoard.f k x799000 x799001 x799002 x786000 x786001 x786002).bind fun t808 => (if t808 = true then (laws_FnExactTurnGear.j1 k x1 x2 x9 (x12 != x9) x773000 x773001 x773002 x786000 x786001 x786002 x799000 x799001 x799002) else (laws_FnExactTurnGear.j1 k x1 x2 x9 true x773000 x773001 x773002 x786000 x786001 x786002 x799000 x799001 x799002))))) else (some false))))
def laws_FnExactTurnGear.j1 : Nat → Int → Int → Bool → Bool → Int → Int → List (S84) → Int → Int → List (S71) → Int → Int → List (S71) → Option (Bool)
 | 0, _, _, _, _, _, _, _, _, _, _, _, _, _ => none
 | k + 1, x1, x2, x9, x69, x773000, x773001, x773002, x786000, x786001, x786002, x799000, x799001, x799002 => if x69 = true then (some false) else ((laws_markBoard.f k x799000 x799001 x799002 1).bind fun bt809 => ((laws_heldBoard.f k x799000 x799001 bt809.2 1).bind fun t811 => (if t811 < 0 then (some false) else (if t811 = bt809.1 then ((laws_toBoard.f k x773000 x773001 x773002).bind fun bt812 => ((impl_TurnGear.f k bt812.1 bt812.2.1 bt812.2.2 x1 x2).bind fun bt817 => ((laws_eqBoard.f k bt817.1 bt817.2.1 bt817.2.2.1 x786000 x786001 x786002).bind fun t824 => (if t824 = true then (laws_FnExactTurnGear.j2 k bt809.1 (bt817.2.2.2 != x9) x799000 x799001 bt809.2) else (laws_FnExactTurnGear.j2 k bt809.1 true x799000 x799001 bt809.2))))) else (some false)))))
def laws_FnExactTurnGear.j2 : Nat → Int → Bool → Int → Int → List (S71) → Option (Bool)
 | 0, _, _, _, _, _ => none
 | k + 1, x14, x97, x799000, x799001, x799002 => if x97 = true then (some false) else ((laws_heldBoard.f k x799000 x799001 x799002 1).bind fun t825 => (if t825 < 0 then (some false) else (if t825 = x14 then (some true) else (some false))))
end
def laws_FnExactTurnGear.f (k : Nat) (a0_0 : Int) (a0_1 : Int) (l0_2 : List (S84)) (a1 : Int) (a2 : Int) : Option (Bool) := (laws_szBoard.f a0_0 a0_1 l0_2 1048576).bind fun t773 => (if t773 < 0 then (some true) else ((laws_toBoard.f k a0_0 a0_1 l0_2).bind fun bt774 => ((spec_TurnGear.f k bt774.1 bt774.2.1 bt774.2.2 a1 a2).bind fun bt779 => ((laws_toBoard.f k a0_0 a0_1 l0_2).bind fun bt786 => ((impl_TurnGear.f k bt786.1 bt786.2.1 bt786.2.2 a1 a2).bind fun bt792 => ((laws_eqBoard.f k bt792.1 bt792.2.1 bt792.2.2.1 bt779.1 bt779.2.1 bt779.2.2.1).bind fun t799 => (if t799 = true then (laws_FnExactTurnGear.j0 k a1 a2 bt779.2.2.2 bt792.2.2.2 (bt792.2.2.2 != bt779.2.2.2) a0_0 a0_1 l0_2 bt779.1 bt779.2.1 bt779.2.2.1 bt786.1 bt786.2.1 bt786.2.2 bt792.1 bt792.2.1 bt792.2.2.1) else (laws_FnExactTurnGear.j0 k a1 a2 bt779.2.2.2 bt792.2.2.2 true a0_0 a0_1 l0_2 bt779.1 bt779.2.1 bt779.2.2.1 bt786.1 bt786.2.1 bt786.2.2 bt792.1 bt792.2.1 bt792.2.2.1))))))))
theorem laws_FnExactTurnGear.bad_j0 (k : Nat) (y0 : Int) (y1 : Int) (y2 : Bool) (y3 : Bool) (y5 : Int) (y6 : Int) (y7 : List (S84)) (y8 : Int) (y9 : Int) (y10 : List (S71)) (y11 : Int) (y12 : Int) (y13 : List (S71)) (y14 : Int) (y15 : Int) (y16 : List (S71)) : ¬ laws_FnExactTurnGear.j0 k y0 y1 y2 y3 true y5 y6 y7 y8 y9 y10 y11 y12 y13 y14 y15 y16 = some true := by
 cases k <;> simp [laws_FnExactTurnGear.j0]
theorem laws_FnExactTurnGear.bad_j1 (k : Nat) (y0 : Int) (y1 : Int) (y2 : Bool) (y4 : Int) (y5 : Int) (y6 : List (S84)) (y7 : Int) (y8 : Int) (y9 : List (S71)) (y10 : Int) (y11 : Int) (y12 : List (S71)) : ¬ laws_FnExactTurnGear.j1 k y0 y1 y2 true y4 y5 y6 y7 y8 y9 y10 y11 y12 = some true := by
 cases k <;> simp [laws_FnExactTurnGear.j1]
theorem laws_FnExactTurnGear.bad_j2 (k : Nat) (y0 : Int) (y2 : Int) (y3 : Int) (y4 : List (S71)) : ¬ laws_FnExactTurnGear.j2 k y0 true y2 y3 y4 = some true := by
 cases k <;> simp [laws_FnExactTurnGear.j2]
set_option maxHeartbeats 8000000 in
set_option maxRecDepth 100000 in
theorem laws_FnExactTurnGear.calls (k : Nat) (a0_0 : Int) (a0_1 : Int) (A0_2 : Option Addr) (c0_2 : Nat) (l0_2 : List (S84)) (a1 : Int) (a2 : Int) (w : World) (hr0_2 : Kd.C k84 w A0_2 l0_2.length l0_2) (hc0_2 : l0_2.length ≤ c0_2) (h : laws_FnExactTurnGear.f k a0_0 a0_1 l0_2 a1 a2 = some true) :
 Calls Try.prog 8 #[.agg #[.int .i64 a0_0, .int .i64 a0_1, .slice A0_2 l0_2.length c0_2], .int .i64 a1, .int .i64 a2] w fun e w' => e = .returned (.bool true) ∧ Below w.heap.size w w' := by
 have FV := Try.underlying24
 have FW := Try.underlying30
 have Bf := Z.m hr0_2
 have Be := Z.m hc0_2
 clear hr0_2 hc0_2
 have HB := Z.m (Below.refl w.heap.size w)
 have H : ((laws_szBoard.f a0_0 a0_1 l0_2 1048576).bind fun Bp => (if Bp < 0 then (some true) else ((laws_toBoard.f k a0_0 a0_1 l0_2).bind fun bt774 => ((spec_TurnGear.f k bt774.1 bt774.2.1 bt774.2.2 a1 a2).bind fun bt779 => ((laws_toBoard.f k a0_0 a0_1 l0_2).bind fun bt786 => ((impl_TurnGear.f k bt786.1 bt786.2.1 bt786.2.2 a1 a2).bind fun bt792 => ((laws_eqBoard.f k bt792.1 bt792.2.1 bt792.2.2.1 bt779.1 bt779.2.1 bt779.2.2.1).bind fun AQ => (if AQ = true then (laws_FnExactTurnGear.j0 k a1 a2 bt779.2.2.2 bt792.2.2.2 (bt792.2.2.2 != bt779.2.2.2) a0_0 a0_1 l0_2 bt779.1 bt779.2.1 bt779.2.2.1 bt786.1 bt786.2.1 bt786.2.2 bt792.1 bt792.2.1 bt792.2.2.1) else (laws_FnExactTurnGear.j0 k a1 a2 bt779.2.2.2 bt792.2.2.2 true a0_0 a0_1 l0_2 bt779.1 bt779.2.1 bt779.2.2.1 bt786.1 bt786.2.1 bt786.2.2 bt792.1 bt792.2.1 bt792.2.2.1))))))))) = some true := h
 clear h
 replace H := Option.bind_eq_some_iff.mp H
 obtain ⟨Bp, F4, H⟩ := H
 replace H : (if Bp < 0 then (some true) else ((laws_toBoard.f k a0_0 a0_1 l0_2).bind fun bt774 => ((spec_TurnGear.f k bt774.1 bt774.2.1 bt774.2.2 a1 a2).bind fun bt779 => ((laws_toBoard.f k a0_0 a0_1 l0_2).bind fun bt786 => ((impl_TurnGear.f k bt786.1 bt786.2.1 bt786.2.2 a1 a2).bind fun bt792 => ((laws_eqBoard.f k bt792.1 bt792.2.1 bt792.2.2.1 bt779.1 bt779.2.1 bt779.2.2.1).bind fun AQ => (if AQ = true then (laws_FnExactTurnGear.j0 k a1 a2 bt779.2.2.2 bt792.2.2.2 (bt792.2.2.2 != bt779.2.2.2) a0_0 a0_1 l0_2 bt779.1 bt779.2.1 bt779.2.2.1 bt786.1 bt786.2.1 bt786.2.2 bt792.1 bt792.2.1 bt792.2.2.1) else (laws_FnExactTurnGear.j0 k a1 a2 bt779.2.2.2 bt792.2.2.2 true a0_0 a0_1 l0_2 bt779.1 bt779.2.1 bt779.2.2.1 bt786.1 bt786.2.1 bt786.2.2 bt792.1 bt792.2.1 bt792.2.2.1)))))))) = some true := H
 have A4 := Z.m F4
 clear F4
 by_cases c5 : Bp < 0
 ·rw [if_pos c5] at H
  have Dm := decide_eq_true c5
  clear c5
  clear H
  go_enter Try.func8, Try.ntmps8
  go_wp2_with (first | ((with_reducible refine gq (N := 3) rfl ?_); refine be (N := 3) (cs := #[.int .i64 a0_0, .int .i64 a0_1, .slice A0_2 l0_2.length c0_2]) (t := 24) ?_; intro AJ hg w6 hbox hb; have A1 := Z.m (hbox); have By := gW (w := w) HB hg; have Bx := By; replace HB := bB HB hb; clear hb hbox hg; have Ei := bc0 A1; have Ej := bc1 A1; have Ek := bc2 A1; have El := qz A1.o 0; have Em := qz A1.o 1; have En := qz A1.o 2) | ((with_reducible refine gc (f := 15) rfl ?_); refine gA (some 20) _ #[.agg #[.int .i64 a0_0, .int .i64 a0_1, .slice A0_2 l0_2.length c0_2], .int .i64 1048576] ?_ Try.func15; (with_reducible refine (laws_szBoard.calls a0_0 a0_1 _ _ l0_2 1048576 Bp _ ?side1 ?side2 A4.o).mono ?_); (case side1 => repeat (first | exact (Kd.C_below Bf.o HB.o) | (with_reducible refine Kd.C_alloc ?_ _) | (with_reducible refine Kd.C_drewN ?_ _) | (with_reducible refine Kd.C_drew ?_))); (case side2 => exact Be.o); rintro e w8 ⟨rfl, hb⟩; refine ⟨_, rfl, ?_⟩; replace A1 := kB A1 hb; replace HB := bB HB hb; (try clear hb); (try clear Bv); (try clear hk); (try clear hi)))
  go_ret
  exact ⟨by first | rfl | (simp [eN, eS] <;> rfl) | (simp [*, eN, eS] <;> rfl), vB HB⟩
 ·rw [if_neg c5] at H
  have Dm := decide_eq_false c5
  clear c5
  replace H := Option.bind_eq_some_iff.mp H
  obtain ⟨⟨CL, CM, Bo⟩, F5, H⟩ := H
  replace H : ((spec_TurnGear.f k CL CM Bo a1 a2).bind fun bt779 => ((laws_toBoard.f k a0_0 a0_1 l0_2).bind fun bt786 => ((impl_TurnGear.f k bt786.1 bt786.2.1 bt786.2.2 a1 a2).bind fun bt792 => ((laws_eqBoard.f k bt792.1 bt792.2.1 bt792.2.2.1 bt779.1 bt779.2.1 bt779.2.2.1).bind fun AQ => (if AQ = true then (laws_FnExactTurnGear.j0 k a1 a2 bt779.2.2.2 bt792.2.2.2 (bt792.2.2.2 != bt779.2.2.2) a0_0 a0_1 l0_2 bt779.1 bt779.2.1 bt779.2.2.1 bt786.1 bt786.2.1 bt786.2.2 bt792.1 bt792.2.1 bt792.2.2.1) else (laws_FnExactTurnGear.j0 k a1 a2 bt779.2.2.2 bt792.2.2.2 true a0_0 a0_1 l0_2 bt779.1 bt779.2.1 bt779.2.2.1 bt786.1 bt786.2.1 bt786.2.2 bt792.1 bt792.2.1 bt792.2.2.1)))))) = some true := H
  have A9 := Z.m F5
  clear F5
  replace H := Option.bind_eq_some_iff.mp H
  obtain ⟨⟨Af, Ag, Aa, Ah⟩, D8, H⟩ := H
  replace H : ((laws_toBoard.f k a0_0 a0_1 l0_2).bind fun bt786 => ((impl_TurnGear.f k bt786.1 bt786.2.1 bt786.2.2 a1 a2).bind fun bt792 => ((laws_eqBoard.f k bt792.1 bt792.2.1 bt792.2.2.1 Af Ag Aa).bind fun AQ => (if AQ = true then (laws_FnExactTurnGear.j0 k a1 a2 Ah bt792.2.2.2 (bt792.2.2.2 != Ah) a0_0 a0_1 l0_2 Af Ag Aa bt786.1 bt786.2.1 bt786.2.2 bt792.1 bt792.2.1 bt792.2.2.1) else (laws_FnExactTurnGear.j0 k a1 a2 Ah bt792.2.2.2 true a0_0 a0_1 l0_2 Af Ag Aa bt786.1 bt786.2.1 bt786.2.2 bt792.1 bt792.2.1 bt792.2.2.1))))) = some true := H
  have FL := Z.m D8
  clear D8
  replace H := Option.bind_eq_some_iff.mp H
  obtain ⟨⟨Ao, Ap, Ai⟩, D9, H⟩ := H
  replace H : ((impl_TurnGear.f k Ao Ap Ai a1 a2).bind fun bt792 => ((laws_eqBoard.f k bt792.1 bt792.2.1 bt792.2.2.1 Af Ag Aa).bind fun AQ => (if AQ = true then (laws_FnExactTurnGear.j0 k a1 a2 Ah bt792.2.2.2 (bt792.2.2.2 != Ah) a0_0 a0_1 l0_2 Af Ag Aa Ao Ap Ai bt792.1 bt792.2.1 bt792.2.2.1) else (laws_FnExactTurnGear.j0 k a1 a2 Ah bt792.2.2.2 true a0_0 a0_1 l0_2 Af Ag Aa Ao Ap Ai bt792.1 bt792.2.1 bt792.2.2.1)))) = some true := H
  have FM := Z.m D9
  clear D9
  replace H := Option.bind_eq_some_iff.mp H
  obtain ⟨⟨Ac, Ad, Ab, AG⟩, Da, H⟩ := H
  replace H : ((laws_eqBoard.f k Ac Ad Ab Af Ag Aa).bind fun AQ => (if AQ = true then (laws_FnExactTurnGear.j0 k a1 a2 Ah AG (AG != Ah) a0_0 a0_1 l0_2 Af Ag Aa Ao Ap Ai Ac Ad Ab) else (laws_FnExactTurnGear.j0 k a1 a2 Ah AG true a0_0 a0_1 l0_2 Af Ag Aa Ao Ap Ai Ac Ad Ab))) = some true := H
  have FN := Z.m Da
  clear Da
  have D1 := Z.m H
  clear H
  go_enter Try.func8, Try.ntmps8
  go_upto_region 8 with (first | ((with_reducible refine gq (N := 3) rfl ?_); refine be (N := 3) (cs := #[.int .i64 a0_0, .int .i64 a0_1, .slice A0_2 l0_2.length c0_2]) (t := 24) ?_; intro AJ hg Gb hbox hb; have A1 := Z.m (hbox); have By := gW (w := w) HB hg; have Bx := By; replace HB := bB HB hb; clear hb hbox hg; have C3 := bc0 A1; have C4 := bc1 A1; have C5 := bc2 A1; have Cq := qz A1.o 0; have Cr := qz A1.o 1; have Cs := qz A1.o 2) | ((with_reducible refine gc (f := 15) rfl ?_); refine gA (some 20) _ #[.agg #[.int .i64 a0_0, .int .i64 a0_1, .slice A0_2 l0_2.length c0_2], .int .i64 1048576] ?_ Try.func15; (with_reducible refine (laws_szBoard.calls a0_0 a0_1 _ _ l0_2 1048576 Bp _ ?side1 ?side2 A4.o).mono ?_); (case side1 => repeat (first | exact (Kd.C_below Bf.o HB.o) | (with_reducible refine Kd.C_alloc ?_ _) | (with_reducible refine Kd.C_drewN ?_ _) | (with_reducible refine Kd.C_drew ?_))); (case side2 => exact Be.o); rintro e Gc ⟨rfl, hb⟩; refine ⟨_, rfl, ?_⟩; replace A1 := kB A1 hb; replace HB := bB HB hb; (try clear hb); (try clear Bv); (try clear hk); (try clear hi); have C6 := bc0 A1; have C7 := bc1 A1; have C8 := bc2 A1; have Ct := qz A1.o 0; have Cu := qz A1.o 1; have Cv := qz A1.o 2) | ((with_reducible refine gc (f := 17) rfl ?_); refine gA (some 25) _ #[.agg #[.int .i64 a0_0, .int .i64 a0_1, .slice A0_2 l0_2.length c0_2]] ?_ Try.func17; (with_reducible refine (laws_toBoard.calls k a0_0 a0_1 _ _ l0_2 CL CM Bo _ ?side1 ?side2 A9.o).mono ?_); (case side1 => repeat (first | exact (Kd.C_below Bf.o HB.o) | (with_reducible refine Kd.C_alloc ?_ _) | (with_reducible refine Kd.C_drewN ?_ _) | (with_reducible refine Kd.C_drew ?_))); (case side2 => exact Be.o); rintro e Gd ⟨FX, rfl, AI, hb⟩; refine ⟨_, rfl, ?_⟩; have Al := Z.m (Kd.R_lower AI (below_size (vB HB))); replace A1 := kB A1 hb; replace HB := bB HB hb; (try clear hb); (try clear Bv); (try clear hk); (try clear hi); (try clear AI); obtain ⟨C1, C2, Ee⟩ := Kd.R_slice Al.o; subst Ee) | ((with_reducible refine gc (f := 32) rfl ?_); refine gA (some 28) _ #[.agg #[.int .i64 CL, .int .i64 CM, .slice C1 Bo.length C2], .int .i64 a1, .int .i64 a2] ?_ Try.func32; (with_reducible refine (spec_TurnGear.calls k CL CM _ _ Bo a1 a2 Af Ag Aa Ah _ ?side1 ?side2 FL.o).mono ?_); (case side1 => repeat (first | exact (Kd.RrZ Al.o).2.2 | (with_reducible refine Kd.C_alloc ?_ _) | (with_reducible refine Kd.C_drewN ?_ _) | (with_reducible refine Kd.C_drew ?_))); (case side2 => exact (Kd.RrZ Al.o).2.1); rintro e Ge ⟨FY, rfl, AI, hb⟩; refine ⟨_, rfl, ?_⟩; have Ar := Z.m (Kd.R_lower (Kd.R_new' AI (Kd.R_lt (vR Al))) (below_size (vB HB))); replace Al := Z.m (Kd.R_elder' (vR Al) (Kd.R_base AI) hb); replace A1 := kB A1 hb; replace HB := bB HB hb; (try clear hb); (try clear Bv); (try clear hk); (try clear hi); (try clear AI)) | ((with_reducible refine gq (N := 8) rfl ?_); refine be (N := 8) (cs := #[.int .i64 0, .int .i64 0, .slice none 0 0]) (t := 30) ?_; intro Bc hg Gf hbox hb; have A6 := Z.m (hbox); have Di := gW (w := w) HB hg; have CV := Di; have Aw := neL A1 hg; have AD := neG A1 hg; replace Al := Z.m (Kd.Rb (vR Al) hb); replace Ar := Z.m (Kd.Rb (vR Ar) hb); replace A1 := kB A1 hb; replace HB := bB HB hb; clear hb hbox hg; have F8 := AD.o; have Fr := Aw.o; have C9 := bc0 A6; have Ca := bc1 A6; have Cb := bc2 A6; have Cw := qz A6.o 0; have Cx := qz A6.o 1; have Cy := qz A6.o 2; obtain ⟨Av, Au, Ef⟩ := Kd.R_slice Ar.o; subst Ef; have Cd := bc0 A1; have Ce := bc1 A1; have Cf := bc2 A1; have Cz := qz A1.o 0; have CA := qz A1.o 1; have CB := qz A1.o 2) | ((with_reducible refine gc (f := 17) rfl ?_); refine gA (some 32) _ #[.agg #[.int .i64 a0_0, .int .i64 a0_1, .slice A0_2 l0_2.length c0_2]] ?_ Try.func17; (with_reducible refine (laws_toBoard.calls k a0_0 a0_1 _ _ l0_2 Ao Ap Ai _ ?side1 ?side2 FM.o).mono ?_); (case side1 => exact Kd.C_below Bf.o (vB HB)); (case side2 => exact Be.o); rintro e Gg ⟨FZ, rfl, AI, hb⟩; refine ⟨_, rfl, ?_⟩; have AC := Z.m (Kd.R_lower (Kd.R_new' (Kd.R_new' AI (Kd.R_lt (by refine rK ?_; exact (Kd.Rm (rf (rf (rf (Kd.Ry Al.o A6.o (by decide))))) (fun _ h_ => h_.1))))) (Kd.R_lt (by refine rK ?_; exact (Kd.Rm (rf (rf (rf (Kd.Ry Ar.o A6.o (by decide))))) (fun _ h_ => h_.1))))) (below_size (vB HB))); replace Al := Z.m (Kd.R_elder' (by refine rK ?_; exact (Kd.Rm (rf (rf (rf (Kd.Ry Al.o A6.o (by decide))))) (fun _ h_ => h_.1))) (Kd.R_base AI) hb); replace Ar := Z.m (Kd.R_elder' (by refine rK ?_; exact (Kd.Rm (rf (rf (rf (Kd.Ry Ar.o A6.o (by decide))))) (fun _ h_ => h_.1))) (Kd.R_base AI) hb); replace A1 := Z.m (qb (g := AJ) (o := .cells #[.int .i64 a0_0, .int .i64 a0_1, .slice A0_2 l0_2.length c0_2] 24 (0, 0)) (by refine bK ?_; (iterate 3 refine qF ?_ Aw); exact A1.o) hb); replace A6 := Z.m (qb (g := Bc) (o := .cells #[.int .i64 Af, .int .i64 Ag, .slice Av Aa.length Au] 30 (0, 0)) (by refine bK ?_; apply st3; refine bK ?_; exact A6.o) hb); replace HB := bB HB hb; (try clear hb); (try clear Bv); (try clear hk); (try clear hi); (try clear AI)) | ((with_reducible refine gq (N := 10) rfl ?_); refine be (N := 10) (cs := #[.int .i64 0, .int .i64 0, .slice none 0 0]) (t := 30) ?_; intro AP hg Gh hbox hb; have A7 := Z.m (hbox); have Dj := gW (w := w) HB hg; have CW := Dj; have AK := neL A1 hg; have AU := neG A1 hg; have Ay := neL A6 hg; have AE := neG A6 hg; replace Al := Z.m (Kd.Rb (vR Al) hb); replace Ar := Z.m (Kd.Rb (vR Ar) hb); replace AC := Z.m (Kd.Rb (vR AC) hb); replace A1 := kB A1 hb; replace A6 := kB A6 hb; replace HB := bB HB hb; clear hb hbox hg; have F9 := AU.o; have Fs := AK.o; have Fa := AE.o; have Ft := Ay.o; have Cg := bc0 A7; have Ch := bc1 A7; have Ci := bc2 A7; have CC := qz A7.o 0; have CD := qz A7.o 1; have CE := qz A7.o 2; obtain ⟨Am, Ak, Eg⟩ := Kd.R_slice AC.o; subst Eg) | ((with_reducible refine gc (f := 33) rfl ?_); refine gA (some 37) _ #[.agg #[.int .i64 Ao, .int .i64 Ap, .slice Am Ai.length Ak], .int .i64 a1, .int .i64 a2] ?_ Try.func33; (with_reducible refine (impl_TurnGear.calls k Ao Ap _ _ Ai a1 a2 Ac Ad Ab AG _ ?side1 ?side2 FN.o).mono ?_); (case side1 => refine (Kd.RrZ (e := 71) (base := w.heap.size) (ok := fun k_ => ((True ∧ some k_ ≠ (.slice C1 Bo.length C2 : Value).ownBlock) ∧ some k_ ≠ (.slice Av Aa.length Au : Value).ownBlock)) (n := Ai.length) (c := Ak) ?_).2.2; exact (by refine rK ?_; exact (Kd.Rm (rf (rf (rf (Kd.Ry AC.o A7.o (by decide))))) (fun _ h_ => h_.1)))); (case side2 => exact (Kd.RrZ AC.o).2.1); rintro e Gi ⟨G0, rfl, AI, hb⟩; refine ⟨_, rfl, ?_⟩; have AZ := Z.m (Kd.R_lower (Kd.R_new' (Kd.R_new' (Kd.R_new' AI (Kd.R_lt (by refine rK ?_; exact (Kd.Rm (rf (rf (rf (Kd.Ry Al.o A7.o (by decide))))) (fun _ h_ => h_.1))))) (Kd.R_lt (by refine rK ?_; exact (Kd.Rm (rf (rf (rf (Kd.Ry Ar.o A7.o (by decide))))) (fun _ h_ => h_.1))))) (Kd.R_lt (by refine rK ?_; exact (Kd.Rm (rf (rf (rf (Kd.Ry AC.o A7.o (by decide))))) (fun _ h_ => h_.1))))) (below_size (vB HB))); replace Al := Z.m (Kd.R_elder' (by refine rK ?_; exact (Kd.Rm (rf (rf (rf (Kd.Ry Al.o A7.o (by decide))))) (fun _ h_ => h_.1))) (Kd.R_base AI) hb); replace Ar := Z.m (Kd.R_elder' (by refine rK ?_; exact (Kd.Rm (rf (rf (rf (Kd.Ry Ar.o A7.o (by decide))))) (fun _ h_ => h_.1))) (Kd.R_base AI) hb); replace AC := Z.m (Kd.R_elder' (by refine rK ?_; exact (Kd.Rm (rf (rf (rf (Kd.Ry AC.o A7.o (by decide))))) (fun _ h_ => h_.1))) (Kd.R_base AI) hb); replace A1 := Z.m (qb (g := AJ) (o := .cells #[.int .i64 a0_0, .int .i64 a0_1, .slice A0_2 l0_2.length c0_2] 24 (0, 0)) (by refine bK ?_; (iterate 3 refine qF ?_ AK); exact A1.o) hb); replace A6 := Z.m (qb (g := Bc) (o := .cells #[.int .i64 Af, .int .i64 Ag, .slice Av Aa.length Au] 30 (0, 0)) (by refine bK ?_; (iterate 3 refine qF ?_ Ay); exact A6.o) hb); replace A7 := Z.m (qb (g := AP) (o := .cells #[.int .i64 Ao, .int .i64 Ap, .slice Am Ai.length Ak] 30 (0, 0)) (by refine bK ?_; apply st3; refine bK ?_; exact A7.o) hb); replace HB := bB HB hb; (try clear hb); (try clear Bv); (try clear hk); (try clear hi); (try clear AI)) | ((with_reducible refine gq (N := 11) rfl ?_); refine be (N := 11) (cs := #[.int .i64 0, .int .i64 0, .slice none 0 0]) (t := 30) ?_; intro Bm hg Gj hbox hb; have A5 := Z.m (hbox); have Dk := gW (w := w) HB hg; have CX := Dk; have Ax := neL A1 hg; have AF := neG A1 hg; have As := neL A6 hg; have Az := neG A6 hg; have At := neL A7 hg; have AA := neG A7 hg; replace Al := Z.m (Kd.Rb (vR Al) hb); replace Ar := Z.m (Kd.Rb (vR Ar) hb); replace AC := Z.m (Kd.Rb (vR AC) hb); replace AZ := Z.m (Kd.Rb (vR AZ) hb); replace A1 := kB A1 hb; replace A6 := kB A6 hb; replace A7 := kB A7 hb; replace HB := bB HB hb; clear hb hbox hg; have Fb := AF.o; have Fu := Ax.o; have Fc := Az.o; have Fv := As.o; have Fd := AA.o; have Fw := At.o; have Cj := bc0 A5; have Cl := bc1 A5; have Cm := bc2 A5; have CF := qz A5.o 0; have CG := qz A5.o 1; have CH := qz A5.o 2; obtain ⟨Aq, An, Eh⟩ := Kd.R_slice AZ.o; subst Eh))
  (try simp only [Act.put, q1, q2, q3])
  go_cut [48] (fun v48 wc => ∃ (kq : Nat) (Bj : Bool), v48 = .bool Bj ∧ Z (laws_FnExactTurnGear.j0 kq a1 a2 Ah AG Bj a0_0 a0_1 l0_2 Af Ag Aa Ao Ap Ai Ac Ad Ab = some true) ∧ Z (kq ≤ k) ∧ Z (Kd.R k71 71 wc w.heap.size (fun k_ => some k_ ≠ ((.slice Am Ai.length Ak) : Value).ownBlock ∧ some k_ ≠ ((.slice Aq Ab.length An) : Value).ownBlock) (.slice Av Aa.length Au) Aa) ∧ Z (Kd.R k71 71 wc w.heap.size (fun k_ => some k_ ≠ ((.slice Av Aa.length Au) : Value).ownBlock ∧ some k_ ≠ ((.slice Aq Ab.length An) : Value).ownBlock) (.slice Am Ai.length Ak) Ai) ∧ Z (Kd.R k71 71 wc w.heap.size (fun k_ => some k_ ≠ ((.slice Av Aa.length Au) : Value).ownBlock ∧ some k_ ≠ ((.slice Am Ai.length Ak) : Value).ownBlock) (.slice Aq Ab.length An) Ab) ∧ Z (wc.heap[AJ]? = some (.cells #[.int .i64 a0_0, .int .i64 a0_1, (.slice A0_2 l0_2.length c0_2)] 24 (0, 0))) ∧ Z (wc.heap[Bc]? = some (.cells #[.int .i64 Af, .int .i64 Ag, (.slice Av Aa.length Au)] 30 (0, 0))) ∧ Z (wc.heap[AP]? = some (.cells #[.int .i64 Ao, .int .i64 Ap, (.slice Am Ai.length Ak)] 30 (0, 0))) ∧ Z (wc.heap[Bm]? = some (.cells #[.int .i64 Ac, .int .i64 Ad, (.slice Aq Ab.length An)] 30 (0, 0))) ∧ Z (Below w.heap.size w wc))
  case first =>
   have H := D1.o
   clear D1
   replace H := Option.bind_eq_some_iff.mp H
   obtain ⟨AQ, Db, H⟩ := H
   replace H : (if AQ = true then (laws_FnExactTurnGear.j0 k a1 a2 Ah AG (AG != Ah) a0_0 a0_1 l0_2 Af Ag Aa Ao Ap Ai Ac Ad Ab) else (laws_FnExactTurnGear.j0 k a1 a2 Ah AG true a0_0 a0_1 l0_2 Af Ag Aa Ao Ap Ai Ac Ad Ab)) = some true := H
   have FO := Z.m Db
   clear Db
   by_cases c40 : AQ = true
   ·subst c40
    have H1 : (laws_FnExactTurnGear.j0 k a1 a2 Ah AG (AG != Ah) a0_0 a0_1 l0_2 Af Ag Aa Ao Ap Ai Ac Ad Ab) = some true := by rw [if_pos rfl] at H; exact H
    clear H
    have H := H1
    clear H1
    have H' := Z.m H
    clear H
    have Fe := AF.o
    have Fx := Ax.o
    have Ff := Az.o
    have Fy := As.o
    have Fg := AA.o
    have Fz := At.o
    have DJ := bc0 A5
    have DK := bc1 A5
    have DL := bc2 A5
    have DV := qz A5.o 0
    have DW := qz A5.o 1
    have DX := qz A5.o 2
    have Fh := AD.o
    have FA := Aw.o
    have Fi := Ay.o
    have FB := AE.o
    have DM := bc0 A6
    have DN := bc1 A6
    have DO := bc2 A6
    have DY := qz A6.o 0
    have DZ := qz A6.o 1
    have E0 := qz A6.o 2
    go_wp2_with (first | ((with_reducible refine gc (f := 19) rfl ?_); refine gA (some 42) _ #[.agg #[.int .i64 Ac, .int .i64 Ad, .slice Aq Ab.length An], .agg #[.int .i64 Af, .int .i64 Ag, .slice Av Aa.length Au]] ?_ Try.func19; (with_reducible refine (laws_eqBoard.calls k Ac Ad _ _ Ab Af Ag _ _ Aa true _ ?side1 ?side2 ?side3 ?side4 FO.o).mono ?_); (case side1 => refine (Kd.RrZ (e := 71) (base := w.heap.size) (ok := fun k_ => (((True ∧ some k_ ≠ (.slice C1 Bo.length C2 : Value).ownBlock) ∧ some k_ ≠ (.slice Av Aa.length Au : Value).ownBlock) ∧ some k_ ≠ (.slice Am Ai.length Ak : Value).ownBlock)) (n := Ab.length) (c := An) ?_).2.2; exact (by refine rK ?_; exact (Kd.Rm (rf (rf (rf (Kd.Ry AZ.o A5.o (by decide))))) (fun _ h_ => h_.1)))); (case side2 => exact (Kd.RrZ AZ.o).2.1); (case side3 => refine (Kd.RrZ (e := 71) (base := w.heap.size) (ok := fun k_ => (((True ∧ some k_ ≠ (.slice C1 Bo.length C2 : Value).ownBlock) ∧ some k_ ≠ (.slice Am Ai.length Ak : Value).ownBlock) ∧ some k_ ≠ (.slice Aq Ab.length An : Value).ownBlock)) (n := Aa.length) (c := Au) ?_).2.2; exact (by refine rK ?_; exact (Kd.Rm (rf (rf (rf (Kd.Ry Ar.o A5.o (by decide))))) (fun _ h_ => h_.1)))); (case side4 => exact (Kd.RrZ Ar.o).2.1); rintro e Gk ⟨rfl, hb⟩; refine ⟨_, rfl, ?_⟩; replace Al := Z.m (Kd.Rb (by refine rK ?_; exact (Kd.Rm (rf (rf (rf (Kd.Ry Al.o A5.o (by decide))))) (fun _ h_ => h_.1))) hb); replace Ar := Z.m (Kd.Rb (by refine rK ?_; exact (Kd.Rm (rf (rf (rf (Kd.Ry Ar.o A5.o (by decide))))) (fun _ h_ => h_.1))) hb); replace AC := Z.m (Kd.Rb (by refine rK ?_; exact (Kd.Rm (rf (rf (rf (Kd.Ry AC.o A5.o (by decide))))) (fun _ h_ => h_.1))) hb); replace AZ := Z.m (Kd.Rb (by refine rK ?_; exact (Kd.Rm (rf (rf (rf (Kd.Ry AZ.o A5.o (by decide))))) (fun _ h_ => h_.1))) hb); replace A1 := Z.m (qb (g := AJ) (o := .cells #[.int .i64 a0_0, .int .i64 a0_1, .slice A0_2 l0_2.length c0_2] 24 (0, 0)) (by refine bK ?_; (iterate 3 refine qF ?_ Ax); exact A1.o) hb); replace A6 := Z.m (qb (g := Bc) (o := .cells #[.int .i64 Af, .int .i64 Ag, .slice Av Aa.length Au] 30 (0, 0)) (by refine bK ?_; (iterate 3 refine qF ?_ As); exact A6.o) hb); replace A7 := Z.m (qb (g := AP) (o := .cells #[.int .i64 Ao, .int .i64 Ap, .slice Am Ai.length Ak] 30 (0, 0)) (by refine bK ?_; (iterate 3 refine qF ?_ At); exact A7.o) hb); replace A5 := Z.m (qb (g := Bm) (o := .cells #[.int .i64 Ac, .int .i64 Ad, .slice Aq Ab.length An] 30 (0, 0)) (by refine bK ?_; apply st3; refine bK ?_; exact A5.o) hb); replace HB := bB HB hb; (try clear hb); (try clear Bv); (try clear hk); (try clear hi)))
    go_meet
    case rel => exact ⟨_, ((AG != Ah)), (by first | rfl | (simp; done) | (simp [*]; done)), H', ⟨by first | omega | exact Nat.le_refl _⟩, ⟨by refine rK ?_; exact Kd.Rm Ar.o (fun _ hk => ⟨hk.1.2, hk.2⟩)⟩, ⟨by refine rK ?_; exact Kd.Rm AC.o (fun _ hk => ⟨hk.1.2, hk.2⟩)⟩, ⟨by refine rK ?_; exact Kd.Rm AZ.o (fun _ hk => ⟨hk.1.2, hk.2⟩)⟩, ⟨vK A1⟩, ⟨vK A6⟩, ⟨vK A7⟩, ⟨vK A5⟩, ⟨vB HB⟩⟩
   ·(rw [if_neg c40] at H; exact absurd H (laws_FnExactTurnGear.bad_j0 _ _ _ _ _ _ _ _ _ _ _ _ _ _ _ _ _))
  case rest =>
   clear D1
   (try clear Dm)
   (try clear C3); (try clear C4); (try clear C5); (try clear C6); (try clear C7); (try clear C8); (try clear C9); (try clear Ca)
   (try clear Cb); (try clear Cd); (try clear Ce); (try clear Cf); (try clear Cg); (try clear Ch); (try clear Ci); (try clear Cj)
   (try clear Cl); (try clear Cm); (try clear Cq); (try clear Cr); (try clear Cs); (try clear Ct); (try clear Cu); (try clear Cv)
   (try clear Cw); (try clear Cx); (try clear Cy); (try clear Cz); (try clear CA); (try clear CB); (try clear CC); (try clear CD)
   (try clear CE); (try clear CF); (try clear CG); (try clear CH)
   obtain ⟨kq, Bj, rfl, HA, D3, A3, A2, A0, A1, A6, A7, A5, HB⟩ := hcut
   cases kq with
   | zero => exact absurd HA.o (by simp [laws_FnExactTurnGear.j0])
   | succ kj12 =>
    have H := HA.o
    clear HA
    simp only [laws_FnExactTurnGear.j0] at H
    by_cases c57 : Bj = true
    ·(rw [if_pos c57] at H; exact absurd H (by decide))
    ·replace c57 := Bool.eq_false_iff.mpr c57
     subst c57
     have H1 : ((laws_toBoard.f kj12 a0_0 a0_1 l0_2).bind fun bt800 => ((laws_eqBoard.f kj12 Ao Ap Ai bt800.1 bt800.2.1 bt800.2.2).bind fun Br => (if Br = true then ((laws_markBoard.f kj12 Ao Ap Ai 1).bind fun bt806 => (if bt806.1 < 0 then (laws_FnExactTurnGear.j1 kj12 a1 a2 Ah true a0_0 a0_1 l0_2 Af Ag Aa Ac Ad Ab) else ((laws_eqBoard.f kj12 Ac Ad Ab Af Ag Aa).bind fun B7 => (if B7 = true then (laws_FnExactTurnGear.j1 kj12 a1 a2 Ah (AG != Ah) a0_0 a0_1 l0_2 Af Ag Aa Ac Ad Ab) else (laws_FnExactTurnGear.j1 kj12 a1 a2 Ah true a0_0 a0_1 l0_2 Af Ag Aa Ac Ad Ab))))) else (some false)))) = some true := by rw [if_neg (show ¬ (false = true) by decide)] at H; exact H
     clear H
     have H := H1
     clear H1
     replace H := Option.bind_eq_some_iff.mp H
     obtain ⟨⟨CN, CO, Bq⟩, Dc, H⟩ := H
     replace H : ((laws_eqBoard.f kj12 Ao Ap Ai CN CO Bq).bind fun Br => (if Br = true then ((laws_markBoard.f kj12 Ao Ap Ai 1).bind fun bt806 => (if bt806.1 < 0 then (laws_FnExactTurnGear.j1 kj12 a1 a2 Ah true a0_0 a0_1 l0_2 Af Ag Aa Ac Ad Ab) else ((laws_eqBoard.f kj12 Ac Ad Ab Af Ag Aa).bind fun B7 => (if B7 = true then (laws_FnExactTurnGear.j1 kj12 a1 a2 Ah (AG != Ah) a0_0 a0_1 l0_2 Af Ag Aa Ac Ad Ab) else (laws_FnExactTurnGear.j1 kj12 a1 a2 Ah true a0_0 a0_1 l0_2 Af Ag Aa Ac Ad Ab))))) else (some false))) = some true := H
     have FP := Z.m Dc
     clear Dc
     replace H := Option.bind_eq_some_iff.mp H
     obtain ⟨Br, Dd, H⟩ := H
     replace H : (if Br = true then ((laws_markBoard.f kj12 Ao Ap Ai 1).bind fun bt806 => (if bt806.1 < 0 then (laws_FnExactTurnGear.j1 kj12 a1 a2 Ah true a0_0 a0_1 l0_2 Af Ag Aa Ac Ad Ab) else ((laws_eqBoard.f kj12 Ac Ad Ab Af Ag Aa).bind fun B7 => (if B7 = true then (laws_FnExactTurnGear.j1 kj12 a1 a2 Ah (AG != Ah) a0_0 a0_1 l0_2 Af Ag Aa Ac Ad Ab) else (laws_FnExactTurnGear.j1 kj12 a1 a2 Ah true a0_0 a0_1 l0_2 Af Ag Aa Ac Ad Ab))))) else (some false)) = some true := H
     have FQ := Z.m Dd
     clear Dd
     by_cases c60 : Br = true
     ·subst c60
      have H1 : ((laws_markBoard.f kj12 Ao Ap Ai 1).bind fun bt806 => (if bt806.1 < 0 then (laws_FnExactTurnGear.j1 kj12 a1 a2 Ah true a0_0 a0_1 l0_2 Af Ag Aa Ac Ad Ab) else ((laws_eqBoard.f kj12 Ac Ad Ab Af Ag Aa).bind fun B7 => (if B7 = true then (laws_FnExactTurnGear.j1 kj12 a1 a2 Ah (AG != Ah) a0_0 a0_1 l0_2 Af Ag Aa Ac Ad Ab) else (laws_FnExactTurnGear.j1 kj12 a1 a2 Ah true a0_0 a0_1 l0_2 Af Ag Aa Ac Ad Ab))))) = some true := by rw [if_pos rfl] at H; exact H
      clear H
      have H := H1
      clear H1
      replace H := Option.bind_eq_some_iff.mp H
      obtain ⟨⟨D7, B2⟩, De, H⟩ := H
      replace H : (if D7 < 0 then (laws_FnExactTurnGear.j1 kj12 a1 a2 Ah true a0_0 a0_1 l0_2 Af Ag Aa Ac Ad Ab) else ((laws_eqBoard.f kj12 Ac Ad Ab Af Ag Aa).bind fun B7 => (if B7 = true then (laws_FnExactTurnGear.j1 kj12 a1 a2 Ah (AG != Ah) a0_0 a0_1 l0_2 Af Ag Aa Ac Ad Ab) else (laws_FnExactTurnGear.j1 kj12 a1 a2 Ah true a0_0 a0_1 l0_2 Af Ag Aa Ac Ad Ab)))) = some true := H
      have FR := Z.m De
      clear De
      have D2 := Z.m H
      clear H
      try go_wp2
      replace A3 := Z.m (Kd.R_drew A3.o)
      replace A2 := Z.m (Kd.R_drew A2.o)
      replace A0 := Z.m (Kd.R_drew A0.o)
      replace A1 := Z.m (blk_drew A1.o)
      replace A6 := Z.m (blk_drew A6.o)
      replace A7 := Z.m (blk_drew A7.o)
      replace A5 := Z.m (blk_drew A5.o)
      replace HB := Z.m (qd HB.o)
      refine start_ (n := 5) (S := fun w' => w'.cell? ⟨AP, 0, none⟩ = some (.int .i64 Ao) ∧ w'.cell? ⟨AP, 1, none⟩ = some (.int .i64 Ap) ∧ w'.cell? ⟨AP, 2, none⟩ = some (.slice Am Ai.length Ak) ∧ w'.cell? ⟨AJ, 0, none⟩ = some (.int .i64 a0_0) ∧ w'.cell? ⟨AJ, 1, none⟩ = some (.int .i64 a0_1) ∧ w'.cell? ⟨AJ, 2, none⟩ = some (.slice A0_2 l0_2.length c0_2)) (ds := []) #[false, false, false, false, false] (by kernel_rfl) rfl rfl ⟨(ql A7.o 0).trans rfl, (ql A7.o 1).trans rfl, (ql A7.o 2).trans rfl, (ql A1.o 0).trans rfl, (ql A1.o 1).trans rfl, (ql A1.o 2).trans rfl⟩ (fun hHeld => ?_)
      generalize wc.drew = Gl at A3 A2 A0 A1 A6 A7 A5 HB hHeld ⊢
      refine take_ (i := 0) (N := some 49) (v := ?_) (a' := ?_) #[true, false, false, false, false] rfl rfl (by kernel_rfl) (fun _ _ _ h => h) (Or.inl ⟨by rfl, ?_⟩) hHeld ?_ ?_
      rotate_left
      ·rintro w' ⟨s0, s1, s2, s3, s4, s5⟩
       go_simp
       with_reducible rfl
      rotate_left
      ·simp only [Act.put, q1, q2, q3, i64_w, i32_w]
       rfl
      refine take_ (i := 1) (N := some 50) (v := ?_) (a' := ?_) #[true, true, false, false, false] rfl rfl (by kernel_rfl) (fun _ _ _ h => h) (Or.inl ⟨by rfl, ?_⟩) hHeld ?_ ?_
      rotate_left
      ·rintro w' ⟨s0, s1, s2, s3, s4, s5⟩
       go_simp
       with_reducible rfl
      rotate_left
      ·simp only [Act.put, q1, q2, q3, i64_w, i32_w]
       rfl
      refine one_ (i := 2) (N := some 51) #[true, true, true, false, false] rfl rfl (by kernel_rfl) (by decide) (fun K hK => ?_)
      refine goes_ Try.func17 (by kernel_rfl) rfl #[.agg #[.int .i64 a0_0, .int .i64 a0_1, .slice A0_2 l0_2.length c0_2]] (by rfl) rfl rfl (by (try simp only [List.map_toArray, List.map_cons, List.map_nil]); first | done | rfl | (simp only [List.length_drop, List.length_take]; rfl)) ?_
      with_reducible refine (laws_toBoard.calls kj12 a0_0 a0_1 _ _ l0_2 CN CO Bq _ ?side1 ?side2 FP.o).mono ?_
      (case side1 => repeat (first | exact (Kd.C_below Bf.o HB.o) | (with_reducible refine Kd.C_alloc ?_ _) | (with_reducible refine Kd.C_drewN ?_ _) | (with_reducible refine Kd.C_drew ?_)))
      (case side2 => exact Be.o)
      rintro e Gm ⟨G1, rfl, AI, hb⟩
      refine ⟨_, rfl, ?_⟩
      have AN := Z.m (Kd.R_lower (Kd.R_new' (Kd.R_new' (Kd.R_new' AI (Kd.R_lt (vR A3))) (Kd.R_lt (vR A2))) (Kd.R_lt (vR A0))) (below_size (vB HB)))
      replace A3 := Z.m (Kd.R_elder' (vR A3) (Kd.R_base AI) hb)
      replace A2 := Z.m (Kd.R_elder' (vR A2) (Kd.R_base AI) hb)
      replace A0 := Z.m (Kd.R_elder' (vR A0) (Kd.R_base AI) hb)
      replace A1 := kB A1 hb
      replace A6 := kB A6 hb
      replace A7 := kB A7 hb
      replace A5 := kB A5 hb
      replace HB := bB HB hb
      (try clear hb); (try clear AI)
      obtain ⟨D0, D6, Dp⟩ := Kd.R_slice AN.o
      (first | subst Dp | (injection Dp with f1_ f2_ f3_; have f4_ := f1_.symm; have f5_ := f3_.symm; clear f1_ f2_ f3_; subst f4_; subst f5_))
      refine hK.out _ _ ⟨(ql A7.o 0).trans rfl, (ql A7.o 1).trans rfl, (ql A7.o 2).trans rfl, (ql A1.o 0).trans rfl, (ql A1.o 1).trans rfl, (ql A1.o 2).trans rfl⟩ (fun hHeld => ?_)
      clear hK K
      refine norm_ (a' := ?_) ?_ ?_
      rotate_left
      ·show Act.put _ (some 51) _ = _
       simp only [Act.put, q1, q2, q3, i64_w, i32_w]
       rfl
      refine one_ (i := 3) (N := some 52) #[true, true, true, true, false] rfl rfl (by kernel_rfl) (by decide) (fun K hK => ?_)
      refine goes_ Try.func19 (by kernel_rfl) rfl #[.agg #[.int .i64 Ao, .int .i64 Ap, .slice Am Ai.length Ak], .agg #[.int .i64 CN, .int .i64 CO, .slice D0 Bq.length D6]] (by rfl) rfl rfl (by (try simp only [List.map_toArray, List.map_cons, List.map_nil]); first | done | rfl | (simp only [List.length_drop, List.length_take]; rfl)) ?_
      with_reducible refine (laws_eqBoard.calls kj12 Ao Ap _ _ Ai CN CO _ _ Bq true _ ?side1 ?side2 ?side3 ?side4 FQ.o).mono ?_
      (case side1 => repeat (first | exact (Kd.RrZ A2.o).2.2 | (with_reducible refine Kd.C_alloc ?_ _) | (with_reducible refine Kd.C_drewN ?_ _) | (with_reducible refine Kd.C_drew ?_)))
      (case side2 => exact (Kd.RrZ A2.o).2.1)
      (case side3 => repeat (first | exact (Kd.RrZ AN.o).2.2 | (with_reducible refine Kd.C_alloc ?_ _) | (with_reducible refine Kd.C_drewN ?_ _) | (with_reducible refine Kd.C_drew ?_)))
      (case side4 => exact (Kd.RrZ AN.o).2.1)
      rintro e Gn ⟨rfl, hb⟩
      refine ⟨_, rfl, ?_⟩
      replace A3 := Z.m (Kd.Rb (vR A3) hb)
      replace A2 := Z.m (Kd.Rb (vR A2) hb)
      replace A0 := Z.m (Kd.Rb (vR A0) hb)
      replace AN := Z.m (Kd.Rb (vR AN) hb)
      replace A1 := kB A1 hb
      replace A6 := kB A6 hb
      replace A7 := kB A7 hb
      replace A5 := kB A5 hb
      replace HB := bB HB hb
      (try clear hb)
      refine hK.out _ _ ⟨(ql A7.o 0).trans rfl, (ql A7.o 1).trans rfl, (ql A7.o 2).trans rfl, (ql A1.o 0).trans rfl, (ql A1.o 1).trans rfl, (ql A1.o 2).trans rfl⟩ (fun hHeld => ?_)
      clear hK K
      refine norm_ (a' := ?_) ?_ ?_
      rotate_left
      ·show Act.put _ (some 52) _ = _
       simp only [Act.put, q1, q2, q3, i64_w, i32_w]
       rfl
      refine pure_ (i := 4) (N := some 53) (v := ?_) (a' := ?_) #[true, true, true, true, true] rfl rfl (by kernel_rfl) (fun _ _ _ h => h) (Or.inl ⟨by rfl, ?_⟩) ?_ ?_
      rotate_left
      ·intro w'
       go_simp
       with_reducible rfl
      rotate_left
      ·simp only [Act.put, q1, q2, q3, i64_w, i32_w]
       rfl
      refine done_ (by kernel_rfl) ?_
      have Fj := AU.o
      have FC := AK.o
      have Fk := AE.o
      have FD := Ay.o
      have Fl := At.o
      have FE := AA.o
      have Cn := bc0 A7
      have Co := bc1 A7
      have Cp := bc2 A7
      have CI := qz A7.o 0
      have CJ := qz A7.o 1
      have CK := qz A7.o 2
      go_upto_region 14 with (first | ((with_reducible refine gc (f := 27) rfl ?_); refine gA (some 56) _ #[.agg #[.int .i64 Ao, .int .i64 Ap, .slice Am Ai.length Ak], .int .i64 1] ?_ Try.func27; (with_reducible refine (laws_markBoard.calls kj12 Ao Ap (fun k_ => some k_ = (.slice Am Ai.length Ak : Value).ownBlock) (.slice Am Ai.length Ak) Ai 1 D7 B2 w _ ?side1 ?side2 FR.o).mono ?_); (case side1 => repeat (first | (with_reducible first | exact HB.o | apply qa | apply qn | apply qd | refine qx ?_ Bx.o | refine qx ?_ CV.o | refine qx ?_ CW.o | refine qx ?_ CX.o) | exact HB.o)); (case side2 => exact Kd.Rg rfl A2.o); rintro e Go ⟨rfl, DI, hb, hkp⟩; refine ⟨_, rfl, ?_⟩; replace A3 := Z.m (Kd.Rm (ok' := fun k_ => some k_ ≠ (.slice Am Ai.length Ak : Value).ownBlock ∧ some k_ ≠ (.slice Aq Ab.length An : Value).ownBlock ∧ some k_ ≠ (.slice D0 Bq.length D6 : Value).ownBlock) (Kd.Rk (A3.o) hkp (fun k_ hk_ hs_ => (hk_.1.1) hs_)) (fun k_ hk_ => ⟨hk_.1.1.1, hk_.1.1.2, hk_.1.2⟩)); replace A0 := Z.m (Kd.Rm (ok' := fun k_ => some k_ ≠ (.slice Av Aa.length Au : Value).ownBlock ∧ some k_ ≠ (.slice Am Ai.length Ak : Value).ownBlock ∧ some k_ ≠ (.slice D0 Bq.length D6 : Value).ownBlock) (Kd.Rk (A0.o) hkp (fun k_ hk_ hs_ => (hk_.1.2) hs_)) (fun k_ hk_ => ⟨hk_.1.1.1, hk_.1.1.2, hk_.1.2⟩)); replace A1 := Z.m (qk (vK A1) hkp (fun hs_ => (fun e_ => (Kd.R_ne A2.o A1.o (by decide)) e_) hs_)); replace A6 := Z.m (qk (vK A6) hkp (fun hs_ => (fun e_ => (Kd.R_ne A2.o A6.o (by decide)) e_) hs_)); replace A7 := Z.m (qk (vK A7) hkp (fun hs_ => (fun e_ => (Kd.R_ne A2.o A7.o (by decide)) e_) hs_)); replace A5 := Z.m (qk (vK A5) hkp (fun hs_ => (fun e_ => (Kd.R_ne A2.o A5.o (by decide)) e_) hs_)); replace A2 := Z.m (Kd.Re rfl DI (fun k_ e_ => A2.o.1 k_ e_)); replace AN := Z.m (Kd.Rm (ok' := fun k_ => some k_ ≠ (.slice Av Aa.length Au : Value).ownBlock ∧ some k_ ≠ (.slice Am Ai.length Ak : Value).ownBlock ∧ some k_ ≠ (.slice Aq Ab.length An : Value).ownBlock) (Kd.Rk (AN.o) hkp (fun k_ hk_ hs_ => (hk_.1.2) hs_)) (fun k_ hk_ => ⟨hk_.1.1.1.2, hk_.1.1.2, hk_.1.2⟩)); replace HB := Z.m (hb); (try clear hb); (try clear hkp); (try clear DI)))
      (try simp only [Act.put, q1, q2, q3])
      go_cut [69] (fun v69 wc => ∃ (kq : Nat) (Bk : Bool), v69 = .bool Bk ∧ Z (laws_FnExactTurnGear.j1 kq a1 a2 Ah Bk a0_0 a0_1 l0_2 Af Ag Aa Ac Ad Ab = some true) ∧ Z (kq ≤ kj12) ∧ Z (Kd.R k71 71 wc w.heap.size (fun k_ => some k_ ≠ ((.slice Am Ai.length Ak) : Value).ownBlock ∧ some k_ ≠ ((.slice Aq Ab.length An) : Value).ownBlock) (.slice Av Aa.length Au) Aa) ∧ Z (Kd.R k71 71 wc w.heap.size (fun k_ => some k_ ≠ ((.slice Av Aa.length Au) : Value).ownBlock ∧ some k_ ≠ ((.slice Aq Ab.length An) : Value).ownBlock) (.slice Am Ai.length Ak) B2) ∧ Z (Kd.R k71 71 wc w.heap.size (fun k_ => some k_ ≠ ((.slice Av Aa.length Au) : Value).ownBlock ∧ some k_ ≠ ((.slice Am Ai.length Ak) : Value).ownBlock) (.slice Aq Ab.length An) Ab) ∧ Z (wc.heap[AJ]? = some (.cells #[.int .i64 a0_0, .int .i64 a0_1, (.slice A0_2 l0_2.length c0_2)] 24 (0, 0))) ∧ Z (wc.heap[Bc]? = some (.cells #[.int .i64 Af, .int .i64 Ag, (.slice Av Aa.length Au)] 30 (0, 0))) ∧ Z (wc.heap[AP]? = some (.cells #[.int .i64 Ao, .int .i64 Ap, (.slice Am Ai.length Ak)] 30 (0, 0))) ∧ Z (wc.heap[Bm]? = some (.cells #[.int .i64 Ac, .int .i64 Ad, (.slice Aq Ab.length An)] 30 (0, 0))) ∧ Z (Below w.heap.size w wc))
      case first =>
       have H := D2.o
       clear D2
       by_cases c72 : D7 < 0
       ·rw [if_pos c72] at H
        have Bl := decide_eq_true c72
        clear c72
        (first | rw [Bl] | (simp only [i64_w, i32_w]; rw [Bl]) | skip)
        have H' := Z.m H
        clear H
        go_wp2
        go_meet
        case rel => exact ⟨_, (true), (by first | rfl | (simp; done) | (simp [*]; done)), H', ⟨by have := D3.o; first | omega | exact Nat.le_refl _⟩, ⟨by refine rK ?_; exact Kd.Rm A3.o (fun _ hk => ⟨hk.1, hk.2.1⟩)⟩, ⟨by refine rK ?_; exact Kd.Rm A2.o (fun _ hk => ⟨hk.1.1, hk.1.2⟩)⟩, ⟨by refine rK ?_; exact Kd.Rm A0.o (fun _ hk => ⟨hk.1, hk.2.1⟩)⟩, ⟨vK A1⟩, ⟨vK A6⟩, ⟨vK A7⟩, ⟨vK A5⟩, ⟨vB HB⟩⟩
       ·rw [if_neg c72] at H
        have Bl := decide_eq_false c72
        clear c72
        (first | rw [Bl] | (simp only [i64_w, i32_w]; rw [Bl]) | skip)
        replace H := Option.bind_eq_some_iff.mp H
        obtain ⟨B7, Df, H⟩ := H
        replace H : (if B7 = true then (laws_FnExactTurnGear.j1 kj12 a1 a2 Ah (AG != Ah) a0_0 a0_1 l0_2 Af Ag Aa Ac Ad Ab) else (laws_FnExactTurnGear.j1 kj12 a1 a2 Ah true a0_0 a0_1 l0_2 Af Ag Aa Ac Ad Ab)) = some true := H
        have FS := Z.m Df
        clear Df
        by_cases c74 : B7 = true
        ·subst c74
         have H1 : (laws_FnExactTurnGear.j1 kj12 a1 a2 Ah (AG != Ah) a0_0 a0_1 l0_2 Af Ag Aa Ac Ad Ab) = some true := by rw [if_pos rfl] at H; exact H
         clear H
         have H := H1
         clear H1
         have H' := Z.m H
         clear H
         have Fm := AF.o
         have FF := Ax.o
         have Fn := Az.o
         have FG := As.o
         have Fo := AA.o
         have FH := At.o
         have DP := bc0 A5
         have DQ := bc1 A5
         have DR := bc2 A5
         have E1 := qz A5.o 0
         have E2 := qz A5.o 1
         have E3 := qz A5.o 2
         have Fp := AD.o
         have FI := Aw.o
         have Fq := Ay.o
         have FJ := AE.o
         have DS := bc0 A6
         have DT := bc1 A6
         have DU := bc2 A6
         have E4 := qz A6.o 0
         have E5 := qz A6.o 1
         have E6 := qz A6.o 2
         go_wp2_with (first | (go_at_call 19; (with_reducible refine (laws_eqBoard.calls kj12 Ac Ad _ _ Ab Af Ag _ _ Aa true _ ?side1 ?side2 ?side3 ?side4 FS.o).mono ?_); (case side1 => repeat (first | exact (Kd.RrZ A0.o).2.2 | (with_reducible refine Kd.C_alloc ?_ _) | (with_reducible refine Kd.C_drewN ?_ _) | (with_reducible refine Kd.C_drew ?_))); (case side2 => exact (Kd.RrZ A0.o).2.1); (case side3 => repeat (first | exact (Kd.RrZ A3.o).2.2 | (with_reducible refine Kd.C_alloc ?_ _) | (with_reducible refine Kd.C_drewN ?_ _) | (with_reducible refine Kd.C_drew ?_))); (case side4 => exact (Kd.RrZ A3.o).2.1); rintro e Gp ⟨rfl, hb⟩; replace A3 := Z.m (Kd.Rb (vR A3) hb); replace A2 := Z.m (Kd.Rb (vR A2) hb); replace A0 := Z.m (Kd.Rb (vR A0) hb); replace AN := Z.m (Kd.Rb (vR AN) hb); replace A1 := kB A1 hb; replace A6 := kB A6 hb; replace A7 := kB A7 hb; replace A5 := kB A5 hb; replace HB := bB HB hb; (try clear hb); (try clear Bv); (try clear hk); (try clear hi)))
         go_meet
         case rel => exact ⟨_, ((AG != Ah)), (by first | rfl | (simp; done) | (simp [*]; done)), H', ⟨by have := D3.o; first | omega | exact Nat.le_refl _⟩, ⟨by refine rK ?_; exact Kd.Rm A3.o (fun _ hk => ⟨hk.1, hk.2.1⟩)⟩, ⟨by refine rK ?_; exact Kd.Rm A2.o (fun _ hk => ⟨hk.1.1, hk.1.2⟩)⟩, ⟨by refine rK ?_; exact Kd.Rm A0.o (fun _ hk => ⟨hk.1, hk.2.1⟩)⟩, ⟨vK A1⟩, ⟨vK A6⟩, ⟨vK A7⟩, ⟨vK A5⟩, ⟨vB HB⟩⟩
        ·(rw [if_neg c74] at H; exact absurd H (laws_FnExactTurnGear.bad_j1 _ _ _ _ _ _ _ _ _ _ _ _ _))
      case rest =>
       clear D2
       (try clear c57); (try clear c60)
       (try clear Cn); (try clear Co); (try clear Cp); (try clear CI); (try clear CJ); (try clear CK)
       obtain ⟨kq, Bk, rfl, HA, Eb, A3, A2, A0, A1, A6, A7, A5, HB⟩ := hcut
       have A8 := (Kd.RrZ A2.o).1
       rw [A8] at A2
       (try simp only [A8])
       (try simp only [A8] at A1)
       (try simp only [A8] at A6)
       (try simp only [A8] at A7)
       (try simp only [A8] at A5)
       (try simp only [A8] at A3)
       (try simp only [A8] at A0)
       cases kq with
       | zero => exact absurd HA.o (by simp [laws_FnExactTurnGear.j1])
       | succ kj61 =>
        have H := HA.o
        clear HA
        simp only [laws_FnExactTurnGear.j1] at H
        by_cases c91 : Bk = true
        ·(rw [if_pos c91] at H; exact absurd H (by decide))
        ·replace c91 := Bool.eq_false_iff.mpr c91
         subst c91
         have H1 : ((laws_markBoard.f kj61 Ac Ad Ab 1).bind fun bt809 => ((laws_heldBoard.f kj61 Ac Ad bt809.2 1).bind fun Bd => (if Bd < 0 then (some false) else (if Bd = bt809.1 then ((laws_toBoard.f kj61 a0_0 a0_1 l0_2).bind fun bt812 => ((impl_TurnGear.f kj61 bt812.1 bt812.2.1 bt812.2.2 a1 a2).bind fun bt817 => ((laws_eqBoard.f kj61 bt817.1 bt817.2.1 bt817.2.2.1 Af Ag Aa).bind fun Ba => (if Ba = true then (laws_FnExactTurnGear.j2 kj61 bt809.1 (bt817.2.2.2 != Ah) Ac Ad bt809.2) else (laws_FnExactTurnGear.j2 kj61 bt809.1 true Ac Ad bt809.2))))) else (some false))))) = some true := by rw [if_neg (show ¬ (false = true) by decide)] at H; exact H
         clear H
         have H := H1
         clear H1
         replace H := Option.bind_eq_some_iff.mp H
         obtain ⟨⟨AH, AB⟩, Dg, H⟩ := H
         replace H : ((laws_heldBoard.f kj61 Ac Ad AB 1).bind fun Bd => (if Bd < 0 then (some false) else (if Bd = AH then ((laws_toBoard.f kj61 a0_0 a0_1 l0_2).bind fun bt812 => ((impl_TurnGear.f kj61 bt812.1 bt812.2.1 bt812.2.2 a1 a2).bind fun bt817 => ((laws_eqBoard.f kj61 bt817.1 bt817.2.1 bt817.2.2.1 Af Ag Aa).bind fun Ba => (if Ba = true then (laws_FnExactTurnGear.j2 kj61 AH (bt817.2.2.2 != Ah) Ac Ad AB) else (laws_FnExactTurnGear.j2 kj61 AH true Ac Ad AB))))) else (some false)))) = some true := H
         have FT := Z.m Dg
         clear Dg
         replace H := Option.bind_eq_some_iff.mp H
         obtain ⟨Bd, Dh, H⟩ := H
         replace H : (if Bd < 0 then (some false) else (if Bd = AH then ((laws_toBoard.f kj61 a0_0 a0_1 l0_2).bind fun bt812 => ((impl_TurnGear.f kj61 bt812.1 bt812.2.1 bt812.2.2 a1 a2).bind fun bt817 => ((laws_eqBoard.f kj61 bt817.1 bt817.2.1 bt817.2.2.1 Af Ag Aa).bind fun Ba => (if Ba = true then (laws_FnExactTurnGear.j2 kj61 AH (bt817.2.2.2 != Ah) Ac Ad AB) else (laws_FnExactTurnGear.j2 kj61 AH true Ac Ad AB))))) else (some false))) = some true := H
         have FU := Z.m Dh
         clear Dh
         by_cases c94 : Bd < 0
         ·(rw [if_pos c94] at H; exact absurd H (by decide))
         ·rw [if_neg c94] at H
          have CY := decide_eq_false c94
          (try simp only [A8] at CY)
          clear c94
          by_cases c102 : Bd = AH
          ·rw [if_pos c102] at H
           have D4 := beq_iff_eq.mpr c102
           have D5 := bne_eq_false_iff_eq.mpr c102
           clear c102
           replace H := Option.bind_eq_some_iff.mp H
           obtain ⟨⟨CP, CQ, Bs⟩, CR, H⟩ := H
           replace H : ((impl_TurnGear.f kj61 CP CQ Bs a1 a2).bind fun bt817 => ((laws_eqBoard.f kj61 bt817.1 bt817.2.1 bt817.2.2.1 Af Ag Aa).bind fun Ba => (if Ba = true then (laws_FnExactTurnGear.j2 kj61 AH (bt817.2.2.2 != Ah) Ac Ad AB) else (laws_FnExactTurnGear.j2 kj61 AH true Ac Ad AB)))) = some true := H
           have E7 := Z.m CR
           clear CR
           replace H := Option.bind_eq_some_iff.mp H
           obtain ⟨⟨Bt, Bu, AX, C0⟩, CS, H⟩ := H
           replace H : ((laws_eqBoard.f kj61 Bt Bu AX Af Ag Aa).bind fun Ba => (if Ba = true then (laws_FnExactTurnGear.j2 kj61 AH (C0 != Ah) Ac Ad AB) else (laws_FnExactTurnGear.j2 kj61 AH true Ac Ad AB))) = some true := H
           have E8 := Z.m CS
           clear CS
           have Bz := Z.m H
           clear H
           have Eo := AF.o
           have EK := Ax.o
           have Ep := Az.o
           have EL := As.o
           have Er := AA.o
           have EM := At.o
           have BC := bc0 A5
           have BD := bc1 A5
           have BE := bc2 A5
           have BO := qz A5.o 0
           have BP := qz A5.o 1
           have BQ := qz A5.o 2
           go_upto_region 25 with (first | ((with_reducible refine gc (f := 27) rfl ?_); refine gA (some 72) _ #[.agg #[.int .i64 Ac, .int .i64 Ad, .slice Aq Ab.length An], .int .i64 1] ?_ Try.func27; (with_reducible refine (laws_markBoard.calls kj61 Ac Ad (fun k_ => some k_ = (.slice Aq Ab.length An : Value).ownBlock) (.slice Aq Ab.length An) Ab 1 AH AB w _ ?side1 ?side2 FT.o).mono ?_); (case side1 => repeat (first | (with_reducible first | exact HB.o | apply qa | apply qn | apply qd | refine qx ?_ Bx.o | refine qx ?_ CV.o | refine qx ?_ CW.o | refine qx ?_ CX.o) | exact HB.o)); (case side2 => exact Kd.Rg rfl A0.o); rintro e G4 ⟨rfl, DI, hb, hkp⟩; refine ⟨_, rfl, ?_⟩; replace A3 := Z.m (Kd.Rm (ok' := fun k_ => some k_ ≠ (.slice Am B2.length Ak : Value).ownBlock ∧ some k_ ≠ (.slice Aq Ab.length An : Value).ownBlock) (Kd.Rk (A3.o) hkp (fun k_ hk_ hs_ => (hk_.2) hs_)) (fun k_ hk_ => ⟨hk_.1.1, hk_.1.2⟩)); replace A2 := Z.m (Kd.Rm (ok' := fun k_ => some k_ ≠ (.slice Av Aa.length Au : Value).ownBlock ∧ some k_ ≠ (.slice Aq Ab.length An : Value).ownBlock) (Kd.Rk (A2.o) hkp (fun k_ hk_ hs_ => (hk_.2) hs_)) (fun k_ hk_ => ⟨hk_.1.1, hk_.1.2⟩)); replace A1 := Z.m (qk (vK A1) hkp (fun hs_ => (fun e_ => (Kd.R_ne A0.o A1.o (by decide)) e_) hs_)); replace A6 := Z.m (qk (vK A6) hkp (fun hs_ => (fun e_ => (Kd.R_ne A0.o A6.o (by decide)) e_) hs_)); replace A7 := Z.m (qk (vK A7) hkp (fun hs_ => (fun e_ => (Kd.R_ne A0.o A7.o (by decide)) e_) hs_)); replace A5 := Z.m (qk (vK A5) hkp (fun hs_ => (fun e_ => (Kd.R_ne A0.o A5.o (by decide)) e_) hs_)); replace A0 := Z.m (Kd.Re rfl DI (fun k_ e_ => A0.o.1 k_ e_)); replace HB := Z.m (hb); (try clear hb); (try clear hkp); (try clear DI); have BF := bc0 A5; have BG := bc1 A5; have BH := bc2 A5; have BR := qz A5.o 0; have BS := qz A5.o 1; have BT := qz A5.o 2) | ((with_reducible refine gc (f := 34) rfl ?_); refine goesL_ (some 75) rfl rfl Try.func34 (by kernel_rfl) rfl #[.agg #[.int .i64 Ac, .int .i64 Ad, .slice Aq AB.length An], .int .i64 1] rfl (by (try simp only [List.map_toArray, List.map_cons, List.map_nil]); first | done | (rw [show AB.length = Ab.length from (Kd.RrZ A0.o).1.symm] <;> rfl) | rfl | (simp only [List.length_drop, List.length_take]; rfl)) ?_; (with_reducible refine (laws_heldBoard.calls kj61 Ac Ad _ _ AB 1 Bd _ ?side1 ?side2 FU.o).mono ?_); (case side1 => repeat (first | exact (Kd.RrZ A0.o).2.2 | (with_reducible refine Kd.C_alloc ?_ _) | (with_reducible refine Kd.C_drewN ?_ _) | (with_reducible refine Kd.C_drew ?_))); (case side2 => rw [show AB.length = Ab.length from (Kd.RrZ A0.o).1.symm]; exact (Kd.RrZ A0.o).2.1); rintro e G5 ⟨rfl, hb⟩; refine ⟨_, rfl, ?_⟩; replace A3 := Z.m (Kd.Rb (vR A3) hb); replace A2 := Z.m (Kd.Rb (vR A2) hb); replace A0 := Z.m (Kd.Rb (vR A0) hb); replace A1 := kB A1 hb; replace A6 := kB A6 hb; replace A7 := kB A7 hb; replace A5 := kB A5 hb; replace HB := bB HB hb; (try clear hb); (try clear Bv); (try clear hk); (try clear hi); have Es := Aw.o; have EN := AD.o; have Et := AK.o; have EO := AU.o; have BI := bc0 A1; have BJ := bc1 A1; have BK := bc2 A1; have BU := qz A1.o 0; have BV := qz A1.o 1; have BW := qz A1.o 2) | ((with_reducible refine gc (f := 17) rfl ?_); refine gA (some 83) _ #[.agg #[.int .i64 a0_0, .int .i64 a0_1, .slice A0_2 l0_2.length c0_2]] ?_ Try.func17; (with_reducible refine (laws_toBoard.calls kj61 a0_0 a0_1 _ _ l0_2 CP CQ Bs _ ?side1 ?side2 E7.o).mono ?_); (case side1 => repeat (first | exact (Kd.C_below Bf.o HB.o) | (with_reducible refine Kd.C_alloc ?_ _) | (with_reducible refine Kd.C_drewN ?_ _) | (with_reducible refine Kd.C_drew ?_))); (case side2 => exact Be.o); rintro e G6 ⟨G2, rfl, AI, hb⟩; refine ⟨_, rfl, ?_⟩; have AM := Z.m (Kd.R_lower (Kd.R_new' (Kd.R_new' (Kd.R_new' AI (Kd.R_lt (vR A3))) (Kd.R_lt (vR A2))) (Kd.R_lt (vR A0))) (below_size (vB HB))); replace A3 := Z.m (Kd.R_elder' (vR A3) (Kd.R_base AI) hb); replace A2 := Z.m (Kd.R_elder' (vR A2) (Kd.R_base AI) hb); replace A0 := Z.m (Kd.R_elder' (vR A0) (Kd.R_base AI) hb); replace A1 := kB A1 hb; replace A6 := kB A6 hb; replace A7 := kB A7 hb; replace A5 := kB A5 hb; replace HB := bB HB hb; (try clear hb); (try clear Bv); (try clear hk); (try clear hi); (try clear AI); obtain ⟨Bw, BB, Dn⟩ := Kd.R_slice AM.o; subst Dn) | ((with_reducible refine gc (f := 33) rfl ?_); refine gA (some 86) _ #[.agg #[.int .i64 CP, .int .i64 CQ, .slice Bw Bs.length BB], .int .i64 a1, .int .i64 a2] ?_ Try.func33; (with_reducible refine (impl_TurnGear.calls kj61 CP CQ _ _ Bs a1 a2 Bt Bu AX C0 _ ?side1 ?side2 E8.o).mono ?_); (case side1 => repeat (first | exact (Kd.RrZ AM.o).2.2 | (with_reducible refine Kd.C_alloc ?_ _) | (with_reducible refine Kd.C_drewN ?_ _) | (with_reducible refine Kd.C_drew ?_))); (case side2 => exact (Kd.RrZ AM.o).2.1); rintro e G7 ⟨G3, rfl, AI, hb⟩; refine ⟨_, rfl, ?_⟩; have B0 := Z.m (Kd.R_lower (Kd.R_new' (Kd.R_new' (Kd.R_new' (Kd.R_new' AI (Kd.R_lt (vR A3))) (Kd.R_lt (vR A2))) (Kd.R_lt (vR A0))) (Kd.R_lt (vR AM))) (below_size (vB HB))); replace A3 := Z.m (Kd.R_elder' (vR A3) (Kd.R_base AI) hb); replace A2 := Z.m (Kd.R_elder' (vR A2) (Kd.R_base AI) hb); replace A0 := Z.m (Kd.R_elder' (vR A0) (Kd.R_base AI) hb); replace AM := Z.m (Kd.R_elder' (vR AM) (Kd.R_base AI) hb); replace A1 := kB A1 hb; replace A6 := kB A6 hb; replace A7 := kB A7 hb; replace A5 := kB A5 hb; replace HB := bB HB hb; (try clear hb); (try clear Bv); (try clear hk); (try clear hi); (try clear AI)) | ((with_reducible refine gq (N := 16) rfl ?_); refine be (N := 16) (cs := #[.int .i64 0, .int .i64 0, .slice none 0 0]) (t := 30) ?_; intro CZ hg G8 hbox hb; have Aj := Z.m (hbox); have Dl := gW (w := w) HB hg; have F6 := Dl; have AS := neL A1 hg; have Bg := neG A1 hg; have AT := neL A6 hg; have Bh := neG A6 hg; have AV := neL A7 hg; have Bi := neG A7 hg; have AL := neL A5 hg; have AW := neG A5 hg; replace A3 := Z.m (Kd.Rb (vR A3) hb); replace A2 := Z.m (Kd.Rb (vR A2) hb); replace A0 := Z.m (Kd.Rb (vR A0) hb); replace AM := Z.m (Kd.Rb (vR AM) hb); replace B0 := Z.m (Kd.Rb (vR B0) hb); replace A1 := kB A1 hb; replace A6 := kB A6 hb; replace A7 := kB A7 hb; replace A5 := kB A5 hb; replace HB := bB HB hb; clear hb hbox hg; have Eu := Bg.o; have EP := AS.o; have Ew := Bh.o; have EQ := AT.o; have Ex := Bi.o; have ER := AV.o; have Ey := AW.o; have ES := AL.o; have BL := bc0 Aj; have BM := bc1 Aj; have BN := bc2 Aj; have BX := qz Aj.o 0; have BY := qz Aj.o 1; have BZ := qz Aj.o 2; obtain ⟨AY, AO, Do⟩ := Kd.R_slice B0.o; subst Do))
           (try simp only [Act.put, q1, q2, q3])
           go_cut [97] (fun v97 wc => ∃ (kq : Nat) (Bb : Bool), v97 = .bool Bb ∧ Z (laws_FnExactTurnGear.j2 kq AH Bb Ac Ad AB = some true) ∧ Z (kq ≤ kj61) ∧ Z (Kd.R k71 71 wc w.heap.size (fun k_ => some k_ ≠ ((.slice Am B2.length Ak) : Value).ownBlock ∧ some k_ ≠ ((.slice Aq Ab.length An) : Value).ownBlock ∧ some k_ ≠ ((.slice AY AX.length AO) : Value).ownBlock) (.slice Av Aa.length Au) Aa) ∧ Z (Kd.R k71 71 wc w.heap.size (fun k_ => some k_ ≠ ((.slice Av Aa.length Au) : Value).ownBlock ∧ some k_ ≠ ((.slice Aq Ab.length An) : Value).ownBlock ∧ some k_ ≠ ((.slice AY AX.length AO) : Value).ownBlock) (.slice Am B2.length Ak) B2) ∧ Z (Kd.R k71 71 wc w.heap.size (fun k_ => some k_ ≠ ((.slice Av Aa.length Au) : Value).ownBlock ∧ some k_ ≠ ((.slice Am B2.length Ak) : Value).ownBlock ∧ some k_ ≠ ((.slice AY AX.length AO) : Value).ownBlock) (.slice Aq Ab.length An) AB) ∧ Z (Kd.R k71 71 wc w.heap.size (fun k_ => some k_ ≠ ((.slice Av Aa.length Au) : Value).ownBlock ∧ some k_ ≠ ((.slice Am B2.length Ak) : Value).ownBlock ∧ some k_ ≠ ((.slice Aq Ab.length An) : Value).ownBlock) (.slice AY AX.length AO) AX) ∧ Z (wc.heap[AJ]? = some (.cells #[.int .i64 a0_0, .int .i64 a0_1, (.slice A0_2 l0_2.length c0_2)] 24 (0, 0))) ∧ Z (wc.heap[Bc]? = some (.cells #[.int .i64 Af, .int .i64 Ag, (.slice Av Aa.length Au)] 30 (0, 0))) ∧ Z (wc.heap[AP]? = some (.cells #[.int .i64 Ao, .int .i64 Ap, (.slice Am B2.length Ak)] 30 (0, 0))) ∧ Z (wc.heap[Bm]? = some (.cells #[.int .i64 Ac, .int .i64 Ad, (.slice Aq Ab.length An)] 30 (0, 0))) ∧ Z (wc.heap[CZ]? = some (.cells #[.int .i64 Bt, .int .i64 Bu, (.slice AY AX.length AO)] 30 (0, 0))) ∧ Z (Below w.heap.size w wc))
           case first =>
            have H := Bz.o
            clear Bz
            replace H := Option.bind_eq_some_iff.mp H
            obtain ⟨Ba, CT, H⟩ := H
            replace H : (if Ba = true then (laws_FnExactTurnGear.j2 kj61 AH (C0 != Ah) Ac Ad AB) else (laws_FnExactTurnGear.j2 kj61 AH true Ac Ad AB)) = some true := H
            have E9 := Z.m CT
            clear CT
            by_cases c127 : Ba = true
            ·subst c127
             have H1 : (laws_FnExactTurnGear.j2 kj61 AH (C0 != Ah) Ac Ad AB) = some true := by rw [if_pos rfl] at H; exact H
             clear H
             have H := H1
             clear H1
             have H' := Z.m H
             clear H
             have Ez := Bg.o
             have ET := AS.o
             have EA := Bh.o
             have EU := AT.o
             have EB := Bi.o
             have EV := AV.o
             have EC := AW.o
             have EW := AL.o
             have Dq := bc0 Aj
             have Dr := bc1 Aj
             have Ds := bc2 Aj
             have Dz := qz Aj.o 0
             have DA := qz Aj.o 1
             have DB := qz Aj.o 2
             have ED := AD.o
             have EX := Aw.o
             have EE := Ay.o
             have EY := AE.o
             have EF := As.o
             have EZ := Az.o
             have Dt := bc0 A6
             have Du := bc1 A6
             have Dv := bc2 A6
             have DC := qz A6.o 0
             have DD := qz A6.o 1
             have DE := qz A6.o 2
             go_wp2_with (first | ((with_reducible refine gc (f := 19) rfl ?_); refine gA (some 91) _ #[.agg #[.int .i64 Bt, .int .i64 Bu, .slice AY AX.length AO], .agg #[.int .i64 Af, .int .i64 Ag, .slice Av Aa.length Au]] ?_ Try.func19; (with_reducible refine (laws_eqBoard.calls kj61 Bt Bu _ _ AX Af Ag _ _ Aa true _ ?side1 ?side2 ?side3 ?side4 E9.o).mono ?_); (case side1 => refine (Kd.RrZ (e := 71) (base := w.heap.size) (ok := fun k_ => ((((True ∧ some k_ ≠ (.slice Av Aa.length Au : Value).ownBlock) ∧ some k_ ≠ (.slice Am B2.length Ak : Value).ownBlock) ∧ some k_ ≠ (.slice Aq Ab.length An : Value).ownBlock) ∧ some k_ ≠ (.slice Bw Bs.length BB : Value).ownBlock)) (n := AX.length) (c := AO) ?_).2.2; exact (by refine rK ?_; exact (Kd.Rm (rf (rf (rf (Kd.Ry B0.o Aj.o (by decide))))) (fun _ h_ => h_.1)))); (case side2 => exact (Kd.RrZ B0.o).2.1); (case side3 => refine (Kd.RrZ (e := 71) (base := w.heap.size) (ok := fun k_ => (((some k_ ≠ (.slice Am B2.length Ak : Value).ownBlock ∧ some k_ ≠ (.slice Aq Ab.length An : Value).ownBlock) ∧ some k_ ≠ (.slice Bw Bs.length BB : Value).ownBlock) ∧ some k_ ≠ (.slice AY AX.length AO : Value).ownBlock)) (n := Aa.length) (c := Au) ?_).2.2; exact (by refine rK ?_; exact (Kd.Rm (rf (rf (rf (Kd.Ry A3.o Aj.o (by decide))))) (fun _ h_ => h_.1)))); (case side4 => exact (Kd.RrZ A3.o).2.1); rintro e G9 ⟨rfl, hb⟩; refine ⟨_, rfl, ?_⟩; replace A3 := Z.m (Kd.Rb (by refine rK ?_; exact (Kd.Rm (rf (rf (rf (Kd.Ry A3.o Aj.o (by decide))))) (fun _ h_ => h_.1))) hb); replace A2 := Z.m (Kd.Rb (by refine rK ?_; exact (Kd.Rm (rf (rf (rf (Kd.Ry A2.o Aj.o (by decide))))) (fun _ h_ => h_.1))) hb); replace A0 := Z.m (Kd.Rb (by refine rK ?_; exact (Kd.Rm (rf (rf (rf (Kd.Ry A0.o Aj.o (by decide))))) (fun _ h_ => h_.1))) hb); replace AM := Z.m (Kd.Rb (by refine rK ?_; exact (Kd.Rm (rf (rf (rf (Kd.Ry AM.o Aj.o (by decide))))) (fun _ h_ => h_.1))) hb); replace B0 := Z.m (Kd.Rb (by refine rK ?_; exact (Kd.Rm (rf (rf (rf (Kd.Ry B0.o Aj.o (by decide))))) (fun _ h_ => h_.1))) hb); replace A1 := Z.m (qb (g := AJ) (o := .cells #[.int .i64 a0_0, .int .i64 a0_1, .slice A0_2 l0_2.length c0_2] 24 (0, 0)) (by refine bK ?_; (iterate 3 refine qF ?_ AS); exact A1.o) hb); replace A6 := Z.m (qb (g := Bc) (o := .cells #[.int .i64 Af, .int .i64 Ag, .slice Av Aa.length Au] 30 (0, 0)) (by refine bK ?_; (iterate 3 refine qF ?_ AT); exact A6.o) hb); replace A7 := Z.m (qb (g := AP) (o := .cells #[.int .i64 Ao, .int .i64 Ap, .slice Am B2.length Ak] 30 (0, 0)) (by refine bK ?_; (iterate 3 refine qF ?_ AV); exact A7.o) hb); replace A5 := Z.m (qb (g := Bm) (o := .cells #[.int .i64 Ac, .int .i64 Ad, .slice Aq Ab.length An] 30 (0, 0)) (by refine bK ?_; (iterate 3 refine qF ?_ AL); exact A5.o) hb); replace Aj := Z.m (qb (g := CZ) (o := .cells #[.int .i64 Bt, .int .i64 Bu, .slice AY AX.length AO] 30 (0, 0)) (by refine bK ?_; apply st3; refine bK ?_; exact Aj.o) hb); replace HB := bB HB hb; (try clear hb); (try clear Bv); (try clear hk); (try clear hi)))
             go_meet
             case rel => exact ⟨_, ((C0 != Ah)), (by first | rfl | (simp; done) | (simp [*]; done)), H', ⟨by have := D3.o; have := Eb.o; first | omega | exact Nat.le_refl _⟩, ⟨by (try simp only [A8]); refine rK ?_; exact Kd.Rm A3.o (fun _ hk => ⟨hk.1.1.1, ⟨hk.1.1.2, hk.2⟩⟩)⟩, ⟨by (try simp only [A8]); refine rK ?_; exact Kd.Rm A2.o (fun _ hk => ⟨hk.1.1.1, ⟨hk.1.1.2, hk.2⟩⟩)⟩, ⟨by (try simp only [A8]); refine rK ?_; exact Kd.Rm A0.o (fun _ hk => ⟨hk.1.1.1, ⟨hk.1.1.2, hk.2⟩⟩)⟩, ⟨by (try simp only [A8]); refine rK ?_; exact Kd.Rm B0.o (fun _ hk => ⟨hk.1.1.1.2, ⟨hk.1.1.2, hk.1.2⟩⟩)⟩, ⟨by (try simp only [A8]); refine bK ?_; exact A1.o⟩, ⟨by (try simp only [A8]); refine bK ?_; exact A6.o⟩, ⟨by (try simp only [A8]); refine bK ?_; exact A7.o⟩, ⟨by (try simp only [A8]); refine bK ?_; exact A5.o⟩, ⟨by (try simp only [A8]); refine bK ?_; exact Aj.o⟩, ⟨vB HB⟩⟩
            ·(rw [if_neg c127] at H; exact absurd H (laws_FnExactTurnGear.bad_j2 _ _ _ _ _))
           case rest =>
            clear Bz
            (try clear c91); (try clear CY); (try clear D4); (try clear D5)
            (try clear BC); (try clear BD); (try clear BE); (try clear BF); (try clear BG); (try clear BH); (try clear BI); (try clear BJ)
            (try clear BK); (try clear BL); (try clear BM); (try clear BN); (try clear BO); (try clear BP); (try clear BQ); (try clear BR)
            (try clear BS); (try clear BT); (try clear BU); (try clear BV); (try clear BW); (try clear BX); (try clear BY); (try clear BZ)
            obtain ⟨kq, Bb, rfl, HA, F7, A3, A2, A0, AR, A1, A6, A7, A5, Aj, HB⟩ := hcut
            have Ae := (Kd.RrZ A0.o).1
            rw [Ae] at A0
            (try simp only [Ae])
            (try simp only [Ae] at A1)
            (try simp only [Ae] at A6)
            (try simp only [Ae] at A7)
            (try simp only [Ae] at A5)
            (try simp only [Ae] at Aj)
            (try simp only [Ae] at A3)
            (try simp only [Ae] at A2)
            (try simp only [Ae] at AR)
            cases kq with
            | zero => exact absurd HA.o (by simp [laws_FnExactTurnGear.j2])
            | succ kj104 =>
             have H := HA.o
             clear HA
             simp only [laws_FnExactTurnGear.j2] at H
             by_cases c148 : Bb = true
             ·(rw [if_pos c148] at H; exact absurd H (by decide))
             ·replace c148 := Bool.eq_false_iff.mpr c148
              subst c148
              have H1 : ((laws_heldBoard.f kj104 Ac Ad AB 1).bind fun Bn => (if Bn < 0 then (some false) else (if Bn = AH then (some true) else (some false)))) = some true := by rw [if_neg (show ¬ (false = true) by decide)] at H; exact H
              clear H
              have H := H1
              clear H1
              replace H := Option.bind_eq_some_iff.mp H
              obtain ⟨Bn, CU, H⟩ := H
              replace H : (if Bn < 0 then (some false) else (if Bn = AH then (some true) else (some false))) = some true := H
              have Ea := Z.m CU
              clear CU
              by_cases c150 : Bn < 0
              ·(rw [if_pos c150] at H; exact absurd H (by decide))
              ·rw [if_neg c150] at H
               have BA := decide_eq_false c150
               (try simp only [A8] at BA)
               (try simp only [Ae] at BA)
               clear c150
               by_cases c157 : Bn = AH
               ·rw [if_pos c157] at H
                have Ec := beq_iff_eq.mpr c157
                have Ed := bne_eq_false_iff_eq.mpr c157
                clear c157
                clear H
                have EG := AF.o
                have F0 := Ax.o
                have EH := Az.o
                have F1 := As.o
                have EI := AA.o
                have F2 := At.o
                have EJ := AL.o
                have F3 := AW.o
                have Dw := bc0 A5
                have Dx := bc1 A5
                have Dy := bc2 A5
                have DF := qz A5.o 0
                have DG := qz A5.o 1
                have DH := qz A5.o 2
                go_wp2_with (first | ((with_reducible refine gc (f := 34) rfl ?_); refine gA (some 100) _ #[.agg #[.int .i64 Ac, .int .i64 Ad, .slice Aq AB.length An], .int .i64 1] ?_ Try.func34; (with_reducible refine (laws_heldBoard.calls kj104 Ac Ad _ _ AB 1 Bn _ ?side1 ?side2 Ea.o).mono ?_); (case side1 => repeat (first | exact (Kd.RrZ A0.o).2.2 | (with_reducible refine Kd.C_alloc ?_ _) | (with_reducible refine Kd.C_drewN ?_ _) | (with_reducible refine Kd.C_drew ?_))); (case side2 => exact (Kd.RrZ A0.o).2.1); rintro e Ga ⟨rfl, hb⟩; refine ⟨_, rfl, ?_⟩; replace A3 := Z.m (Kd.Rb (vR A3) hb); replace A2 := Z.m (Kd.Rb (vR A2) hb); replace A0 := Z.m (Kd.Rb (vR A0) hb); replace AR := Z.m (Kd.Rb (vR AR) hb); replace A1 := kB A1 hb; replace A6 := kB A6 hb; replace A7 := kB A7 hb; replace A5 := kB A5 hb; replace Aj := kB Aj hb; replace HB := bB HB hb; (try clear hb); (try clear Bv); (try clear hk); (try clear hi)))
                go_ret
                exact ⟨by first | rfl | (simp [eN, eS] <;> rfl) | (simp [*, eN, eS] <;> rfl), vB HB⟩
               ·(rw [if_neg c157] at H; exact absurd H (by decide))
          ·(rw [if_neg c102] at H; exact absurd H (by decide))
     ·(rw [if_neg c60] at H; exact absurd H (by decide))

end Go.Proofs.Ytlkiakpipcnijaa.PAll
