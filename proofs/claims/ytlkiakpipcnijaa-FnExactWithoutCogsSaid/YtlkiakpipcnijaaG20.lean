/- Began as a text that print.sh wrote (of the functions named below); turned and shortened by this session. -/
import Derived.Test.YtlkiakpipcnijaaG0
import Derived.Test.YtlkiakpipcnijaaG1
import Derived.Test.YtlkiakpipcnijaaG3
import Derived.Test.YtlkiakpipcnijaaG16
import Derived.Test.YtlkiakpipcnijaaG17
import Derived.Test.YtlkiakpipcnijaaG19
namespace Go.Proofs.Ytlkiakpipcnijaa.PAll
open Go.RowKit Go.Proofs.YtlkiakpipcnijaaW.PrintWords Go.Proofs.YtlkiakpipcnijaaW.PrintLast Go.Proofs.YtlkiakpipcnijaaW.PrintMore
attribute [local go_sem] max2_int min2_int max_two min_two max_three min_three max_four min_four   -- for this text's walks alone
set_option linter.unusedVariables false
set_option linter.unusedSimpArgs false

/-! ### laws_FnExactWithoutCogs: function 10 -/
mutual
def laws_FnExactWithoutCogs.j0 : Nat → Bool → Bool → Bool → Int → Int → List (S84) → Int → Int → List (S71) → Int → Int → List (S71) → Int → Int → List (S71) → Option (Bool)
 | 0, _, _, _, _, _, _, _, _, _, _, _, _, _, _, _ => none
 | k + 1, x5, x8, x40, x425000, x425001, x425002, x438000, x438001, x438002, x444000, x444001, x444002, x451000, x451001, x451002 => if x40 = true then (some false) else ((laws_toBoard.f k x425000 x425001 x425002).bind fun bt452 => ((laws_eqBoard.f k x444000 x444001 x444002 bt452.1 bt452.2.1 bt452.2.2).bind fun t457 => (if t457 = true then ((laws_markBoard.f k x444000 x444001 x444002 1).bind fun bt458 => (if bt458.1 < 0 then (laws_FnExactWithoutCogs.j1 k x5 true x425000 x425001 x425002 x438000 x438001 x438002 x451000 x451001 x451002) else ((laws_eqBoard.f k x451000 x451001 x451002 x438000 x438001 x438002).bind fun t460 => (if t460 = true then (laws_FnExactWithoutCogs.j1 k x5 (x8 != x5) x425000 x425001 x425002 x438000 x438001 x438002 x451000 x451001 x451002) else (laws_FnExactWithoutCogs.j1 k x5 true x425000 x425001 x425002 x438000 x438001 x438002 x451000 x451001 x451002))))) else (some false))))
def laws_FnExactWithoutCogs.j1 : Nat → Bool → Bool → Int → Int → List (S84) → Int → Int → List (S71) → Int → Int → List (S71) → Option (Bool)
 | 0, _, _, _, _, _, _, _, _, _, _, _ => none
 | k + 1, x5, x61, x425000, x425001, x425002, x438000, x438001, x438002, x451000, x451001, x451002 => if x61 = true then (some false) else ((laws_markBoard.f k x451000 x451001 x451002 1).bind fun bt461 => ((laws_heldBoard.f k x451000 x451001 bt461.2 1).bind fun t463 => (if t463 < 0 then (some false) else (if t463 = bt461.1 then ((laws_toBoard.f k x425000 x425001 x425002).bind fun bt464 => ((impl_WithoutCogs.f k bt464.1 bt464.2.1 bt464.2.2).bind fun bt469 => ((laws_eqBoard.f k bt469.1 bt469.2.1 bt469.2.2.1 x438000 x438001 x438002).bind fun t476 => (if t476 = true then (laws_FnExactWithoutCogs.j2 k bt461.1 (bt469.2.2.2 != x5) x451000 x451001 bt461.2) else (laws_FnExactWithoutCogs.j2 k bt461.1 true x451000 x451001 bt461.2))))) else (some false)))))
def laws_FnExactWithoutCogs.j2 : Nat → Int → Bool → Int → Int → List (S71) → Option (Bool)
 | 0, _, _, _, _, _ => none
 | k + 1, x10, x87, x451000, x451001, x451002 => if x87 = true then (some false) else ((laws_heldBoard.f k x451000 x451001 x451002 1).bind fun t477 => (if t477 < 0 then (some false) else (if t477 = x10 then (some true) else (some false))))
end
def laws_FnExactWithoutCogs.f (k : Nat) (a0_0 : Int) (a0_1 : Int) (l0_2 : List (S84)) : Option (Bool) := (laws_szBoard.f a0_0 a0_1 l0_2 1048576).bind fun t425 => (if t425 < 0 then (some true) else ((laws_toBoard.f k a0_0 a0_1 l0_2).bind fun bt426 => ((spec_WithoutCogs.f k bt426.1 bt426.2.1 bt426.2.2).bind fun bt431 => ((laws_toBoard.f k a0_0 a0_1 l0_2).bind fun bt438 => ((impl_WithoutCogs.f k bt438.1 bt438.2.1 bt438.2.2).bind fun bt444 => ((laws_eqBoard.f k bt444.1 bt444.2.1 bt444.2.2.1 bt431.1 bt431.2.1 bt431.2.2.1).bind fun t451 => (if t451 = true then (laws_FnExactWithoutCogs.j0 k bt431.2.2.2 bt444.2.2.2 (bt444.2.2.2 != bt431.2.2.2) a0_0 a0_1 l0_2 bt431.1 bt431.2.1 bt431.2.2.1 bt438.1 bt438.2.1 bt438.2.2 bt444.1 bt444.2.1 bt444.2.2.1) else (laws_FnExactWithoutCogs.j0 k bt431.2.2.2 bt444.2.2.2 true a0_0 a0_1 l0_2 bt431.1 bt431.2.1 bt431.2.2.1 bt438.1 bt438.2.1 bt438.2.2 bt444.1 bt444.2.1 bt444.2.2.1))))))))
theorem laws_FnExactWithoutCogs.bad_j0 (k : Nat) (y0 : Bool) (y1 : Bool) (y3 : Int) (y4 : Int) (y5 : List (S84)) (y6 : Int) (y7 : Int) (y8 : List (S71)) (y9 : Int) (y10 : Int) (y11 : List (S71)) (y12 : Int) (y13 : Int) (y14 : List (S71)) : ¬ laws_FnExactWithoutCogs.j0 k y0 y1 true y3 y4 y5 y6 y7 y8 y9 y10 y11 y12 y13 y14 = some true := by
 cases k <;> simp [laws_FnExactWithoutCogs.j0]
theorem laws_FnExactWithoutCogs.bad_j1 (k : Nat) (y0 : Bool) (y2 : Int) (y3 : Int) (y4 : List (S84)) (y5 : Int) (y6 : Int) (y7 : List (S71)) (y8 : Int) (y9 : Int) (y10 : List (S71)) : ¬ laws_FnExactWithoutCogs.j1 k y0 true y2 y3 y4 y5 y6 y7 y8 y9 y10 = some true := by
 cases k <;> simp [laws_FnExactWithoutCogs.j1]
theorem laws_FnExactWithoutCogs.bad_j2 (k : Nat) (y0 : Int) (y2 : Int) (y3 : Int) (y4 : List (S71)) : ¬ laws_FnExactWithoutCogs.j2 k y0 true y2 y3 y4 = some true := by
 cases k <;> simp [laws_FnExactWithoutCogs.j2]
set_option maxHeartbeats 8000000 in
set_option maxRecDepth 100000 in
theorem laws_FnExactWithoutCogs.calls (k : Nat) (a0_0 : Int) (a0_1 : Int) (A0_2 : Option Addr) (c0_2 : Nat) (l0_2 : List (S84)) (w : World) (hr0_2 : Kd.C k84 w A0_2 l0_2.length l0_2) (hc0_2 : l0_2.length ≤ c0_2) (h : laws_FnExactWithoutCogs.f k a0_0 a0_1 l0_2 = some true) :
 Calls Try.prog 10 #[.agg #[.int .i64 a0_0, .int .i64 a0_1, .slice A0_2 l0_2.length c0_2]] w fun e w' => e = .returned (.bool true) ∧ Below w.heap.size w w' := by
 have FU := Try.underlying24
 have FV := Try.underlying30
 have Bh := Z.m hr0_2
 have Bg := Z.m hc0_2
 clear hr0_2 hc0_2
 have HB := Z.m (Below.refl w.heap.size w)
 have H : ((laws_szBoard.f a0_0 a0_1 l0_2 1048576).bind fun Br => (if Br < 0 then (some true) else ((laws_toBoard.f k a0_0 a0_1 l0_2).bind fun bt426 => ((spec_WithoutCogs.f k bt426.1 bt426.2.1 bt426.2.2).bind fun bt431 => ((laws_toBoard.f k a0_0 a0_1 l0_2).bind fun bt438 => ((impl_WithoutCogs.f k bt438.1 bt438.2.1 bt438.2.2).bind fun bt444 => ((laws_eqBoard.f k bt444.1 bt444.2.1 bt444.2.2.1 bt431.1 bt431.2.1 bt431.2.2.1).bind fun AS => (if AS = true then (laws_FnExactWithoutCogs.j0 k bt431.2.2.2 bt444.2.2.2 (bt444.2.2.2 != bt431.2.2.2) a0_0 a0_1 l0_2 bt431.1 bt431.2.1 bt431.2.2.1 bt438.1 bt438.2.1 bt438.2.2 bt444.1 bt444.2.1 bt444.2.2.1) else (laws_FnExactWithoutCogs.j0 k bt431.2.2.2 bt444.2.2.2 true a0_0 a0_1 l0_2 bt431.1 bt431.2.1 bt431.2.2.1 bt438.1 bt438.2.1 bt438.2.2 bt444.1 bt444.2.1 bt444.2.2.1))))))))) = some true := h
 clear h
 replace H := Option.bind_eq_some_iff.mp H
 obtain ⟨Br, F5, H⟩ := H
 replace H : (if Br < 0 then (some true) else ((laws_toBoard.f k a0_0 a0_1 l0_2).bind fun bt426 => ((spec_WithoutCogs.f k bt426.1 bt426.2.1 bt426.2.2).bind fun bt431 => ((laws_toBoard.f k a0_0 a0_1 l0_2).bind fun bt438 => ((impl_WithoutCogs.f k bt438.1 bt438.2.1 bt438.2.2).bind fun bt444 => ((laws_eqBoard.f k bt444.1 bt444.2.1 bt444.2.2.1 bt431.1 bt431.2.1 bt431.2.2.1).bind fun AS => (if AS = true then (laws_FnExactWithoutCogs.j0 k bt431.2.2.2 bt444.2.2.2 (bt444.2.2.2 != bt431.2.2.2) a0_0 a0_1 l0_2 bt431.1 bt431.2.1 bt431.2.2.1 bt438.1 bt438.2.1 bt438.2.2 bt444.1 bt444.2.1 bt444.2.2.1) else (laws_FnExactWithoutCogs.j0 k bt431.2.2.2 bt444.2.2.2 true a0_0 a0_1 l0_2 bt431.1 bt431.2.1 bt431.2.2.1 bt438.1 bt438.2.1 bt438.2.2 bt444.1 bt444.2.1 bt444.2.2.1)))))))) = some true := H
 have A2 := Z.m F5
 clear F5
 by_cases c3 : Br < 0
 ·rw [if_pos c3] at H
  have Dm := decide_eq_true c3
  clear c3
  clear H
  go_enter Try.func10, Try.ntmps10
  go_wp2_with (first | ((with_reducible refine gq (N := 1) rfl ?_); refine be (N := 1) (cs := #[.int .i64 a0_0, .int .i64 a0_1, .slice A0_2 l0_2.length c0_2]) (t := 24) ?_; intro AL hg w4 hbox hb; have A1 := Z.m (hbox); have BA := gW (w := w) HB hg; have Bz := BA; replace HB := bB HB hb; clear hb hbox hg; have Ej := bc0 A1; have Ek := bc1 A1; have El := bc2 A1; have Em := qz A1.o 0; have En := qz A1.o 1; have Eo := qz A1.o 2) | ((with_reducible refine gc (f := 15) rfl ?_); refine gA (some 16) _ #[.agg #[.int .i64 a0_0, .int .i64 a0_1, .slice A0_2 l0_2.length c0_2], .int .i64 1048576] ?_ Try.func15; (with_reducible refine (laws_szBoard.calls a0_0 a0_1 _ _ l0_2 1048576 Br _ ?side1 ?side2 A2.o).mono ?_); (case side1 => repeat (first | exact (Kd.C_below Bh.o HB.o) | (with_reducible refine Kd.C_alloc ?_ _) | (with_reducible refine Kd.C_drewN ?_ _) | (with_reducible refine Kd.C_drew ?_))); (case side2 => exact Bg.o); rintro e w6 ⟨rfl, hb⟩; refine ⟨_, rfl, ?_⟩; replace A1 := kB A1 hb; replace HB := bB HB hb; (try clear hb); (try clear Bx); (try clear hk); (try clear hi)))
  go_ret
  exact ⟨by first | rfl | (simp [eN, eS] <;> rfl) | (simp [*, eN, eS] <;> rfl), vB HB⟩
 ·rw [if_neg c3] at H
  have Dm := decide_eq_false c3
  clear c3
  replace H := Option.bind_eq_some_iff.mp H
  obtain ⟨⟨CN, CO, Bq⟩, F6, H⟩ := H
  replace H : ((spec_WithoutCogs.f k CN CO Bq).bind fun bt431 => ((laws_toBoard.f k a0_0 a0_1 l0_2).bind fun bt438 => ((impl_WithoutCogs.f k bt438.1 bt438.2.1 bt438.2.2).bind fun bt444 => ((laws_eqBoard.f k bt444.1 bt444.2.1 bt444.2.2.1 bt431.1 bt431.2.1 bt431.2.2.1).bind fun AS => (if AS = true then (laws_FnExactWithoutCogs.j0 k bt431.2.2.2 bt444.2.2.2 (bt444.2.2.2 != bt431.2.2.2) a0_0 a0_1 l0_2 bt431.1 bt431.2.1 bt431.2.2.1 bt438.1 bt438.2.1 bt438.2.2 bt444.1 bt444.2.1 bt444.2.2.1) else (laws_FnExactWithoutCogs.j0 k bt431.2.2.2 bt444.2.2.2 true a0_0 a0_1 l0_2 bt431.1 bt431.2.1 bt431.2.2.1 bt438.1 bt438.2.1 bt438.2.2 bt444.1 bt444.2.1 bt444.2.2.1)))))) = some true := H
  have A7 := Z.m F6
  clear F6
  replace H := Option.bind_eq_some_iff.mp H
  obtain ⟨⟨Ah, Ai, Ac, Aj⟩, F7, H⟩ := H
  replace H : ((laws_toBoard.f k a0_0 a0_1 l0_2).bind fun bt438 => ((impl_WithoutCogs.f k bt438.1 bt438.2.1 bt438.2.2).bind fun bt444 => ((laws_eqBoard.f k bt444.1 bt444.2.1 bt444.2.2.1 Ah Ai Ac).bind fun AS => (if AS = true then (laws_FnExactWithoutCogs.j0 k Aj bt444.2.2.2 (bt444.2.2.2 != Aj) a0_0 a0_1 l0_2 Ah Ai Ac bt438.1 bt438.2.1 bt438.2.2 bt444.1 bt444.2.1 bt444.2.2.1) else (laws_FnExactWithoutCogs.j0 k Aj bt444.2.2.2 true a0_0 a0_1 l0_2 Ah Ai Ac bt438.1 bt438.2.1 bt438.2.2 bt444.1 bt444.2.1 bt444.2.2.1))))) = some true := H
  have A8 := Z.m F7
  clear F7
  replace H := Option.bind_eq_some_iff.mp H
  obtain ⟨⟨Aq, Ar, Ak⟩, DJ, H⟩ := H
  replace H : ((impl_WithoutCogs.f k Aq Ar Ak).bind fun bt444 => ((laws_eqBoard.f k bt444.1 bt444.2.1 bt444.2.2.1 Ah Ai Ac).bind fun AS => (if AS = true then (laws_FnExactWithoutCogs.j0 k Aj bt444.2.2.2 (bt444.2.2.2 != Aj) a0_0 a0_1 l0_2 Ah Ai Ac Aq Ar Ak bt444.1 bt444.2.1 bt444.2.2.1) else (laws_FnExactWithoutCogs.j0 k Aj bt444.2.2.2 true a0_0 a0_1 l0_2 Ah Ai Ac Aq Ar Ak bt444.1 bt444.2.1 bt444.2.2.1)))) = some true := H
  have A9 := Z.m DJ
  clear DJ
  replace H := Option.bind_eq_some_iff.mp H
  obtain ⟨⟨Ae, Af, Ad, AI⟩, Da, H⟩ := H
  replace H : ((laws_eqBoard.f k Ae Af Ad Ah Ai Ac).bind fun AS => (if AS = true then (laws_FnExactWithoutCogs.j0 k Aj AI (AI != Aj) a0_0 a0_1 l0_2 Ah Ai Ac Aq Ar Ak Ae Af Ad) else (laws_FnExactWithoutCogs.j0 k Aj AI true a0_0 a0_1 l0_2 Ah Ai Ac Aq Ar Ak Ae Af Ad))) = some true := H
  have FN := Z.m Da
  clear Da
  have D3 := Z.m H
  clear H
  go_enter Try.func10, Try.ntmps10
  go_upto_region 8 with (first | ((with_reducible refine gq (N := 1) rfl ?_); refine be (N := 1) (cs := #[.int .i64 a0_0, .int .i64 a0_1, .slice A0_2 l0_2.length c0_2]) (t := 24) ?_; intro AL hg Ga hbox hb; have A1 := Z.m (hbox); have BA := gW (w := w) HB hg; have Bz := BA; replace HB := bB HB hb; clear hb hbox hg; have C5 := bc0 A1; have C6 := bc1 A1; have C7 := bc2 A1; have Cs := qz A1.o 0; have Ct := qz A1.o 1; have Cu := qz A1.o 2) | ((with_reducible refine gc (f := 15) rfl ?_); refine gA (some 16) _ #[.agg #[.int .i64 a0_0, .int .i64 a0_1, .slice A0_2 l0_2.length c0_2], .int .i64 1048576] ?_ Try.func15; (with_reducible refine (laws_szBoard.calls a0_0 a0_1 _ _ l0_2 1048576 Br _ ?side1 ?side2 A2.o).mono ?_); (case side1 => repeat (first | exact (Kd.C_below Bh.o HB.o) | (with_reducible refine Kd.C_alloc ?_ _) | (with_reducible refine Kd.C_drewN ?_ _) | (with_reducible refine Kd.C_drew ?_))); (case side2 => exact Bg.o); rintro e Gb ⟨rfl, hb⟩; refine ⟨_, rfl, ?_⟩; replace A1 := kB A1 hb; replace HB := bB HB hb; (try clear hb); (try clear Bx); (try clear hk); (try clear hi); have C8 := bc0 A1; have C9 := bc1 A1; have Ca := bc2 A1; have Cv := qz A1.o 0; have Cw := qz A1.o 1; have Cx := qz A1.o 2) | ((with_reducible refine gc (f := 17) rfl ?_); refine gA (some 21) _ #[.agg #[.int .i64 a0_0, .int .i64 a0_1, .slice A0_2 l0_2.length c0_2]] ?_ Try.func17; (with_reducible refine (laws_toBoard.calls k a0_0 a0_1 _ _ l0_2 CN CO Bq _ ?side1 ?side2 A7.o).mono ?_); (case side1 => repeat (first | exact (Kd.C_below Bh.o HB.o) | (with_reducible refine Kd.C_alloc ?_ _) | (with_reducible refine Kd.C_drewN ?_ _) | (with_reducible refine Kd.C_drew ?_))); (case side2 => exact Bg.o); rintro e Gc ⟨FW, rfl, AK, hb⟩; refine ⟨_, rfl, ?_⟩; have An := Z.m (Kd.R_lower AK (below_size (vB HB))); replace A1 := kB A1 hb; replace HB := bB HB hb; (try clear hb); (try clear Bx); (try clear hk); (try clear hi); (try clear AK); obtain ⟨C3, C4, Ef⟩ := Kd.R_slice An.o; subst Ef) | ((with_reducible refine gc (f := 37) rfl ?_); refine gA (some 22) _ #[.agg #[.int .i64 CN, .int .i64 CO, .slice C3 Bq.length C4]] ?_ Try.func37; (with_reducible refine (spec_WithoutCogs.calls k CN CO _ _ Bq Ah Ai Ac Aj _ ?side1 ?side2 A8.o).mono ?_); (case side1 => repeat (first | exact (Kd.RrZ An.o).2.2 | (with_reducible refine Kd.C_alloc ?_ _) | (with_reducible refine Kd.C_drewN ?_ _) | (with_reducible refine Kd.C_drew ?_))); (case side2 => exact (Kd.RrZ An.o).2.1); rintro e Gd ⟨FX, rfl, AK, hb⟩; refine ⟨_, rfl, ?_⟩; have At := Z.m (Kd.R_lower (Kd.R_new' AK (Kd.R_lt (vR An))) (below_size (vB HB))); replace An := Z.m (Kd.R_elder' (vR An) (Kd.R_base AK) hb); replace A1 := kB A1 hb; replace HB := bB HB hb; (try clear hb); (try clear Bx); (try clear hk); (try clear hi); (try clear AK)) | ((with_reducible refine gq (N := 4) rfl ?_); refine be (N := 4) (cs := #[.int .i64 0, .int .i64 0, .slice none 0 0]) (t := 30) ?_; intro Be hg Ge hbox hb; have A6 := Z.m (hbox); have Di := gW (w := w) HB hg; have CX := Di; have Ay := neL A1 hg; have AF := neG A1 hg; replace An := Z.m (Kd.Rb (vR An) hb); replace At := Z.m (Kd.Rb (vR At) hb); replace A1 := kB A1 hb; replace HB := bB HB hb; clear hb hbox hg; have Fa := AF.o; have Ft := Ay.o; have Cb := bc0 A6; have Cd := bc1 A6; have Ce := bc2 A6; have Cy := qz A6.o 0; have Cz := qz A6.o 1; have CA := qz A6.o 2; obtain ⟨Ax, Aw, Eg⟩ := Kd.R_slice At.o; subst Eg; have Cf := bc0 A1; have Cg := bc1 A1; have Ch := bc2 A1; have CB := qz A1.o 0; have CC := qz A1.o 1; have CD := qz A1.o 2) | ((with_reducible refine gc (f := 17) rfl ?_); refine gA (some 26) _ #[.agg #[.int .i64 a0_0, .int .i64 a0_1, .slice A0_2 l0_2.length c0_2]] ?_ Try.func17; (with_reducible refine (laws_toBoard.calls k a0_0 a0_1 _ _ l0_2 Aq Ar Ak _ ?side1 ?side2 A9.o).mono ?_); (case side1 => exact Kd.C_below Bh.o (vB HB)); (case side2 => exact Bg.o); rintro e Gf ⟨FY, rfl, AK, hb⟩; refine ⟨_, rfl, ?_⟩; have AE := Z.m (Kd.R_lower (Kd.R_new' (Kd.R_new' AK (Kd.R_lt (by refine rK ?_; exact (Kd.Rm (rf (rf (rf (Kd.Ry An.o A6.o (by decide))))) (fun _ h_ => h_.1))))) (Kd.R_lt (by refine rK ?_; exact (Kd.Rm (rf (rf (rf (Kd.Ry At.o A6.o (by decide))))) (fun _ h_ => h_.1))))) (below_size (vB HB))); replace An := Z.m (Kd.R_elder' (by refine rK ?_; exact (Kd.Rm (rf (rf (rf (Kd.Ry An.o A6.o (by decide))))) (fun _ h_ => h_.1))) (Kd.R_base AK) hb); replace At := Z.m (Kd.R_elder' (by refine rK ?_; exact (Kd.Rm (rf (rf (rf (Kd.Ry At.o A6.o (by decide))))) (fun _ h_ => h_.1))) (Kd.R_base AK) hb); replace A1 := Z.m (qb (g := AL) (o := .cells #[.int .i64 a0_0, .int .i64 a0_1, .slice A0_2 l0_2.length c0_2] 24 (0, 0)) (by refine bK ?_; (iterate 3 refine qF ?_ Ay); exact A1.o) hb); replace A6 := Z.m (qb (g := Be) (o := .cells #[.int .i64 Ah, .int .i64 Ai, .slice Ax Ac.length Aw] 30 (0, 0)) (by refine bK ?_; apply st3; refine bK ?_; exact A6.o) hb); replace HB := bB HB hb; (try clear hb); (try clear Bx); (try clear hk); (try clear hi); (try clear AK)) | ((with_reducible refine gq (N := 6) rfl ?_); refine be (N := 6) (cs := #[.int .i64 0, .int .i64 0, .slice none 0 0]) (t := 30) ?_; intro AR hg Gg hbox hb; have Aa := Z.m (hbox); have Dj := gW (w := w) HB hg; have CY := Dj; have AM := neL A1 hg; have AW := neG A1 hg; have AA := neL A6 hg; have AG := neG A6 hg; replace An := Z.m (Kd.Rb (vR An) hb); replace At := Z.m (Kd.Rb (vR At) hb); replace AE := Z.m (Kd.Rb (vR AE) hb); replace A1 := kB A1 hb; replace A6 := kB A6 hb; replace HB := bB HB hb; clear hb hbox hg; have Fb := AW.o; have Fu := AM.o; have Fc := AG.o; have Fv := AA.o; have Ci := bc0 Aa; have Cj := bc1 Aa; have Cl := bc2 Aa; have CE := qz Aa.o 0; have CF := qz Aa.o 1; have CG := qz Aa.o 2; obtain ⟨Ao, Am, Eh⟩ := Kd.R_slice AE.o; subst Eh) | ((with_reducible refine gc (f := 38) rfl ?_); refine gA (some 29) _ #[.agg #[.int .i64 Aq, .int .i64 Ar, .slice Ao Ak.length Am]] ?_ Try.func38; (with_reducible refine (impl_WithoutCogs.calls k Aq Ar _ _ Ak Ae Af Ad AI _ ?side1 ?side2 FN.o).mono ?_); (case side1 => refine (Kd.RrZ (e := 71) (base := w.heap.size) (ok := fun k_ => ((True ∧ some k_ ≠ (.slice C3 Bq.length C4 : Value).ownBlock) ∧ some k_ ≠ (.slice Ax Ac.length Aw : Value).ownBlock)) (n := Ak.length) (c := Am) ?_).2.2; exact (by refine rK ?_; exact (Kd.Rm (rf (rf (rf (Kd.Ry AE.o Aa.o (by decide))))) (fun _ h_ => h_.1)))); (case side2 => exact (Kd.RrZ AE.o).2.1); rintro e Gh ⟨FZ, rfl, AK, hb⟩; refine ⟨_, rfl, ?_⟩; have B2 := Z.m (Kd.R_lower (Kd.R_new' (Kd.R_new' (Kd.R_new' AK (Kd.R_lt (by refine rK ?_; exact (Kd.Rm (rf (rf (rf (Kd.Ry An.o Aa.o (by decide))))) (fun _ h_ => h_.1))))) (Kd.R_lt (by refine rK ?_; exact (Kd.Rm (rf (rf (rf (Kd.Ry At.o Aa.o (by decide))))) (fun _ h_ => h_.1))))) (Kd.R_lt (by refine rK ?_; exact (Kd.Rm (rf (rf (rf (Kd.Ry AE.o Aa.o (by decide))))) (fun _ h_ => h_.1))))) (below_size (vB HB))); replace An := Z.m (Kd.R_elder' (by refine rK ?_; exact (Kd.Rm (rf (rf (rf (Kd.Ry An.o Aa.o (by decide))))) (fun _ h_ => h_.1))) (Kd.R_base AK) hb); replace At := Z.m (Kd.R_elder' (by refine rK ?_; exact (Kd.Rm (rf (rf (rf (Kd.Ry At.o Aa.o (by decide))))) (fun _ h_ => h_.1))) (Kd.R_base AK) hb); replace AE := Z.m (Kd.R_elder' (by refine rK ?_; exact (Kd.Rm (rf (rf (rf (Kd.Ry AE.o Aa.o (by decide))))) (fun _ h_ => h_.1))) (Kd.R_base AK) hb); replace A1 := Z.m (qb (g := AL) (o := .cells #[.int .i64 a0_0, .int .i64 a0_1, .slice A0_2 l0_2.length c0_2] 24 (0, 0)) (by refine bK ?_; (iterate 3 refine qF ?_ AM); exact A1.o) hb); replace A6 := Z.m (qb (g := Be) (o := .cells #[.int .i64 Ah, .int .i64 Ai, .slice Ax Ac.length Aw] 30 (0, 0)) (by refine bK ?_; (iterate 3 refine qF ?_ AA); exact A6.o) hb); replace Aa := Z.m (qb (g := AR) (o := .cells #[.int .i64 Aq, .int .i64 Ar, .slice Ao Ak.length Am] 30 (0, 0)) (by refine bK ?_; apply st3; refine bK ?_; exact Aa.o) hb); replace HB := bB HB hb; (try clear hb); (try clear Bx); (try clear hk); (try clear hi); (try clear AK)) | ((with_reducible refine gq (N := 7) rfl ?_); refine be (N := 7) (cs := #[.int .i64 0, .int .i64 0, .slice none 0 0]) (t := 30) ?_; intro Bo hg Gi hbox hb; have A5 := Z.m (hbox); have Dk := gW (w := w) HB hg; have CZ := Dk; have Az := neL A1 hg; have AH := neG A1 hg; have Au := neL A6 hg; have AB := neG A6 hg; have Av := neL Aa hg; have AC := neG Aa hg; replace An := Z.m (Kd.Rb (vR An) hb); replace At := Z.m (Kd.Rb (vR At) hb); replace AE := Z.m (Kd.Rb (vR AE) hb); replace B2 := Z.m (Kd.Rb (vR B2) hb); replace A1 := kB A1 hb; replace A6 := kB A6 hb; replace Aa := kB Aa hb; replace HB := bB HB hb; clear hb hbox hg; have Fd := AH.o; have Fw := Az.o; have Fe := AB.o; have Fx := Au.o; have Ff := AC.o; have Fy := Av.o; have Cm := bc0 A5; have Cn := bc1 A5; have Co := bc2 A5; have CH := qz A5.o 0; have CI := qz A5.o 1; have CJ := qz A5.o 2; obtain ⟨As, Ap, Ei⟩ := Kd.R_slice B2.o; subst Ei))
  (try simp only [Act.put, q1, q2, q3])
  go_cut [40] (fun v40 wc => ∃ (kq : Nat) (Bl : Bool), v40 = .bool Bl ∧ Z (laws_FnExactWithoutCogs.j0 kq Aj AI Bl a0_0 a0_1 l0_2 Ah Ai Ac Aq Ar Ak Ae Af Ad = some true) ∧ Z (kq ≤ k) ∧ Z (Kd.R k71 71 wc w.heap.size (fun k_ => some k_ ≠ ((.slice Ao Ak.length Am) : Value).ownBlock ∧ some k_ ≠ ((.slice As Ad.length Ap) : Value).ownBlock) (.slice Ax Ac.length Aw) Ac) ∧ Z (Kd.R k71 71 wc w.heap.size (fun k_ => some k_ ≠ ((.slice Ax Ac.length Aw) : Value).ownBlock ∧ some k_ ≠ ((.slice As Ad.length Ap) : Value).ownBlock) (.slice Ao Ak.length Am) Ak) ∧ Z (Kd.R k71 71 wc w.heap.size (fun k_ => some k_ ≠ ((.slice Ax Ac.length Aw) : Value).ownBlock ∧ some k_ ≠ ((.slice Ao Ak.length Am) : Value).ownBlock) (.slice As Ad.length Ap) Ad) ∧ Z (wc.heap[AL]? = some (.cells #[.int .i64 a0_0, .int .i64 a0_1, (.slice A0_2 l0_2.length c0_2)] 24 (0, 0))) ∧ Z (wc.heap[Be]? = some (.cells #[.int .i64 Ah, .int .i64 Ai, (.slice Ax Ac.length Aw)] 30 (0, 0))) ∧ Z (wc.heap[AR]? = some (.cells #[.int .i64 Aq, .int .i64 Ar, (.slice Ao Ak.length Am)] 30 (0, 0))) ∧ Z (wc.heap[Bo]? = some (.cells #[.int .i64 Ae, .int .i64 Af, (.slice As Ad.length Ap)] 30 (0, 0))) ∧ Z (Below w.heap.size w wc))
  case first =>
   have H := D3.o
   clear D3
   replace H := Option.bind_eq_some_iff.mp H
   obtain ⟨AS, Db, H⟩ := H
   replace H : (if AS = true then (laws_FnExactWithoutCogs.j0 k Aj AI (AI != Aj) a0_0 a0_1 l0_2 Ah Ai Ac Aq Ar Ak Ae Af Ad) else (laws_FnExactWithoutCogs.j0 k Aj AI true a0_0 a0_1 l0_2 Ah Ai Ac Aq Ar Ak Ae Af Ad)) = some true := H
   have FO := Z.m Db
   clear Db
   by_cases c38 : AS = true
   ·subst c38
    have H1 : (laws_FnExactWithoutCogs.j0 k Aj AI (AI != Aj) a0_0 a0_1 l0_2 Ah Ai Ac Aq Ar Ak Ae Af Ad) = some true := by rw [if_pos rfl] at H; exact H
    clear H
    have H := H1
    clear H1
    have H' := Z.m H
    clear H
    have Fg := AH.o
    have Fz := Az.o
    have Fh := AB.o
    have FA := Au.o
    have Fi := AC.o
    have FB := Av.o
    have DK := bc0 A5
    have DL := bc1 A5
    have DM := bc2 A5
    have DW := qz A5.o 0
    have DX := qz A5.o 1
    have DY := qz A5.o 2
    have Fj := AF.o
    have FC := Ay.o
    have Fk := AA.o
    have FD := AG.o
    have DN := bc0 A6
    have DO := bc1 A6
    have DP := bc2 A6
    have DZ := qz A6.o 0
    have E0 := qz A6.o 1
    have E1 := qz A6.o 2
    go_wp2_with (first | ((with_reducible refine gc (f := 19) rfl ?_); refine gA (some 34) _ #[.agg #[.int .i64 Ae, .int .i64 Af, .slice As Ad.length Ap], .agg #[.int .i64 Ah, .int .i64 Ai, .slice Ax Ac.length Aw]] ?_ Try.func19; (with_reducible refine (laws_eqBoard.calls k Ae Af _ _ Ad Ah Ai _ _ Ac true _ ?side1 ?side2 ?side3 ?side4 FO.o).mono ?_); (case side1 => refine (Kd.RrZ (e := 71) (base := w.heap.size) (ok := fun k_ => (((True ∧ some k_ ≠ (.slice C3 Bq.length C4 : Value).ownBlock) ∧ some k_ ≠ (.slice Ax Ac.length Aw : Value).ownBlock) ∧ some k_ ≠ (.slice Ao Ak.length Am : Value).ownBlock)) (n := Ad.length) (c := Ap) ?_).2.2; exact (by refine rK ?_; exact (Kd.Rm (rf (rf (rf (Kd.Ry B2.o A5.o (by decide))))) (fun _ h_ => h_.1)))); (case side2 => exact (Kd.RrZ B2.o).2.1); (case side3 => refine (Kd.RrZ (e := 71) (base := w.heap.size) (ok := fun k_ => (((True ∧ some k_ ≠ (.slice C3 Bq.length C4 : Value).ownBlock) ∧ some k_ ≠ (.slice Ao Ak.length Am : Value).ownBlock) ∧ some k_ ≠ (.slice As Ad.length Ap : Value).ownBlock)) (n := Ac.length) (c := Aw) ?_).2.2; exact (by refine rK ?_; exact (Kd.Rm (rf (rf (rf (Kd.Ry At.o A5.o (by decide))))) (fun _ h_ => h_.1)))); (case side4 => exact (Kd.RrZ At.o).2.1); rintro e Gj ⟨rfl, hb⟩; refine ⟨_, rfl, ?_⟩; replace An := Z.m (Kd.Rb (by refine rK ?_; exact (Kd.Rm (rf (rf (rf (Kd.Ry An.o A5.o (by decide))))) (fun _ h_ => h_.1))) hb); replace At := Z.m (Kd.Rb (by refine rK ?_; exact (Kd.Rm (rf (rf (rf (Kd.Ry At.o A5.o (by decide))))) (fun _ h_ => h_.1))) hb); replace AE := Z.m (Kd.Rb (by refine rK ?_; exact (Kd.Rm (rf (rf (rf (Kd.Ry AE.o A5.o (by decide))))) (fun _ h_ => h_.1))) hb); replace B2 := Z.m (Kd.Rb (by refine rK ?_; exact (Kd.Rm (rf (rf (rf (Kd.Ry B2.o A5.o (by decide))))) (fun _ h_ => h_.1))) hb); replace A1 := Z.m (qb (g := AL) (o := .cells #[.int .i64 a0_0, .int .i64 a0_1, .slice A0_2 l0_2.length c0_2] 24 (0, 0)) (by refine bK ?_; (iterate 3 refine qF ?_ Az); exact A1.o) hb); replace A6 := Z.m (qb (g := Be) (o := .cells #[.int .i64 Ah, .int .i64 Ai, .slice Ax Ac.length Aw] 30 (0, 0)) (by refine bK ?_; (iterate 3 refine qF ?_ Au); exact A6.o) hb); replace Aa := Z.m (qb (g := AR) (o := .cells #[.int .i64 Aq, .int .i64 Ar, .slice Ao Ak.length Am] 30 (0, 0)) (by refine bK ?_; (iterate 3 refine qF ?_ Av); exact Aa.o) hb); replace A5 := Z.m (qb (g := Bo) (o := .cells #[.int .i64 Ae, .int .i64 Af, .slice As Ad.length Ap] 30 (0, 0)) (by refine bK ?_; apply st3; refine bK ?_; exact A5.o) hb); replace HB := bB HB hb; (try clear hb); (try clear Bx); (try clear hk); (try clear hi)))
    go_meet
    case rel => exact ⟨_, ((AI != Aj)), (by first | rfl | (simp; done) | (simp [*]; done)), H', ⟨by first | omega | exact Nat.le_refl _⟩, ⟨by refine rK ?_; exact Kd.Rm At.o (fun _ hk => ⟨hk.1.2, hk.2⟩)⟩, ⟨by refine rK ?_; exact Kd.Rm AE.o (fun _ hk => ⟨hk.1.2, hk.2⟩)⟩, ⟨by refine rK ?_; exact Kd.Rm B2.o (fun _ hk => ⟨hk.1.2, hk.2⟩)⟩, ⟨vK A1⟩, ⟨vK A6⟩, ⟨vK Aa⟩, ⟨vK A5⟩, ⟨vB HB⟩⟩
   ·(rw [if_neg c38] at H; exact absurd H (laws_FnExactWithoutCogs.bad_j0 _ _ _ _ _ _ _ _ _ _ _ _ _ _ _))
  case rest =>
   clear D3
   (try clear Dm)
   (try clear C5); (try clear C6); (try clear C7); (try clear C8); (try clear C9); (try clear Ca); (try clear Cb); (try clear Cd)
   (try clear Ce); (try clear Cf); (try clear Cg); (try clear Ch); (try clear Ci); (try clear Cj); (try clear Cl); (try clear Cm)
   (try clear Cn); (try clear Co); (try clear Cs); (try clear Ct); (try clear Cu); (try clear Cv); (try clear Cw); (try clear Cx)
   (try clear Cy); (try clear Cz); (try clear CA); (try clear CB); (try clear CC); (try clear CD); (try clear CE); (try clear CF)
   (try clear CG); (try clear CH); (try clear CI); (try clear CJ)
   obtain ⟨kq, Bl, rfl, HA, D5, A4, A3, A0, A1, A6, Aa, A5, HB⟩ := hcut
   cases kq with
   | zero => exact absurd HA.o (by simp [laws_FnExactWithoutCogs.j0])
   | succ kj10 =>
    have H := HA.o
    clear HA
    simp only [laws_FnExactWithoutCogs.j0] at H
    by_cases c55 : Bl = true
    ·(rw [if_pos c55] at H; exact absurd H (by decide))
    ·replace c55 := Bool.eq_false_iff.mpr c55
     subst c55
     have H1 : ((laws_toBoard.f kj10 a0_0 a0_1 l0_2).bind fun bt452 => ((laws_eqBoard.f kj10 Aq Ar Ak bt452.1 bt452.2.1 bt452.2.2).bind fun Bt => (if Bt = true then ((laws_markBoard.f kj10 Aq Ar Ak 1).bind fun bt458 => (if bt458.1 < 0 then (laws_FnExactWithoutCogs.j1 kj10 Aj true a0_0 a0_1 l0_2 Ah Ai Ac Ae Af Ad) else ((laws_eqBoard.f kj10 Ae Af Ad Ah Ai Ac).bind fun Bb => (if Bb = true then (laws_FnExactWithoutCogs.j1 kj10 Aj (AI != Aj) a0_0 a0_1 l0_2 Ah Ai Ac Ae Af Ad) else (laws_FnExactWithoutCogs.j1 kj10 Aj true a0_0 a0_1 l0_2 Ah Ai Ac Ae Af Ad))))) else (some false)))) = some true := by rw [if_neg (show ¬ (false = true) by decide)] at H; exact H
     clear H
     have H := H1
     clear H1
     replace H := Option.bind_eq_some_iff.mp H
     obtain ⟨⟨CP, CQ, Bs⟩, Dc, H⟩ := H
     replace H : ((laws_eqBoard.f kj10 Aq Ar Ak CP CQ Bs).bind fun Bt => (if Bt = true then ((laws_markBoard.f kj10 Aq Ar Ak 1).bind fun bt458 => (if bt458.1 < 0 then (laws_FnExactWithoutCogs.j1 kj10 Aj true a0_0 a0_1 l0_2 Ah Ai Ac Ae Af Ad) else ((laws_eqBoard.f kj10 Ae Af Ad Ah Ai Ac).bind fun Bb => (if Bb = true then (laws_FnExactWithoutCogs.j1 kj10 Aj (AI != Aj) a0_0 a0_1 l0_2 Ah Ai Ac Ae Af Ad) else (laws_FnExactWithoutCogs.j1 kj10 Aj true a0_0 a0_1 l0_2 Ah Ai Ac Ae Af Ad))))) else (some false))) = some true := H
     have FP := Z.m Dc
     clear Dc
     replace H := Option.bind_eq_some_iff.mp H
     obtain ⟨Bt, Dd, H⟩ := H
     replace H : (if Bt = true then ((laws_markBoard.f kj10 Aq Ar Ak 1).bind fun bt458 => (if bt458.1 < 0 then (laws_FnExactWithoutCogs.j1 kj10 Aj true a0_0 a0_1 l0_2 Ah Ai Ac Ae Af Ad) else ((laws_eqBoard.f kj10 Ae Af Ad Ah Ai Ac).bind fun Bb => (if Bb = true then (laws_FnExactWithoutCogs.j1 kj10 Aj (AI != Aj) a0_0 a0_1 l0_2 Ah Ai Ac Ae Af Ad) else (laws_FnExactWithoutCogs.j1 kj10 Aj true a0_0 a0_1 l0_2 Ah Ai Ac Ae Af Ad))))) else (some false)) = some true := H
     have FQ := Z.m Dd
     clear Dd
     by_cases c58 : Bt = true
     ·subst c58
      have H1 : ((laws_markBoard.f kj10 Aq Ar Ak 1).bind fun bt458 => (if bt458.1 < 0 then (laws_FnExactWithoutCogs.j1 kj10 Aj true a0_0 a0_1 l0_2 Ah Ai Ac Ae Af Ad) else ((laws_eqBoard.f kj10 Ae Af Ad Ah Ai Ac).bind fun Bb => (if Bb = true then (laws_FnExactWithoutCogs.j1 kj10 Aj (AI != Aj) a0_0 a0_1 l0_2 Ah Ai Ac Ae Af Ad) else (laws_FnExactWithoutCogs.j1 kj10 Aj true a0_0 a0_1 l0_2 Ah Ai Ac Ae Af Ad))))) = some true := by rw [if_pos rfl] at H; exact H
      clear H
      have H := H1
      clear H1
      replace H := Option.bind_eq_some_iff.mp H
      obtain ⟨⟨D9, Ba⟩, De, H⟩ := H
      replace H : (if D9 < 0 then (laws_FnExactWithoutCogs.j1 kj10 Aj true a0_0 a0_1 l0_2 Ah Ai Ac Ae Af Ad) else ((laws_eqBoard.f kj10 Ae Af Ad Ah Ai Ac).bind fun Bb => (if Bb = true then (laws_FnExactWithoutCogs.j1 kj10 Aj (AI != Aj) a0_0 a0_1 l0_2 Ah Ai Ac Ae Af Ad) else (laws_FnExactWithoutCogs.j1 kj10 Aj true a0_0 a0_1 l0_2 Ah Ai Ac Ae Af Ad)))) = some true := H
      have FR := Z.m De
      clear De
      have D4 := Z.m H
      clear H
      try go_wp2
      replace A4 := Z.m (Kd.R_drew A4.o)
      replace A3 := Z.m (Kd.R_drew A3.o)
      replace A0 := Z.m (Kd.R_drew A0.o)
      replace A1 := Z.m (blk_drew A1.o)
      replace A6 := Z.m (blk_drew A6.o)
      replace Aa := Z.m (blk_drew Aa.o)
      replace A5 := Z.m (blk_drew A5.o)
      replace HB := Z.m (qd HB.o)
      refine start_ (n := 5) (S := fun w' => w'.cell? ⟨AR, 0, none⟩ = some (.int .i64 Aq) ∧ w'.cell? ⟨AR, 1, none⟩ = some (.int .i64 Ar) ∧ w'.cell? ⟨AR, 2, none⟩ = some (.slice Ao Ak.length Am) ∧ w'.cell? ⟨AL, 0, none⟩ = some (.int .i64 a0_0) ∧ w'.cell? ⟨AL, 1, none⟩ = some (.int .i64 a0_1) ∧ w'.cell? ⟨AL, 2, none⟩ = some (.slice A0_2 l0_2.length c0_2)) (ds := []) #[false, false, false, false, false] (by kernel_rfl) rfl rfl ⟨(ql Aa.o 0).trans rfl, (ql Aa.o 1).trans rfl, (ql Aa.o 2).trans rfl, (ql A1.o 0).trans rfl, (ql A1.o 1).trans rfl, (ql A1.o 2).trans rfl⟩ (fun hHeld => ?_)
      generalize wc.drew = Gk at A4 A3 A0 A1 A6 Aa A5 HB hHeld ⊢
      refine take_ (i := 0) (N := some 41) (v := ?_) (a' := ?_) #[true, false, false, false, false] rfl rfl (by kernel_rfl) (fun _ _ _ h => h) (Or.inl ⟨by rfl, ?_⟩) hHeld ?_ ?_
      rotate_left
      ·rintro w' ⟨s0, s1, s2, s3, s4, s5⟩
       go_simp
       with_reducible rfl
      rotate_left
      ·simp only [Act.put, q1, q2, q3, i64_w, i32_w]
       rfl
      refine take_ (i := 1) (N := some 42) (v := ?_) (a' := ?_) #[true, true, false, false, false] rfl rfl (by kernel_rfl) (fun _ _ _ h => h) (Or.inl ⟨by rfl, ?_⟩) hHeld ?_ ?_
      rotate_left
      ·rintro w' ⟨s0, s1, s2, s3, s4, s5⟩
       go_simp
       with_reducible rfl
      rotate_left
      ·simp only [Act.put, q1, q2, q3, i64_w, i32_w]
       rfl
      refine one_ (i := 2) (N := some 43) #[true, true, true, false, false] rfl rfl (by kernel_rfl) (by decide) (fun K hK => ?_)
      refine goes_ Try.func17 (by kernel_rfl) rfl #[.agg #[.int .i64 a0_0, .int .i64 a0_1, .slice A0_2 l0_2.length c0_2]] (by rfl) rfl rfl (by (try simp only [List.map_toArray, List.map_cons, List.map_nil]); first | done | rfl | (simp only [List.length_drop, List.length_take]; rfl)) ?_
      with_reducible refine (laws_toBoard.calls kj10 a0_0 a0_1 _ _ l0_2 CP CQ Bs _ ?side1 ?side2 FP.o).mono ?_
      (case side1 => repeat (first | exact (Kd.C_below Bh.o HB.o) | (with_reducible refine Kd.C_alloc ?_ _) | (with_reducible refine Kd.C_drewN ?_ _) | (with_reducible refine Kd.C_drew ?_)))
      (case side2 => exact Bg.o)
      rintro e Gl ⟨G0, rfl, AK, hb⟩
      refine ⟨_, rfl, ?_⟩
      have AP := Z.m (Kd.R_lower (Kd.R_new' (Kd.R_new' (Kd.R_new' AK (Kd.R_lt (vR A4))) (Kd.R_lt (vR A3))) (Kd.R_lt (vR A0))) (below_size (vB HB)))
      replace A4 := Z.m (Kd.R_elder' (vR A4) (Kd.R_base AK) hb)
      replace A3 := Z.m (Kd.R_elder' (vR A3) (Kd.R_base AK) hb)
      replace A0 := Z.m (Kd.R_elder' (vR A0) (Kd.R_base AK) hb)
      replace A1 := kB A1 hb
      replace A6 := kB A6 hb
      replace Aa := kB Aa hb
      replace A5 := kB A5 hb
      replace HB := bB HB hb
      (try clear hb); (try clear AK)
      obtain ⟨D2, D8, Dp⟩ := Kd.R_slice AP.o
      (first | subst Dp | (injection Dp with f1_ f2_ f3_; have f4_ := f1_.symm; have f5_ := f3_.symm; clear f1_ f2_ f3_; subst f4_; subst f5_))
      refine hK.out _ _ ⟨(ql Aa.o 0).trans rfl, (ql Aa.o 1).trans rfl, (ql Aa.o 2).trans rfl, (ql A1.o 0).trans rfl, (ql A1.o 1).trans rfl, (ql A1.o 2).trans rfl⟩ (fun hHeld => ?_)
      clear hK K
      refine norm_ (a' := ?_) ?_ ?_
      rotate_left
      ·show Act.put _ (some 43) _ = _
       simp only [Act.put, q1, q2, q3, i64_w, i32_w]
       rfl
      refine one_ (i := 3) (N := some 44) #[true, true, true, true, false] rfl rfl (by kernel_rfl) (by decide) (fun K hK => ?_)
      refine goes_ Try.func19 (by kernel_rfl) rfl #[.agg #[.int .i64 Aq, .int .i64 Ar, .slice Ao Ak.length Am], .agg #[.int .i64 CP, .int .i64 CQ, .slice D2 Bs.length D8]] (by rfl) rfl rfl (by (try simp only [List.map_toArray, List.map_cons, List.map_nil]); first | done | rfl | (simp only [List.length_drop, List.length_take]; rfl)) ?_
      with_reducible refine (laws_eqBoard.calls kj10 Aq Ar _ _ Ak CP CQ _ _ Bs true _ ?side1 ?side2 ?side3 ?side4 FQ.o).mono ?_
      (case side1 => repeat (first | exact (Kd.RrZ A3.o).2.2 | (with_reducible refine Kd.C_alloc ?_ _) | (with_reducible refine Kd.C_drewN ?_ _) | (with_reducible refine Kd.C_drew ?_)))
      (case side2 => exact (Kd.RrZ A3.o).2.1)
      (case side3 => repeat (first | exact (Kd.RrZ AP.o).2.2 | (with_reducible refine Kd.C_alloc ?_ _) | (with_reducible refine Kd.C_drewN ?_ _) | (with_reducible refine Kd.C_drew ?_)))
      (case side4 => exact (Kd.RrZ AP.o).2.1)
      rintro e Gm ⟨rfl, hb⟩
      refine ⟨_, rfl, ?_⟩
      replace A4 := Z.m (Kd.Rb (vR A4) hb)
      replace A3 := Z.m (Kd.Rb (vR A3) hb)
      replace A0 := Z.m (Kd.Rb (vR A0) hb)
      replace AP := Z.m (Kd.Rb (vR AP) hb)
      replace A1 := kB A1 hb
      replace A6 := kB A6 hb
      replace Aa := kB Aa hb
      replace A5 := kB A5 hb
      replace HB := bB HB hb
      (try clear hb)
      refine hK.out _ _ ⟨(ql Aa.o 0).trans rfl, (ql Aa.o 1).trans rfl, (ql Aa.o 2).trans rfl, (ql A1.o 0).trans rfl, (ql A1.o 1).trans rfl, (ql A1.o 2).trans rfl⟩ (fun hHeld => ?_)
      clear hK K
      refine norm_ (a' := ?_) ?_ ?_
      rotate_left
      ·show Act.put _ (some 44) _ = _
       simp only [Act.put, q1, q2, q3, i64_w, i32_w]
       rfl
      refine pure_ (i := 4) (N := some 45) (v := ?_) (a' := ?_) #[true, true, true, true, true] rfl rfl (by kernel_rfl) (fun _ _ _ h => h) (Or.inl ⟨by rfl, ?_⟩) ?_ ?_
      rotate_left
      ·intro w'
       go_simp
       with_reducible rfl
      rotate_left
      ·simp only [Act.put, q1, q2, q3, i64_w, i32_w]
       rfl
      refine done_ (by kernel_rfl) ?_
      have Fl := AW.o
      have FE := AM.o
      have Fm := AG.o
      have FF := AA.o
      have Fn := Av.o
      have FG := AC.o
      have Cp := bc0 Aa
      have Cq := bc1 Aa
      have Cr := bc2 Aa
      have CK := qz Aa.o 0
      have CL := qz Aa.o 1
      have CM := qz Aa.o 2
      go_upto_region 14 with (first | ((with_reducible refine gc (f := 27) rfl ?_); refine gA (some 48) _ #[.agg #[.int .i64 Aq, .int .i64 Ar, .slice Ao Ak.length Am], .int .i64 1] ?_ Try.func27; (with_reducible refine (laws_markBoard.calls kj10 Aq Ar (fun k_ => some k_ = (.slice Ao Ak.length Am : Value).ownBlock) (.slice Ao Ak.length Am) Ak 1 D9 Ba w _ ?side1 ?side2 FR.o).mono ?_); (case side1 => repeat (first | (with_reducible first | exact HB.o | apply qa | apply qn | apply qd | refine qx ?_ Bz.o | refine qx ?_ CX.o | refine qx ?_ CY.o | refine qx ?_ CZ.o) | exact HB.o)); (case side2 => exact Kd.Rg rfl A3.o); rintro e Gn ⟨rfl, DI, hb, hkp⟩; refine ⟨_, rfl, ?_⟩; replace A4 := Z.m (Kd.Rm (ok' := fun k_ => some k_ ≠ (.slice Ao Ak.length Am : Value).ownBlock ∧ some k_ ≠ (.slice As Ad.length Ap : Value).ownBlock ∧ some k_ ≠ (.slice D2 Bs.length D8 : Value).ownBlock) (Kd.Rk (A4.o) hkp (fun k_ hk_ hs_ => (hk_.1.1) hs_)) (fun k_ hk_ => ⟨hk_.1.1.1, hk_.1.1.2, hk_.1.2⟩)); replace A0 := Z.m (Kd.Rm (ok' := fun k_ => some k_ ≠ (.slice Ax Ac.length Aw : Value).ownBlock ∧ some k_ ≠ (.slice Ao Ak.length Am : Value).ownBlock ∧ some k_ ≠ (.slice D2 Bs.length D8 : Value).ownBlock) (Kd.Rk (A0.o) hkp (fun k_ hk_ hs_ => (hk_.1.2) hs_)) (fun k_ hk_ => ⟨hk_.1.1.1, hk_.1.1.2, hk_.1.2⟩)); replace A1 := Z.m (qk (vK A1) hkp (fun hs_ => (fun e_ => (Kd.R_ne A3.o A1.o (by decide)) e_) hs_)); replace A6 := Z.m (qk (vK A6) hkp (fun hs_ => (fun e_ => (Kd.R_ne A3.o A6.o (by decide)) e_) hs_)); replace Aa := Z.m (qk (vK Aa) hkp (fun hs_ => (fun e_ => (Kd.R_ne A3.o Aa.o (by decide)) e_) hs_)); replace A5 := Z.m (qk (vK A5) hkp (fun hs_ => (fun e_ => (Kd.R_ne A3.o A5.o (by decide)) e_) hs_)); replace A3 := Z.m (Kd.Re rfl DI (fun k_ e_ => A3.o.1 k_ e_)); replace AP := Z.m (Kd.Rm (ok' := fun k_ => some k_ ≠ (.slice Ax Ac.length Aw : Value).ownBlock ∧ some k_ ≠ (.slice Ao Ak.length Am : Value).ownBlock ∧ some k_ ≠ (.slice As Ad.length Ap : Value).ownBlock) (Kd.Rk (AP.o) hkp (fun k_ hk_ hs_ => (hk_.1.2) hs_)) (fun k_ hk_ => ⟨hk_.1.1.1.2, hk_.1.1.2, hk_.1.2⟩)); replace HB := Z.m (hb); (try clear hb); (try clear hkp); (try clear DI)))
      (try simp only [Act.put, q1, q2, q3])
      go_cut [61] (fun v61 wc => ∃ (kq : Nat) (Bm : Bool), v61 = .bool Bm ∧ Z (laws_FnExactWithoutCogs.j1 kq Aj Bm a0_0 a0_1 l0_2 Ah Ai Ac Ae Af Ad = some true) ∧ Z (kq ≤ kj10) ∧ Z (Kd.R k71 71 wc w.heap.size (fun k_ => some k_ ≠ ((.slice Ao Ak.length Am) : Value).ownBlock ∧ some k_ ≠ ((.slice As Ad.length Ap) : Value).ownBlock) (.slice Ax Ac.length Aw) Ac) ∧ Z (Kd.R k71 71 wc w.heap.size (fun k_ => some k_ ≠ ((.slice Ax Ac.length Aw) : Value).ownBlock ∧ some k_ ≠ ((.slice As Ad.length Ap) : Value).ownBlock) (.slice Ao Ak.length Am) Ba) ∧ Z (Kd.R k71 71 wc w.heap.size (fun k_ => some k_ ≠ ((.slice Ax Ac.length Aw) : Value).ownBlock ∧ some k_ ≠ ((.slice Ao Ak.length Am) : Value).ownBlock) (.slice As Ad.length Ap) Ad) ∧ Z (wc.heap[AL]? = some (.cells #[.int .i64 a0_0, .int .i64 a0_1, (.slice A0_2 l0_2.length c0_2)] 24 (0, 0))) ∧ Z (wc.heap[Be]? = some (.cells #[.int .i64 Ah, .int .i64 Ai, (.slice Ax Ac.length Aw)] 30 (0, 0))) ∧ Z (wc.heap[AR]? = some (.cells #[.int .i64 Aq, .int .i64 Ar, (.slice Ao Ak.length Am)] 30 (0, 0))) ∧ Z (wc.heap[Bo]? = some (.cells #[.int .i64 Ae, .int .i64 Af, (.slice As Ad.length Ap)] 30 (0, 0))) ∧ Z (Below w.heap.size w wc))
      case first =>
       have H := D4.o
       clear D4
       by_cases c70 : D9 < 0
       ·rw [if_pos c70] at H
        have Bn := decide_eq_true c70
        clear c70
        (first | rw [Bn] | (simp only [i64_w, i32_w]; rw [Bn]) | skip)
        have H' := Z.m H
        clear H
        go_wp2
        go_meet
        case rel => exact ⟨_, (true), (by first | rfl | (simp; done) | (simp [*]; done)), H', ⟨by have := D5.o; first | omega | exact Nat.le_refl _⟩, ⟨by refine rK ?_; exact Kd.Rm A4.o (fun _ hk => ⟨hk.1, hk.2.1⟩)⟩, ⟨by refine rK ?_; exact Kd.Rm A3.o (fun _ hk => ⟨hk.1.1, hk.1.2⟩)⟩, ⟨by refine rK ?_; exact Kd.Rm A0.o (fun _ hk => ⟨hk.1, hk.2.1⟩)⟩, ⟨vK A1⟩, ⟨vK A6⟩, ⟨vK Aa⟩, ⟨vK A5⟩, ⟨vB HB⟩⟩
       ·rw [if_neg c70] at H
        have Bn := decide_eq_false c70
        clear c70
        (first | rw [Bn] | (simp only [i64_w, i32_w]; rw [Bn]) | skip)
        replace H := Option.bind_eq_some_iff.mp H
        obtain ⟨Bb, Df, H⟩ := H
        replace H : (if Bb = true then (laws_FnExactWithoutCogs.j1 kj10 Aj (AI != Aj) a0_0 a0_1 l0_2 Ah Ai Ac Ae Af Ad) else (laws_FnExactWithoutCogs.j1 kj10 Aj true a0_0 a0_1 l0_2 Ah Ai Ac Ae Af Ad)) = some true := H
        have FS := Z.m Df
        clear Df
        by_cases c72 : Bb = true
        ·subst c72
         have H1 : (laws_FnExactWithoutCogs.j1 kj10 Aj (AI != Aj) a0_0 a0_1 l0_2 Ah Ai Ac Ae Af Ad) = some true := by rw [if_pos rfl] at H; exact H
         clear H
         have H := H1
         clear H1
         have H' := Z.m H
         clear H
         have Fo := AH.o
         have FH := Az.o
         have Fp := AB.o
         have FI := Au.o
         have Fq := AC.o
         have FJ := Av.o
         have DQ := bc0 A5
         have DR := bc1 A5
         have DS := bc2 A5
         have E2 := qz A5.o 0
         have E3 := qz A5.o 1
         have E4 := qz A5.o 2
         have Fr := AF.o
         have FL := Ay.o
         have Fs := AA.o
         have FM := AG.o
         have DT := bc0 A6
         have DU := bc1 A6
         have DV := bc2 A6
         have E5 := qz A6.o 0
         have E6 := qz A6.o 1
         have E7 := qz A6.o 2
         go_wp2_with (first | (go_at_call 19; (with_reducible refine (laws_eqBoard.calls kj10 Ae Af _ _ Ad Ah Ai _ _ Ac true _ ?side1 ?side2 ?side3 ?side4 FS.o).mono ?_); (case side1 => repeat (first | exact (Kd.RrZ A0.o).2.2 | (with_reducible refine Kd.C_alloc ?_ _) | (with_reducible refine Kd.C_drewN ?_ _) | (with_reducible refine Kd.C_drew ?_))); (case side2 => exact (Kd.RrZ A0.o).2.1); (case side3 => repeat (first | exact (Kd.RrZ A4.o).2.2 | (with_reducible refine Kd.C_alloc ?_ _) | (with_reducible refine Kd.C_drewN ?_ _) | (with_reducible refine Kd.C_drew ?_))); (case side4 => exact (Kd.RrZ A4.o).2.1); rintro e Go ⟨rfl, hb⟩; replace A4 := Z.m (Kd.Rb (vR A4) hb); replace A3 := Z.m (Kd.Rb (vR A3) hb); replace A0 := Z.m (Kd.Rb (vR A0) hb); replace AP := Z.m (Kd.Rb (vR AP) hb); replace A1 := kB A1 hb; replace A6 := kB A6 hb; replace Aa := kB Aa hb; replace A5 := kB A5 hb; replace HB := bB HB hb; (try clear hb); (try clear Bx); (try clear hk); (try clear hi)))
         go_meet
         case rel => exact ⟨_, ((AI != Aj)), (by first | rfl | (simp; done) | (simp [*]; done)), H', ⟨by have := D5.o; first | omega | exact Nat.le_refl _⟩, ⟨by refine rK ?_; exact Kd.Rm A4.o (fun _ hk => ⟨hk.1, hk.2.1⟩)⟩, ⟨by refine rK ?_; exact Kd.Rm A3.o (fun _ hk => ⟨hk.1.1, hk.1.2⟩)⟩, ⟨by refine rK ?_; exact Kd.Rm A0.o (fun _ hk => ⟨hk.1, hk.2.1⟩)⟩, ⟨vK A1⟩, ⟨vK A6⟩, ⟨vK Aa⟩, ⟨vK A5⟩, ⟨vB HB⟩⟩
        ·(rw [if_neg c72] at H; exact absurd H (laws_FnExactWithoutCogs.bad_j1 _ _ _ _ _ _ _ _ _ _ _))
      case rest =>
       clear D4
       (try clear c55); (try clear c58)
       (try clear Cp); (try clear Cq); (try clear Cr); (try clear CK); (try clear CL); (try clear CM)
       obtain ⟨kq, Bm, rfl, HA, Ec, A4, A3, A0, A1, A6, Aa, A5, HB⟩ := hcut
       have Ab := (Kd.RrZ A3.o).1
       rw [Ab] at A3
       (try simp only [Ab])
       (try simp only [Ab] at A1)
       (try simp only [Ab] at A6)
       (try simp only [Ab] at Aa)
       (try simp only [Ab] at A5)
       (try simp only [Ab] at A4)
       (try simp only [Ab] at A0)
       cases kq with
       | zero => exact absurd HA.o (by simp [laws_FnExactWithoutCogs.j1])
       | succ kj59 =>
        have H := HA.o
        clear HA
        simp only [laws_FnExactWithoutCogs.j1] at H
        by_cases c89 : Bm = true
        ·(rw [if_pos c89] at H; exact absurd H (by decide))
        ·replace c89 := Bool.eq_false_iff.mpr c89
         subst c89
         have H1 : ((laws_markBoard.f kj59 Ae Af Ad 1).bind fun bt461 => ((laws_heldBoard.f kj59 Ae Af bt461.2 1).bind fun Bf => (if Bf < 0 then (some false) else (if Bf = bt461.1 then ((laws_toBoard.f kj59 a0_0 a0_1 l0_2).bind fun bt464 => ((impl_WithoutCogs.f kj59 bt464.1 bt464.2.1 bt464.2.2).bind fun bt469 => ((laws_eqBoard.f kj59 bt469.1 bt469.2.1 bt469.2.2.1 Ah Ai Ac).bind fun Bc => (if Bc = true then (laws_FnExactWithoutCogs.j2 kj59 bt461.1 (bt469.2.2.2 != Aj) Ae Af bt461.2) else (laws_FnExactWithoutCogs.j2 kj59 bt461.1 true Ae Af bt461.2))))) else (some false))))) = some true := by rw [if_neg (show ¬ (false = true) by decide)] at H; exact H
         clear H
         have H := H1
         clear H1
         replace H := Option.bind_eq_some_iff.mp H
         obtain ⟨⟨AJ, AD⟩, Dg, H⟩ := H
         replace H : ((laws_heldBoard.f kj59 Ae Af AD 1).bind fun Bf => (if Bf < 0 then (some false) else (if Bf = AJ then ((laws_toBoard.f kj59 a0_0 a0_1 l0_2).bind fun bt464 => ((impl_WithoutCogs.f kj59 bt464.1 bt464.2.1 bt464.2.2).bind fun bt469 => ((laws_eqBoard.f kj59 bt469.1 bt469.2.1 bt469.2.2.1 Ah Ai Ac).bind fun Bc => (if Bc = true then (laws_FnExactWithoutCogs.j2 kj59 AJ (bt469.2.2.2 != Aj) Ae Af AD) else (laws_FnExactWithoutCogs.j2 kj59 AJ true Ae Af AD))))) else (some false)))) = some true := H
         have DJ := Z.m Dg
         clear Dg
         replace H := Option.bind_eq_some_iff.mp H
         obtain ⟨Bf, Dh, H⟩ := H
         replace H : (if Bf < 0 then (some false) else (if Bf = AJ then ((laws_toBoard.f kj59 a0_0 a0_1 l0_2).bind fun bt464 => ((impl_WithoutCogs.f kj59 bt464.1 bt464.2.1 bt464.2.2).bind fun bt469 => ((laws_eqBoard.f kj59 bt469.1 bt469.2.1 bt469.2.2.1 Ah Ai Ac).bind fun Bc => (if Bc = true then (laws_FnExactWithoutCogs.j2 kj59 AJ (bt469.2.2.2 != Aj) Ae Af AD) else (laws_FnExactWithoutCogs.j2 kj59 AJ true Ae Af AD))))) else (some false))) = some true := H
         have FT := Z.m Dh
         clear Dh
         by_cases c92 : Bf < 0
         ·(rw [if_pos c92] at H; exact absurd H (by decide))
         ·rw [if_neg c92] at H
          have D0 := decide_eq_false c92
          (try simp only [Ab] at D0)
          clear c92
          by_cases c100 : Bf = AJ
          ·rw [if_pos c100] at H
           have D6 := beq_iff_eq.mpr c100
           have D7 := bne_eq_false_iff_eq.mpr c100
           clear c100
           replace H := Option.bind_eq_some_iff.mp H
           obtain ⟨⟨CR, CS, Bu⟩, CT, H⟩ := H
           replace H : ((impl_WithoutCogs.f kj59 CR CS Bu).bind fun bt469 => ((laws_eqBoard.f kj59 bt469.1 bt469.2.1 bt469.2.2.1 Ah Ai Ac).bind fun Bc => (if Bc = true then (laws_FnExactWithoutCogs.j2 kj59 AJ (bt469.2.2.2 != Aj) Ae Af AD) else (laws_FnExactWithoutCogs.j2 kj59 AJ true Ae Af AD)))) = some true := H
           have E8 := Z.m CT
           clear CT
           replace H := Option.bind_eq_some_iff.mp H
           obtain ⟨⟨Bv, Bw, AZ, C2⟩, CU, H⟩ := H
           replace H : ((laws_eqBoard.f kj59 Bv Bw AZ Ah Ai Ac).bind fun Bc => (if Bc = true then (laws_FnExactWithoutCogs.j2 kj59 AJ (C2 != Aj) Ae Af AD) else (laws_FnExactWithoutCogs.j2 kj59 AJ true Ae Af AD))) = some true := H
           have E9 := Z.m CU
           clear CU
           have BB := Z.m H
           clear H
           have Ep := AH.o
           have EL := Az.o
           have Er := AB.o
           have EM := Au.o
           have Es := AC.o
           have EN := Av.o
           have BE := bc0 A5
           have BF := bc1 A5
           have BG := bc2 A5
           have BQ := qz A5.o 0
           have BR := qz A5.o 1
           have BS := qz A5.o 2
           go_upto_region 25 with (first | ((with_reducible refine gc (f := 27) rfl ?_); refine gA (some 64) _ #[.agg #[.int .i64 Ae, .int .i64 Af, .slice As Ad.length Ap], .int .i64 1] ?_ Try.func27; (with_reducible refine (laws_markBoard.calls kj59 Ae Af (fun k_ => some k_ = (.slice As Ad.length Ap : Value).ownBlock) (.slice As Ad.length Ap) Ad 1 AJ AD w _ ?side1 ?side2 DJ.o).mono ?_); (case side1 => repeat (first | (with_reducible first | exact HB.o | apply qa | apply qn | apply qd | refine qx ?_ Bz.o | refine qx ?_ CX.o | refine qx ?_ CY.o | refine qx ?_ CZ.o) | exact HB.o)); (case side2 => exact Kd.Rg rfl A0.o); rintro e G3 ⟨rfl, DI, hb, hkp⟩; refine ⟨_, rfl, ?_⟩; replace A4 := Z.m (Kd.Rm (ok' := fun k_ => some k_ ≠ (.slice Ao Ba.length Am : Value).ownBlock ∧ some k_ ≠ (.slice As Ad.length Ap : Value).ownBlock) (Kd.Rk (A4.o) hkp (fun k_ hk_ hs_ => (hk_.2) hs_)) (fun k_ hk_ => ⟨hk_.1.1, hk_.1.2⟩)); replace A3 := Z.m (Kd.Rm (ok' := fun k_ => some k_ ≠ (.slice Ax Ac.length Aw : Value).ownBlock ∧ some k_ ≠ (.slice As Ad.length Ap : Value).ownBlock) (Kd.Rk (A3.o) hkp (fun k_ hk_ hs_ => (hk_.2) hs_)) (fun k_ hk_ => ⟨hk_.1.1, hk_.1.2⟩)); replace A1 := Z.m (qk (vK A1) hkp (fun hs_ => (fun e_ => (Kd.R_ne A0.o A1.o (by decide)) e_) hs_)); replace A6 := Z.m (qk (vK A6) hkp (fun hs_ => (fun e_ => (Kd.R_ne A0.o A6.o (by decide)) e_) hs_)); replace Aa := Z.m (qk (vK Aa) hkp (fun hs_ => (fun e_ => (Kd.R_ne A0.o Aa.o (by decide)) e_) hs_)); replace A5 := Z.m (qk (vK A5) hkp (fun hs_ => (fun e_ => (Kd.R_ne A0.o A5.o (by decide)) e_) hs_)); replace A0 := Z.m (Kd.Re rfl DI (fun k_ e_ => A0.o.1 k_ e_)); replace HB := Z.m (hb); (try clear hb); (try clear hkp); (try clear DI); have BH := bc0 A5; have BI := bc1 A5; have BJ := bc2 A5; have BT := qz A5.o 0; have BU := qz A5.o 1; have BV := qz A5.o 2) | ((with_reducible refine gc (f := 34) rfl ?_); refine goesL_ (some 67) rfl rfl Try.func34 (by kernel_rfl) rfl #[.agg #[.int .i64 Ae, .int .i64 Af, .slice As AD.length Ap], .int .i64 1] rfl (by (try simp only [List.map_toArray, List.map_cons, List.map_nil]); first | done | (rw [show AD.length = Ad.length from (Kd.RrZ A0.o).1.symm] <;> rfl) | rfl | (simp only [List.length_drop, List.length_take]; rfl)) ?_; (with_reducible refine (laws_heldBoard.calls kj59 Ae Af _ _ AD 1 Bf _ ?side1 ?side2 FT.o).mono ?_); (case side1 => repeat (first | exact (Kd.RrZ A0.o).2.2 | (with_reducible refine Kd.C_alloc ?_ _) | (with_reducible refine Kd.C_drewN ?_ _) | (with_reducible refine Kd.C_drew ?_))); (case side2 => rw [show AD.length = Ad.length from (Kd.RrZ A0.o).1.symm]; exact (Kd.RrZ A0.o).2.1); rintro e G4 ⟨rfl, hb⟩; refine ⟨_, rfl, ?_⟩; replace A4 := Z.m (Kd.Rb (vR A4) hb); replace A3 := Z.m (Kd.Rb (vR A3) hb); replace A0 := Z.m (Kd.Rb (vR A0) hb); replace A1 := kB A1 hb; replace A6 := kB A6 hb; replace Aa := kB Aa hb; replace A5 := kB A5 hb; replace HB := bB HB hb; (try clear hb); (try clear Bx); (try clear hk); (try clear hi); have Et := Ay.o; have EO := AF.o; have Eu := AM.o; have EP := AW.o; have BK := bc0 A1; have BL := bc1 A1; have BM := bc2 A1; have BW := qz A1.o 0; have BX := qz A1.o 1; have BY := qz A1.o 2) | ((with_reducible refine gc (f := 17) rfl ?_); refine gA (some 75) _ #[.agg #[.int .i64 a0_0, .int .i64 a0_1, .slice A0_2 l0_2.length c0_2]] ?_ Try.func17; (with_reducible refine (laws_toBoard.calls kj59 a0_0 a0_1 _ _ l0_2 CR CS Bu _ ?side1 ?side2 E8.o).mono ?_); (case side1 => repeat (first | exact (Kd.C_below Bh.o HB.o) | (with_reducible refine Kd.C_alloc ?_ _) | (with_reducible refine Kd.C_drewN ?_ _) | (with_reducible refine Kd.C_drew ?_))); (case side2 => exact Bg.o); rintro e G5 ⟨G1, rfl, AK, hb⟩; refine ⟨_, rfl, ?_⟩; have AO := Z.m (Kd.R_lower (Kd.R_new' (Kd.R_new' (Kd.R_new' AK (Kd.R_lt (vR A4))) (Kd.R_lt (vR A3))) (Kd.R_lt (vR A0))) (below_size (vB HB))); replace A4 := Z.m (Kd.R_elder' (vR A4) (Kd.R_base AK) hb); replace A3 := Z.m (Kd.R_elder' (vR A3) (Kd.R_base AK) hb); replace A0 := Z.m (Kd.R_elder' (vR A0) (Kd.R_base AK) hb); replace A1 := kB A1 hb; replace A6 := kB A6 hb; replace Aa := kB Aa hb; replace A5 := kB A5 hb; replace HB := bB HB hb; (try clear hb); (try clear Bx); (try clear hk); (try clear hi); (try clear AK); obtain ⟨By, BD, Dn⟩ := Kd.R_slice AO.o; subst Dn) | ((with_reducible refine gc (f := 38) rfl ?_); refine gA (some 76) _ #[.agg #[.int .i64 CR, .int .i64 CS, .slice By Bu.length BD]] ?_ Try.func38; (with_reducible refine (impl_WithoutCogs.calls kj59 CR CS _ _ Bu Bv Bw AZ C2 _ ?side1 ?side2 E9.o).mono ?_); (case side1 => repeat (first | exact (Kd.RrZ AO.o).2.2 | (with_reducible refine Kd.C_alloc ?_ _) | (with_reducible refine Kd.C_drewN ?_ _) | (with_reducible refine Kd.C_drew ?_))); (case side2 => exact (Kd.RrZ AO.o).2.1); rintro e G6 ⟨G2, rfl, AK, hb⟩; refine ⟨_, rfl, ?_⟩; have B7 := Z.m (Kd.R_lower (Kd.R_new' (Kd.R_new' (Kd.R_new' (Kd.R_new' AK (Kd.R_lt (vR A4))) (Kd.R_lt (vR A3))) (Kd.R_lt (vR A0))) (Kd.R_lt (vR AO))) (below_size (vB HB))); replace A4 := Z.m (Kd.R_elder' (vR A4) (Kd.R_base AK) hb); replace A3 := Z.m (Kd.R_elder' (vR A3) (Kd.R_base AK) hb); replace A0 := Z.m (Kd.R_elder' (vR A0) (Kd.R_base AK) hb); replace AO := Z.m (Kd.R_elder' (vR AO) (Kd.R_base AK) hb); replace A1 := kB A1 hb; replace A6 := kB A6 hb; replace Aa := kB Aa hb; replace A5 := kB A5 hb; replace HB := bB HB hb; (try clear hb); (try clear Bx); (try clear hk); (try clear hi); (try clear AK)) | ((with_reducible refine gq (N := 12) rfl ?_); refine be (N := 12) (cs := #[.int .i64 0, .int .i64 0, .slice none 0 0]) (t := 30) ?_; intro D1 hg G7 hbox hb; have Al := Z.m (hbox); have Dl := gW (w := w) HB hg; have F8 := Dl; have AU := neL A1 hg; have Bi := neG A1 hg; have AV := neL A6 hg; have Bj := neG A6 hg; have AX := neL Aa hg; have Bk := neG Aa hg; have AN := neL A5 hg; have AY := neG A5 hg; replace A4 := Z.m (Kd.Rb (vR A4) hb); replace A3 := Z.m (Kd.Rb (vR A3) hb); replace A0 := Z.m (Kd.Rb (vR A0) hb); replace AO := Z.m (Kd.Rb (vR AO) hb); replace B7 := Z.m (Kd.Rb (vR B7) hb); replace A1 := kB A1 hb; replace A6 := kB A6 hb; replace Aa := kB Aa hb; replace A5 := kB A5 hb; replace HB := bB HB hb; clear hb hbox hg; have Ew := Bi.o; have EQ := AU.o; have Ex := Bj.o; have ER := AV.o; have Ey := Bk.o; have ES := AX.o; have Ez := AY.o; have ET := AN.o; have BN := bc0 Al; have BO := bc1 Al; have BP := bc2 Al; have BZ := qz Al.o 0; have C0 := qz Al.o 1; have C1 := qz Al.o 2; obtain ⟨B0, AQ, Do⟩ := Kd.R_slice B7.o; subst Do))
           (try simp only [Act.put, q1, q2, q3])
           go_cut [87] (fun v87 wc => ∃ (kq : Nat) (Bd : Bool), v87 = .bool Bd ∧ Z (laws_FnExactWithoutCogs.j2 kq AJ Bd Ae Af AD = some true) ∧ Z (kq ≤ kj59) ∧ Z (Kd.R k71 71 wc w.heap.size (fun k_ => some k_ ≠ ((.slice Ao Ba.length Am) : Value).ownBlock ∧ some k_ ≠ ((.slice As Ad.length Ap) : Value).ownBlock ∧ some k_ ≠ ((.slice B0 AZ.length AQ) : Value).ownBlock) (.slice Ax Ac.length Aw) Ac) ∧ Z (Kd.R k71 71 wc w.heap.size (fun k_ => some k_ ≠ ((.slice Ax Ac.length Aw) : Value).ownBlock ∧ some k_ ≠ ((.slice As Ad.length Ap) : Value).ownBlock ∧ some k_ ≠ ((.slice B0 AZ.length AQ) : Value).ownBlock) (.slice Ao Ba.length Am) Ba) ∧ Z (Kd.R k71 71 wc w.heap.size (fun k_ => some k_ ≠ ((.slice Ax Ac.length Aw) : Value).ownBlock ∧ some k_ ≠ ((.slice Ao Ba.length Am) : Value).ownBlock ∧ some k_ ≠ ((.slice B0 AZ.length AQ) : Value).ownBlock) (.slice As Ad.length Ap) AD) ∧ Z (Kd.R k71 71 wc w.heap.size (fun k_ => some k_ ≠ ((.slice Ax Ac.length Aw) : Value).ownBlock ∧ some k_ ≠ ((.slice Ao Ba.length Am) : Value).ownBlock ∧ some k_ ≠ ((.slice As Ad.length Ap) : Value).ownBlock) (.slice B0 AZ.length AQ) AZ) ∧ Z (wc.heap[AL]? = some (.cells #[.int .i64 a0_0, .int .i64 a0_1, (.slice A0_2 l0_2.length c0_2)] 24 (0, 0))) ∧ Z (wc.heap[Be]? = some (.cells #[.int .i64 Ah, .int .i64 Ai, (.slice Ax Ac.length Aw)] 30 (0, 0))) ∧ Z (wc.heap[AR]? = some (.cells #[.int .i64 Aq, .int .i64 Ar, (.slice Ao Ba.length Am)] 30 (0, 0))) ∧ Z (wc.heap[Bo]? = some (.cells #[.int .i64 Ae, .int .i64 Af, (.slice As Ad.length Ap)] 30 (0, 0))) ∧ Z (wc.heap[D1]? = some (.cells #[.int .i64 Bv, .int .i64 Bw, (.slice B0 AZ.length AQ)] 30 (0, 0))) ∧ Z (Below w.heap.size w wc))
           case first =>
            have H := BB.o
            clear BB
            replace H := Option.bind_eq_some_iff.mp H
            obtain ⟨Bc, CV, H⟩ := H
            replace H : (if Bc = true then (laws_FnExactWithoutCogs.j2 kj59 AJ (C2 != Aj) Ae Af AD) else (laws_FnExactWithoutCogs.j2 kj59 AJ true Ae Af AD)) = some true := H
            have Ea := Z.m CV
            clear CV
            by_cases c125 : Bc = true
            ·subst c125
             have H1 : (laws_FnExactWithoutCogs.j2 kj59 AJ (C2 != Aj) Ae Af AD) = some true := by rw [if_pos rfl] at H; exact H
             clear H
             have H := H1
             clear H1
             have H' := Z.m H
             clear H
             have EA := Bi.o
             have EU := AU.o
             have EB := Bj.o
             have EV := AV.o
             have EC := Bk.o
             have EW := AX.o
             have ED := AY.o
             have EX := AN.o
             have Dq := bc0 Al
             have Dr := bc1 Al
             have Ds := bc2 Al
             have Dz := qz Al.o 0
             have DA := qz Al.o 1
             have DB := qz Al.o 2
             have EE := AF.o
             have EY := Ay.o
             have EF := AA.o
             have EZ := AG.o
             have EG := Au.o
             have F0 := AB.o
             have Dt := bc0 A6
             have Du := bc1 A6
             have Dv := bc2 A6
             have DC := qz A6.o 0
             have DD := qz A6.o 1
             have DE := qz A6.o 2
             go_wp2_with (first | ((with_reducible refine gc (f := 19) rfl ?_); refine gA (some 81) _ #[.agg #[.int .i64 Bv, .int .i64 Bw, .slice B0 AZ.length AQ], .agg #[.int .i64 Ah, .int .i64 Ai, .slice Ax Ac.length Aw]] ?_ Try.func19; (with_reducible refine (laws_eqBoard.calls kj59 Bv Bw _ _ AZ Ah Ai _ _ Ac true _ ?side1 ?side2 ?side3 ?side4 Ea.o).mono ?_); (case side1 => refine (Kd.RrZ (e := 71) (base := w.heap.size) (ok := fun k_ => ((((True ∧ some k_ ≠ (.slice Ax Ac.length Aw : Value).ownBlock) ∧ some k_ ≠ (.slice Ao Ba.length Am : Value).ownBlock) ∧ some k_ ≠ (.slice As Ad.length Ap : Value).ownBlock) ∧ some k_ ≠ (.slice By Bu.length BD : Value).ownBlock)) (n := AZ.length) (c := AQ) ?_).2.2; exact (by refine rK ?_; exact (Kd.Rm (rf (rf (rf (Kd.Ry B7.o Al.o (by decide))))) (fun _ h_ => h_.1)))); (case side2 => exact (Kd.RrZ B7.o).2.1); (case side3 => refine (Kd.RrZ (e := 71) (base := w.heap.size) (ok := fun k_ => (((some k_ ≠ (.slice Ao Ba.length Am : Value).ownBlock ∧ some k_ ≠ (.slice As Ad.length Ap : Value).ownBlock) ∧ some k_ ≠ (.slice By Bu.length BD : Value).ownBlock) ∧ some k_ ≠ (.slice B0 AZ.length AQ : Value).ownBlock)) (n := Ac.length) (c := Aw) ?_).2.2; exact (by refine rK ?_; exact (Kd.Rm (rf (rf (rf (Kd.Ry A4.o Al.o (by decide))))) (fun _ h_ => h_.1)))); (case side4 => exact (Kd.RrZ A4.o).2.1); rintro e G8 ⟨rfl, hb⟩; refine ⟨_, rfl, ?_⟩; replace A4 := Z.m (Kd.Rb (by refine rK ?_; exact (Kd.Rm (rf (rf (rf (Kd.Ry A4.o Al.o (by decide))))) (fun _ h_ => h_.1))) hb); replace A3 := Z.m (Kd.Rb (by refine rK ?_; exact (Kd.Rm (rf (rf (rf (Kd.Ry A3.o Al.o (by decide))))) (fun _ h_ => h_.1))) hb); replace A0 := Z.m (Kd.Rb (by refine rK ?_; exact (Kd.Rm (rf (rf (rf (Kd.Ry A0.o Al.o (by decide))))) (fun _ h_ => h_.1))) hb); replace AO := Z.m (Kd.Rb (by refine rK ?_; exact (Kd.Rm (rf (rf (rf (Kd.Ry AO.o Al.o (by decide))))) (fun _ h_ => h_.1))) hb); replace B7 := Z.m (Kd.Rb (by refine rK ?_; exact (Kd.Rm (rf (rf (rf (Kd.Ry B7.o Al.o (by decide))))) (fun _ h_ => h_.1))) hb); replace A1 := Z.m (qb (g := AL) (o := .cells #[.int .i64 a0_0, .int .i64 a0_1, .slice A0_2 l0_2.length c0_2] 24 (0, 0)) (by refine bK ?_; (iterate 3 refine qF ?_ AU); exact A1.o) hb); replace A6 := Z.m (qb (g := Be) (o := .cells #[.int .i64 Ah, .int .i64 Ai, .slice Ax Ac.length Aw] 30 (0, 0)) (by refine bK ?_; (iterate 3 refine qF ?_ AV); exact A6.o) hb); replace Aa := Z.m (qb (g := AR) (o := .cells #[.int .i64 Aq, .int .i64 Ar, .slice Ao Ba.length Am] 30 (0, 0)) (by refine bK ?_; (iterate 3 refine qF ?_ AX); exact Aa.o) hb); replace A5 := Z.m (qb (g := Bo) (o := .cells #[.int .i64 Ae, .int .i64 Af, .slice As Ad.length Ap] 30 (0, 0)) (by refine bK ?_; (iterate 3 refine qF ?_ AN); exact A5.o) hb); replace Al := Z.m (qb (g := D1) (o := .cells #[.int .i64 Bv, .int .i64 Bw, .slice B0 AZ.length AQ] 30 (0, 0)) (by refine bK ?_; apply st3; refine bK ?_; exact Al.o) hb); replace HB := bB HB hb; (try clear hb); (try clear Bx); (try clear hk); (try clear hi)))
             go_meet
             case rel => exact ⟨_, ((C2 != Aj)), (by first | rfl | (simp; done) | (simp [*]; done)), H', ⟨by have := D5.o; have := Ec.o; first | omega | exact Nat.le_refl _⟩, ⟨by (try simp only [Ab]); refine rK ?_; exact Kd.Rm A4.o (fun _ hk => ⟨hk.1.1.1, ⟨hk.1.1.2, hk.2⟩⟩)⟩, ⟨by (try simp only [Ab]); refine rK ?_; exact Kd.Rm A3.o (fun _ hk => ⟨hk.1.1.1, ⟨hk.1.1.2, hk.2⟩⟩)⟩, ⟨by (try simp only [Ab]); refine rK ?_; exact Kd.Rm A0.o (fun _ hk => ⟨hk.1.1.1, ⟨hk.1.1.2, hk.2⟩⟩)⟩, ⟨by (try simp only [Ab]); refine rK ?_; exact Kd.Rm B7.o (fun _ hk => ⟨hk.1.1.1.2, ⟨hk.1.1.2, hk.1.2⟩⟩)⟩, ⟨by (try simp only [Ab]); refine bK ?_; exact A1.o⟩, ⟨by (try simp only [Ab]); refine bK ?_; exact A6.o⟩, ⟨by (try simp only [Ab]); refine bK ?_; exact Aa.o⟩, ⟨by (try simp only [Ab]); refine bK ?_; exact A5.o⟩, ⟨by (try simp only [Ab]); refine bK ?_; exact Al.o⟩, ⟨vB HB⟩⟩
            ·(rw [if_neg c125] at H; exact absurd H (laws_FnExactWithoutCogs.bad_j2 _ _ _ _ _))
           case rest =>
            clear BB
            (try clear c89); (try clear D0); (try clear D6); (try clear D7)
            (try clear BE); (try clear BF); (try clear BG); (try clear BH); (try clear BI); (try clear BJ); (try clear BK); (try clear BL)
            (try clear BM); (try clear BN); (try clear BO); (try clear BP); (try clear BQ); (try clear BR); (try clear BS); (try clear BT)
            (try clear BU); (try clear BV); (try clear BW); (try clear BX); (try clear BY); (try clear BZ); (try clear C0); (try clear C1)
            obtain ⟨kq, Bd, rfl, HA, F9, A4, A3, A0, AT, A1, A6, Aa, A5, Al, HB⟩ := hcut
            have Ag := (Kd.RrZ A0.o).1
            rw [Ag] at A0
            (try simp only [Ag])
            (try simp only [Ag] at A1)
            (try simp only [Ag] at A6)
            (try simp only [Ag] at Aa)
            (try simp only [Ag] at A5)
            (try simp only [Ag] at Al)
            (try simp only [Ag] at A4)
            (try simp only [Ag] at A3)
            (try simp only [Ag] at AT)
            cases kq with
            | zero => exact absurd HA.o (by simp [laws_FnExactWithoutCogs.j2])
            | succ kj102 =>
             have H := HA.o
             clear HA
             simp only [laws_FnExactWithoutCogs.j2] at H
             by_cases c146 : Bd = true
             ·(rw [if_pos c146] at H; exact absurd H (by decide))
             ·replace c146 := Bool.eq_false_iff.mpr c146
              subst c146
              have H1 : ((laws_heldBoard.f kj102 Ae Af AD 1).bind fun Bp => (if Bp < 0 then (some false) else (if Bp = AJ then (some true) else (some false)))) = some true := by rw [if_neg (show ¬ (false = true) by decide)] at H; exact H
              clear H
              have H := H1
              clear H1
              replace H := Option.bind_eq_some_iff.mp H
              obtain ⟨Bp, CW, H⟩ := H
              replace H : (if Bp < 0 then (some false) else (if Bp = AJ then (some true) else (some false))) = some true := H
              have Eb := Z.m CW
              clear CW
              by_cases c148 : Bp < 0
              ·(rw [if_pos c148] at H; exact absurd H (by decide))
              ·rw [if_neg c148] at H
               have BC := decide_eq_false c148
               (try simp only [Ab] at BC)
               (try simp only [Ag] at BC)
               clear c148
               by_cases c155 : Bp = AJ
               ·rw [if_pos c155] at H
                have Ed := beq_iff_eq.mpr c155
                have Ee := bne_eq_false_iff_eq.mpr c155
                clear c155
                clear H
                have EH := AH.o
                have F1 := Az.o
                have EI := AB.o
                have F2 := Au.o
                have EJ := AC.o
                have F3 := Av.o
                have EK := AN.o
                have F4 := AY.o
                have Dw := bc0 A5
                have Dx := bc1 A5
                have Dy := bc2 A5
                have DF := qz A5.o 0
                have DG := qz A5.o 1
                have DH := qz A5.o 2
                go_wp2_with (first | ((with_reducible refine gc (f := 34) rfl ?_); refine gA (some 90) _ #[.agg #[.int .i64 Ae, .int .i64 Af, .slice As AD.length Ap], .int .i64 1] ?_ Try.func34; (with_reducible refine (laws_heldBoard.calls kj102 Ae Af _ _ AD 1 Bp _ ?side1 ?side2 Eb.o).mono ?_); (case side1 => repeat (first | exact (Kd.RrZ A0.o).2.2 | (with_reducible refine Kd.C_alloc ?_ _) | (with_reducible refine Kd.C_drewN ?_ _) | (with_reducible refine Kd.C_drew ?_))); (case side2 => exact (Kd.RrZ A0.o).2.1); rintro e G9 ⟨rfl, hb⟩; refine ⟨_, rfl, ?_⟩; replace A4 := Z.m (Kd.Rb (vR A4) hb); replace A3 := Z.m (Kd.Rb (vR A3) hb); replace A0 := Z.m (Kd.Rb (vR A0) hb); replace AT := Z.m (Kd.Rb (vR AT) hb); replace A1 := kB A1 hb; replace A6 := kB A6 hb; replace Aa := kB Aa hb; replace A5 := kB A5 hb; replace Al := kB Al hb; replace HB := bB HB hb; (try clear hb); (try clear Bx); (try clear hk); (try clear hi)))
                go_ret
                exact ⟨by first | rfl | (simp [eN, eS] <;> rfl) | (simp [*, eN, eS] <;> rfl), vB HB⟩
               ·(rw [if_neg c155] at H; exact absurd H (by decide))
          ·(rw [if_neg c100] at H; exact absurd H (by decide))
     ·(rw [if_neg c58] at H; exact absurd H (by decide))

end Go.Proofs.Ytlkiakpipcnijaa.PAll
