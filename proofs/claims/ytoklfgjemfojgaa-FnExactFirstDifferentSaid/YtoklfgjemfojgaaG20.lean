/- Began as a text that print.sh wrote (of the functions named below); turned and shortened by this session. -/
import Derived.Test.YtoklfgjemfojgaaG0
import Derived.Test.YtoklfgjemfojgaaG2
import Derived.Test.YtoklfgjemfojgaaG14
import Derived.Test.YtoklfgjemfojgaaG17
import Derived.Test.YtoklfgjemfojgaaG18
import Derived.Test.YtoklfgjemfojgaaG19
namespace Go.Proofs.Ytoklfgjemfojgaa.PAll
open Go.RowKit Go.Proofs.YtoklfgjemfojgaaW.PrintWords Go.Proofs.YtoklfgjemfojgaaW.PrintLast Go.Proofs.YtoklfgjemfojgaaW.PrintMore
attribute [local go_sem] max2_int min2_int max_two min_two max_three min_three max_four min_four   -- for this text's walks alone
set_option linter.unusedVariables false
set_option linter.unusedSimpArgs false

/-! ### laws_FnExactFirstDifferent: function 8 -/
def laws_FnExactFirstDifferent.j0 : Nat → List Int → List Int → Bool → Int → Int → List (S91) → Int → Int → List (S91) → Int → Int → List (S89) → Int → Int → List (S89) → Option (Bool)
 | 0, _, _, _, _, _, _, _, _, _, _, _, _, _, _, _ => none
 | k + 1, x2, x12, x58, x774000, x774001, x774002, x775000, x775001, x775002, x798000, x798001, x798002, x804000, x804001, x804002 => if x58 = true then (some false) else ((laws_toBoard.f k x774000 x774001 x774002).bind fun bt809 => ((laws_eqBoard.f k x798000 x798001 x798002 bt809.1 bt809.2.1 bt809.2.2).bind fun t814 => (if t814 = true then ((laws_toBoard.f k x775000 x775001 x775002).bind fun bt815 => ((laws_eqBoard.f k x804000 x804001 x804002 bt815.1 bt815.2.1 bt815.2.2).bind fun t820 => (if t820 = true then ((laws_toIntS.f k x2).bind fun t821 => ((laws_eqIntS.f k x12 t821).bind fun t824 => (if t824 = true then (some true) else (some false)))) else (some false)))) else (some false))))
def laws_FnExactFirstDifferent.f (k : Nat) (a0_0 : Int) (a0_1 : Int) (l0_2 : List (S91)) (a1_0 : Int) (a1_1 : Int) (l1_2 : List (S91)) (l2 : List Int) : Option (Bool) := if (l2.length : Int) > 1048576 then (some true) else ((laws_szBoard.f a0_0 a0_1 l0_2 1048576).bind fun t775 => (if t775 < 0 then (some true) else ((laws_szBoard.f a1_0 a1_1 l1_2 t775).bind fun t776 => (if t776 < 0 then (some true) else ((laws_toBoard.f k a0_0 a0_1 l0_2).bind fun bt777 => ((laws_toBoard.f k a1_0 a1_1 l1_2).bind fun bt782 => ((laws_toIntS.f k l2).bind fun t787 => ((spec_FirstDifferent.f k bt777.1 bt777.2.1 bt777.2.2 bt782.1 bt782.2.1 bt782.2.2 t787).bind fun bt790 => ((laws_toBoard.f k a0_0 a0_1 l0_2).bind fun bt792 => ((laws_toBoard.f k a1_0 a1_1 l1_2).bind fun bt798 => ((laws_toIntS.f k l2).bind fun t804 => ((impl_FirstDifferent.f k bt792.1 bt792.2.1 bt792.2.2 bt798.1 bt798.2.1 bt798.2.2 t804).bind fun bt807 => (if bt807.1 = bt790.1 then (laws_FnExactFirstDifferent.j0 k l2 t804 (bt807.2 != bt790.2) a0_0 a0_1 l0_2 a1_0 a1_1 l1_2 bt792.1 bt792.2.1 bt792.2.2 bt798.1 bt798.2.1 bt798.2.2) else (laws_FnExactFirstDifferent.j0 k l2 t804 true a0_0 a0_1 l0_2 a1_0 a1_1 l1_2 bt792.1 bt792.2.1 bt792.2.2 bt798.1 bt798.2.1 bt798.2.2))))))))))))))
def laws_FnExactFirstDifferent.T10 : Bool × List (List Nat × List Nat) := (true, [([], []), ([0], [0]), ([], []), ([2, 1], [2]), ([], []), ([4, 3], [4]), ([1, 3, 5, 5], [1, 3, 5]), ([6], [6]), ([7], [7]), ([7], [7]), ([8, 6, 0, 1, 2, 3, 4, 5, 6, 7, 8], [8]), ([9, 10, 0, 1, 2, 3, 4, 5, 6, 7, 8, 9, 10], [9])])
def laws_FnExactFirstDifferent.B10 : List Nat := [0, 1, 0, 7, 0, 31, 63, 127, 255, 255, 511, 2047]
theorem laws_FnExactFirstDifferent.tab10 : rtab .any (opsOf Try.f8 10) = laws_FnExactFirstDifferent.T10 := by kernel_rfl
theorem laws_FnExactFirstDifferent.bits10 : waitsOk laws_FnExactFirstDifferent.T10.2 laws_FnExactFirstDifferent.B10 = true := by kernel_rfl
theorem laws_FnExactFirstDifferent.bad_j0 (k : Nat) (y0 : List Int) (y1 : List Int) (y3 : Int) (y4 : Int) (y5 : List (S91)) (y6 : Int) (y7 : Int) (y8 : List (S91)) (y9 : Int) (y10 : Int) (y11 : List (S89)) (y12 : Int) (y13 : Int) (y14 : List (S89)) : ¬ laws_FnExactFirstDifferent.j0 k y0 y1 true y3 y4 y5 y6 y7 y8 y9 y10 y11 y12 y13 y14 = some true := by
 cases k <;> simp [laws_FnExactFirstDifferent.j0]
set_option maxHeartbeats 8000000 in
set_option maxRecDepth 100000 in
theorem laws_FnExactFirstDifferent.calls (k : Nat) (a0_0 : Int) (a0_1 : Int) (A0_2 : Option Addr) (c0_2 : Nat) (l0_2 : List (S91)) (a1_0 : Int) (a1_1 : Int) (A1_2 : Option Addr) (c1_2 : Nat) (l1_2 : List (S91)) (A2 : Option Addr) (c2 : Nat) (l2 : List Int) (w : World) (hr0_2 : Kd.C k91 w A0_2 l0_2.length l0_2) (hc0_2 : l0_2.length ≤ c0_2) (hr1_2 : Kd.C k91 w A1_2 l1_2.length l1_2) (hc1_2 : l1_2.length ≤ c1_2) (hr2 : Kd.C (Kd.int .i64) w A2 l2.length l2) (hc2 : l2.length ≤ c2) (h : laws_FnExactFirstDifferent.f k a0_0 a0_1 l0_2 a1_0 a1_1 l1_2 l2 = some true) :
 Calls Try.prog 8 #[.agg #[.int .i64 a0_0, .int .i64 a0_1, .slice A0_2 l0_2.length c0_2], .agg #[.int .i64 a1_0, .int .i64 a1_1, .slice A1_2 l1_2.length c1_2], .slice A2 l2.length c2] w fun e w' => e = .returned (.bool true) ∧ Below w.heap.size w w' := by
 have DN := Try.underlying24
 have DO := Try.underlying32
 have AB := Z.m hr0_2
 have Az := Z.m hc0_2
 clear hr0_2 hc0_2
 have AL := Z.m hr1_2
 have AK := Z.m hc1_2
 clear hr1_2 hc1_2
 have D4 := Z.m hr2
 have D3 := Z.m hc2
 clear hr2 hc2
 have HB := Z.m (Below.refl w.heap.size w)
 have H : (if (l2.length : Int) > 1048576 then (some true) else ((laws_szBoard.f a0_0 a0_1 l0_2 1048576).bind fun Au => (if Au < 0 then (some true) else ((laws_szBoard.f a1_0 a1_1 l1_2 Au).bind fun AO => (if AO < 0 then (some true) else ((laws_toBoard.f k a0_0 a0_1 l0_2).bind fun bt777 => ((laws_toBoard.f k a1_0 a1_1 l1_2).bind fun bt782 => ((laws_toIntS.f k l2).bind fun At => ((spec_FirstDifferent.f k bt777.1 bt777.2.1 bt777.2.2 bt782.1 bt782.2.1 bt782.2.2 At).bind fun bt790 => ((laws_toBoard.f k a0_0 a0_1 l0_2).bind fun bt792 => ((laws_toBoard.f k a1_0 a1_1 l1_2).bind fun bt798 => ((laws_toIntS.f k l2).bind fun A8 => ((impl_FirstDifferent.f k bt792.1 bt792.2.1 bt792.2.2 bt798.1 bt798.2.1 bt798.2.2 A8).bind fun bt807 => (if bt807.1 = bt790.1 then (laws_FnExactFirstDifferent.j0 k l2 A8 (bt807.2 != bt790.2) a0_0 a0_1 l0_2 a1_0 a1_1 l1_2 bt792.1 bt792.2.1 bt792.2.2 bt798.1 bt798.2.1 bt798.2.2) else (laws_FnExactFirstDifferent.j0 k l2 A8 true a0_0 a0_1 l0_2 a1_0 a1_1 l1_2 bt792.1 bt792.2.1 bt792.2.2 bt798.1 bt798.2.1 bt798.2.2))))))))))))))) = some true := h
 clear h
 by_cases c4 : (l2.length : Int) > 1048576
 ·rw [if_pos c4] at H
  have Cw := decide_eq_true c4
  have Cx : decide (1048576 < l2.length) = true := decide_eq_true (by omega)
  clear c4
  clear H
  go_enter Try.func8, Try.ntmps8
  go_wp2_with (first | ((with_reducible refine gq (N := 3) rfl ?_); refine be (N := 3) (cs := #[.int .i64 a0_0, .int .i64 a0_1, .slice A0_2 l0_2.length c0_2]) (t := 24) ?_; intro Ao hg w5 hbox hb; have A0 := Z.m (hbox); have Aw := gW (w := w) HB hg; have B3 := Aw; replace HB := bB HB hb; clear hb hbox hg) | ((with_reducible refine gq (N := 4) rfl ?_); refine be (N := 4) (cs := #[.int .i64 a1_0, .int .i64 a1_1, .slice A1_2 l1_2.length c1_2]) (t := 24) ?_; intro Ap hg w6 hbox hb; have A1 := Z.m (hbox); have Ax := gW (w := w) HB hg; have B7 := Ax; have Af := neL A0 hg; have Ag := neG A0 hg; replace A0 := kB A0 hb; replace HB := bB HB hb; clear hb hbox hg))
  go_ret
  exact ⟨by first | rfl | (simp [eN, eS] <;> rfl) | (simp [*, eN, eS] <;> rfl), vB HB⟩
 ·rw [if_neg c4] at H
  have Cw := decide_eq_false c4
  have Cx : decide (1048576 < l2.length) = false := decide_eq_false (by omega)
  clear c4
  replace H := Option.bind_eq_some_iff.mp H
  obtain ⟨Au, CE, H⟩ := H
  replace H : (if Au < 0 then (some true) else ((laws_szBoard.f a1_0 a1_1 l1_2 Au).bind fun AO => (if AO < 0 then (some true) else ((laws_toBoard.f k a0_0 a0_1 l0_2).bind fun bt777 => ((laws_toBoard.f k a1_0 a1_1 l1_2).bind fun bt782 => ((laws_toIntS.f k l2).bind fun At => ((spec_FirstDifferent.f k bt777.1 bt777.2.1 bt777.2.2 bt782.1 bt782.2.1 bt782.2.2 At).bind fun bt790 => ((laws_toBoard.f k a0_0 a0_1 l0_2).bind fun bt792 => ((laws_toBoard.f k a1_0 a1_1 l1_2).bind fun bt798 => ((laws_toIntS.f k l2).bind fun A8 => ((impl_FirstDifferent.f k bt792.1 bt792.2.1 bt792.2.2 bt798.1 bt798.2.1 bt798.2.2 A8).bind fun bt807 => (if bt807.1 = bt790.1 then (laws_FnExactFirstDifferent.j0 k l2 A8 (bt807.2 != bt790.2) a0_0 a0_1 l0_2 a1_0 a1_1 l1_2 bt792.1 bt792.2.1 bt792.2.2 bt798.1 bt798.2.1 bt798.2.2) else (laws_FnExactFirstDifferent.j0 k l2 A8 true a0_0 a0_1 l0_2 a1_0 a1_1 l1_2 bt792.1 bt792.2.1 bt792.2.2 bt798.1 bt798.2.1 bt798.2.2))))))))))))) = some true := H
  have A7 := Z.m CE
  clear CE
  by_cases c8 : Au < 0
  ·rw [if_pos c8] at H
   have Cy := decide_eq_true c8
   clear c8
   clear H
   go_enter Try.func8, Try.ntmps8
   go_wp2_with (first | ((with_reducible refine gq (N := 3) rfl ?_); refine be (N := 3) (cs := #[.int .i64 a0_0, .int .i64 a0_1, .slice A0_2 l0_2.length c0_2]) (t := 24) ?_; intro Ao hg w9 hbox hb; have A0 := Z.m (hbox); have Aw := gW (w := w) HB hg; have B3 := Aw; replace HB := bB HB hb; clear hb hbox hg) | ((with_reducible refine gq (N := 4) rfl ?_); refine be (N := 4) (cs := #[.int .i64 a1_0, .int .i64 a1_1, .slice A1_2 l1_2.length c1_2]) (t := 24) ?_; intro Ap hg E0 hbox hb; have A1 := Z.m (hbox); have Ax := gW (w := w) HB hg; have B7 := Ax; have Af := neL A0 hg; have Ag := neG A0 hg; replace A0 := kB A0 hb; replace HB := bB HB hb; clear hb hbox hg; have Dj := Af.o; have Dr := Ag.o; have CF := bc0 A0; have CG := bc1 A0; have CH := bc2 A0; have CO := qz A0.o 0; have CP := qz A0.o 1; have CQ := qz A0.o 2) | ((with_reducible refine gc (f := 13) rfl ?_); refine gA (some 20) _ #[.agg #[.int .i64 a0_0, .int .i64 a0_1, .slice A0_2 l0_2.length c0_2], .int .i64 1048576] ?_ Try.func13; (with_reducible refine (laws_szBoard.calls a0_0 a0_1 _ _ l0_2 1048576 Au _ ?side1 ?side2 A7.o).mono ?_); (case side1 => repeat (first | exact (Kd.C_below AB.o HB.o) | (with_reducible refine Kd.C_alloc ?_ _) | (with_reducible refine Kd.C_drewN ?_ _) | (with_reducible refine Kd.C_drew ?_))); (case side2 => exact Az.o); rintro e E1 ⟨rfl, hb⟩; refine ⟨_, rfl, ?_⟩; replace A0 := kB A0 hb; replace A1 := kB A1 hb; replace HB := bB HB hb; (try clear hb); (try clear Bd); (try clear hk); (try clear hi)))
   go_ret
   exact ⟨by first | rfl | (simp [eN, eS] <;> rfl) | (simp [*, eN, eS] <;> rfl), vB HB⟩
  ·rw [if_neg c8] at H
   have Cy := decide_eq_false c8
   clear c8
   replace H := Option.bind_eq_some_iff.mp H
   obtain ⟨AO, Ce, H⟩ := H
   replace H : (if AO < 0 then (some true) else ((laws_toBoard.f k a0_0 a0_1 l0_2).bind fun bt777 => ((laws_toBoard.f k a1_0 a1_1 l1_2).bind fun bt782 => ((laws_toIntS.f k l2).bind fun At => ((spec_FirstDifferent.f k bt777.1 bt777.2.1 bt777.2.2 bt782.1 bt782.2.1 bt782.2.2 At).bind fun bt790 => ((laws_toBoard.f k a0_0 a0_1 l0_2).bind fun bt792 => ((laws_toBoard.f k a1_0 a1_1 l1_2).bind fun bt798 => ((laws_toIntS.f k l2).bind fun A8 => ((impl_FirstDifferent.f k bt792.1 bt792.2.1 bt792.2.2 bt798.1 bt798.2.1 bt798.2.2 A8).bind fun bt807 => (if bt807.1 = bt790.1 then (laws_FnExactFirstDifferent.j0 k l2 A8 (bt807.2 != bt790.2) a0_0 a0_1 l0_2 a1_0 a1_1 l1_2 bt792.1 bt792.2.1 bt792.2.2 bt798.1 bt798.2.1 bt798.2.2) else (laws_FnExactFirstDifferent.j0 k l2 A8 true a0_0 a0_1 l0_2 a1_0 a1_1 l1_2 bt792.1 bt792.2.1 bt792.2.2 bt798.1 bt798.2.1 bt798.2.2))))))))))) = some true := H
   have Df := Z.m Ce
   clear Ce
   by_cases c15 : AO < 0
   ·rw [if_pos c15] at H
    have C6 := decide_eq_true c15
    clear c15
    clear H
    go_enter Try.func8, Try.ntmps8
    go_wp2_with (first | ((with_reducible refine gq (N := 3) rfl ?_); refine be (N := 3) (cs := #[.int .i64 a0_0, .int .i64 a0_1, .slice A0_2 l0_2.length c0_2]) (t := 24) ?_; intro Ao hg E2 hbox hb; have A0 := Z.m (hbox); have Aw := gW (w := w) HB hg; have B3 := Aw; replace HB := bB HB hb; clear hb hbox hg) | ((with_reducible refine gq (N := 4) rfl ?_); refine be (N := 4) (cs := #[.int .i64 a1_0, .int .i64 a1_1, .slice A1_2 l1_2.length c1_2]) (t := 24) ?_; intro Ap hg E3 hbox hb; have A1 := Z.m (hbox); have Ax := gW (w := w) HB hg; have B7 := Ax; have Af := neL A0 hg; have Ag := neG A0 hg; replace A0 := kB A0 hb; replace HB := bB HB hb; clear hb hbox hg; have Dk := Af.o; have Ds := Ag.o; have CI := bc0 A0; have CJ := bc1 A0; have CK := bc2 A0; have CR := qz A0.o 0; have CS := qz A0.o 1; have CT := qz A0.o 2) | ((with_reducible refine gc (f := 13) rfl ?_); refine gA (some 20) _ #[.agg #[.int .i64 a0_0, .int .i64 a0_1, .slice A0_2 l0_2.length c0_2], .int .i64 1048576] ?_ Try.func13; (with_reducible refine (laws_szBoard.calls a0_0 a0_1 _ _ l0_2 1048576 Au _ ?side1 ?side2 A7.o).mono ?_); (case side1 => repeat (first | exact (Kd.C_below AB.o HB.o) | (with_reducible refine Kd.C_alloc ?_ _) | (with_reducible refine Kd.C_drewN ?_ _) | (with_reducible refine Kd.C_drew ?_))); (case side2 => exact Az.o); rintro e E4 ⟨rfl, hb⟩; refine ⟨_, rfl, ?_⟩; replace A0 := kB A0 hb; replace A1 := kB A1 hb; replace HB := bB HB hb; (try clear hb); (try clear Bd); (try clear hk); (try clear hi); have CL := bc0 A1; have CM := bc1 A1; have CN := bc2 A1; have CU := qz A1.o 0; have CV := qz A1.o 1; have CW := qz A1.o 2) | ((with_reducible refine gc (f := 13) rfl ?_); refine gA (some 25) _ #[.agg #[.int .i64 a1_0, .int .i64 a1_1, .slice A1_2 l1_2.length c1_2], .int .i64 Au] ?_ Try.func13; (with_reducible refine (laws_szBoard.calls a1_0 a1_1 _ _ l1_2 Au AO _ ?side1 ?side2 Df.o).mono ?_); (case side1 => repeat (first | exact (Kd.C_below AL.o HB.o) | (with_reducible refine Kd.C_alloc ?_ _) | (with_reducible refine Kd.C_drewN ?_ _) | (with_reducible refine Kd.C_drew ?_))); (case side2 => exact AK.o); rintro e E5 ⟨rfl, hb⟩; refine ⟨_, rfl, ?_⟩; replace A0 := kB A0 hb; replace A1 := kB A1 hb; replace HB := bB HB hb; (try clear hb); (try clear Bd); (try clear hk); (try clear hi)))
    go_ret
    exact ⟨by first | rfl | (simp [eN, eS] <;> rfl) | (simp [*, eN, eS] <;> rfl), vB HB⟩
   ·rw [if_neg c15] at H
    have C6 := decide_eq_false c15
    clear c15
    replace H := Option.bind_eq_some_iff.mp H
    obtain ⟨⟨AY, AZ, B0⟩, Cf, H⟩ := H
    replace H : ((laws_toBoard.f k a1_0 a1_1 l1_2).bind fun bt782 => ((laws_toIntS.f k l2).bind fun At => ((spec_FirstDifferent.f k AY AZ B0 bt782.1 bt782.2.1 bt782.2.2 At).bind fun bt790 => ((laws_toBoard.f k a0_0 a0_1 l0_2).bind fun bt792 => ((laws_toBoard.f k a1_0 a1_1 l1_2).bind fun bt798 => ((laws_toIntS.f k l2).bind fun A8 => ((impl_FirstDifferent.f k bt792.1 bt792.2.1 bt792.2.2 bt798.1 bt798.2.1 bt798.2.2 A8).bind fun bt807 => (if bt807.1 = bt790.1 then (laws_FnExactFirstDifferent.j0 k l2 A8 (bt807.2 != bt790.2) a0_0 a0_1 l0_2 a1_0 a1_1 l1_2 bt792.1 bt792.2.1 bt792.2.2 bt798.1 bt798.2.1 bt798.2.2) else (laws_FnExactFirstDifferent.j0 k l2 A8 true a0_0 a0_1 l0_2 a1_0 a1_1 l1_2 bt792.1 bt792.2.1 bt792.2.2 bt798.1 bt798.2.1 bt798.2.2))))))))) = some true := H
    have Dz := Z.m Cf
    clear Cf
    replace H := Option.bind_eq_some_iff.mp H
    obtain ⟨⟨Ba, Bb, Bc⟩, Cg, H⟩ := H
    replace H : ((laws_toIntS.f k l2).bind fun At => ((spec_FirstDifferent.f k AY AZ B0 Ba Bb Bc At).bind fun bt790 => ((laws_toBoard.f k a0_0 a0_1 l0_2).bind fun bt792 => ((laws_toBoard.f k a1_0 a1_1 l1_2).bind fun bt798 => ((laws_toIntS.f k l2).bind fun A8 => ((impl_FirstDifferent.f k bt792.1 bt792.2.1 bt792.2.2 bt798.1 bt798.2.1 bt798.2.2 A8).bind fun bt807 => (if bt807.1 = bt790.1 then (laws_FnExactFirstDifferent.j0 k l2 A8 (bt807.2 != bt790.2) a0_0 a0_1 l0_2 a1_0 a1_1 l1_2 bt792.1 bt792.2.1 bt792.2.2 bt798.1 bt798.2.1 bt798.2.2) else (laws_FnExactFirstDifferent.j0 k l2 A8 true a0_0 a0_1 l0_2 a1_0 a1_1 l1_2 bt792.1 bt792.2.1 bt792.2.2 bt798.1 bt798.2.1 bt798.2.2)))))))) = some true := H
    have DA := Z.m Cg
    clear Cg
    replace H := Option.bind_eq_some_iff.mp H
    obtain ⟨At, Ch, H⟩ := H
    replace H : ((spec_FirstDifferent.f k AY AZ B0 Ba Bb Bc At).bind fun bt790 => ((laws_toBoard.f k a0_0 a0_1 l0_2).bind fun bt792 => ((laws_toBoard.f k a1_0 a1_1 l1_2).bind fun bt798 => ((laws_toIntS.f k l2).bind fun A8 => ((impl_FirstDifferent.f k bt792.1 bt792.2.1 bt792.2.2 bt798.1 bt798.2.1 bt798.2.2 A8).bind fun bt807 => (if bt807.1 = bt790.1 then (laws_FnExactFirstDifferent.j0 k l2 A8 (bt807.2 != bt790.2) a0_0 a0_1 l0_2 a1_0 a1_1 l1_2 bt792.1 bt792.2.1 bt792.2.2 bt798.1 bt798.2.1 bt798.2.2) else (laws_FnExactFirstDifferent.j0 k l2 A8 true a0_0 a0_1 l0_2 a1_0 a1_1 l1_2 bt792.1 bt792.2.1 bt792.2.2 bt798.1 bt798.2.1 bt798.2.2))))))) = some true := H
    have DB := Z.m Ch
    clear Ch
    replace H := Option.bind_eq_some_iff.mp H
    obtain ⟨⟨AR, AS⟩, Ci, H⟩ := H
    replace H : ((laws_toBoard.f k a0_0 a0_1 l0_2).bind fun bt792 => ((laws_toBoard.f k a1_0 a1_1 l1_2).bind fun bt798 => ((laws_toIntS.f k l2).bind fun A8 => ((impl_FirstDifferent.f k bt792.1 bt792.2.1 bt792.2.2 bt798.1 bt798.2.1 bt798.2.2 A8).bind fun bt807 => (if bt807.1 = AR then (laws_FnExactFirstDifferent.j0 k l2 A8 (bt807.2 != AS) a0_0 a0_1 l0_2 a1_0 a1_1 l1_2 bt792.1 bt792.2.1 bt792.2.2 bt798.1 bt798.2.1 bt798.2.2) else (laws_FnExactFirstDifferent.j0 k l2 A8 true a0_0 a0_1 l0_2 a1_0 a1_1 l1_2 bt792.1 bt792.2.1 bt792.2.2 bt798.1 bt798.2.1 bt798.2.2)))))) = some true := H
    have DC := Z.m Ci
    clear Ci
    replace H := Option.bind_eq_some_iff.mp H
    obtain ⟨⟨Aj, Ak, Ad⟩, Cj, H⟩ := H
    replace H : ((laws_toBoard.f k a1_0 a1_1 l1_2).bind fun bt798 => ((laws_toIntS.f k l2).bind fun A8 => ((impl_FirstDifferent.f k Aj Ak Ad bt798.1 bt798.2.1 bt798.2.2 A8).bind fun bt807 => (if bt807.1 = AR then (laws_FnExactFirstDifferent.j0 k l2 A8 (bt807.2 != AS) a0_0 a0_1 l0_2 a1_0 a1_1 l1_2 Aj Ak Ad bt798.1 bt798.2.1 bt798.2.2) else (laws_FnExactFirstDifferent.j0 k l2 A8 true a0_0 a0_1 l0_2 a1_0 a1_1 l1_2 Aj Ak Ad bt798.1 bt798.2.1 bt798.2.2))))) = some true := H
    have DD := Z.m Cj
    clear Cj
    replace H := Option.bind_eq_some_iff.mp H
    obtain ⟨⟨Al, Am, Ae⟩, Cl, H⟩ := H
    replace H : ((laws_toIntS.f k l2).bind fun A8 => ((impl_FirstDifferent.f k Aj Ak Ad Al Am Ae A8).bind fun bt807 => (if bt807.1 = AR then (laws_FnExactFirstDifferent.j0 k l2 A8 (bt807.2 != AS) a0_0 a0_1 l0_2 a1_0 a1_1 l1_2 Aj Ak Ad Al Am Ae) else (laws_FnExactFirstDifferent.j0 k l2 A8 true a0_0 a0_1 l0_2 a1_0 a1_1 l1_2 Aj Ak Ad Al Am Ae)))) = some true := H
    have DE := Z.m Cl
    clear Cl
    replace H := Option.bind_eq_some_iff.mp H
    obtain ⟨A8, Cm, H⟩ := H
    replace H : ((impl_FirstDifferent.f k Aj Ak Ad Al Am Ae A8).bind fun bt807 => (if bt807.1 = AR then (laws_FnExactFirstDifferent.j0 k l2 A8 (bt807.2 != AS) a0_0 a0_1 l0_2 a1_0 a1_1 l1_2 Aj Ak Ad Al Am Ae) else (laws_FnExactFirstDifferent.j0 k l2 A8 true a0_0 a0_1 l0_2 a1_0 a1_1 l1_2 Aj Ak Ad Al Am Ae))) = some true := H
    have DF := Z.m Cm
    clear Cm
    replace H := Option.bind_eq_some_iff.mp H
    obtain ⟨⟨Cb, Cd⟩, Cn, H⟩ := H
    replace H : (if Cb = AR then (laws_FnExactFirstDifferent.j0 k l2 A8 (Cd != AS) a0_0 a0_1 l0_2 a1_0 a1_1 l1_2 Aj Ak Ad Al Am Ae) else (laws_FnExactFirstDifferent.j0 k l2 A8 true a0_0 a0_1 l0_2 a1_0 a1_1 l1_2 Aj Ak Ad Al Am Ae)) = some true := H
    have DG := Z.m Cn
    clear Cn
    have C9 := Z.m H
    clear H
    go_enter Try.func8, Try.ntmps8
    try go_wp2_with (first | ((with_reducible refine gq (N := 3) rfl ?_); refine be (N := 3) (cs := #[.int .i64 a0_0, .int .i64 a0_1, .slice A0_2 l0_2.length c0_2]) (t := 24) ?_; intro Ao hg E6 hbox hb; have A0 := Z.m (hbox); have Aw := gW (w := w) HB hg; have B3 := Aw; replace HB := bB HB hb; clear hb hbox hg) | ((with_reducible refine gq (N := 4) rfl ?_); refine be (N := 4) (cs := #[.int .i64 a1_0, .int .i64 a1_1, .slice A1_2 l1_2.length c1_2]) (t := 24) ?_; intro Ap hg E7 hbox hb; have A1 := Z.m (hbox); have Ax := gW (w := w) HB hg; have B7 := Ax; have Af := neL A0 hg; have Ag := neG A0 hg; replace A0 := kB A0 hb; replace HB := bB HB hb; clear hb hbox hg; have Dl := Af.o; have Dt := Ag.o; have Be := bc0 A0; have Bf := bc1 A0; have Bg := bc2 A0; have BC := qz A0.o 0; have BD := qz A0.o 1; have BE := qz A0.o 2) | ((with_reducible refine gc (f := 13) rfl ?_); refine gA (some 20) _ #[.agg #[.int .i64 a0_0, .int .i64 a0_1, .slice A0_2 l0_2.length c0_2], .int .i64 1048576] ?_ Try.func13; (with_reducible refine (laws_szBoard.calls a0_0 a0_1 _ _ l0_2 1048576 Au _ ?side1 ?side2 A7.o).mono ?_); (case side1 => repeat (first | exact (Kd.C_below AB.o HB.o) | (with_reducible refine Kd.C_alloc ?_ _) | (with_reducible refine Kd.C_drewN ?_ _) | (with_reducible refine Kd.C_drew ?_))); (case side2 => exact Az.o); rintro e E8 ⟨rfl, hb⟩; refine ⟨_, rfl, ?_⟩; replace A0 := kB A0 hb; replace A1 := kB A1 hb; replace HB := bB HB hb; (try clear hb); (try clear Bd); (try clear hk); (try clear hi); have Bh := bc0 A1; have Bi := bc1 A1; have Bj := bc2 A1; have BF := qz A1.o 0; have BG := qz A1.o 1; have BH := qz A1.o 2) | ((with_reducible refine gc (f := 13) rfl ?_); refine gA (some 25) _ #[.agg #[.int .i64 a1_0, .int .i64 a1_1, .slice A1_2 l1_2.length c1_2], .int .i64 Au] ?_ Try.func13; (with_reducible refine (laws_szBoard.calls a1_0 a1_1 _ _ l1_2 Au AO _ ?side1 ?side2 Df.o).mono ?_); (case side1 => repeat (first | exact (Kd.C_below AL.o HB.o) | (with_reducible refine Kd.C_alloc ?_ _) | (with_reducible refine Kd.C_drewN ?_ _) | (with_reducible refine Kd.C_drew ?_))); (case side2 => exact AK.o); rintro e DY ⟨rfl, hb⟩; refine ⟨_, rfl, ?_⟩; replace A0 := kB A0 hb; replace A1 := kB A1 hb; replace HB := bB HB hb; (try clear hb); (try clear Bd); (try clear hk); (try clear hi)))
    replace A0 := Z.m (blk_drew A0.o)
    replace A1 := Z.m (blk_drew A1.o)
    replace HB := Z.m (qd HB.o)
    refine start_ (n := 12) (S := fun w' => w'.cell? ⟨Ao, 0, none⟩ = some (.int .i64 a0_0) ∧ w'.cell? ⟨Ao, 1, none⟩ = some (.int .i64 a0_1) ∧ w'.cell? ⟨Ao, 2, none⟩ = some (.slice A0_2 l0_2.length c0_2) ∧ w'.cell? ⟨Ap, 0, none⟩ = some (.int .i64 a1_0) ∧ w'.cell? ⟨Ap, 1, none⟩ = some (.int .i64 a1_1) ∧ w'.cell? ⟨Ap, 2, none⟩ = some (.slice A1_2 l1_2.length c1_2)) (ds := []) #[false, false, false, false, false, false, false, false, false, false, false, false] (by kernel_rfl) rfl rfl ⟨(ql A0.o 0).trans rfl, (ql A0.o 1).trans rfl, (ql A0.o 2).trans rfl, (ql A1.o 0).trans rfl, (ql A1.o 1).trans rfl, (ql A1.o 2).trans rfl⟩ (fun hHeld => ?_); refine with_tabW laws_FnExactFirstDifferent.tab10 laws_FnExactFirstDifferent.bits10 (fun HT_ HW_ => ?_)
    generalize DY.drew = E9 at A0 A1 HB hHeld ⊢
    refine pure_ (i := 4) (N := some 33) (v := ?_) (a' := ?_) #[false, false, false, false, true, false, false, false, false, false, false, false] rfl rfl (any_of HT_.o (by kernel_rfl)) (fun _ _ _ h => h) (Or.inl ⟨by rfl, ?_⟩) ?_ ?_
    rotate_left
    ·intro w'
     go_simp
     with_reducible rfl
    rotate_left
    ·simp only [Act.put, q1, q2, q3, i64_w, i32_w]
     rfl
    refine take_ (i := 0) (N := some 29) (v := ?_) (a' := ?_) #[true, false, false, false, true, false, false, false, false, false, false, false] rfl rfl (take_ofW HT_.o HW_.o (by kernel_rfl)) (fun _ _ _ h => h) (Or.inl ⟨by rfl, ?_⟩) hHeld ?_ ?_
    rotate_left
    ·rintro w' ⟨s0, s1, s2, s3, s4, s5⟩
     go_simp
     with_reducible rfl
    rotate_left
    ·simp only [Act.put, q1, q2, q3, i64_w, i32_w]
     rfl
    refine take_ (i := 2) (N := some 31) (v := ?_) (a' := ?_) #[true, false, true, false, true, false, false, false, false, false, false, false] rfl rfl (take_ofW HT_.o HW_.o (by kernel_rfl)) (fun _ _ _ h => h) (Or.inl ⟨by rfl, ?_⟩) hHeld ?_ ?_
    rotate_left
    ·rintro w' ⟨s0, s1, s2, s3, s4, s5⟩
     go_simp
     with_reducible rfl
    rotate_left
    ·simp only [Act.put, q1, q2, q3, i64_w, i32_w]
     rfl
    refine one_ (i := 1) (N := some 30) #[true, true, true, false, true, false, false, false, false, false, false, false] rfl rfl (one_of HT_.o (by kernel_rfl)) (by decide) (fun K hK => ?_)
    refine goes_ Try.func15 (by kernel_rfl) rfl #[.agg #[.int .i64 a0_0, .int .i64 a0_1, .slice A0_2 l0_2.length c0_2]] (by rfl) rfl rfl (by (try simp only [List.map_toArray, List.map_cons, List.map_nil]); first | done | rfl | (simp only [List.length_drop, List.length_take]; rfl)) ?_
    with_reducible refine (laws_toBoard.calls k a0_0 a0_1 _ _ l0_2 AY AZ B0 _ ?side1 ?side2 Dz.o).mono ?_
    (case side1 => repeat (first | exact (Kd.C_below AB.o HB.o) | (with_reducible refine Kd.C_alloc ?_ _) | (with_reducible refine Kd.C_drewN ?_ _) | (with_reducible refine Kd.C_drew ?_)))
    (case side2 => exact Az.o)
    rintro e Ea ⟨DP, rfl, An, hb⟩
    refine ⟨_, rfl, ?_⟩
    have A9 := Z.m (Kd.R_lower An (below_size (vB HB)))
    replace A0 := kB A0 hb
    replace A1 := kB A1 hb
    replace HB := bB HB hb
    (try clear hb); (try clear An)
    refine hK.out _ _ ⟨(ql A0.o 0).trans rfl, (ql A0.o 1).trans rfl, (ql A0.o 2).trans rfl, (ql A1.o 0).trans rfl, (ql A1.o 1).trans rfl, (ql A1.o 2).trans rfl⟩ (fun hHeld => ?_)
    clear hK K
    refine norm_ (a' := ?_) ?_ ?_
    rotate_left
    ·show Act.put _ (some 30) _ = _
     simp only [Act.put, q1, q2, q3, i64_w, i32_w]
     rfl
    refine one_ (i := 3) (N := some 32) #[true, true, true, true, true, false, false, false, false, false, false, false] rfl rfl (one_of HT_.o (by kernel_rfl)) (by decide) (fun K hK => ?_)
    refine goes_ Try.func15 (by kernel_rfl) rfl #[.agg #[.int .i64 a1_0, .int .i64 a1_1, .slice A1_2 l1_2.length c1_2]] (by rfl) rfl rfl (by (try simp only [List.map_toArray, List.map_cons, List.map_nil]); first | done | rfl | (simp only [List.length_drop, List.length_take]; rfl)) ?_
    with_reducible refine (laws_toBoard.calls k a1_0 a1_1 _ _ l1_2 Ba Bb Bc _ ?side1 ?side2 DA.o).mono ?_
    (case side1 => repeat (first | exact (Kd.C_below AL.o HB.o) | (with_reducible refine Kd.C_alloc ?_ _) | (with_reducible refine Kd.C_drewN ?_ _) | (with_reducible refine Kd.C_drew ?_)))
    (case side2 => exact AK.o)
    rintro e Eb ⟨DQ, rfl, An, hb⟩
    refine ⟨_, rfl, ?_⟩
    have Aa := Z.m (Kd.R_lower (Kd.R_new' An (Kd.R_lt (vR A9))) (below_size (vB HB)))
    replace A9 := Z.m (Kd.R_elder' (vR A9) (Kd.R_base An) hb)
    replace A0 := kB A0 hb
    replace A1 := kB A1 hb
    replace HB := bB HB hb
    (try clear hb); (try clear An)
    refine hK.out _ _ ⟨(ql A0.o 0).trans rfl, (ql A0.o 1).trans rfl, (ql A0.o 2).trans rfl, (ql A1.o 0).trans rfl, (ql A1.o 1).trans rfl, (ql A1.o 2).trans rfl⟩ (fun hHeld => ?_)
    clear hK K
    refine norm_ (a' := ?_) ?_ ?_
    rotate_left
    ·show Act.put _ (some 32) _ = _
     simp only [Act.put, q1, q2, q3, i64_w, i32_w]
     rfl
    refine one_ (i := 5) (N := some 34) #[true, true, true, true, true, true, false, false, false, false, false, false] rfl rfl (one_of HT_.o (by kernel_rfl)) (by decide) (fun K hK => ?_)
    refine goes_ Try.func33 (by kernel_rfl) rfl #[.slice A2 l2.length c2] (by rfl) rfl rfl (by (try simp only [List.map_toArray, List.map_cons, List.map_nil]); first | done | rfl | (simp only [List.length_drop, List.length_take]; rfl)) ?_
    with_reducible refine (laws_toIntS.calls k _ _ l2 At _ ?side1 ?side2 DB.o).mono ?_
    (case side1 => repeat (first | exact (Kd.C_below D4.o HB.o) | (with_reducible refine Kd.C_alloc ?_ _) | (with_reducible refine Kd.C_drewN ?_ _) | (with_reducible refine Kd.C_drew ?_)))
    (case side2 => exact D3.o)
    rintro e Ec ⟨DR, rfl, An, hb⟩
    refine ⟨_, rfl, ?_⟩
    have Ac := Z.m (Kd.R_lower An (below_size (vB HB)))
    replace A9 := Z.m (Kd.Rb (vR A9) hb)
    replace Aa := Z.m (Kd.Rb (vR Aa) hb)
    replace A0 := kB A0 hb
    replace A1 := kB A1 hb
    replace HB := bB HB hb
    (try clear hb); (try clear An)
    obtain ⟨CX, D5, Cz⟩ := Kd.R_slice A9.o
    (first | subst Cz | (injection Cz with f1_ f2_ f3_; have f4_ := f1_.symm; have f5_ := f3_.symm; clear f1_ f2_ f3_; subst f4_; subst f5_))
    obtain ⟨CY, D6, CA⟩ := Kd.R_slice Aa.o
    (first | subst CA | (injection CA with f1_ f2_ f3_; have f4_ := f1_.symm; have f5_ := f3_.symm; clear f1_ f2_ f3_; subst f4_; subst f5_))
    obtain ⟨CZ, D7, CB⟩ := Kd.R_slice Ac.o
    (first | subst CB | (injection CB with f1_ f2_ f3_; have f4_ := f1_.symm; have f5_ := f3_.symm; clear f1_ f2_ f3_; subst f4_; subst f5_))
    refine hK.out _ _ ⟨(ql A0.o 0).trans rfl, (ql A0.o 1).trans rfl, (ql A0.o 2).trans rfl, (ql A1.o 0).trans rfl, (ql A1.o 1).trans rfl, (ql A1.o 2).trans rfl⟩ (fun hHeld => ?_)
    clear hK K
    refine norm_ (a' := ?_) ?_ ?_
    rotate_left
    ·show Act.put _ (some 34) _ = _
     simp only [Act.put, q1, q2, q3, i64_w, i32_w]
     rfl
    refine one_ (i := 6) (N := some 35) #[true, true, true, true, true, true, true, false, false, false, false, false] rfl rfl (one_of HT_.o (by kernel_rfl)) (by decide) (fun K hK => ?_)
    refine goes_ Try.func32 (by kernel_rfl) rfl #[.agg #[.int .i64 AY, .int .i64 AZ, .slice CX B0.length D5], .agg #[.int .i64 Ba, .int .i64 Bb, .slice CY Bc.length D6], .slice CZ At.length D7] (by rfl) rfl rfl (by (try simp only [List.map_toArray, List.map_cons, List.map_nil]); first | done | rfl | (simp only [List.length_drop, List.length_take]; rfl)) ?_
    with_reducible refine (spec_FirstDifferent.calls k AY AZ _ _ B0 Ba Bb _ _ Bc _ _ At AR AS _ ?side1 ?side2 ?side3 ?side4 ?side5 ?side6 DC.o).mono ?_
    (case side1 => repeat (first | exact (Kd.RrZ A9.o).2.2 | (with_reducible refine Kd.C_alloc ?_ _) | (with_reducible refine Kd.C_drewN ?_ _) | (with_reducible refine Kd.C_drew ?_)))
    (case side2 => exact (Kd.RrZ A9.o).2.1)
    (case side3 => repeat (first | exact (Kd.RrZ Aa.o).2.2 | (with_reducible refine Kd.C_alloc ?_ _) | (with_reducible refine Kd.C_drewN ?_ _) | (with_reducible refine Kd.C_drew ?_)))
    (case side4 => exact (Kd.RrZ Aa.o).2.1)
    (case side5 => repeat (first | exact (Kd.RrZ Ac.o).2.2 | (with_reducible refine Kd.C_alloc ?_ _) | (with_reducible refine Kd.C_drewN ?_ _) | (with_reducible refine Kd.C_drew ?_)))
    (case side6 => exact (Kd.RrZ Ac.o).2.1)
    rintro e Ed ⟨rfl, hb⟩
    refine ⟨_, rfl, ?_⟩
    replace A9 := Z.m (Kd.Rb (vR A9) hb)
    replace Aa := Z.m (Kd.Rb (vR Aa) hb)
    replace Ac := Z.m (Kd.Rb (vR Ac) hb)
    replace A0 := kB A0 hb
    replace A1 := kB A1 hb
    replace HB := bB HB hb
    (try clear hb)
    refine hK.out _ _ ⟨(ql A0.o 0).trans rfl, (ql A0.o 1).trans rfl, (ql A0.o 2).trans rfl, (ql A1.o 0).trans rfl, (ql A1.o 1).trans rfl, (ql A1.o 2).trans rfl⟩ (fun hHeld => ?_)
    clear hK K
    refine norm_ (a' := ?_) ?_ ?_
    rotate_left
    ·show Act.put _ (some 35) _ = _
     simp only [Act.put, q1, q2, q3, i64_w, i32_w]
     rfl
    refine pure_ (i := 7) (N := some 28) (v := ?_) (a' := ?_) #[true, true, true, true, true, true, true, true, false, false, false, false] rfl rfl (any_of HT_.o (by kernel_rfl)) (fun _ _ _ h => h) (Or.inl ⟨by rfl, ?_⟩) ?_ ?_
    rotate_left
    ·intro w'
     go_simp
     with_reducible rfl
    rotate_left
    ·simp only [Act.put, q1, q2, q3, i64_w, i32_w]
     rfl
    refine pure_ (i := 8) (N := some 36) (v := ?_) (a' := ?_) #[true, true, true, true, true, true, true, true, true, false, false, false] rfl rfl (any_of HT_.o (by kernel_rfl)) (fun _ _ _ h => h) (Or.inl ⟨by rfl, ?_⟩) ?_ ?_
    rotate_left
    ·intro w'
     go_simp
     with_reducible rfl
    rotate_left
    ·simp only [Act.put, q1, q2, q3, i64_w, i32_w]
     rfl
    refine pure_ (i := 9) (N := some 37) (v := ?_) (a' := ?_) #[true, true, true, true, true, true, true, true, true, true, false, false] rfl rfl (any_of HT_.o (by kernel_rfl)) (fun _ _ _ h => h) (Or.inl ⟨by rfl, ?_⟩) ?_ ?_
    rotate_left
    ·intro w'
     go_simp
     with_reducible rfl
    rotate_left
    ·simp only [Act.put, q1, q2, q3, i64_w, i32_w]
     rfl
    refine pure_ (i := 10) (N := some 8) (v := ?_) (a' := ?_) #[true, true, true, true, true, true, true, true, true, true, true, false] rfl rfl (any_of HT_.o (by kernel_rfl)) (fun _ _ _ h => h) (Or.inl ⟨by rfl, ?_⟩) ?_ ?_
    rotate_left
    ·intro w'
     go_simp
     with_reducible rfl
    rotate_left
    ·simp only [Act.put, q1, q2, q3, i64_w, i32_w]
     rfl
    refine pure_ (i := 11) (N := some 9) (v := ?_) (a' := ?_) #[true, true, true, true, true, true, true, true, true, true, true, true] rfl rfl (any_of HT_.o (by kernel_rfl)) (fun _ _ _ h => h) (Or.inl ⟨by rfl, ?_⟩) ?_ ?_
    rotate_left
    ·intro w'
     go_simp
     with_reducible rfl
    rotate_left
    ·simp only [Act.put, q1, q2, q3, i64_w, i32_w]
     rfl
    refine done_ (done_of HT_.o (by kernel_rfl)) ?_
    have Bk := bc0 A0
    have Bl := bc1 A0
    have Bm := bc2 A0
    have BI := qz A0.o 0
    have BJ := qz A0.o 1
    have BK := qz A0.o 2
    go_upto_region 15 with (first | ((with_reducible refine gc (f := 15) rfl ?_); refine gA (some 39) _ #[.agg #[.int .i64 a0_0, .int .i64 a0_1, .slice A0_2 l0_2.length c0_2]] ?_ Try.func15; (with_reducible refine (laws_toBoard.calls k a0_0 a0_1 _ _ l0_2 Aj Ak Ad _ ?side1 ?side2 DD.o).mono ?_); (case side1 => repeat (first | exact (Kd.C_below AB.o HB.o) | (with_reducible refine Kd.C_alloc ?_ _) | (with_reducible refine Kd.C_drewN ?_ _) | (with_reducible refine Kd.C_drew ?_))); (case side2 => exact Az.o); rintro e Ee ⟨DS, rfl, An, hb⟩; refine ⟨_, rfl, ?_⟩; have Ah := Z.m (Kd.R_lower (Kd.R_new' (Kd.R_new' An (Kd.R_lt (vR A9))) (Kd.R_lt (vR Aa))) (below_size (vB HB))); replace A9 := Z.m (Kd.R_elder' (vR A9) (Kd.R_base An) hb); replace Aa := Z.m (Kd.R_elder' (vR Aa) (Kd.R_base An) hb); replace Ac := Z.m (Kd.Rb (vR Ac) hb); replace A0 := kB A0 hb; replace A1 := kB A1 hb; replace HB := bB HB hb; (try clear hb); (try clear Bd); (try clear hk); (try clear hi); (try clear An)) | ((with_reducible refine gq (N := 10) rfl ?_); refine be (N := 10) (cs := #[.int .i64 0, .int .i64 0, .slice none 0 0]) (t := 32) ?_; intro AH hg Ef hbox hb; have A3 := Z.m (hbox); have Cu := gW (w := w) HB hg; have Dg := Cu; have AC := neL A0 hg; have AT := neG A0 hg; have AE := neL A1 hg; have AU := neG A1 hg; replace A9 := Z.m (Kd.Rb (vR A9) hb); replace Aa := Z.m (Kd.Rb (vR Aa) hb); replace Ac := Z.m (Kd.Rb (vR Ac) hb); replace Ah := Z.m (Kd.Rb (vR Ah) hb); replace A0 := kB A0 hb; replace A1 := kB A1 hb; replace HB := bB HB hb; clear hb hbox hg; have Dm := AT.o; have Du := AC.o; have Dn := AU.o; have Dv := AE.o; have Bn := bc0 A3; have Bo := bc1 A3; have Bp := bc2 A3; have BL := qz A3.o 0; have BM := qz A3.o 1; have BN := qz A3.o 2; obtain ⟨AJ, AM, Db⟩ := Kd.R_slice Ah.o; subst Db; have Bq := bc0 A1; have Br := bc1 A1; have Bs := bc2 A1; have BO := qz A1.o 0; have BP := qz A1.o 1; have BQ := qz A1.o 2) | ((with_reducible refine gc (f := 15) rfl ?_); refine gA (some 41) _ #[.agg #[.int .i64 a1_0, .int .i64 a1_1, .slice A1_2 l1_2.length c1_2]] ?_ Try.func15; (with_reducible refine (laws_toBoard.calls k a1_0 a1_1 _ _ l1_2 Al Am Ae _ ?side1 ?side2 DE.o).mono ?_); (case side1 => exact Kd.C_below AL.o (vB HB)); (case side2 => exact AK.o); rintro e Eg ⟨DT, rfl, An, hb⟩; refine ⟨_, rfl, ?_⟩; have As := Z.m (Kd.R_lower (Kd.R_new' (Kd.R_new' (Kd.R_new' An (Kd.R_lt (by refine rK ?_; exact (Kd.Rm (rf (rf (rf (Kd.Ry A9.o A3.o (by decide))))) (fun _ h_ => h_.1))))) (Kd.R_lt (by refine rK ?_; exact (Kd.Rm (rf (rf (rf (Kd.Ry Aa.o A3.o (by decide))))) (fun _ h_ => h_.1))))) (Kd.R_lt (by refine rK ?_; exact (Kd.Rm (rf (rf (rf (Kd.Ry Ah.o A3.o (by decide))))) (fun _ h_ => h_.1))))) (below_size (vB HB))); replace A9 := Z.m (Kd.R_elder' (by refine rK ?_; exact (Kd.Rm (rf (rf (rf (Kd.Ry A9.o A3.o (by decide))))) (fun _ h_ => h_.1))) (Kd.R_base An) hb); replace Aa := Z.m (Kd.R_elder' (by refine rK ?_; exact (Kd.Rm (rf (rf (rf (Kd.Ry Aa.o A3.o (by decide))))) (fun _ h_ => h_.1))) (Kd.R_base An) hb); replace Ac := Z.m (Kd.Rb (by refine rK ?_; exact (Kd.Rm (rf (rf (rf (Kd.Ry Ac.o A3.o (by decide))))) (fun _ h_ => h_.1))) hb); replace Ah := Z.m (Kd.R_elder' (by refine rK ?_; exact (Kd.Rm (rf (rf (rf (Kd.Ry Ah.o A3.o (by decide))))) (fun _ h_ => h_.1))) (Kd.R_base An) hb); replace A0 := Z.m (qb (g := Ao) (o := .cells #[.int .i64 a0_0, .int .i64 a0_1, .slice A0_2 l0_2.length c0_2] 24 (0, 0)) (by refine bK ?_; (iterate 3 refine qF ?_ AC); exact A0.o) hb); replace A1 := Z.m (qb (g := Ap) (o := .cells #[.int .i64 a1_0, .int .i64 a1_1, .slice A1_2 l1_2.length c1_2] 24 (0, 0)) (by refine bK ?_; (iterate 3 refine qF ?_ AE); exact A1.o) hb); replace A3 := Z.m (qb (g := AH) (o := .cells #[.int .i64 Aj, .int .i64 Ak, .slice AJ Ad.length AM] 32 (0, 0)) (by refine bK ?_; apply st3; refine bK ?_; exact A3.o) hb); replace HB := bB HB hb; (try clear hb); (try clear Bd); (try clear hk); (try clear hi); (try clear An)) | ((with_reducible refine gq (N := 11) rfl ?_); refine be (N := 11) (cs := #[.int .i64 0, .int .i64 0, .slice none 0 0]) (t := 32) ?_; intro AN hg Eh hbox hb; have A4 := Z.m (hbox); have Cv := gW (w := w) HB hg; have Dh := Cv; have AD := neL A0 hg; have AV := neG A0 hg; have AF := neL A1 hg; have AW := neG A1 hg; have AG := neL A3 hg; have AX := neG A3 hg; replace A9 := Z.m (Kd.Rb (vR A9) hb); replace Aa := Z.m (Kd.Rb (vR Aa) hb); replace Ac := Z.m (Kd.Rb (vR Ac) hb); replace Ah := Z.m (Kd.Rb (vR Ah) hb); replace As := Z.m (Kd.Rb (vR As) hb); replace A0 := kB A0 hb; replace A1 := kB A1 hb; replace A3 := kB A3 hb; replace HB := bB HB hb; clear hb hbox hg; have Do := AV.o; have Dw := AD.o; have Dp := AW.o; have Dx := AF.o; have Dq := AX.o; have Dy := AG.o; have Bt := bc0 A4; have Bu := bc1 A4; have Bv := bc2 A4; have BR := qz A4.o 0; have BS := qz A4.o 1; have BT := qz A4.o 2; obtain ⟨AP, AQ, Dc⟩ := Kd.R_slice As.o; subst Dc) | ((with_reducible refine gc (f := 33) rfl ?_); refine gA (some 43) _ #[.slice A2 l2.length c2] ?_ Try.func33; (with_reducible refine (laws_toIntS.calls k _ _ l2 A8 _ ?side1 ?side2 DF.o).mono ?_); (case side1 => exact Kd.C_below D4.o (vB HB)); (case side2 => exact D3.o); rintro e Ei ⟨DU, rfl, An, hb⟩; refine ⟨_, rfl, ?_⟩; have AA := Z.m (Kd.R_lower (Kd.R_new' An (Kd.R_lt (by refine rK ?_; exact (Kd.Rm (rf (rf (rf (Kd.Ry Ac.o A4.o (by decide))))) (fun _ h_ => h_.1))))) (below_size (vB HB))); replace A9 := Z.m (Kd.Rb (by refine rK ?_; exact (Kd.Rm (rf (rf (rf (Kd.Ry A9.o A4.o (by decide))))) (fun _ h_ => h_.1))) hb); replace Aa := Z.m (Kd.Rb (by refine rK ?_; exact (Kd.Rm (rf (rf (rf (Kd.Ry Aa.o A4.o (by decide))))) (fun _ h_ => h_.1))) hb); replace Ac := Z.m (Kd.R_elder' (by refine rK ?_; exact (Kd.Rm (rf (rf (rf (Kd.Ry Ac.o A4.o (by decide))))) (fun _ h_ => h_.1))) (Kd.R_base An) hb); replace Ah := Z.m (Kd.Rb (by refine rK ?_; exact (Kd.Rm (rf (rf (rf (Kd.Ry Ah.o A4.o (by decide))))) (fun _ h_ => h_.1))) hb); replace As := Z.m (Kd.Rb (by refine rK ?_; exact (Kd.Rm (rf (rf (rf (Kd.Ry As.o A4.o (by decide))))) (fun _ h_ => h_.1))) hb); replace A0 := Z.m (qb (g := Ao) (o := .cells #[.int .i64 a0_0, .int .i64 a0_1, .slice A0_2 l0_2.length c0_2] 24 (0, 0)) (by refine bK ?_; (iterate 3 refine qF ?_ AD); exact A0.o) hb); replace A1 := Z.m (qb (g := Ap) (o := .cells #[.int .i64 a1_0, .int .i64 a1_1, .slice A1_2 l1_2.length c1_2] 24 (0, 0)) (by refine bK ?_; (iterate 3 refine qF ?_ AF); exact A1.o) hb); replace A3 := Z.m (qb (g := AH) (o := .cells #[.int .i64 Aj, .int .i64 Ak, .slice AJ Ad.length AM] 32 (0, 0)) (by refine bK ?_; (iterate 3 refine qF ?_ AG); exact A3.o) hb); replace A4 := Z.m (qb (g := AN) (o := .cells #[.int .i64 Al, .int .i64 Am, .slice AP Ae.length AQ] 32 (0, 0)) (by refine bK ?_; apply st3; refine bK ?_; exact A4.o) hb); replace HB := bB HB hb; (try clear hb); (try clear Bd); (try clear hk); (try clear hi); (try clear An); have Bw := bc0 A3; have Bx := bc1 A3; have By := bc2 A3; have BU := qz A3.o 0; have BV := qz A3.o 1; have BW := qz A3.o 2; have Bz := bc0 A4; have BA := bc1 A4; have BB := bc2 A4; have BX := qz A4.o 0; have BY := qz A4.o 1; have BZ := qz A4.o 2; obtain ⟨C8, Ca, Dd⟩ := Kd.R_slice AA.o; subst Dd) | ((with_reducible refine gc (f := 34) rfl ?_); refine gA (some 48) _ #[.agg #[.int .i64 Aj, .int .i64 Ak, .slice AJ Ad.length AM], .agg #[.int .i64 Al, .int .i64 Am, .slice AP Ae.length AQ], .slice C8 A8.length Ca] ?_ Try.func34; (with_reducible refine (impl_FirstDifferent.calls k Aj Ak _ _ Ad Al Am _ _ Ae _ _ A8 Cb Cd _ ?side1 ?side2 ?side3 ?side4 ?side5 ?side6 DG.o).mono ?_); (case side1 => repeat (first | exact (Kd.RrZ Ah.o).2.2 | (with_reducible refine Kd.C_alloc ?_ _) | (with_reducible refine Kd.C_drewN ?_ _) | (with_reducible refine Kd.C_drew ?_))); (case side2 => exact (Kd.RrZ Ah.o).2.1); (case side3 => repeat (first | exact (Kd.RrZ As.o).2.2 | (with_reducible refine Kd.C_alloc ?_ _) | (with_reducible refine Kd.C_drewN ?_ _) | (with_reducible refine Kd.C_drew ?_))); (case side4 => exact (Kd.RrZ As.o).2.1); (case side5 => repeat (first | exact (Kd.RrZ AA.o).2.2 | (with_reducible refine Kd.C_alloc ?_ _) | (with_reducible refine Kd.C_drewN ?_ _) | (with_reducible refine Kd.C_drew ?_))); (case side6 => exact (Kd.RrZ AA.o).2.1); rintro e Ej ⟨rfl, hb⟩; refine ⟨_, rfl, ?_⟩; replace A9 := Z.m (Kd.Rb (vR A9) hb); replace Aa := Z.m (Kd.Rb (vR Aa) hb); replace Ac := Z.m (Kd.Rb (vR Ac) hb); replace Ah := Z.m (Kd.Rb (vR Ah) hb); replace As := Z.m (Kd.Rb (vR As) hb); replace AA := Z.m (Kd.Rb (vR AA) hb); replace A0 := kB A0 hb; replace A1 := kB A1 hb; replace A3 := kB A3 hb; replace A4 := kB A4 hb; replace HB := bB HB hb; (try clear hb); (try clear Bd); (try clear hk); (try clear hi)))
    (try simp only [Act.put, q1, q2, q3])
    go_cut [58] (fun v58 wc => ∃ (kq : Nat) (AI : Bool), v58 = .bool AI ∧ Z (laws_FnExactFirstDifferent.j0 kq l2 A8 AI a0_0 a0_1 l0_2 a1_0 a1_1 l1_2 Aj Ak Ad Al Am Ae = some true) ∧ Z (kq ≤ k) ∧ Z (Kd.R (Kd.int .i64) 3 wc w.heap.size (fun _ => True) (.slice C8 A8.length Ca) A8) ∧ Z (Kd.R k89 89 wc w.heap.size (fun k_ => some k_ ≠ ((.slice AP Ae.length AQ) : Value).ownBlock) (.slice AJ Ad.length AM) Ad) ∧ Z (Kd.R k89 89 wc w.heap.size (fun k_ => some k_ ≠ ((.slice AJ Ad.length AM) : Value).ownBlock) (.slice AP Ae.length AQ) Ae) ∧ Z (wc.heap[Ao]? = some (.cells #[.int .i64 a0_0, .int .i64 a0_1, (.slice A0_2 l0_2.length c0_2)] 24 (0, 0))) ∧ Z (wc.heap[Ap]? = some (.cells #[.int .i64 a1_0, .int .i64 a1_1, (.slice A1_2 l1_2.length c1_2)] 24 (0, 0))) ∧ Z (wc.heap[AH]? = some (.cells #[.int .i64 Aj, .int .i64 Ak, (.slice AJ Ad.length AM)] 32 (0, 0))) ∧ Z (wc.heap[AN]? = some (.cells #[.int .i64 Al, .int .i64 Am, (.slice AP Ae.length AQ)] 32 (0, 0))) ∧ Z (Below w.heap.size w wc))
    case first =>
     have H := C9.o
     clear C9
     by_cases c67 : Cb = AR
     ·rw [if_pos c67] at H
      have C7 := beq_iff_eq.mpr c67
      have Di := bne_eq_false_iff_eq.mpr c67
      clear c67
      (first | rw [C7] | (simp only [i64_w, i32_w]; rw [C7]) | skip)
      have H' := Z.m H
      clear H
      go_wp2
      go_meet
      case rel => exact ⟨_, ((Cd != AS)), (by first | rfl | (simp; done) | (simp [*]; done)), H', ⟨by first | omega | exact Nat.le_refl _⟩, ⟨by refine rK ?_; exact Kd.Rm AA.o (fun _ hk => trivial)⟩, ⟨by refine rK ?_; exact Kd.Rm Ah.o (fun _ hk => hk.2)⟩, ⟨by refine rK ?_; exact Kd.Rm As.o (fun _ hk => hk.2)⟩, ⟨vK A0⟩, ⟨vK A1⟩, ⟨vK A3⟩, ⟨vK A4⟩, ⟨vB HB⟩⟩
     ·(rw [if_neg c67] at H; exact absurd H (laws_FnExactFirstDifferent.bad_j0 _ _ _ _ _ _ _ _ _ _ _ _ _ _ _))
    case rest =>
     clear C9
     (try clear Cw); (try clear Cx); (try clear Cy); (try clear C6)
     (try clear Be); (try clear Bf); (try clear Bg); (try clear Bh); (try clear Bi); (try clear Bj); (try clear Bk); (try clear Bl)
     (try clear Bm); (try clear Bn); (try clear Bo); (try clear Bp); (try clear Bq); (try clear Br); (try clear Bs); (try clear Bt)
     (try clear Bu); (try clear Bv); (try clear Bw); (try clear Bx); (try clear By); (try clear Bz); (try clear BA); (try clear BB)
     (try clear BC); (try clear BD); (try clear BE); (try clear BF); (try clear BG); (try clear BH); (try clear BI); (try clear BJ)
     (try clear BK); (try clear BL); (try clear BM); (try clear BN); (try clear BO); (try clear BP); (try clear BQ); (try clear BR)
     (try clear BS); (try clear BT); (try clear BU); (try clear BV); (try clear BW); (try clear BX); (try clear BY); (try clear BZ)
     obtain ⟨kq, AI, rfl, HA, DM, Ab, A5, A6, A0, A1, A3, A4, HB⟩ := hcut
     cases kq with
     | zero => exact absurd HA.o (by simp [laws_FnExactFirstDifferent.j0])
     | succ kj30 =>
      have H := HA.o
      clear HA
      simp only [laws_FnExactFirstDifferent.j0] at H
      by_cases c68 : AI = true
      ·(rw [if_pos c68] at H; exact absurd H (by decide))
      ·replace c68 := Bool.eq_false_iff.mpr c68
       subst c68
       have H1 : ((laws_toBoard.f kj30 a0_0 a0_1 l0_2).bind fun bt809 => ((laws_eqBoard.f kj30 Aj Ak Ad bt809.1 bt809.2.1 bt809.2.2).bind fun B2 => (if B2 = true then ((laws_toBoard.f kj30 a1_0 a1_1 l1_2).bind fun bt815 => ((laws_eqBoard.f kj30 Al Am Ae bt815.1 bt815.2.1 bt815.2.2).bind fun Av => (if Av = true then ((laws_toIntS.f kj30 l2).bind fun Aq => ((laws_eqIntS.f kj30 A8 Aq).bind fun Ar => (if Ar = true then (some true) else (some false)))) else (some false)))) else (some false)))) = some true := by rw [if_neg (show ¬ (false = true) by decide)] at H; exact H
       clear H
       have H := H1
       clear H1
       replace H := Option.bind_eq_some_iff.mp H
       obtain ⟨⟨C0, C1, C2⟩, Co, H⟩ := H
       replace H : ((laws_eqBoard.f kj30 Aj Ak Ad C0 C1 C2).bind fun B2 => (if B2 = true then ((laws_toBoard.f kj30 a1_0 a1_1 l1_2).bind fun bt815 => ((laws_eqBoard.f kj30 Al Am Ae bt815.1 bt815.2.1 bt815.2.2).bind fun Av => (if Av = true then ((laws_toIntS.f kj30 l2).bind fun Aq => ((laws_eqIntS.f kj30 A8 Aq).bind fun Ar => (if Ar = true then (some true) else (some false)))) else (some false)))) else (some false))) = some true := H
       have DH := Z.m Co
       clear Co
       replace H := Option.bind_eq_some_iff.mp H
       obtain ⟨B2, Cp, H⟩ := H
       replace H : (if B2 = true then ((laws_toBoard.f kj30 a1_0 a1_1 l1_2).bind fun bt815 => ((laws_eqBoard.f kj30 Al Am Ae bt815.1 bt815.2.1 bt815.2.2).bind fun Av => (if Av = true then ((laws_toIntS.f kj30 l2).bind fun Aq => ((laws_eqIntS.f kj30 A8 Aq).bind fun Ar => (if Ar = true then (some true) else (some false)))) else (some false)))) else (some false)) = some true := H
       have CE := Z.m Cp
       clear Cp
       by_cases c71 : B2 = true
       ·subst c71
        have H1 : ((laws_toBoard.f kj30 a1_0 a1_1 l1_2).bind fun bt815 => ((laws_eqBoard.f kj30 Al Am Ae bt815.1 bt815.2.1 bt815.2.2).bind fun Av => (if Av = true then ((laws_toIntS.f kj30 l2).bind fun Aq => ((laws_eqIntS.f kj30 A8 Aq).bind fun Ar => (if Ar = true then (some true) else (some false)))) else (some false)))) = some true := by rw [if_pos rfl] at H; exact H
        clear H
        have H := H1
        clear H1
        replace H := Option.bind_eq_some_iff.mp H
        obtain ⟨⟨C3, C4, C5⟩, Cq, H⟩ := H
        replace H : ((laws_eqBoard.f kj30 Al Am Ae C3 C4 C5).bind fun Av => (if Av = true then ((laws_toIntS.f kj30 l2).bind fun Aq => ((laws_eqIntS.f kj30 A8 Aq).bind fun Ar => (if Ar = true then (some true) else (some false)))) else (some false))) = some true := H
        have DI := Z.m Cq
        clear Cq
        replace H := Option.bind_eq_some_iff.mp H
        obtain ⟨Av, Cr, H⟩ := H
        replace H : (if Av = true then ((laws_toIntS.f kj30 l2).bind fun Aq => ((laws_eqIntS.f kj30 A8 Aq).bind fun Ar => (if Ar = true then (some true) else (some false)))) else (some false)) = some true := H
        have DJ := Z.m Cr
        clear Cr
        by_cases c74 : Av = true
        ·subst c74
         have H1 : ((laws_toIntS.f kj30 l2).bind fun Aq => ((laws_eqIntS.f kj30 A8 Aq).bind fun Ar => (if Ar = true then (some true) else (some false)))) = some true := by rw [if_pos rfl] at H; exact H
         clear H
         have H := H1
         clear H1
         replace H := Option.bind_eq_some_iff.mp H
         obtain ⟨Aq, Cs, H⟩ := H
         replace H : ((laws_eqIntS.f kj30 A8 Aq).bind fun Ar => (if Ar = true then (some true) else (some false))) = some true := H
         have DK := Z.m Cs
         clear Cs
         replace H := Option.bind_eq_some_iff.mp H
         obtain ⟨Ar, Ct, H⟩ := H
         replace H : (if Ar = true then (some true) else (some false)) = some true := H
         have DL := Z.m Ct
         clear Ct
         by_cases c77 : Ar = true
         ·subst c77
          have H1 : (some true) = some true := rfl
          clear H
          have H := H1
          clear H1
          clear H
          try go_wp2
          replace Ab := Z.m (Kd.R_drew Ab.o)
          replace A5 := Z.m (Kd.R_drew A5.o)
          replace A6 := Z.m (Kd.R_drew A6.o)
          replace A0 := Z.m (blk_drew A0.o)
          replace A1 := Z.m (blk_drew A1.o)
          replace A3 := Z.m (blk_drew A3.o)
          replace A4 := Z.m (blk_drew A4.o)
          replace HB := Z.m (qd HB.o)
          refine start_ (n := 5) (S := fun w' => w'.cell? ⟨AH, 0, none⟩ = some (.int .i64 Aj) ∧ w'.cell? ⟨AH, 1, none⟩ = some (.int .i64 Ak) ∧ w'.cell? ⟨AH, 2, none⟩ = some (.slice AJ Ad.length AM) ∧ w'.cell? ⟨Ao, 0, none⟩ = some (.int .i64 a0_0) ∧ w'.cell? ⟨Ao, 1, none⟩ = some (.int .i64 a0_1) ∧ w'.cell? ⟨Ao, 2, none⟩ = some (.slice A0_2 l0_2.length c0_2)) (ds := []) #[false, false, false, false, false] (by kernel_rfl) rfl rfl ⟨(ql A3.o 0).trans rfl, (ql A3.o 1).trans rfl, (ql A3.o 2).trans rfl, (ql A0.o 0).trans rfl, (ql A0.o 1).trans rfl, (ql A0.o 2).trans rfl⟩ (fun hHeld => ?_)
          generalize wc.drew = Ek at Ab A5 A6 A0 A1 A3 A4 HB hHeld ⊢
          refine take_ (i := 0) (N := some 59) (v := ?_) (a' := ?_) #[true, false, false, false, false] rfl rfl (by kernel_rfl) (fun _ _ _ h => h) (Or.inl ⟨by rfl, ?_⟩) hHeld ?_ ?_
          rotate_left
          ·rintro w' ⟨s0, s1, s2, s3, s4, s5⟩
           go_simp
           with_reducible rfl
          rotate_left
          ·simp only [Act.put, q1, q2, q3, i64_w, i32_w]
           rfl
          refine take_ (i := 1) (N := some 60) (v := ?_) (a' := ?_) #[true, true, false, false, false] rfl rfl (by kernel_rfl) (fun _ _ _ h => h) (Or.inl ⟨by rfl, ?_⟩) hHeld ?_ ?_
          rotate_left
          ·rintro w' ⟨s0, s1, s2, s3, s4, s5⟩
           go_simp
           with_reducible rfl
          rotate_left
          ·simp only [Act.put, q1, q2, q3, i64_w, i32_w]
           rfl
          refine one_ (i := 2) (N := some 61) #[true, true, true, false, false] rfl rfl (by kernel_rfl) (by decide) (fun K hK => ?_)
          refine goes_ Try.func15 (by kernel_rfl) rfl #[.agg #[.int .i64 a0_0, .int .i64 a0_1, .slice A0_2 l0_2.length c0_2]] (by rfl) rfl rfl (by (try simp only [List.map_toArray, List.map_cons, List.map_nil]); first | done | rfl | (simp only [List.length_drop, List.length_take]; rfl)) ?_
          with_reducible refine (laws_toBoard.calls kj30 a0_0 a0_1 _ _ l0_2 C0 C1 C2 _ ?side1 ?side2 DH.o).mono ?_
          (case side1 => repeat (first | exact (Kd.C_below AB.o HB.o) | (with_reducible refine Kd.C_alloc ?_ _) | (with_reducible refine Kd.C_drewN ?_ _) | (with_reducible refine Kd.C_drew ?_)))
          (case side2 => exact Az.o)
          rintro e El ⟨DV, rfl, An, hb⟩
          refine ⟨_, rfl, ?_⟩
          have Ai := Z.m (Kd.R_lower (Kd.R_new' (Kd.R_new' An (Kd.R_lt (vR A5))) (Kd.R_lt (vR A6))) (below_size (vB HB)))
          replace Ab := Z.m (Kd.Rb (vR Ab) hb)
          replace A5 := Z.m (Kd.R_elder' (vR A5) (Kd.R_base An) hb)
          replace A6 := Z.m (Kd.R_elder' (vR A6) (Kd.R_base An) hb)
          replace A0 := kB A0 hb
          replace A1 := kB A1 hb
          replace A3 := kB A3 hb
          replace A4 := kB A4 hb
          replace HB := bB HB hb
          (try clear hb); (try clear An)
          obtain ⟨D0, D8, CC⟩ := Kd.R_slice Ai.o
          (first | subst CC | (injection CC with f1_ f2_ f3_; have f4_ := f1_.symm; have f5_ := f3_.symm; clear f1_ f2_ f3_; subst f4_; subst f5_))
          refine hK.out _ _ ⟨(ql A3.o 0).trans rfl, (ql A3.o 1).trans rfl, (ql A3.o 2).trans rfl, (ql A0.o 0).trans rfl, (ql A0.o 1).trans rfl, (ql A0.o 2).trans rfl⟩ (fun hHeld => ?_)
          clear hK K
          refine norm_ (a' := ?_) ?_ ?_
          rotate_left
          ·show Act.put _ (some 61) _ = _
           simp only [Act.put, q1, q2, q3, i64_w, i32_w]
           rfl
          refine one_ (i := 3) (N := some 62) #[true, true, true, true, false] rfl rfl (by kernel_rfl) (by decide) (fun K hK => ?_)
          refine goes_ Try.func18 (by kernel_rfl) rfl #[.agg #[.int .i64 Aj, .int .i64 Ak, .slice AJ Ad.length AM], .agg #[.int .i64 C0, .int .i64 C1, .slice D0 C2.length D8]] (by rfl) rfl rfl (by (try simp only [List.map_toArray, List.map_cons, List.map_nil]); first | done | rfl | (simp only [List.length_drop, List.length_take]; rfl)) ?_
          with_reducible refine (laws_eqBoard.calls kj30 Aj Ak _ _ Ad C0 C1 _ _ C2 true _ ?side1 ?side2 ?side3 ?side4 CE.o).mono ?_
          (case side1 => repeat (first | exact (Kd.RrZ A5.o).2.2 | (with_reducible refine Kd.C_alloc ?_ _) | (with_reducible refine Kd.C_drewN ?_ _) | (with_reducible refine Kd.C_drew ?_)))
          (case side2 => exact (Kd.RrZ A5.o).2.1)
          (case side3 => repeat (first | exact (Kd.RrZ Ai.o).2.2 | (with_reducible refine Kd.C_alloc ?_ _) | (with_reducible refine Kd.C_drewN ?_ _) | (with_reducible refine Kd.C_drew ?_)))
          (case side4 => exact (Kd.RrZ Ai.o).2.1)
          rintro e DZ ⟨rfl, hb⟩
          refine ⟨_, rfl, ?_⟩
          replace Ab := Z.m (Kd.Rb (vR Ab) hb)
          replace A5 := Z.m (Kd.Rb (vR A5) hb)
          replace A6 := Z.m (Kd.Rb (vR A6) hb)
          replace Ai := Z.m (Kd.Rb (vR Ai) hb)
          replace A0 := kB A0 hb
          replace A1 := kB A1 hb
          replace A3 := kB A3 hb
          replace A4 := kB A4 hb
          replace HB := bB HB hb
          (try clear hb)
          refine hK.out _ _ ⟨(ql A3.o 0).trans rfl, (ql A3.o 1).trans rfl, (ql A3.o 2).trans rfl, (ql A0.o 0).trans rfl, (ql A0.o 1).trans rfl, (ql A0.o 2).trans rfl⟩ (fun hHeld => ?_)
          clear hK K
          refine norm_ (a' := ?_) ?_ ?_
          rotate_left
          ·show Act.put _ (some 62) _ = _
           simp only [Act.put, q1, q2, q3, i64_w, i32_w]
           rfl
          refine pure_ (i := 4) (N := some 63) (v := ?_) (a' := ?_) #[true, true, true, true, true] rfl rfl (by kernel_rfl) (fun _ _ _ h => h) (Or.inl ⟨by rfl, ?_⟩) ?_ ?_
          rotate_left
          ·intro w'
           go_simp
           with_reducible rfl
          rotate_left
          ·simp only [Act.put, q1, q2, q3, i64_w, i32_w]
           rfl
          refine done_ (by kernel_rfl) ?_
          try go_wp2
          replace Ab := Z.m (Kd.R_drew Ab.o)
          replace A5 := Z.m (Kd.R_drew A5.o)
          replace A6 := Z.m (Kd.R_drew A6.o)
          replace Ai := Z.m (Kd.R_drew Ai.o)
          replace A0 := Z.m (blk_drew A0.o)
          replace A1 := Z.m (blk_drew A1.o)
          replace A3 := Z.m (blk_drew A3.o)
          replace A4 := Z.m (blk_drew A4.o)
          replace HB := Z.m (qd HB.o)
          refine start_ (n := 5) (S := fun w' => w'.cell? ⟨AN, 0, none⟩ = some (.int .i64 Al) ∧ w'.cell? ⟨AN, 1, none⟩ = some (.int .i64 Am) ∧ w'.cell? ⟨AN, 2, none⟩ = some (.slice AP Ae.length AQ) ∧ w'.cell? ⟨Ap, 0, none⟩ = some (.int .i64 a1_0) ∧ w'.cell? ⟨Ap, 1, none⟩ = some (.int .i64 a1_1) ∧ w'.cell? ⟨Ap, 2, none⟩ = some (.slice A1_2 l1_2.length c1_2)) (ds := []) #[false, false, false, false, false] (by kernel_rfl) rfl rfl ⟨(ql A4.o 0).trans rfl, (ql A4.o 1).trans rfl, (ql A4.o 2).trans rfl, (ql A1.o 0).trans rfl, (ql A1.o 1).trans rfl, (ql A1.o 2).trans rfl⟩ (fun hHeld => ?_)
          generalize DZ.drew = Em at Ab A5 A6 Ai A0 A1 A3 A4 HB hHeld ⊢
          refine take_ (i := 0) (N := some 64) (v := ?_) (a' := ?_) #[true, false, false, false, false] rfl rfl (by kernel_rfl) (fun _ _ _ h => h) (Or.inl ⟨by rfl, ?_⟩) hHeld ?_ ?_
          rotate_left
          ·rintro w' ⟨s0, s1, s2, s3, s4, s5⟩
           go_simp
           with_reducible rfl
          rotate_left
          ·simp only [Act.put, q1, q2, q3, i64_w, i32_w]
           rfl
          refine take_ (i := 1) (N := some 65) (v := ?_) (a' := ?_) #[true, true, false, false, false] rfl rfl (by kernel_rfl) (fun _ _ _ h => h) (Or.inl ⟨by rfl, ?_⟩) hHeld ?_ ?_
          rotate_left
          ·rintro w' ⟨s0, s1, s2, s3, s4, s5⟩
           go_simp
           with_reducible rfl
          rotate_left
          ·simp only [Act.put, q1, q2, q3, i64_w, i32_w]
           rfl
          refine one_ (i := 2) (N := some 66) #[true, true, true, false, false] rfl rfl (by kernel_rfl) (by decide) (fun K hK => ?_)
          refine goes_ Try.func15 (by kernel_rfl) rfl #[.agg #[.int .i64 a1_0, .int .i64 a1_1, .slice A1_2 l1_2.length c1_2]] (by rfl) rfl rfl (by (try simp only [List.map_toArray, List.map_cons, List.map_nil]); first | done | rfl | (simp only [List.length_drop, List.length_take]; rfl)) ?_
          with_reducible refine (laws_toBoard.calls kj30 a1_0 a1_1 _ _ l1_2 C3 C4 C5 _ ?side1 ?side2 DI.o).mono ?_
          (case side1 => repeat (first | exact (Kd.C_below AL.o HB.o) | (with_reducible refine Kd.C_alloc ?_ _) | (with_reducible refine Kd.C_drewN ?_ _) | (with_reducible refine Kd.C_drew ?_)))
          (case side2 => exact AK.o)
          rintro e En ⟨DW, rfl, An, hb⟩
          refine ⟨_, rfl, ?_⟩
          have Ay := Z.m (Kd.R_lower (Kd.R_new' (Kd.R_new' (Kd.R_new' An (Kd.R_lt (vR A5))) (Kd.R_lt (vR A6))) (Kd.R_lt (vR Ai))) (below_size (vB HB)))
          replace Ab := Z.m (Kd.Rb (vR Ab) hb)
          replace A5 := Z.m (Kd.R_elder' (vR A5) (Kd.R_base An) hb)
          replace A6 := Z.m (Kd.R_elder' (vR A6) (Kd.R_base An) hb)
          replace Ai := Z.m (Kd.R_elder' (vR Ai) (Kd.R_base An) hb)
          replace A0 := kB A0 hb
          replace A1 := kB A1 hb
          replace A3 := kB A3 hb
          replace A4 := kB A4 hb
          replace HB := bB HB hb
          (try clear hb); (try clear An)
          obtain ⟨D1, D9, CD⟩ := Kd.R_slice Ay.o
          (first | subst CD | (injection CD with f1_ f2_ f3_; have f4_ := f1_.symm; have f5_ := f3_.symm; clear f1_ f2_ f3_; subst f4_; subst f5_))
          refine hK.out _ _ ⟨(ql A4.o 0).trans rfl, (ql A4.o 1).trans rfl, (ql A4.o 2).trans rfl, (ql A1.o 0).trans rfl, (ql A1.o 1).trans rfl, (ql A1.o 2).trans rfl⟩ (fun hHeld => ?_)
          clear hK K
          refine norm_ (a' := ?_) ?_ ?_
          rotate_left
          ·show Act.put _ (some 66) _ = _
           simp only [Act.put, q1, q2, q3, i64_w, i32_w]
           rfl
          refine one_ (i := 3) (N := some 67) #[true, true, true, true, false] rfl rfl (by kernel_rfl) (by decide) (fun K hK => ?_)
          refine goes_ Try.func18 (by kernel_rfl) rfl #[.agg #[.int .i64 Al, .int .i64 Am, .slice AP Ae.length AQ], .agg #[.int .i64 C3, .int .i64 C4, .slice D1 C5.length D9]] (by rfl) rfl rfl (by (try simp only [List.map_toArray, List.map_cons, List.map_nil]); first | done | rfl | (simp only [List.length_drop, List.length_take]; rfl)) ?_
          with_reducible refine (laws_eqBoard.calls kj30 Al Am _ _ Ae C3 C4 _ _ C5 true _ ?side1 ?side2 ?side3 ?side4 DJ.o).mono ?_
          (case side1 => repeat (first | exact (Kd.RrZ A6.o).2.2 | (with_reducible refine Kd.C_alloc ?_ _) | (with_reducible refine Kd.C_drewN ?_ _) | (with_reducible refine Kd.C_drew ?_)))
          (case side2 => exact (Kd.RrZ A6.o).2.1)
          (case side3 => repeat (first | exact (Kd.RrZ Ay.o).2.2 | (with_reducible refine Kd.C_alloc ?_ _) | (with_reducible refine Kd.C_drewN ?_ _) | (with_reducible refine Kd.C_drew ?_)))
          (case side4 => exact (Kd.RrZ Ay.o).2.1)
          rintro e Eo ⟨rfl, hb⟩
          refine ⟨_, rfl, ?_⟩
          replace Ab := Z.m (Kd.Rb (vR Ab) hb)
          replace A5 := Z.m (Kd.Rb (vR A5) hb)
          replace A6 := Z.m (Kd.Rb (vR A6) hb)
          replace Ai := Z.m (Kd.Rb (vR Ai) hb)
          replace Ay := Z.m (Kd.Rb (vR Ay) hb)
          replace A0 := kB A0 hb
          replace A1 := kB A1 hb
          replace A3 := kB A3 hb
          replace A4 := kB A4 hb
          replace HB := bB HB hb
          (try clear hb)
          refine hK.out _ _ ⟨(ql A4.o 0).trans rfl, (ql A4.o 1).trans rfl, (ql A4.o 2).trans rfl, (ql A1.o 0).trans rfl, (ql A1.o 1).trans rfl, (ql A1.o 2).trans rfl⟩ (fun hHeld => ?_)
          clear hK K
          refine norm_ (a' := ?_) ?_ ?_
          rotate_left
          ·show Act.put _ (some 67) _ = _
           simp only [Act.put, q1, q2, q3, i64_w, i32_w]
           rfl
          refine pure_ (i := 4) (N := some 68) (v := ?_) (a' := ?_) #[true, true, true, true, true] rfl rfl (by kernel_rfl) (fun _ _ _ h => h) (Or.inl ⟨by rfl, ?_⟩) ?_ ?_
          rotate_left
          ·intro w'
           go_simp
           with_reducible rfl
          rotate_left
          ·simp only [Act.put, q1, q2, q3, i64_w, i32_w]
           rfl
          refine done_ (by kernel_rfl) ?_
          try go_wp2_with (first | ((with_reducible refine gc (f := 33) rfl ?_); refine gA (some 71) _ #[.slice A2 l2.length c2] ?_ Try.func33; (with_reducible refine (laws_toIntS.calls kj30 _ _ l2 Aq _ ?side1 ?side2 DK.o).mono ?_); (case side1 => repeat (first | exact (Kd.C_below D4.o HB.o) | (with_reducible refine Kd.C_alloc ?_ _) | (with_reducible refine Kd.C_drewN ?_ _) | (with_reducible refine Kd.C_drew ?_))); (case side2 => exact D3.o); rintro e Ep ⟨DX, rfl, An, hb⟩; refine ⟨_, rfl, ?_⟩; have B8 := Z.m (Kd.R_lower (Kd.R_new' An (Kd.R_lt (vR Ab))) (below_size (vB HB))); replace Ab := Z.m (Kd.R_elder' (vR Ab) (Kd.R_base An) hb); replace A5 := Z.m (Kd.Rb (vR A5) hb); replace A6 := Z.m (Kd.Rb (vR A6) hb); replace Ai := Z.m (Kd.Rb (vR Ai) hb); replace Ay := Z.m (Kd.Rb (vR Ay) hb); replace A0 := kB A0 hb; replace A1 := kB A1 hb; replace A3 := kB A3 hb; replace A4 := kB A4 hb; replace HB := bB HB hb; (try clear hb); (try clear Bd); (try clear hk); (try clear hi); (try clear An); obtain ⟨D2, Da, De⟩ := Kd.R_slice B8.o; subst De) | ((with_reducible refine gc (f := 27) rfl ?_); refine gA (some 72) _ #[.slice C8 A8.length Ca, .slice D2 Aq.length Da] ?_ Try.func27; (with_reducible refine (laws_eqIntS.calls kj30 _ _ A8 _ _ Aq true _ ?side1 ?side2 ?side3 ?side4 DL.o).mono ?_); (case side1 => repeat (first | exact (Kd.RrZ Ab.o).2.2 | (with_reducible refine Kd.C_alloc ?_ _) | (with_reducible refine Kd.C_drewN ?_ _) | (with_reducible refine Kd.C_drew ?_))); (case side2 => exact (Kd.RrZ Ab.o).2.1); (case side3 => repeat (first | exact (Kd.RrZ B8.o).2.2 | (with_reducible refine Kd.C_alloc ?_ _) | (with_reducible refine Kd.C_drewN ?_ _) | (with_reducible refine Kd.C_drew ?_))); (case side4 => exact (Kd.RrZ B8.o).2.1); rintro e w' ⟨rfl, ⟨nd, rfl⟩⟩; refine ⟨_, rfl, ?_⟩))
          go_ret
          exact ⟨by first | rfl | (simp [eN, eS] <;> rfl) | (simp [*, eN, eS] <;> rfl), vB HB⟩
         ·(rw [if_neg c77] at H; exact absurd H (by decide))
        ·(rw [if_neg c74] at H; exact absurd H (by decide))
       ·(rw [if_neg c71] at H; exact absurd H (by decide))

end Go.Proofs.Ytoklfgjemfojgaa.PAll
