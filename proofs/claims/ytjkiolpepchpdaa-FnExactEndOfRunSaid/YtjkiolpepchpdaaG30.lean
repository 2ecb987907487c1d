/- Began as a text that print.sh wrote (of the functions named below); turned and shortened by this session. -/
import Derived.Test.YtjkiolpepchpdaaG0
import Derived.Test.YtjkiolpepchpdaaG1
import Derived.Test.YtjkiolpepchpdaaG9
import Derived.Test.YtjkiolpepchpdaaG11
import Derived.Test.YtjkiolpepchpdaaG12
import Derived.Test.YtjkiolpepchpdaaG19
import Derived.Test.YtjkiolpepchpdaaG22
namespace Go.Proofs.Ytjkiolpepchpdaa.PAll
open Go.RowKit Go.Proofs.YtjkiolpepchpdaaW.PrintWords Go.Proofs.YtjkiolpepchpdaaW.PrintLast Go.Proofs.YtjkiolpepchpdaaW.PrintMore
attribute [local go_sem] max2_int min2_int max_two min_two max_three min_three max_four min_four   -- for this text's walks alone
set_option linter.unusedVariables false
set_option linter.unusedSimpArgs false

/-! ### spec_EndOfRun: function 24 -/
def spec_EndOfRun.f (k : Nat) (a0_0 : Int) (a0_1 : Int) (l0_2 : List (S88)) (a0_3 : Int) (a0_4 : Int) (a0_5 : Int) (a0_6 : Int) (a0_7 : Int) : Option (Int × Bool) := (spec_maGood.f k a0_0 a0_1 l0_2 a0_3 a0_4 a0_5 a0_6 a0_7).bind fun t830 => (if t830 = true then ((spec_maRun.f k a0_0 a0_1 l0_2 a0_3 a0_4 a0_5 a0_6 a0_7 60).bind fun bt831 => (some (wrap64 (Int.tdiv bt831.2.2.2.2.2.2.2.1 2), true))) else (some (0, false)))
set_option maxHeartbeats 8000000 in
set_option maxRecDepth 100000 in
theorem spec_EndOfRun.calls (k : Nat) (a0_0 : Int) (a0_1 : Int) (A0_2 : Option Addr) (c0_2 : Nat) (l0_2 : List (S88)) (a0_3 : Int) (a0_4 : Int) (a0_5 : Int) (a0_6 : Int) (a0_7 : Int) (r1 : Int) (r2 : Bool) (w : World) (hr0_2 : Kd.C k88 w A0_2 l0_2.length l0_2) (hc0_2 : l0_2.length ≤ c0_2) (h : spec_EndOfRun.f k a0_0 a0_1 l0_2 a0_3 a0_4 a0_5 a0_6 a0_7 = some (r1, r2)) :
 Calls Try.prog 24 #[.agg #[.int .i64 a0_0, .int .i64 a0_1, .slice A0_2 l0_2.length c0_2, .int .i64 a0_3, .int .i64 a0_4, .int .i64 a0_5, .int .i64 a0_6, .int .i64 a0_7]] w fun e w' => e = .returned (.tuple #[.int .i64 r1, .bool r2]) ∧ Below w.heap.size w w' := by
 have BK := Try.underlying32
 have A9 := Z.m hr0_2
 have A7 := Z.m hc0_2
 clear hr0_2 hc0_2
 have HB := Z.m (Below.refl w.heap.size w)
 have H : ((spec_maGood.f k a0_0 a0_1 l0_2 a0_3 a0_4 a0_5 a0_6 a0_7).bind fun Aa => (if Aa = true then ((spec_maRun.f k a0_0 a0_1 l0_2 a0_3 a0_4 a0_5 a0_6 a0_7 60).bind fun bt831 => (some (wrap64 (Int.tdiv bt831.2.2.2.2.2.2.2.1 2), true))) else (some (0, false)))) = some (r1, r2) := h
 clear h
 replace H := Option.bind_eq_some_iff.mp H
 obtain ⟨Aa, By, H⟩ := H
 replace H : (if Aa = true then ((spec_maRun.f k a0_0 a0_1 l0_2 a0_3 a0_4 a0_5 a0_6 a0_7 60).bind fun bt831 => (some (wrap64 (Int.tdiv bt831.2.2.2.2.2.2.2.1 2), true))) else (some (0, false))) = some (r1, r2) := H
 have A2 := Z.m By
 clear By
 by_cases c3 : Aa = true
 ·subst c3
  have H1 : ((spec_maRun.f k a0_0 a0_1 l0_2 a0_3 a0_4 a0_5 a0_6 a0_7 60).bind fun bt831 => (some (wrap64 (Int.tdiv bt831.2.2.2.2.2.2.2.1 2), true))) = some (r1, r2) := by rw [if_pos rfl] at H; exact H
  clear H
  have H := H1
  clear H1
  replace H := Option.bind_eq_some_iff.mp H
  obtain ⟨⟨Bp, Bq, Br, Bs, Bt, Bu, Bv, Ag, Bw, Bx⟩, Bz, H⟩ := H
  replace H : (some (wrap64 (Int.tdiv Ag 2), true)) = some (r1, r2) := H
  have A4 := Z.m Bz
  clear Bz
  simp only [Option.some.injEq, Prod.mk.injEq] at H
  obtain ⟨rfl, rfl⟩ := H
  go_enter Try.func24, Try.ntmps24
  go_wp2_with (first | ((with_reducible refine gq (N := 1) rfl ?_); refine be (N := 1) (cs := #[.int .i64 a0_0, .int .i64 a0_1, .slice A0_2 l0_2.length c0_2, .int .i64 a0_3, .int .i64 a0_4, .int .i64 a0_5, .int .i64 a0_6, .int .i64 a0_7]) (t := 32) ?_; intro Af hg w5 hbox hb; have A0 := Z.m (hbox); have A6 := gW (w := w) HB hg; have Ad := A6; replace HB := bB HB hb; clear hb hbox hg; have AO := bc0 A0; have AP := bc1 A0; have AQ := bc2 A0; have AR := bc3 A0; have AS := bc4 A0; have AT := bc5 A0; have AU := bc6 A0; have AV := bc7 A0; have B8 := qz A0.o 0; have Ba := qz A0.o 1; have Bb := qz A0.o 2; have Bc := qz A0.o 3; have Bd := qz A0.o 4; have Be := qz A0.o 5; have Bf := qz A0.o 6; have Bg := qz A0.o 7) | ((with_reducible refine gc (f := 34) rfl ?_); refine gA (some 8) _ #[.agg #[.int .i64 a0_0, .int .i64 a0_1, .slice A0_2 l0_2.length c0_2, .int .i64 a0_3, .int .i64 a0_4, .int .i64 a0_5, .int .i64 a0_6, .int .i64 a0_7]] ?_ Try.func34; (with_reducible refine (spec_maGood.calls k a0_0 a0_1 _ _ l0_2 a0_3 a0_4 a0_5 a0_6 a0_7 true _ ?side1 ?side2 A2.o).mono ?_); (case side1 => repeat (first | exact (Kd.C_below A9.o HB.o) | (with_reducible refine Kd.C_alloc ?_ _) | (with_reducible refine Kd.C_drewN ?_ _) | (with_reducible refine Kd.C_drew ?_))); (case side2 => exact A7.o); rintro e w7 ⟨rfl, hb⟩; refine ⟨_, rfl, ?_⟩; replace A0 := kB A0 hb; replace HB := bB HB hb; (try clear hb); (try clear BC); (try clear hk); (try clear hi); have AW := bc0 A0; have AX := bc1 A0; have AY := bc2 A0; have AZ := bc3 A0; have B0 := bc4 A0; have B2 := bc5 A0; have B3 := bc6 A0; have B7 := bc7 A0; have Bh := qz A0.o 0; have Bi := qz A0.o 1; have Bj := qz A0.o 2; have Bk := qz A0.o 3; have Bl := qz A0.o 4; have Bm := qz A0.o 5; have Bn := qz A0.o 6; have Bo := qz A0.o 7) | ((with_reducible refine gc (f := 36) rfl ?_); refine gA (some 12) _ #[.agg #[.int .i64 a0_0, .int .i64 a0_1, .slice A0_2 l0_2.length c0_2, .int .i64 a0_3, .int .i64 a0_4, .int .i64 a0_5, .int .i64 a0_6, .int .i64 a0_7], .int .i64 60] ?_ Try.func36; (with_reducible refine (spec_maRun.calls k a0_0 a0_1 _ _ l0_2 a0_3 a0_4 a0_5 a0_6 a0_7 60 Bp Bq Br Bs Bt Bu Bv Ag Bw Bx _ ?side1 ?side2 A4.o).mono ?_); (case side1 => repeat (first | exact (Kd.C_below A9.o HB.o) | (with_reducible refine Kd.C_alloc ?_ _) | (with_reducible refine Kd.C_drewN ?_ _) | (with_reducible refine Kd.C_drew ?_))); (case side2 => exact A7.o); rintro e w9 ⟨BL, BM, BN, rfl, BF, BG, BH, hb⟩; refine ⟨_, rfl, ?_⟩; have A8 := Z.m (Kd.R_lower BF (below_size (vB HB))); have Ab := Z.m (Kd.R_lower BG (below_size (vB HB))); have Ac := Z.m (Kd.R_lower BH (below_size (vB HB))); replace A0 := kB A0 hb; replace HB := bB HB hb; (try clear hb); (try clear BC); (try clear hk); (try clear hi); (try clear BF); (try clear BG); (try clear BH)) | ((with_reducible refine gq (N := 4) rfl ?_); refine be (N := 4) (cs := #[.int .i64 0, .int .i64 0, .slice none 0 0, .int .i64 0, .int .i64 0, .int .i64 0, .int .i64 0, .int .i64 0]) (t := 32) ?_; intro BB hg BO hbox hb; have A1 := Z.m (hbox); have Ae := gW (w := w) HB hg; have BA := Ae; have A3 := neL A0 hg; have A5 := neG A0 hg; replace A8 := Z.m (Kd.Rb (vR A8) hb); replace Ab := Z.m (Kd.Rb (vR Ab) hb); replace Ac := Z.m (Kd.Rb (vR Ac) hb); replace A0 := kB A0 hb; replace HB := bB HB hb; clear hb hbox hg; have BD := A5.o; have BE := A3.o; have Ah := bc0 A1; have Ai := bc1 A1; have Aj := bc2 A1; have Ak := bc3 A1; have Al := bc4 A1; have Am := bc5 A1; have An := bc6 A1; have Ao := bc7 A1; have Ax := qz A1.o 0; have Ay := qz A1.o 1; have Az := qz A1.o 2; have AA := qz A1.o 3; have AB := qz A1.o 4; have AC := qz A1.o 5; have AD := qz A1.o 6; have AE := qz A1.o 7; obtain ⟨BI, BJ, AN⟩ := Kd.R_slice A8.o; subst AN))
  go_ret2
  exact ⟨by first | rfl | (simp [eN, eS] <;> rfl) | (simp [*, eN, eS] <;> rfl), vB HB⟩
 ·replace c3 := Bool.eq_false_iff.mpr c3
  subst c3
  have H1 : (some (0, false)) = some (r1, r2) := by rw [if_neg (show ¬ (false = true) by decide)] at H; exact H
  clear H
  have H := H1
  clear H1
  simp only [Option.some.injEq, Prod.mk.injEq] at H
  obtain ⟨rfl, rfl⟩ := H
  go_enter Try.func24, Try.ntmps24
  go_wp2_with (first | ((with_reducible refine gq (N := 1) rfl ?_); refine be (N := 1) (cs := #[.int .i64 a0_0, .int .i64 a0_1, .slice A0_2 l0_2.length c0_2, .int .i64 a0_3, .int .i64 a0_4, .int .i64 a0_5, .int .i64 a0_6, .int .i64 a0_7]) (t := 32) ?_; intro Af hg BP hbox hb; have A0 := Z.m (hbox); have A6 := gW (w := w) HB hg; have Ad := A6; replace HB := bB HB hb; clear hb hbox hg; have Ap := bc0 A0; have Aq := bc1 A0; have Ar := bc2 A0; have As := bc3 A0; have At := bc4 A0; have Au := bc5 A0; have Av := bc6 A0; have Aw := bc7 A0; have AF := qz A0.o 0; have AG := qz A0.o 1; have AH := qz A0.o 2; have AI := qz A0.o 3; have AJ := qz A0.o 4; have AK := qz A0.o 5; have AL := qz A0.o 6; have AM := qz A0.o 7) | ((with_reducible refine gc (f := 34) rfl ?_); refine gA (some 8) _ #[.agg #[.int .i64 a0_0, .int .i64 a0_1, .slice A0_2 l0_2.length c0_2, .int .i64 a0_3, .int .i64 a0_4, .int .i64 a0_5, .int .i64 a0_6, .int .i64 a0_7]] ?_ Try.func34; (with_reducible refine (spec_maGood.calls k a0_0 a0_1 _ _ l0_2 a0_3 a0_4 a0_5 a0_6 a0_7 false _ ?side1 ?side2 A2.o).mono ?_); (case side1 => repeat (first | exact (Kd.C_below A9.o HB.o) | (with_reducible refine Kd.C_alloc ?_ _) | (with_reducible refine Kd.C_drewN ?_ _) | (with_reducible refine Kd.C_drew ?_))); (case side2 => exact A7.o); rintro e BQ ⟨rfl, hb⟩; refine ⟨_, rfl, ?_⟩; replace A0 := kB A0 hb; replace HB := bB HB hb; (try clear hb); (try clear BC); (try clear hk); (try clear hi)))
  go_ret2
  exact ⟨by first | rfl | (simp [eN, eS] <;> rfl) | (simp [*, eN, eS] <;> rfl), vB HB⟩

/-! ### impl_EndOfRun: function 25 -/
def impl_EndOfRun.f (k : Nat) (a0_0 : Int) (a0_1 : Int) (l0_2 : List (S88)) (a0_3 : Int) (a0_4 : Int) (a0_5 : Int) (a0_6 : Int) (a0_7 : Int) : Option (Int × Bool) := (impl_IsMachine.f k a0_0 a0_1 l0_2 a0_3 a0_4 a0_5 a0_6 a0_7).bind fun t849 => (if t849 = true then ((impl_runSteps.f k a0_0 a0_1 l0_2 a0_3 a0_4 a0_5 a0_6 a0_7 60).bind fun bt850 => (if bt850.2.2.2.2.2.2.2.1 = 2 then (some (1, true)) else (some (0, true)))) else (some (0, false)))
set_option maxHeartbeats 8000000 in
set_option maxRecDepth 100000 in
theorem impl_EndOfRun.calls (k : Nat) (a0_0 : Int) (a0_1 : Int) (A0_2 : Option Addr) (c0_2 : Nat) (l0_2 : List (S88)) (a0_3 : Int) (a0_4 : Int) (a0_5 : Int) (a0_6 : Int) (a0_7 : Int) (r1 : Int) (r2 : Bool) (w : World) (hr0_2 : Kd.C k88 w A0_2 l0_2.length l0_2) (hc0_2 : l0_2.length ≤ c0_2) (h : impl_EndOfRun.f k a0_0 a0_1 l0_2 a0_3 a0_4 a0_5 a0_6 a0_7 = some (r1, r2)) :
 Calls Try.prog 25 #[.agg #[.int .i64 a0_0, .int .i64 a0_1, .slice A0_2 l0_2.length c0_2, .int .i64 a0_3, .int .i64 a0_4, .int .i64 a0_5, .int .i64 a0_6, .int .i64 a0_7]] w fun e w' => e = .returned (.tuple #[.int .i64 r1, .bool r2]) ∧ Below w.heap.size w w' := by
 have CE := Try.underlying32
 have Aa := Z.m hr0_2
 have A8 := Z.m hc0_2
 clear hr0_2 hc0_2
 have HB := Z.m (Below.refl w.heap.size w)
 have H : ((impl_IsMachine.f k a0_0 a0_1 l0_2 a0_3 a0_4 a0_5 a0_6 a0_7).bind fun Ac => (if Ac = true then ((impl_runSteps.f k a0_0 a0_1 l0_2 a0_3 a0_4 a0_5 a0_6 a0_7 60).bind fun bt850 => (if bt850.2.2.2.2.2.2.2.1 = 2 then (some (1, true)) else (some (0, true)))) else (some (0, false)))) = some (r1, r2) := h
 clear h
 replace H := Option.bind_eq_some_iff.mp H
 obtain ⟨Ac, Cu, H⟩ := H
 replace H : (if Ac = true then ((impl_runSteps.f k a0_0 a0_1 l0_2 a0_3 a0_4 a0_5 a0_6 a0_7 60).bind fun bt850 => (if bt850.2.2.2.2.2.2.2.1 = 2 then (some (1, true)) else (some (0, true)))) else (some (0, false))) = some (r1, r2) := H
 have A2 := Z.m Cu
 clear Cu
 by_cases c3 : Ac = true
 ·subst c3
  have H1 : ((impl_runSteps.f k a0_0 a0_1 l0_2 a0_3 a0_4 a0_5 a0_6 a0_7 60).bind fun bt850 => (if bt850.2.2.2.2.2.2.2.1 = 2 then (some (1, true)) else (some (0, true)))) = some (r1, r2) := by rw [if_pos rfl] at H; exact H
  clear H
  have H := H1
  clear H1
  replace H := Option.bind_eq_some_iff.mp H
  obtain ⟨⟨Ak, Al, Am, An, Ao, Ap, Aq, Ad, Ar⟩, Cv, H⟩ := H
  replace H : (if Ad = 2 then (some (1, true)) else (some (0, true))) = some (r1, r2) := H
  have A4 := Z.m Cv
  clear Cv
  by_cases c5 : Ad = 2
  ·rw [if_pos c5] at H
   have BQ := beq_iff_eq.mpr c5
   have BR := bne_eq_false_iff_eq.mpr c5
   clear c5
   simp only [Option.some.injEq, Prod.mk.injEq] at H
   obtain ⟨rfl, rfl⟩ := H
   go_enter Try.func25, Try.ntmps25
   go_wp2_with (first | ((with_reducible refine gq (N := 1) rfl ?_); refine be (N := 1) (cs := #[.int .i64 a0_0, .int .i64 a0_1, .slice A0_2 l0_2.length c0_2, .int .i64 a0_3, .int .i64 a0_4, .int .i64 a0_5, .int .i64 a0_6, .int .i64 a0_7]) (t := 32) ?_; intro Af hg w6 hbox hb; have A0 := Z.m (hbox); have A7 := gW (w := w) HB hg; have Ae := A7; replace HB := bB HB hb; clear hb hbox hg; have BU := bc0 A0; have BV := bc1 A0; have BW := bc2 A0; have BX := bc3 A0; have BY := bc4 A0; have BZ := bc5 A0; have C0 := bc6 A0; have C1 := bc7 A0; have Ca := qz A0.o 0; have Cb := qz A0.o 1; have Cd := qz A0.o 2; have Ce := qz A0.o 3; have Cf := qz A0.o 4; have Cg := qz A0.o 5; have Ch := qz A0.o 6; have Ci := qz A0.o 7) | ((with_reducible refine gc (f := 38) rfl ?_); refine gA (some 7) _ #[.agg #[.int .i64 a0_0, .int .i64 a0_1, .slice A0_2 l0_2.length c0_2, .int .i64 a0_3, .int .i64 a0_4, .int .i64 a0_5, .int .i64 a0_6, .int .i64 a0_7]] ?_ Try.func38; (with_reducible refine (impl_IsMachine.calls k a0_0 a0_1 _ _ l0_2 a0_3 a0_4 a0_5 a0_6 a0_7 true _ ?side1 ?side2 A2.o).mono ?_); (case side1 => repeat (first | exact (Kd.C_below Aa.o HB.o) | (with_reducible refine Kd.C_alloc ?_ _) | (with_reducible refine Kd.C_drewN ?_ _) | (with_reducible refine Kd.C_drew ?_))); (case side2 => exact A8.o); rintro e w8 ⟨rfl, hb⟩; refine ⟨_, rfl, ?_⟩; replace A0 := kB A0 hb; replace HB := bB HB hb; (try clear hb); (try clear As); (try clear hk); (try clear hi); have C2 := bc0 A0; have C3 := bc1 A0; have C4 := bc2 A0; have C5 := bc3 A0; have C6 := bc4 A0; have C7 := bc5 A0; have C8 := bc6 A0; have C9 := bc7 A0; have Cj := qz A0.o 0; have Cl := qz A0.o 1; have Cm := qz A0.o 2; have Cn := qz A0.o 3; have Co := qz A0.o 4; have Cp := qz A0.o 5; have Cq := qz A0.o 6; have Cr := qz A0.o 7) | ((with_reducible refine gc (f := 39) rfl ?_); refine gA (some 11) _ #[.agg #[.int .i64 a0_0, .int .i64 a0_1, .slice A0_2 l0_2.length c0_2, .int .i64 a0_3, .int .i64 a0_4, .int .i64 a0_5, .int .i64 a0_6, .int .i64 a0_7], .int .i64 60] ?_ Try.func39; (with_reducible refine (impl_runSteps.calls k a0_0 a0_1 _ _ l0_2 a0_3 a0_4 a0_5 a0_6 a0_7 60 Ak Al Am An Ao Ap Aq Ad Ar _ ?side1 ?side2 A4.o).mono ?_); (case side1 => repeat (first | exact (Kd.C_below Aa.o HB.o) | (with_reducible refine Kd.C_alloc ?_ _) | (with_reducible refine Kd.C_drewN ?_ _) | (with_reducible refine Kd.C_drew ?_))); (case side2 => exact A8.o); rintro e CF ⟨Cs, Ct, rfl, Ai, Aj, hb⟩; refine ⟨_, rfl, ?_⟩; have A6 := Z.m (Kd.R_lower Ai (below_size (vB HB))); have A9 := Z.m (Kd.R_lower Aj (below_size (vB HB))); replace A0 := kB A0 hb; replace HB := bB HB hb; (try clear hb); (try clear As); (try clear hk); (try clear hi); (try clear Ai); (try clear Aj)) | ((with_reducible refine gq (N := 4) rfl ?_); refine be (N := 4) (cs := #[.int .i64 0, .int .i64 0, .slice none 0 0, .int .i64 0, .int .i64 0, .int .i64 0, .int .i64 0, .int .i64 0]) (t := 32) ?_; intro Ah hg CG hbox hb; have A1 := Z.m (hbox); have Ab := gW (w := w) HB hg; have Ag := Ab; have A3 := neL A0 hg; have A5 := neG A0 hg; replace A6 := Z.m (Kd.Rb (vR A6) hb); replace A9 := Z.m (Kd.Rb (vR A9) hb); replace A0 := kB A0 hb; replace HB := bB HB hb; clear hb hbox hg; have Cw := A5.o; have Cy := A3.o; have At := bc0 A1; have Au := bc1 A1; have Av := bc2 A1; have Aw := bc3 A1; have Ax := bc4 A1; have Ay := bc5 A1; have Az := bc6 A1; have AA := bc7 A1; have Bc := qz A1.o 0; have Bd := qz A1.o 1; have Be := qz A1.o 2; have Bf := qz A1.o 3; have Bg := qz A1.o 4; have Bh := qz A1.o 5; have Bi := qz A1.o 6; have Bj := qz A1.o 7; obtain ⟨CA, CC, BS⟩ := Kd.R_slice A6.o; subst BS))
   go_ret2
   exact ⟨by first | rfl | (simp [eN, eS] <;> rfl) | (simp [*, eN, eS] <;> rfl), vB HB⟩
  ·rw [if_neg c5] at H
   have BQ := beq_eq_false_iff_ne.mpr c5
   have BR := bne_iff_ne.mpr c5
   simp only [Option.some.injEq, Prod.mk.injEq] at H
   obtain ⟨rfl, rfl⟩ := H
   go_enter Try.func25, Try.ntmps25
   go_wp2_with (first | ((with_reducible refine gq (N := 1) rfl ?_); refine be (N := 1) (cs := #[.int .i64 a0_0, .int .i64 a0_1, .slice A0_2 l0_2.length c0_2, .int .i64 a0_3, .int .i64 a0_4, .int .i64 a0_5, .int .i64 a0_6, .int .i64 a0_7]) (t := 32) ?_; intro Af hg CH hbox hb; have A0 := Z.m (hbox); have A7 := gW (w := w) HB hg; have Ae := A7; replace HB := bB HB hb; clear hb hbox hg; have AB := bc0 A0; have AC := bc1 A0; have AD := bc2 A0; have AE := bc3 A0; have AF := bc4 A0; have AG := bc5 A0; have AH := bc6 A0; have AI := bc7 A0; have Bk := qz A0.o 0; have Bl := qz A0.o 1; have Bm := qz A0.o 2; have Bn := qz A0.o 3; have Bo := qz A0.o 4; have Bp := qz A0.o 5; have Bq := qz A0.o 6; have Br := qz A0.o 7) | ((with_reducible refine gc (f := 38) rfl ?_); refine gA (some 7) _ #[.agg #[.int .i64 a0_0, .int .i64 a0_1, .slice A0_2 l0_2.length c0_2, .int .i64 a0_3, .int .i64 a0_4, .int .i64 a0_5, .int .i64 a0_6, .int .i64 a0_7]] ?_ Try.func38; (with_reducible refine (impl_IsMachine.calls k a0_0 a0_1 _ _ l0_2 a0_3 a0_4 a0_5 a0_6 a0_7 true _ ?side1 ?side2 A2.o).mono ?_); (case side1 => repeat (first | exact (Kd.C_below Aa.o HB.o) | (with_reducible refine Kd.C_alloc ?_ _) | (with_reducible refine Kd.C_drewN ?_ _) | (with_reducible refine Kd.C_drew ?_))); (case side2 => exact A8.o); rintro e CI ⟨rfl, hb⟩; refine ⟨_, rfl, ?_⟩; replace A0 := kB A0 hb; replace HB := bB HB hb; (try clear hb); (try clear As); (try clear hk); (try clear hi); have AJ := bc0 A0; have AK := bc1 A0; have AL := bc2 A0; have AM := bc3 A0; have AN := bc4 A0; have AO := bc5 A0; have AP := bc6 A0; have AQ := bc7 A0; have Bs := qz A0.o 0; have Bt := qz A0.o 1; have Bu := qz A0.o 2; have Bv := qz A0.o 3; have Bw := qz A0.o 4; have Bx := qz A0.o 5; have By := qz A0.o 6; have Bz := qz A0.o 7) | ((with_reducible refine gc (f := 39) rfl ?_); refine gA (some 11) _ #[.agg #[.int .i64 a0_0, .int .i64 a0_1, .slice A0_2 l0_2.length c0_2, .int .i64 a0_3, .int .i64 a0_4, .int .i64 a0_5, .int .i64 a0_6, .int .i64 a0_7], .int .i64 60] ?_ Try.func39; (with_reducible refine (impl_runSteps.calls k a0_0 a0_1 _ _ l0_2 a0_3 a0_4 a0_5 a0_6 a0_7 60 Ak Al Am An Ao Ap Aq Ad Ar _ ?side1 ?side2 A4.o).mono ?_); (case side1 => repeat (first | exact (Kd.C_below Aa.o HB.o) | (with_reducible refine Kd.C_alloc ?_ _) | (with_reducible refine Kd.C_drewN ?_ _) | (with_reducible refine Kd.C_drew ?_))); (case side2 => exact A8.o); rintro e CJ ⟨Cs, Ct, rfl, Ai, Aj, hb⟩; refine ⟨_, rfl, ?_⟩; have A6 := Z.m (Kd.R_lower Ai (below_size (vB HB))); have A9 := Z.m (Kd.R_lower Aj (below_size (vB HB))); replace A0 := kB A0 hb; replace HB := bB HB hb; (try clear hb); (try clear As); (try clear hk); (try clear hi); (try clear Ai); (try clear Aj)) | ((with_reducible refine gq (N := 4) rfl ?_); refine be (N := 4) (cs := #[.int .i64 0, .int .i64 0, .slice none 0 0, .int .i64 0, .int .i64 0, .int .i64 0, .int .i64 0, .int .i64 0]) (t := 32) ?_; intro Ah hg CK hbox hb; have A1 := Z.m (hbox); have Ab := gW (w := w) HB hg; have Ag := Ab; have A3 := neL A0 hg; have A5 := neG A0 hg; replace A6 := Z.m (Kd.Rb (vR A6) hb); replace A9 := Z.m (Kd.Rb (vR A9) hb); replace A0 := kB A0 hb; replace HB := bB HB hb; clear hb hbox hg; have Cx := A5.o; have Cz := A3.o; have AR := bc0 A1; have AS := bc1 A1; have AT := bc2 A1; have AU := bc3 A1; have AV := bc4 A1; have AW := bc5 A1; have AX := bc6 A1; have AY := bc7 A1; have BA := qz A1.o 0; have BB := qz A1.o 1; have BC := qz A1.o 2; have BD := qz A1.o 3; have BE := qz A1.o 4; have BF := qz A1.o 5; have BG := qz A1.o 6; have BH := qz A1.o 7; obtain ⟨CB, CD, BT⟩ := Kd.R_slice A6.o; subst BT))
   go_ret2
   exact ⟨by first | rfl | (simp [eN, eS] <;> rfl) | (simp [*, eN, eS] <;> rfl), vB HB⟩
 ·replace c3 := Bool.eq_false_iff.mpr c3
  subst c3
  have H1 : (some (0, false)) = some (r1, r2) := by rw [if_neg (show ¬ (false = true) by decide)] at H; exact H
  clear H
  have H := H1
  clear H1
  simp only [Option.some.injEq, Prod.mk.injEq] at H
  obtain ⟨rfl, rfl⟩ := H
  go_enter Try.func25, Try.ntmps25
  go_wp2_with (first | ((with_reducible refine gq (N := 1) rfl ?_); refine be (N := 1) (cs := #[.int .i64 a0_0, .int .i64 a0_1, .slice A0_2 l0_2.length c0_2, .int .i64 a0_3, .int .i64 a0_4, .int .i64 a0_5, .int .i64 a0_6, .int .i64 a0_7]) (t := 32) ?_; intro Af hg CL hbox hb; have A0 := Z.m (hbox); have A7 := gW (w := w) HB hg; have Ae := A7; replace HB := bB HB hb; clear hb hbox hg; have AZ := bc0 A0; have B0 := bc1 A0; have B2 := bc2 A0; have B3 := bc3 A0; have B7 := bc4 A0; have B8 := bc5 A0; have Ba := bc6 A0; have Bb := bc7 A0; have BI := qz A0.o 0; have BJ := qz A0.o 1; have BK := qz A0.o 2; have BL := qz A0.o 3; have BM := qz A0.o 4; have BN := qz A0.o 5; have BO := qz A0.o 6; have BP := qz A0.o 7) | ((with_reducible refine gc (f := 38) rfl ?_); refine gA (some 7) _ #[.agg #[.int .i64 a0_0, .int .i64 a0_1, .slice A0_2 l0_2.length c0_2, .int .i64 a0_3, .int .i64 a0_4, .int .i64 a0_5, .int .i64 a0_6, .int .i64 a0_7]] ?_ Try.func38; (with_reducible refine (impl_IsMachine.calls k a0_0 a0_1 _ _ l0_2 a0_3 a0_4 a0_5 a0_6 a0_7 false _ ?side1 ?side2 A2.o).mono ?_); (case side1 => repeat (first | exact (Kd.C_below Aa.o HB.o) | (with_reducible refine Kd.C_alloc ?_ _) | (with_reducible refine Kd.C_drewN ?_ _) | (with_reducible refine Kd.C_drew ?_))); (case side2 => exact A8.o); rintro e CM ⟨rfl, hb⟩; refine ⟨_, rfl, ?_⟩; replace A0 := kB A0 hb; replace HB := bB HB hb; (try clear hb); (try clear As); (try clear hk); (try clear hi)))
  go_ret2
  exact ⟨by first | rfl | (simp [eN, eS] <;> rfl) | (simp [*, eN, eS] <;> rfl), vB HB⟩

/-! ### laws_FnExactEndOfRun: function 6 -/
def laws_FnExactEndOfRun.j0 : Nat → Bool → Int → Int → List (S93) → Int → Int → Int → Int → Int → Int → Int → List (S88) → Int → Int → Int → Int → Int → Option (Bool)
 | 0, _, _, _, _, _, _, _, _, _, _, _, _, _, _, _, _, _ => none
 | k + 1, x34, x865000, x865001, x865002, x865003, x865004, x865005, x865006, x865007, x889000, x889001, x889002, x889003, x889004, x889005, x889006, x889007 => if x34 = true then (some false) else ((laws_toMachine.f k x865000 x865001 x865002 x865003 x865004 x865005 x865006 x865007).bind fun bt891 => ((laws_eqMachine.f k x889000 x889001 x889002 x889003 x889004 x889005 x889006 x889007 bt891.1 bt891.2.1 bt891.2.2.1 bt891.2.2.2.1 bt891.2.2.2.2.1 bt891.2.2.2.2.2.1 bt891.2.2.2.2.2.2.1 bt891.2.2.2.2.2.2.2).bind fun t901 => (if t901 = true then (some true) else (some false))))
def laws_FnExactEndOfRun.f (k : Nat) (a0_0 : Int) (a0_1 : Int) (l0_2 : List (S93)) (a0_3 : Int) (a0_4 : Int) (a0_5 : Int) (a0_6 : Int) (a0_7 : Int) : Option (Bool) := (laws_szMachine.f a0_0 a0_1 l0_2 a0_3 a0_4 a0_5 a0_6 a0_7 1048576).bind fun t865 => (if t865 < 0 then (some true) else ((laws_toMachine.f k a0_0 a0_1 l0_2 a0_3 a0_4 a0_5 a0_6 a0_7).bind fun bt866 => ((spec_EndOfRun.f k bt866.1 bt866.2.1 bt866.2.2.1 bt866.2.2.2.1 bt866.2.2.2.2.1 bt866.2.2.2.2.2.1 bt866.2.2.2.2.2.2.1 bt866.2.2.2.2.2.2.2).bind fun bt876 => ((laws_toMachine.f k a0_0 a0_1 l0_2 a0_3 a0_4 a0_5 a0_6 a0_7).bind fun bt878 => ((impl_EndOfRun.f k bt878.1 bt878.2.1 bt878.2.2.1 bt878.2.2.2.1 bt878.2.2.2.2.1 bt878.2.2.2.2.2.1 bt878.2.2.2.2.2.2.1 bt878.2.2.2.2.2.2.2).bind fun bt889 => (if bt889.1 = bt876.1 then (laws_FnExactEndOfRun.j0 k (bt889.2 != bt876.2) a0_0 a0_1 l0_2 a0_3 a0_4 a0_5 a0_6 a0_7 bt878.1 bt878.2.1 bt878.2.2.1 bt878.2.2.2.1 bt878.2.2.2.2.1 bt878.2.2.2.2.2.1 bt878.2.2.2.2.2.2.1 bt878.2.2.2.2.2.2.2) else (laws_FnExactEndOfRun.j0 k true a0_0 a0_1 l0_2 a0_3 a0_4 a0_5 a0_6 a0_7 bt878.1 bt878.2.1 bt878.2.2.1 bt878.2.2.2.1 bt878.2.2.2.2.1 bt878.2.2.2.2.2.1 bt878.2.2.2.2.2.2.1 bt878.2.2.2.2.2.2.2)))))))
theorem laws_FnExactEndOfRun.bad_j0 (k : Nat) (y1 : Int) (y2 : Int) (y3 : List (S93)) (y4 : Int) (y5 : Int) (y6 : Int) (y7 : Int) (y8 : Int) (y9 : Int) (y10 : Int) (y11 : List (S88)) (y12 : Int) (y13 : Int) (y14 : Int) (y15 : Int) (y16 : Int) : ¬ laws_FnExactEndOfRun.j0 k true y1 y2 y3 y4 y5 y6 y7 y8 y9 y10 y11 y12 y13 y14 y15 y16 = some true := by
 cases k <;> simp [laws_FnExactEndOfRun.j0]
set_option maxHeartbeats 8000000 in
set_option maxRecDepth 100000 in
theorem laws_FnExactEndOfRun.calls (k : Nat) (a0_0 : Int) (a0_1 : Int) (A0_2 : Option Addr) (c0_2 : Nat) (l0_2 : List (S93)) (a0_3 : Int) (a0_4 : Int) (a0_5 : Int) (a0_6 : Int) (a0_7 : Int) (w : World) (hr0_2 : Kd.C k93 w A0_2 l0_2.length l0_2) (hc0_2 : l0_2.length ≤ c0_2) (h : laws_FnExactEndOfRun.f k a0_0 a0_1 l0_2 a0_3 a0_4 a0_5 a0_6 a0_7 = some true) :
 Calls Try.prog 6 #[.agg #[.int .i64 a0_0, .int .i64 a0_1, .slice A0_2 l0_2.length c0_2, .int .i64 a0_3, .int .i64 a0_4, .int .i64 a0_5, .int .i64 a0_6, .int .i64 a0_7]] w fun e w' => e = .returned (.bool true) ∧ Below w.heap.size w w' := by
 have CG := Try.underlying26
 have CH := Try.underlying32
 have An := Z.m hr0_2
 have Al := Z.m hc0_2
 clear hr0_2 hc0_2
 have HB := Z.m (Below.refl w.heap.size w)
 have H : ((laws_szMachine.f a0_0 a0_1 l0_2 a0_3 a0_4 a0_5 a0_6 a0_7 1048576).bind fun Ar => (if Ar < 0 then (some true) else ((laws_toMachine.f k a0_0 a0_1 l0_2 a0_3 a0_4 a0_5 a0_6 a0_7).bind fun bt866 => ((spec_EndOfRun.f k bt866.1 bt866.2.1 bt866.2.2.1 bt866.2.2.2.1 bt866.2.2.2.2.1 bt866.2.2.2.2.2.1 bt866.2.2.2.2.2.2.1 bt866.2.2.2.2.2.2.2).bind fun bt876 => ((laws_toMachine.f k a0_0 a0_1 l0_2 a0_3 a0_4 a0_5 a0_6 a0_7).bind fun bt878 => ((impl_EndOfRun.f k bt878.1 bt878.2.1 bt878.2.2.1 bt878.2.2.2.1 bt878.2.2.2.2.1 bt878.2.2.2.2.2.1 bt878.2.2.2.2.2.2.1 bt878.2.2.2.2.2.2.2).bind fun bt889 => (if bt889.1 = bt876.1 then (laws_FnExactEndOfRun.j0 k (bt889.2 != bt876.2) a0_0 a0_1 l0_2 a0_3 a0_4 a0_5 a0_6 a0_7 bt878.1 bt878.2.1 bt878.2.2.1 bt878.2.2.2.1 bt878.2.2.2.2.1 bt878.2.2.2.2.2.1 bt878.2.2.2.2.2.2.1 bt878.2.2.2.2.2.2.2) else (laws_FnExactEndOfRun.j0 k true a0_0 a0_1 l0_2 a0_3 a0_4 a0_5 a0_6 a0_7 bt878.1 bt878.2.1 bt878.2.2.1 bt878.2.2.2.1 bt878.2.2.2.2.1 bt878.2.2.2.2.2.1 bt878.2.2.2.2.2.2.1 bt878.2.2.2.2.2.2.2)))))))) = some true := h
 clear h
 replace H := Option.bind_eq_some_iff.mp H
 obtain ⟨Ar, Cu, H⟩ := H
 replace H : (if Ar < 0 then (some true) else ((laws_toMachine.f k a0_0 a0_1 l0_2 a0_3 a0_4 a0_5 a0_6 a0_7).bind fun bt866 => ((spec_EndOfRun.f k bt866.1 bt866.2.1 bt866.2.2.1 bt866.2.2.2.1 bt866.2.2.2.2.1 bt866.2.2.2.2.2.1 bt866.2.2.2.2.2.2.1 bt866.2.2.2.2.2.2.2).bind fun bt876 => ((laws_toMachine.f k a0_0 a0_1 l0_2 a0_3 a0_4 a0_5 a0_6 a0_7).bind fun bt878 => ((impl_EndOfRun.f k bt878.1 bt878.2.1 bt878.2.2.1 bt878.2.2.2.1 bt878.2.2.2.2.1 bt878.2.2.2.2.2.1 bt878.2.2.2.2.2.2.1 bt878.2.2.2.2.2.2.2).bind fun bt889 => (if bt889.1 = bt876.1 then (laws_FnExactEndOfRun.j0 k (bt889.2 != bt876.2) a0_0 a0_1 l0_2 a0_3 a0_4 a0_5 a0_6 a0_7 bt878.1 bt878.2.1 bt878.2.2.1 bt878.2.2.2.1 bt878.2.2.2.2.1 bt878.2.2.2.2.2.1 bt878.2.2.2.2.2.2.1 bt878.2.2.2.2.2.2.2) else (laws_FnExactEndOfRun.j0 k true a0_0 a0_1 l0_2 a0_3 a0_4 a0_5 a0_6 a0_7 bt878.1 bt878.2.1 bt878.2.2.1 bt878.2.2.2.1 bt878.2.2.2.2.1 bt878.2.2.2.2.2.1 bt878.2.2.2.2.2.2.1 bt878.2.2.2.2.2.2.2))))))) = some true := H
 have A2 := Z.m Cu
 clear Cu
 by_cases c3 : Ar < 0
 ·rw [if_pos c3] at H
  have C4 := decide_eq_true c3
  clear c3
  clear H
  go_enter Try.func6, Try.ntmps6
  go_wp2_with (first | ((with_reducible refine gq (N := 1) rfl ?_); refine be (N := 1) (cs := #[.int .i64 a0_0, .int .i64 a0_1, .slice A0_2 l0_2.length c0_2, .int .i64 a0_3, .int .i64 a0_4, .int .i64 a0_5, .int .i64 a0_6, .int .i64 a0_7]) (t := 26) ?_; intro A6 hg w4 hbox hb; have A0 := Z.m (hbox); have At := gW (w := w) HB hg; have C2 := At; replace HB := bB HB hb; clear hb hbox hg; have Cd := bc0 A0; have Ce := bc1 A0; have Cf := bc2 A0; have Cg := bc3 A0; have Ch := bc4 A0; have Ci := bc5 A0; have Cj := bc6 A0; have Cl := bc7 A0; have Cm := qz A0.o 0; have Cn := qz A0.o 1; have Co := qz A0.o 2; have Cp := qz A0.o 3; have Cq := qz A0.o 4; have Cr := qz A0.o 5; have Cs := qz A0.o 6; have Ct := qz A0.o 7) | ((with_reducible refine gc (f := 10) rfl ?_); refine gA (some 11) _ #[.agg #[.int .i64 a0_0, .int .i64 a0_1, .slice A0_2 l0_2.length c0_2, .int .i64 a0_3, .int .i64 a0_4, .int .i64 a0_5, .int .i64 a0_6, .int .i64 a0_7], .int .i64 1048576] ?_ Try.func10; (with_reducible refine (laws_szMachine.calls a0_0 a0_1 _ _ l0_2 a0_3 a0_4 a0_5 a0_6 a0_7 1048576 Ar _ ?side1 ?side2 A2.o).mono ?_); (case side1 => repeat (first | exact (Kd.C_below An.o HB.o) | (with_reducible refine Kd.C_alloc ?_ _) | (with_reducible refine Kd.C_drewN ?_ _) | (with_reducible refine Kd.C_drew ?_))); (case side2 => exact Al.o); rintro e w6 ⟨rfl, hb⟩; refine ⟨_, rfl, ?_⟩; replace A0 := kB A0 hb; replace HB := bB HB hb; (try clear hb); (try clear C7); (try clear hk); (try clear hi)))
  go_ret
  exact ⟨by first | rfl | (simp [eN, eS] <;> rfl) | (simp [*, eN, eS] <;> rfl), vB HB⟩
 ·rw [if_neg c3] at H
  have C4 := decide_eq_false c3
  clear c3
  replace H := Option.bind_eq_some_iff.mp H
  obtain ⟨⟨BF, BG, Au, BH, BI, BJ, BK, BL⟩, Cv, H⟩ := H
  replace H : ((spec_EndOfRun.f k BF BG Au BH BI BJ BK BL).bind fun bt876 => ((laws_toMachine.f k a0_0 a0_1 l0_2 a0_3 a0_4 a0_5 a0_6 a0_7).bind fun bt878 => ((impl_EndOfRun.f k bt878.1 bt878.2.1 bt878.2.2.1 bt878.2.2.2.1 bt878.2.2.2.2.1 bt878.2.2.2.2.2.1 bt878.2.2.2.2.2.2.1 bt878.2.2.2.2.2.2.2).bind fun bt889 => (if bt889.1 = bt876.1 then (laws_FnExactEndOfRun.j0 k (bt889.2 != bt876.2) a0_0 a0_1 l0_2 a0_3 a0_4 a0_5 a0_6 a0_7 bt878.1 bt878.2.1 bt878.2.2.1 bt878.2.2.2.1 bt878.2.2.2.2.1 bt878.2.2.2.2.2.1 bt878.2.2.2.2.2.2.1 bt878.2.2.2.2.2.2.2) else (laws_FnExactEndOfRun.j0 k true a0_0 a0_1 l0_2 a0_3 a0_4 a0_5 a0_6 a0_7 bt878.1 bt878.2.1 bt878.2.2.1 bt878.2.2.2.1 bt878.2.2.2.2.1 bt878.2.2.2.2.2.1 bt878.2.2.2.2.2.2.1 bt878.2.2.2.2.2.2.2))))) = some true := H
  have A7 := Z.m Cv
  clear Cv
  replace H := Option.bind_eq_some_iff.mp H
  obtain ⟨⟨Av, Aw⟩, Cw, H⟩ := H
  replace H : ((laws_toMachine.f k a0_0 a0_1 l0_2 a0_3 a0_4 a0_5 a0_6 a0_7).bind fun bt878 => ((impl_EndOfRun.f k bt878.1 bt878.2.1 bt878.2.2.1 bt878.2.2.2.1 bt878.2.2.2.2.1 bt878.2.2.2.2.2.1 bt878.2.2.2.2.2.2.1 bt878.2.2.2.2.2.2.2).bind fun bt889 => (if bt889.1 = Av then (laws_FnExactEndOfRun.j0 k (bt889.2 != Aw) a0_0 a0_1 l0_2 a0_3 a0_4 a0_5 a0_6 a0_7 bt878.1 bt878.2.1 bt878.2.2.1 bt878.2.2.2.1 bt878.2.2.2.2.1 bt878.2.2.2.2.2.1 bt878.2.2.2.2.2.2.1 bt878.2.2.2.2.2.2.2) else (laws_FnExactEndOfRun.j0 k true a0_0 a0_1 l0_2 a0_3 a0_4 a0_5 a0_6 a0_7 bt878.1 bt878.2.1 bt878.2.2.1 bt878.2.2.2.1 bt878.2.2.2.2.1 bt878.2.2.2.2.2.1 bt878.2.2.2.2.2.2.1 bt878.2.2.2.2.2.2.2)))) = some true := H
  have A8 := Z.m Cw
  clear Cw
  replace H := Option.bind_eq_some_iff.mp H
  obtain ⟨⟨Aa, Ab, A4, Ac, Ad, Ae, Af, Ag⟩, Cx, H⟩ := H
  replace H : ((impl_EndOfRun.f k Aa Ab A4 Ac Ad Ae Af Ag).bind fun bt889 => (if bt889.1 = Av then (laws_FnExactEndOfRun.j0 k (bt889.2 != Aw) a0_0 a0_1 l0_2 a0_3 a0_4 a0_5 a0_6 a0_7 Aa Ab A4 Ac Ad Ae Af Ag) else (laws_FnExactEndOfRun.j0 k true a0_0 a0_1 l0_2 a0_3 a0_4 a0_5 a0_6 a0_7 Aa Ab A4 Ac Ad Ae Af Ag))) = some true := H
  have A9 := Z.m Cx
  clear Cx
  replace H := Option.bind_eq_some_iff.mp H
  obtain ⟨⟨BW, BX⟩, BY, H⟩ := H
  replace H : (if BW = Av then (laws_FnExactEndOfRun.j0 k (BX != Aw) a0_0 a0_1 l0_2 a0_3 a0_4 a0_5 a0_6 a0_7 Aa Ab A4 Ac Ad Ae Af Ag) else (laws_FnExactEndOfRun.j0 k true a0_0 a0_1 l0_2 a0_3 a0_4 a0_5 a0_6 a0_7 Aa Ab A4 Ac Ad Ae Af Ag)) = some true := H
  have CC := Z.m BY
  clear BY
  have BV := Z.m H
  clear H
  go_enter Try.func6, Try.ntmps6
  go_upto_region 8 with (first | ((with_reducible refine gq (N := 1) rfl ?_); refine be (N := 1) (cs := #[.int .i64 a0_0, .int .i64 a0_1, .slice A0_2 l0_2.length c0_2, .int .i64 a0_3, .int .i64 a0_4, .int .i64 a0_5, .int .i64 a0_6, .int .i64 a0_7]) (t := 26) ?_; intro A6 hg CL hbox hb; have A0 := Z.m (hbox); have At := gW (w := w) HB hg; have C2 := At; replace HB := bB HB hb; clear hb hbox hg; have Ay := bc0 A0; have Az := bc1 A0; have AA := bc2 A0; have AB := bc3 A0; have AC := bc4 A0; have AD := bc5 A0; have AE := bc6 A0; have AF := bc7 A0; have B8 := qz A0.o 0; have Ba := qz A0.o 1; have Bb := qz A0.o 2; have Bc := qz A0.o 3; have Bd := qz A0.o 4; have Be := qz A0.o 5; have Bf := qz A0.o 6; have Bg := qz A0.o 7) | ((with_reducible refine gc (f := 10) rfl ?_); refine gA (some 11) _ #[.agg #[.int .i64 a0_0, .int .i64 a0_1, .slice A0_2 l0_2.length c0_2, .int .i64 a0_3, .int .i64 a0_4, .int .i64 a0_5, .int .i64 a0_6, .int .i64 a0_7], .int .i64 1048576] ?_ Try.func10; (with_reducible refine (laws_szMachine.calls a0_0 a0_1 _ _ l0_2 a0_3 a0_4 a0_5 a0_6 a0_7 1048576 Ar _ ?side1 ?side2 A2.o).mono ?_); (case side1 => repeat (first | exact (Kd.C_below An.o HB.o) | (with_reducible refine Kd.C_alloc ?_ _) | (with_reducible refine Kd.C_drewN ?_ _) | (with_reducible refine Kd.C_drew ?_))); (case side2 => exact Al.o); rintro e CM ⟨rfl, hb⟩; refine ⟨_, rfl, ?_⟩; replace A0 := kB A0 hb; replace HB := bB HB hb; (try clear hb); (try clear C7); (try clear hk); (try clear hi); have AG := bc0 A0; have AH := bc1 A0; have AI := bc2 A0; have AJ := bc3 A0; have AK := bc4 A0; have AL := bc5 A0; have AM := bc6 A0; have AN := bc7 A0; have Bh := qz A0.o 0; have Bi := qz A0.o 1; have Bj := qz A0.o 2; have Bk := qz A0.o 3; have Bl := qz A0.o 4; have Bm := qz A0.o 5; have Bn := qz A0.o 6; have Bo := qz A0.o 7) | ((with_reducible refine gc (f := 12) rfl ?_); refine gA (some 16) _ #[.agg #[.int .i64 a0_0, .int .i64 a0_1, .slice A0_2 l0_2.length c0_2, .int .i64 a0_3, .int .i64 a0_4, .int .i64 a0_5, .int .i64 a0_6, .int .i64 a0_7]] ?_ Try.func12; (with_reducible refine (laws_toMachine.calls k a0_0 a0_1 _ _ l0_2 a0_3 a0_4 a0_5 a0_6 a0_7 BF BG Au BH BI BJ BK BL _ ?side1 ?side2 A7.o).mono ?_); (case side1 => repeat (first | exact (Kd.C_below An.o HB.o) | (with_reducible refine Kd.C_alloc ?_ _) | (with_reducible refine Kd.C_drewN ?_ _) | (with_reducible refine Kd.C_drew ?_))); (case side2 => exact Al.o); rintro e CN ⟨CI, rfl, Ax, hb⟩; refine ⟨_, rfl, ?_⟩; have A5 := Z.m (Kd.R_lower Ax (below_size (vB HB))); replace A0 := kB A0 hb; replace HB := bB HB hb; (try clear hb); (try clear C7); (try clear hk); (try clear hi); (try clear Ax); obtain ⟨C1, C5, Ca⟩ := Kd.R_slice A5.o; subst Ca) | ((with_reducible refine gc (f := 24) rfl ?_); refine gA (some 17) _ #[.agg #[.int .i64 BF, .int .i64 BG, .slice C1 Au.length C5, .int .i64 BH, .int .i64 BI, .int .i64 BJ, .int .i64 BK, .int .i64 BL]] ?_ Try.func24; (with_reducible refine (spec_EndOfRun.calls k BF BG _ _ Au BH BI BJ BK BL Av Aw _ ?side1 ?side2 A8.o).mono ?_); (case side1 => repeat (first | exact (Kd.RrZ A5.o).2.2 | (with_reducible refine Kd.C_alloc ?_ _) | (with_reducible refine Kd.C_drewN ?_ _) | (with_reducible refine Kd.C_drew ?_))); (case side2 => exact (Kd.RrZ A5.o).2.1); rintro e CO ⟨rfl, hb⟩; refine ⟨_, rfl, ?_⟩; replace A5 := Z.m (Kd.Rb (vR A5) hb); replace A0 := kB A0 hb; replace HB := bB HB hb; (try clear hb); (try clear C7); (try clear hk); (try clear hi); have AO := bc0 A0; have AP := bc1 A0; have AQ := bc2 A0; have AR := bc3 A0; have AS := bc4 A0; have AT := bc5 A0; have AU := bc6 A0; have AV := bc7 A0; have Bp := qz A0.o 0; have Bq := qz A0.o 1; have Br := qz A0.o 2; have Bs := qz A0.o 3; have Bt := qz A0.o 4; have Bu := qz A0.o 5; have Bv := qz A0.o 6; have Bw := qz A0.o 7) | ((with_reducible refine gc (f := 12) rfl ?_); refine gA (some 21) _ #[.agg #[.int .i64 a0_0, .int .i64 a0_1, .slice A0_2 l0_2.length c0_2, .int .i64 a0_3, .int .i64 a0_4, .int .i64 a0_5, .int .i64 a0_6, .int .i64 a0_7]] ?_ Try.func12; (with_reducible refine (laws_toMachine.calls k a0_0 a0_1 _ _ l0_2 a0_3 a0_4 a0_5 a0_6 a0_7 Aa Ab A4 Ac Ad Ae Af Ag _ ?side1 ?side2 A9.o).mono ?_); (case side1 => repeat (first | exact (Kd.C_below An.o HB.o) | (with_reducible refine Kd.C_alloc ?_ _) | (with_reducible refine Kd.C_drewN ?_ _) | (with_reducible refine Kd.C_drew ?_))); (case side2 => exact Al.o); rintro e CP ⟨CJ, rfl, Ax, hb⟩; refine ⟨_, rfl, ?_⟩; have Ai := Z.m (Kd.R_lower (Kd.R_new' Ax (Kd.R_lt (vR A5))) (below_size (vB HB))); replace A5 := Z.m (Kd.R_elder' (vR A5) (Kd.R_base Ax) hb); replace A0 := kB A0 hb; replace HB := bB HB hb; (try clear hb); (try clear C7); (try clear hk); (try clear hi); (try clear Ax)) | ((with_reducible refine gq (N := 6) rfl ?_); refine be (N := 6) (cs := #[.int .i64 0, .int .i64 0, .slice none 0 0, .int .i64 0, .int .i64 0, .int .i64 0, .int .i64 0, .int .i64 0]) (t := 32) ?_; intro Ah hg CQ hbox hb; have A1 := Z.m (hbox); have C3 := gW (w := w) HB hg; have Cy := C3; have Aj := neL A0 hg; have Aq := neG A0 hg; replace A5 := Z.m (Kd.Rb (vR A5) hb); replace Ai := Z.m (Kd.Rb (vR Ai) hb); replace A0 := kB A0 hb; replace HB := bB HB hb; clear hb hbox hg; have CA := Aq.o; have CB := Aj.o; have AW := bc0 A1; have AX := bc1 A1; have AY := bc2 A1; have AZ := bc3 A1; have B0 := bc4 A1; have B2 := bc5 A1; have B3 := bc6 A1; have B7 := bc7 A1; have Bx := qz A1.o 0; have By := qz A1.o 1; have Bz := qz A1.o 2; have BA := qz A1.o 3; have BB := qz A1.o 4; have BC := qz A1.o 5; have BD := qz A1.o 6; have BE := qz A1.o 7; obtain ⟨Ap, Ao, Cb⟩ := Kd.R_slice Ai.o; subst Cb) | ((with_reducible refine gc (f := 25) rfl ?_); refine gA (some 24) _ #[.agg #[.int .i64 Aa, .int .i64 Ab, .slice Ap A4.length Ao, .int .i64 Ac, .int .i64 Ad, .int .i64 Ae, .int .i64 Af, .int .i64 Ag]] ?_ Try.func25; (with_reducible refine (impl_EndOfRun.calls k Aa Ab _ _ A4 Ac Ad Ae Af Ag BW BX _ ?side1 ?side2 CC.o).mono ?_); (case side1 => refine (Kd.RrZ (e := 88) (base := w.heap.size) (ok := fun k_ => (True ∧ some k_ ≠ (.slice C1 Au.length C5 : Value).ownBlock)) (n := A4.length) (c := Ao) ?_).2.2; exact (by refine rK ?_; exact (Kd.Rm (rf (rf (rf (rf (rf (rf (rf (rf (Kd.Ry Ai.o A1.o (by decide)))))))))) (fun _ h_ => h_.1)))); (case side2 => exact (Kd.RrZ Ai.o).2.1); rintro e CR ⟨rfl, hb⟩; refine ⟨_, rfl, ?_⟩; replace A5 := Z.m (Kd.Rb (by refine rK ?_; exact (Kd.Rm (rf (rf (rf (rf (rf (rf (rf (rf (Kd.Ry A5.o A1.o (by decide)))))))))) (fun _ h_ => h_.1))) hb); replace Ai := Z.m (Kd.Rb (by refine rK ?_; exact (Kd.Rm (rf (rf (rf (rf (rf (rf (rf (rf (Kd.Ry Ai.o A1.o (by decide)))))))))) (fun _ h_ => h_.1))) hb); replace A0 := Z.m (qb (g := A6) (o := .cells #[.int .i64 a0_0, .int .i64 a0_1, .slice A0_2 l0_2.length c0_2, .int .i64 a0_3, .int .i64 a0_4, .int .i64 a0_5, .int .i64 a0_6, .int .i64 a0_7] 26 (0, 0)) (by refine bK ?_; (iterate 8 refine qF ?_ Aj); exact A0.o) hb); replace A1 := Z.m (qb (g := Ah) (o := .cells #[.int .i64 Aa, .int .i64 Ab, .slice Ap A4.length Ao, .int .i64 Ac, .int .i64 Ad, .int .i64 Ae, .int .i64 Af, .int .i64 Ag] 32 (0, 0)) (by refine bK ?_; apply st8; refine bK ?_; exact A1.o) hb); replace HB := bB HB hb; (try clear hb); (try clear C7); (try clear hk); (try clear hi)))
  (try simp only [Act.put, q1, q2, q3])
  go_cut [34] (fun v34 wc => ∃ (kq : Nat) (Ak : Bool), v34 = .bool Ak ∧ Z (laws_FnExactEndOfRun.j0 kq Ak a0_0 a0_1 l0_2 a0_3 a0_4 a0_5 a0_6 a0_7 Aa Ab A4 Ac Ad Ae Af Ag = some true) ∧ Z (kq ≤ k) ∧ Z (Kd.R k88 88 wc w.heap.size (fun _ => True) (.slice Ap A4.length Ao) A4) ∧ Z (wc.heap[A6]? = some (.cells #[.int .i64 a0_0, .int .i64 a0_1, (.slice A0_2 l0_2.length c0_2), .int .i64 a0_3, .int .i64 a0_4, .int .i64 a0_5, .int .i64 a0_6, .int .i64 a0_7] 26 (0, 0))) ∧ Z (wc.heap[Ah]? = some (.cells #[.int .i64 Aa, .int .i64 Ab, (.slice Ap A4.length Ao), .int .i64 Ac, .int .i64 Ad, .int .i64 Ae, .int .i64 Af, .int .i64 Ag] 32 (0, 0))) ∧ Z (Below w.heap.size w wc))
  case first =>
   have H := BV.o
   clear BV
   by_cases c26 : BW = Av
   ·rw [if_pos c26] at H
    have BU := beq_iff_eq.mpr c26
    have Cz := bne_eq_false_iff_eq.mpr c26
    clear c26
    (first | rw [BU] | (simp only [i64_w, i32_w]; rw [BU]) | skip)
    have H' := Z.m H
    clear H
    go_wp2
    go_meet
    case rel => exact ⟨_, ((BX != Aw)), (by first | rfl | (simp; done) | (simp [*]; done)), H', ⟨by first | omega | exact Nat.le_refl _⟩, ⟨by refine rK ?_; exact Kd.Rm Ai.o (fun _ hk => trivial)⟩, ⟨vK A0⟩, ⟨vK A1⟩, ⟨vB HB⟩⟩
   ·(rw [if_neg c26] at H; exact absurd H (laws_FnExactEndOfRun.bad_j0 _ _ _ _ _ _ _ _ _ _ _ _ _ _ _ _ _))
  case rest =>
   clear BV
   (try clear C4)
   (try clear Ay); (try clear Az); (try clear AA); (try clear AB); (try clear AC); (try clear AD); (try clear AE); (try clear AF)
   (try clear AG); (try clear AH); (try clear AI); (try clear AJ); (try clear AK); (try clear AL); (try clear AM); (try clear AN)
   (try clear AO); (try clear AP); (try clear AQ); (try clear AR); (try clear AS); (try clear AT); (try clear AU); (try clear AV)
   (try clear AW); (try clear AX); (try clear AY); (try clear AZ); (try clear B0); (try clear B2); (try clear B3); (try clear B7)
   (try clear B8); (try clear Ba); (try clear Bb); (try clear Bc); (try clear Bd); (try clear Be); (try clear Bf); (try clear Bg)
   (try clear Bh); (try clear Bi); (try clear Bj); (try clear Bk); (try clear Bl); (try clear Bm); (try clear Bn); (try clear Bo)
   (try clear Bp); (try clear Bq); (try clear Br); (try clear Bs); (try clear Bt); (try clear Bu); (try clear Bv); (try clear Bw)
   (try clear Bx); (try clear By); (try clear Bz); (try clear BA); (try clear BB); (try clear BC); (try clear BD); (try clear BE)
   obtain ⟨kq, Ak, rfl, HA, CF, A3, A0, A1, HB⟩ := hcut
   cases kq with
   | zero => exact absurd HA.o (by simp [laws_FnExactEndOfRun.j0])
   | succ kj10 =>
    have H := HA.o
    clear HA
    simp only [laws_FnExactEndOfRun.j0] at H
    by_cases c27 : Ak = true
    ·(rw [if_pos c27] at H; exact absurd H (by decide))
    ·replace c27 := Bool.eq_false_iff.mpr c27
     subst c27
     have H1 : ((laws_toMachine.f kj10 a0_0 a0_1 l0_2 a0_3 a0_4 a0_5 a0_6 a0_7).bind fun bt891 => ((laws_eqMachine.f kj10 Aa Ab A4 Ac Ad Ae Af Ag bt891.1 bt891.2.1 bt891.2.2.1 bt891.2.2.2.1 bt891.2.2.2.2.1 bt891.2.2.2.2.2.1 bt891.2.2.2.2.2.2.1 bt891.2.2.2.2.2.2.2).bind fun As => (if As = true then (some true) else (some false)))) = some true := by rw [if_neg (show ¬ (false = true) by decide)] at H; exact H
     clear H
     have H := H1
     clear H1
     replace H := Option.bind_eq_some_iff.mp H
     obtain ⟨⟨BM, BN, BO, BP, BQ, BR, BS, BT⟩, BZ, H⟩ := H
     replace H : ((laws_eqMachine.f kj10 Aa Ab A4 Ac Ad Ae Af Ag BM BN BO BP BQ BR BS BT).bind fun As => (if As = true then (some true) else (some false))) = some true := H
     have CD := Z.m BZ
     clear BZ
     replace H := Option.bind_eq_some_iff.mp H
     obtain ⟨As, C0, H⟩ := H
     replace H : (if As = true then (some true) else (some false)) = some true := H
     have CE := Z.m C0
     clear C0
     by_cases c30 : As = true
     ·subst c30
      have H1 : (some true) = some true := rfl
      clear H
      have H := H1
      clear H1
      clear H
      try go_wp2
      replace A3 := Z.m (Kd.R_drew A3.o)
      replace A0 := Z.m (blk_drew A0.o)
      replace A1 := Z.m (blk_drew A1.o)
      replace HB := Z.m (qd HB.o)
      refine start_ (n := 5) (S := fun w' => w'.cell? ⟨Ah, 0, none⟩ = some (.int .i64 Aa) ∧ w'.cell? ⟨Ah, 1, none⟩ = some (.int .i64 Ab) ∧ w'.cell? ⟨Ah, 2, none⟩ = some (.slice Ap A4.length Ao) ∧ w'.cell? ⟨Ah, 3, none⟩ = some (.int .i64 Ac) ∧ w'.cell? ⟨Ah, 4, none⟩ = some (.int .i64 Ad) ∧ w'.cell? ⟨Ah, 5, none⟩ = some (.int .i64 Ae) ∧ w'.cell? ⟨Ah, 6, none⟩ = some (.int .i64 Af) ∧ w'.cell? ⟨Ah, 7, none⟩ = some (.int .i64 Ag) ∧ w'.cell? ⟨A6, 0, none⟩ = some (.int .i64 a0_0) ∧ w'.cell? ⟨A6, 1, none⟩ = some (.int .i64 a0_1) ∧ w'.cell? ⟨A6, 2, none⟩ = some (.slice A0_2 l0_2.length c0_2) ∧ w'.cell? ⟨A6, 3, none⟩ = some (.int .i64 a0_3) ∧ w'.cell? ⟨A6, 4, none⟩ = some (.int .i64 a0_4) ∧ w'.cell? ⟨A6, 5, none⟩ = some (.int .i64 a0_5) ∧ w'.cell? ⟨A6, 6, none⟩ = some (.int .i64 a0_6) ∧ w'.cell? ⟨A6, 7, none⟩ = some (.int .i64 a0_7)) (ds := []) #[false, false, false, false, false] (by kernel_rfl) rfl rfl ⟨(ql A1.o 0).trans rfl, (ql A1.o 1).trans rfl, (ql A1.o 2).trans rfl, (ql A1.o 3).trans rfl, (ql A1.o 4).trans rfl, (ql A1.o 5).trans rfl, (ql A1.o 6).trans rfl, (ql A1.o 7).trans rfl, (ql A0.o 0).trans rfl, (ql A0.o 1).trans rfl, (ql A0.o 2).trans rfl, (ql A0.o 3).trans rfl, (ql A0.o 4).trans rfl, (ql A0.o 5).trans rfl, (ql A0.o 6).trans rfl, (ql A0.o 7).trans rfl⟩ (fun hHeld => ?_)
      generalize wc.drew = CS at A3 A0 A1 HB hHeld ⊢
      refine take_ (i := 0) (N := some 35) (v := ?_) (a' := ?_) #[true, false, false, false, false] rfl rfl (by kernel_rfl) (fun _ _ _ h => h) (Or.inl ⟨by rfl, ?_⟩) hHeld ?_ ?_
      rotate_left
      ·rintro w' ⟨s0, s1, s2, s3, s4, s5, s6, s7, s8, s9, s10, s11, s12, s13, s14, s15⟩
       go_simp
       with_reducible rfl
      rotate_left
      ·simp only [Act.put, q1, q2, q3, i64_w, i32_w]
       rfl
      refine take_ (i := 1) (N := some 36) (v := ?_) (a' := ?_) #[true, true, false, false, false] rfl rfl (by kernel_rfl) (fun _ _ _ h => h) (Or.inl ⟨by rfl, ?_⟩) hHeld ?_ ?_
      rotate_left
      ·rintro w' ⟨s0, s1, s2, s3, s4, s5, s6, s7, s8, s9, s10, s11, s12, s13, s14, s15⟩
       go_simp
       with_reducible rfl
      rotate_left
      ·simp only [Act.put, q1, q2, q3, i64_w, i32_w]
       rfl
      refine one_ (i := 2) (N := some 37) #[true, true, true, false, false] rfl rfl (by kernel_rfl) (by decide) (fun K hK => ?_)
      refine goes_ Try.func12 (by kernel_rfl) rfl #[.agg #[.int .i64 a0_0, .int .i64 a0_1, .slice A0_2 l0_2.length c0_2, .int .i64 a0_3, .int .i64 a0_4, .int .i64 a0_5, .int .i64 a0_6, .int .i64 a0_7]] (by rfl) rfl rfl (by (try simp only [List.map_toArray, List.map_cons, List.map_nil]); first | done | rfl | (simp only [List.length_drop, List.length_take]; rfl)) ?_
      with_reducible refine (laws_toMachine.calls kj10 a0_0 a0_1 _ _ l0_2 a0_3 a0_4 a0_5 a0_6 a0_7 BM BN BO BP BQ BR BS BT _ ?side1 ?side2 CD.o).mono ?_
      (case side1 => repeat (first | exact (Kd.C_below An.o HB.o) | (with_reducible refine Kd.C_alloc ?_ _) | (with_reducible refine Kd.C_drewN ?_ _) | (with_reducible refine Kd.C_drew ?_)))
      (case side2 => exact Al.o)
      rintro e CT ⟨CK, rfl, Ax, hb⟩
      refine ⟨_, rfl, ?_⟩
      have Am := Z.m (Kd.R_lower (Kd.R_new' Ax (Kd.R_lt (vR A3))) (below_size (vB HB)))
      replace A3 := Z.m (Kd.R_elder' (vR A3) (Kd.R_base Ax) hb)
      replace A0 := kB A0 hb
      replace A1 := kB A1 hb
      replace HB := bB HB hb
      (try clear hb); (try clear Ax)
      obtain ⟨C8, C9, C6⟩ := Kd.R_slice Am.o
      (first | subst C6 | (injection C6 with f1_ f2_ f3_; have f4_ := f1_.symm; have f5_ := f3_.symm; clear f1_ f2_ f3_; subst f4_; subst f5_))
      refine hK.out _ _ ⟨(ql A1.o 0).trans rfl, (ql A1.o 1).trans rfl, (ql A1.o 2).trans rfl, (ql A1.o 3).trans rfl, (ql A1.o 4).trans rfl, (ql A1.o 5).trans rfl, (ql A1.o 6).trans rfl, (ql A1.o 7).trans rfl, (ql A0.o 0).trans rfl, (ql A0.o 1).trans rfl, (ql A0.o 2).trans rfl, (ql A0.o 3).trans rfl, (ql A0.o 4).trans rfl, (ql A0.o 5).trans rfl, (ql A0.o 6).trans rfl, (ql A0.o 7).trans rfl⟩ (fun hHeld => ?_)
      clear hK K
      refine norm_ (a' := ?_) ?_ ?_
      rotate_left
      ·show Act.put _ (some 37) _ = _
       simp only [Act.put, q1, q2, q3, i64_w, i32_w]
       rfl
      refine one_ (i := 3) (N := some 38) #[true, true, true, true, false] rfl rfl (by kernel_rfl) (by decide) (fun K hK => ?_)
      refine goes_ Try.func14 (by kernel_rfl) rfl #[.agg #[.int .i64 Aa, .int .i64 Ab, .slice Ap A4.length Ao, .int .i64 Ac, .int .i64 Ad, .int .i64 Ae, .int .i64 Af, .int .i64 Ag], .agg #[.int .i64 BM, .int .i64 BN, .slice C8 BO.length C9, .int .i64 BP, .int .i64 BQ, .int .i64 BR, .int .i64 BS, .int .i64 BT]] (by rfl) rfl rfl (by (try simp only [List.map_toArray, List.map_cons, List.map_nil]); first | done | rfl | (simp only [List.length_drop, List.length_take]; rfl)) ?_
      with_reducible refine (laws_eqMachine.calls kj10 Aa Ab _ _ A4 Ac Ad Ae Af Ag BM BN _ _ BO BP BQ BR BS BT true _ ?side1 ?side2 ?side3 ?side4 CE.o).mono ?_
      (case side1 => repeat (first | exact (Kd.RrZ A3.o).2.2 | (with_reducible refine Kd.C_alloc ?_ _) | (with_reducible refine Kd.C_drewN ?_ _) | (with_reducible refine Kd.C_drew ?_)))
      (case side2 => exact (Kd.RrZ A3.o).2.1)
      (case side3 => repeat (first | exact (Kd.RrZ Am.o).2.2 | (with_reducible refine Kd.C_alloc ?_ _) | (with_reducible refine Kd.C_drewN ?_ _) | (with_reducible refine Kd.C_drew ?_)))
      (case side4 => exact (Kd.RrZ Am.o).2.1)
      rintro e CU ⟨rfl, hb⟩
      refine ⟨_, rfl, ?_⟩
      replace A3 := Z.m (Kd.Rb (vR A3) hb)
      replace Am := Z.m (Kd.Rb (vR Am) hb)
      replace A0 := kB A0 hb
      replace A1 := kB A1 hb
      replace HB := bB HB hb
      (try clear hb)
      refine hK.out _ _ ⟨(ql A1.o 0).trans rfl, (ql A1.o 1).trans rfl, (ql A1.o 2).trans rfl, (ql A1.o 3).trans rfl, (ql A1.o 4).trans rfl, (ql A1.o 5).trans rfl, (ql A1.o 6).trans rfl, (ql A1.o 7).trans rfl, (ql A0.o 0).trans rfl, (ql A0.o 1).trans rfl, (ql A0.o 2).trans rfl, (ql A0.o 3).trans rfl, (ql A0.o 4).trans rfl, (ql A0.o 5).trans rfl, (ql A0.o 6).trans rfl, (ql A0.o 7).trans rfl⟩ (fun hHeld => ?_)
      clear hK K
      refine norm_ (a' := ?_) ?_ ?_
      rotate_left
      ·show Act.put _ (some 38) _ = _
       simp only [Act.put, q1, q2, q3, i64_w, i32_w]
       rfl
      refine pure_ (i := 4) (N := some 39) (v := ?_) (a' := ?_) #[true, true, true, true, true] rfl rfl (by kernel_rfl) (fun _ _ _ h => h) (Or.inl ⟨by rfl, ?_⟩) ?_ ?_
      rotate_left
      ·intro w'
       go_simp
       with_reducible rfl
      rotate_left
      ·simp only [Act.put, q1, q2, q3, i64_w, i32_w]
       rfl
      refine done_ (by kernel_rfl) ?_
      try go_wp2
      go_ret
      exact ⟨by first | rfl | (simp [eN, eS] <;> rfl) | (simp [*, eN, eS] <;> rfl), vB HB⟩
     ·(rw [if_neg c30] at H; exact absurd H (by decide))

end Go.Proofs.Ytjkiolpepchpdaa.PAll
