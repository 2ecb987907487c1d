/- Began as a text that print.sh wrote (of the functions named below); turned and shortened by this session. -/
import Derived.Test.YtjkiolpepchpdaaG0
import Derived.Test.YtjkiolpepchpdaaG1
import Derived.Test.YtjkiolpepchpdaaG9
import Derived.Test.YtjkiolpepchpdaaG12
import Derived.Test.YtjkiolpepchpdaaG19
namespace Go.Proofs.Ytjkiolpepchpdaa.PAll
open Go.RowKit Go.Proofs.YtjkiolpepchpdaaW.PrintWords Go.Proofs.YtjkiolpepchpdaaW.PrintLast Go.Proofs.YtjkiolpepchpdaaW.PrintMore
attribute [local go_sem] max2_int min2_int max_two min_two max_three min_three max_four min_four   -- for this text's walks alone
set_option linter.unusedVariables false
set_option linter.unusedSimpArgs false

/-! ### spec_ReleasedColours: function 19 -/
def spec_ReleasedColours.f (k : Nat) (a0_0 : Int) (a0_1 : Int) (l0_2 : List (S88)) (a0_3 : Int) (a0_4 : Int) (a0_5 : Int) (a0_6 : Int) (a0_7 : Int) : Option (List Int × Bool) := (spec_maGood.f k a0_0 a0_1 l0_2 a0_3 a0_4 a0_5 a0_6 a0_7).bind fun t718 => (if t718 = true then ((spec_maRun.f k a0_0 a0_1 l0_2 a0_3 a0_4 a0_5 a0_6 a0_7 60).bind fun bt719 => (some (bt719.2.2.2.2.2.2.2.2.1, true))) else (some (([] : List Int), false)))
set_option maxHeartbeats 8000000 in
set_option maxRecDepth 100000 in
theorem spec_ReleasedColours.calls (k : Nat) (a0_0 : Int) (a0_1 : Int) (A0_2 : Option Addr) (c0_2 : Nat) (l0_2 : List (S88)) (a0_3 : Int) (a0_4 : Int) (a0_5 : Int) (a0_6 : Int) (a0_7 : Int) (r1 : List Int) (r2 : Bool) (w : World) (hr0_2 : Kd.C k88 w A0_2 l0_2.length l0_2) (hc0_2 : l0_2.length ≤ c0_2) (h : spec_ReleasedColours.f k a0_0 a0_1 l0_2 a0_3 a0_4 a0_5 a0_6 a0_7 = some (r1, r2)) :
 Calls Try.prog 19 #[.agg #[.int .i64 a0_0, .int .i64 a0_1, .slice A0_2 l0_2.length c0_2, .int .i64 a0_3, .int .i64 a0_4, .int .i64 a0_5, .int .i64 a0_6, .int .i64 a0_7]] w fun e w' => ∃ v0_ : Value, e = .returned (.tuple #[v0_, .bool r2]) ∧ Kd.R (Kd.int .i64) 3 w' w.heap.size (fun _ => True) v0_ r1 ∧ Below w.heap.size w w' := by
 have BK := Try.underlying32
 have Aa := Z.m hr0_2
 have A7 := Z.m hc0_2
 clear hr0_2 hc0_2
 have HB := Z.m (Below.refl w.heap.size w)
 have H : ((spec_maGood.f k a0_0 a0_1 l0_2 a0_3 a0_4 a0_5 a0_6 a0_7).bind fun Ab => (if Ab = true then ((spec_maRun.f k a0_0 a0_1 l0_2 a0_3 a0_4 a0_5 a0_6 a0_7 60).bind fun bt719 => (some (bt719.2.2.2.2.2.2.2.2.1, true))) else (some (([] : List Int), false)))) = some (r1, r2) := h
 clear h
 replace H := Option.bind_eq_some_iff.mp H
 obtain ⟨Ab, By, H⟩ := H
 replace H : (if Ab = true then ((spec_maRun.f k a0_0 a0_1 l0_2 a0_3 a0_4 a0_5 a0_6 a0_7 60).bind fun bt719 => (some (bt719.2.2.2.2.2.2.2.2.1, true))) else (some (([] : List Int), false))) = some (r1, r2) := H
 have A2 := Z.m By
 clear By
 by_cases c3 : Ab = true
 ·subst c3
  have H1 : ((spec_maRun.f k a0_0 a0_1 l0_2 a0_3 a0_4 a0_5 a0_6 a0_7 60).bind fun bt719 => (some (bt719.2.2.2.2.2.2.2.2.1, true))) = some (r1, r2) := by rw [if_pos rfl] at H; exact H
  clear H
  have H := H1
  clear H1
  replace H := Option.bind_eq_some_iff.mp H
  obtain ⟨⟨Bp, Bq, Br, Bs, Bt, Bu, Bv, Bw, Ag, Bx⟩, Bz, H⟩ := H
  replace H : (some (Ag, true)) = some (r1, r2) := H
  have A4 := Z.m Bz
  clear Bz
  simp only [Option.some.injEq, Prod.mk.injEq] at H
  obtain ⟨rfl, rfl⟩ := H
  go_enter Try.func19, Try.ntmps19
  go_wp2_with (first | ((with_reducible refine gq (N := 1) rfl ?_); refine be (N := 1) (cs := #[.int .i64 a0_0, .int .i64 a0_1, .slice A0_2 l0_2.length c0_2, .int .i64 a0_3, .int .i64 a0_4, .int .i64 a0_5, .int .i64 a0_6, .int .i64 a0_7]) (t := 32) ?_; intro Af hg w5 hbox hb; have A0 := Z.m (hbox); have A6 := gW (w := w) HB hg; have Ad := A6; replace HB := bB HB hb; clear hb hbox hg; have AO := bc0 A0; have AP := bc1 A0; have AQ := bc2 A0; have AR := bc3 A0; have AS := bc4 A0; have AT := bc5 A0; have AU := bc6 A0; have AV := bc7 A0; have B8 := qz A0.o 0; have Ba := qz A0.o 1; have Bb := qz A0.o 2; have Bc := qz A0.o 3; have Bd := qz A0.o 4; have Be := qz A0.o 5; have Bf := qz A0.o 6; have Bg := qz A0.o 7) | ((with_reducible refine gc (f := 34) rfl ?_); refine gA (some 8) _ #[.agg #[.int .i64 a0_0, .int .i64 a0_1, .slice A0_2 l0_2.length c0_2, .int .i64 a0_3, .int .i64 a0_4, .int .i64 a0_5, .int .i64 a0_6, .int .i64 a0_7]] ?_ Try.func34; (with_reducible refine (spec_maGood.calls k a0_0 a0_1 _ _ l0_2 a0_3 a0_4 a0_5 a0_6 a0_7 true _ ?side1 ?side2 A2.o).mono ?_); (case side1 => repeat (first | exact (Kd.C_below Aa.o HB.o) | (with_reducible refine Kd.C_alloc ?_ _) | (with_reducible refine Kd.C_drewN ?_ _) | (with_reducible refine Kd.C_drew ?_))); (case side2 => exact A7.o); rintro e w7 ⟨rfl, hb⟩; refine ⟨_, rfl, ?_⟩; replace A0 := kB A0 hb; replace HB := bB HB hb; (try clear hb); (try clear BC); (try clear hk); (try clear hi); have AW := bc0 A0; have AX := bc1 A0; have AY := bc2 A0; have AZ := bc3 A0; have B0 := bc4 A0; have B2 := bc5 A0; have B3 := bc6 A0; have B7 := bc7 A0; have Bh := qz A0.o 0; have Bi := qz A0.o 1; have Bj := qz A0.o 2; have Bk := qz A0.o 3; have Bl := qz A0.o 4; have Bm := qz A0.o 5; have Bn := qz A0.o 6; have Bo := qz A0.o 7) | ((with_reducible refine gc (f := 36) rfl ?_); refine gA (some 12) _ #[.agg #[.int .i64 a0_0, .int .i64 a0_1, .slice A0_2 l0_2.length c0_2, .int .i64 a0_3, .int .i64 a0_4, .int .i64 a0_5, .int .i64 a0_6, .int .i64 a0_7], .int .i64 60] ?_ Try.func36; (with_reducible refine (spec_maRun.calls k a0_0 a0_1 _ _ l0_2 a0_3 a0_4 a0_5 a0_6 a0_7 60 Bp Bq Br Bs Bt Bu Bv Bw Ag Bx _ ?side1 ?side2 A4.o).mono ?_); (case side1 => repeat (first | exact (Kd.C_below Aa.o HB.o) | (with_reducible refine Kd.C_alloc ?_ _) | (with_reducible refine Kd.C_drewN ?_ _) | (with_reducible refine Kd.C_drew ?_))); (case side2 => exact A7.o); rintro e w9 ⟨BL, BM, BN, rfl, BF, BG, BH, hb⟩; refine ⟨_, rfl, ?_⟩; have A8 := Z.m (Kd.R_lower BF (below_size (vB HB))); have A9 := Z.m (Kd.R_lower BG (below_size (vB HB))); have Ac := Z.m (Kd.R_lower BH (below_size (vB HB))); replace A0 := kB A0 hb; replace HB := bB HB hb; (try clear hb); (try clear BC); (try clear hk); (try clear hi); (try clear BF); (try clear BG); (try clear BH)) | ((with_reducible refine gq (N := 4) rfl ?_); refine be (N := 4) (cs := #[.int .i64 0, .int .i64 0, .slice none 0 0, .int .i64 0, .int .i64 0, .int .i64 0, .int .i64 0, .int .i64 0]) (t := 32) ?_; intro BB hg BO hbox hb; have A1 := Z.m (hbox); have Ae := gW (w := w) HB hg; have BA := Ae; have A3 := neL A0 hg; have A5 := neG A0 hg; replace A8 := Z.m (Kd.Rb (vR A8) hb); replace A9 := Z.m (Kd.Rb (vR A9) hb); replace Ac := Z.m (Kd.Rb (vR Ac) hb); replace A0 := kB A0 hb; replace HB := bB HB hb; clear hb hbox hg; have BD := A5.o; have BE := A3.o; have Ah := bc0 A1; have Ai := bc1 A1; have Aj := bc2 A1; have Ak := bc3 A1; have Al := bc4 A1; have Am := bc5 A1; have An := bc6 A1; have Ao := bc7 A1; have Ax := qz A1.o 0; have Ay := qz A1.o 1; have Az := qz A1.o 2; have AA := qz A1.o 3; have AB := qz A1.o 4; have AC := qz A1.o 5; have AD := qz A1.o 6; have AE := qz A1.o 7; obtain ⟨BI, BJ, AN⟩ := Kd.R_slice A8.o; subst AN))
  go_ret2
  exact ⟨_, by first | rfl | (simp [eN, eS] <;> rfl) | (simp [*, eN, eS] <;> rfl), by refine rK ?_; exact Kd.Rm (rf (rf (rf (rf (rf (rf (rf (rf (Kd.Ry A9.o A1.o (by decide)))))))))) (fun _ hk => trivial), vB HB⟩
 ·replace c3 := Bool.eq_false_iff.mpr c3
  subst c3
  have H1 : (some (([] : List Int), false)) = some (r1, r2) := by rw [if_neg (show ¬ (false = true) by decide)] at H; exact H
  clear H
  have H := H1
  clear H1
  simp only [Option.some.injEq, Prod.mk.injEq] at H
  obtain ⟨rfl, rfl⟩ := H
  go_enter Try.func19, Try.ntmps19
  go_wp2_with (first | ((with_reducible refine gq (N := 1) rfl ?_); refine be (N := 1) (cs := #[.int .i64 a0_0, .int .i64 a0_1, .slice A0_2 l0_2.length c0_2, .int .i64 a0_3, .int .i64 a0_4, .int .i64 a0_5, .int .i64 a0_6, .int .i64 a0_7]) (t := 32) ?_; intro Af hg BP hbox hb; have A0 := Z.m (hbox); have A6 := gW (w := w) HB hg; have Ad := A6; replace HB := bB HB hb; clear hb hbox hg; have Ap := bc0 A0; have Aq := bc1 A0; have Ar := bc2 A0; have As := bc3 A0; have At := bc4 A0; have Au := bc5 A0; have Av := bc6 A0; have Aw := bc7 A0; have AF := qz A0.o 0; have AG := qz A0.o 1; have AH := qz A0.o 2; have AI := qz A0.o 3; have AJ := qz A0.o 4; have AK := qz A0.o 5; have AL := qz A0.o 6; have AM := qz A0.o 7) | ((with_reducible refine gc (f := 34) rfl ?_); refine gA (some 8) _ #[.agg #[.int .i64 a0_0, .int .i64 a0_1, .slice A0_2 l0_2.length c0_2, .int .i64 a0_3, .int .i64 a0_4, .int .i64 a0_5, .int .i64 a0_6, .int .i64 a0_7]] ?_ Try.func34; (with_reducible refine (spec_maGood.calls k a0_0 a0_1 _ _ l0_2 a0_3 a0_4 a0_5 a0_6 a0_7 false _ ?side1 ?side2 A2.o).mono ?_); (case side1 => repeat (first | exact (Kd.C_below Aa.o HB.o) | (with_reducible refine Kd.C_alloc ?_ _) | (with_reducible refine Kd.C_drewN ?_ _) | (with_reducible refine Kd.C_drew ?_))); (case side2 => exact A7.o); rintro e BQ ⟨rfl, hb⟩; refine ⟨_, rfl, ?_⟩; replace A0 := kB A0 hb; replace HB := bB HB hb; (try clear hb); (try clear BC); (try clear hk); (try clear hi)))
  go_ret2
  exact ⟨_, by first | rfl | (simp [eN, eS] <;> rfl) | (simp [*, eN, eS] <;> rfl), by first | exact Kd.R_nil _ _ _ _ _ | exact Kd.N_nil _ _ _ _ _ | exact Kd.V_nil _ _ _ _ _ | exact Kd.Q_nil _ _ _ _ _ | exact Kd.S_nil _ _ _ _ _, vB HB⟩

/-! ### impl_ReleasedColours: function 20 -/
def impl_ReleasedColours.l0 : Nat → List Int → List (S69) → Int → Int → Option (List Int × Bool)
 | 0, _, _, _, _ => none
 | k + 1, x6, x18, x19, x20 => if x20 < x19 then (if 0 ≤ x20 then (if x20 < (x18.length : Int) then (if x6.length < 17592186044416 then (impl_ReleasedColours.l0 k (x6 ++ [(rd_T69 x18 x20).f0]) x18 x19 (wrap64 (x20 + 1))) else (none)) else (none)) else (none)) else (some (x6, true))
def impl_ReleasedColours.f (k : Nat) (a0_0 : Int) (a0_1 : Int) (l0_2 : List (S88)) (a0_3 : Int) (a0_4 : Int) (a0_5 : Int) (a0_6 : Int) (a0_7 : Int) : Option (List Int × Bool) := (impl_IsMachine.f k a0_0 a0_1 l0_2 a0_3 a0_4 a0_5 a0_6 a0_7).bind fun t737 => (if t737 = true then ((impl_runSteps.f k a0_0 a0_1 l0_2 a0_3 a0_4 a0_5 a0_6 a0_7 60).bind fun bt738 => (impl_ReleasedColours.l0 k (([] : List Int)) bt738.2.2.2.2.2.2.2.2 (bt738.2.2.2.2.2.2.2.2.length : Int) 0)) else (some (([] : List Int), false)))
set_option maxHeartbeats 8000000 in
set_option maxRecDepth 100000 in
theorem impl_ReleasedColours.calls (k : Nat) (a0_0 : Int) (a0_1 : Int) (A0_2 : Option Addr) (c0_2 : Nat) (l0_2 : List (S88)) (a0_3 : Int) (a0_4 : Int) (a0_5 : Int) (a0_6 : Int) (a0_7 : Int) (r1 : List Int) (r2 : Bool) (w : World) (hr0_2 : Kd.C k88 w A0_2 l0_2.length l0_2) (hc0_2 : l0_2.length ≤ c0_2) (h : impl_ReleasedColours.f k a0_0 a0_1 l0_2 a0_3 a0_4 a0_5 a0_6 a0_7 = some (r1, r2)) :
 Calls Try.prog 20 #[.agg #[.int .i64 a0_0, .int .i64 a0_1, .slice A0_2 l0_2.length c0_2, .int .i64 a0_3, .int .i64 a0_4, .int .i64 a0_5, .int .i64 a0_6, .int .i64 a0_7]] w fun e w' => ∃ v0_ : Value, e = .returned (.tuple #[v0_, .bool r2]) ∧ Kd.R (Kd.int .i64) 3 w' w.heap.size (fun _ => True) v0_ r1 ∧ Below w.heap.size w w' := by
 have Cu := Try.underlying32
 have Cv := Try.underlying69
 have Ap := Z.m hr0_2
 have Ao := Z.m hc0_2
 clear hr0_2 hc0_2
 have HB := Z.m (Below.refl w.heap.size w)
 have H : ((impl_IsMachine.f k a0_0 a0_1 l0_2 a0_3 a0_4 a0_5 a0_6 a0_7).bind fun AL => (if AL = true then ((impl_runSteps.f k a0_0 a0_1 l0_2 a0_3 a0_4 a0_5 a0_6 a0_7 60).bind fun bt738 => (impl_ReleasedColours.l0 k (([] : List Int)) bt738.2.2.2.2.2.2.2.2 (bt738.2.2.2.2.2.2.2.2.length : Int) 0)) else (some (([] : List Int), false)))) = some (r1, r2) := h
 clear h
 replace H := Option.bind_eq_some_iff.mp H
 obtain ⟨AL, Cb, H⟩ := H
 replace H : (if AL = true then ((impl_runSteps.f k a0_0 a0_1 l0_2 a0_3 a0_4 a0_5 a0_6 a0_7 60).bind fun bt738 => (impl_ReleasedColours.l0 k (([] : List Int)) bt738.2.2.2.2.2.2.2.2 (bt738.2.2.2.2.2.2.2.2.length : Int) 0)) else (some (([] : List Int), false))) = some (r1, r2) := H
 have A2 := Z.m Cb
 clear Cb
 by_cases c3 : AL = true
 ·subst c3
  have H1 : ((impl_runSteps.f k a0_0 a0_1 l0_2 a0_3 a0_4 a0_5 a0_6 a0_7 60).bind fun bt738 => (impl_ReleasedColours.l0 k (([] : List Int)) bt738.2.2.2.2.2.2.2.2 (bt738.2.2.2.2.2.2.2.2.length : Int) 0)) = some (r1, r2) := by rw [if_pos rfl] at H; exact H
  clear H
  have H := H1
  clear H1
  replace H := Option.bind_eq_some_iff.mp H
  obtain ⟨⟨AM, AN, Al, AO, AP, AQ, AR, AS, A5⟩, Cd, H⟩ := H
  replace H : (impl_ReleasedColours.l0 k (([] : List Int)) A5 (A5.length : Int) 0) = some (r1, r2) := H
  have A4 := Z.m Cd
  clear Cd
  obtain ⟨BD, Af⟩ : ∃ y_ : List Int, y_ = (([] : List Int)) := ⟨_, rfl⟩
  replace H : (impl_ReleasedColours.l0 k BD A5 (A5.length : Int) 0) = some (r1, r2) := by first | (rw [Af]; with_reducible exact H) | (have H2_ := (Option.bind_some _ _).symm.trans H; rw [Af]; with_reducible exact H2_) | (have H2_ := (Option.bind_some _ _).symm.trans H; with_reducible exact H2_) | with_reducible exact H | (rw [Af]; exact H) | exact H
  have AT := Z.m Af
  clear Af
  have H' := Z.m H
  clear H
  go_enter Try.func20, Try.ntmps20
  go_wp2_with (first | ((with_reducible refine gq (N := 1) rfl ?_); refine be (N := 1) (cs := #[.int .i64 a0_0, .int .i64 a0_1, .slice A0_2 l0_2.length c0_2, .int .i64 a0_3, .int .i64 a0_4, .int .i64 a0_5, .int .i64 a0_6, .int .i64 a0_7]) (t := 32) ?_; intro Ah hg w5 hbox hb; have A0 := Z.m (hbox); have An := gW (w := w) HB hg; have Bv := An; replace HB := bB HB hb; clear hb hbox hg; have AU := bc0 A0; have AV := bc1 A0; have AW := bc2 A0; have AX := bc3 A0; have AY := bc4 A0; have AZ := bc5 A0; have B0 := bc6 A0; have B2 := bc7 A0; have Bf := qz A0.o 0; have Bg := qz A0.o 1; have Bh := qz A0.o 2; have Bi := qz A0.o 3; have Bj := qz A0.o 4; have Bk := qz A0.o 5; have Bl := qz A0.o 6; have Bm := qz A0.o 7) | ((with_reducible refine gc (f := 38) rfl ?_); refine gA (some 10) _ #[.agg #[.int .i64 a0_0, .int .i64 a0_1, .slice A0_2 l0_2.length c0_2, .int .i64 a0_3, .int .i64 a0_4, .int .i64 a0_5, .int .i64 a0_6, .int .i64 a0_7]] ?_ Try.func38; (with_reducible refine (impl_IsMachine.calls k a0_0 a0_1 _ _ l0_2 a0_3 a0_4 a0_5 a0_6 a0_7 true _ ?side1 ?side2 A2.o).mono ?_); (case side1 => repeat (first | exact (Kd.C_below Ap.o HB.o) | (with_reducible refine Kd.C_alloc ?_ _) | (with_reducible refine Kd.C_drewN ?_ _) | (with_reducible refine Kd.C_drew ?_))); (case side2 => exact Ao.o); rintro e w7 ⟨rfl, hb⟩; refine ⟨_, rfl, ?_⟩; replace A0 := kB A0 hb; replace HB := bB HB hb; (try clear hb); (try clear Cl); (try clear hk); (try clear hi); have B3 := bc0 A0; have B7 := bc1 A0; have B8 := bc2 A0; have Ba := bc3 A0; have Bb := bc4 A0; have Bc := bc5 A0; have Bd := bc6 A0; have Be := bc7 A0; have Bn := qz A0.o 0; have Bo := qz A0.o 1; have Bp := qz A0.o 2; have Bq := qz A0.o 3; have Br := qz A0.o 4; have Bs := qz A0.o 5; have Bt := qz A0.o 6; have Bu := qz A0.o 7) | ((with_reducible refine gc (f := 39) rfl ?_); refine gA (some 14) _ #[.agg #[.int .i64 a0_0, .int .i64 a0_1, .slice A0_2 l0_2.length c0_2, .int .i64 a0_3, .int .i64 a0_4, .int .i64 a0_5, .int .i64 a0_6, .int .i64 a0_7], .int .i64 60] ?_ Try.func39; (with_reducible refine (impl_runSteps.calls k a0_0 a0_1 _ _ l0_2 a0_3 a0_4 a0_5 a0_6 a0_7 60 AM AN Al AO AP AQ AR AS A5 _ ?side1 ?side2 A4.o).mono ?_); (case side1 => repeat (first | exact (Kd.C_below Ap.o HB.o) | (with_reducible refine Kd.C_alloc ?_ _) | (with_reducible refine Kd.C_drewN ?_ _) | (with_reducible refine Kd.C_drew ?_))); (case side2 => exact Ao.o); rintro e w9 ⟨Cw, Cx, rfl, Cs, Ct, hb⟩; refine ⟨_, rfl, ?_⟩; have A9 := Z.m (Kd.R_lower Cs (below_size (vB HB))); have Aa := Z.m (Kd.R_lower Ct (below_size (vB HB))); replace A0 := kB A0 hb; replace HB := bB HB hb; (try clear hb); (try clear Cl); (try clear hk); (try clear hi); (try clear Cs); (try clear Ct)) | ((with_reducible refine gq (N := 4) rfl ?_); refine be (N := 4) (cs := #[.int .i64 0, .int .i64 0, .slice none 0 0, .int .i64 0, .int .i64 0, .int .i64 0, .int .i64 0, .int .i64 0]) (t := 32) ?_; intro Aq hg CA hbox hb; have A1 := Z.m (hbox); have Bw := gW (w := w) HB hg; have Ce := Bw; have Ac := neL A0 hg; have Ai := neG A0 hg; replace A9 := Z.m (Kd.Rb (vR A9) hb); replace Aa := Z.m (Kd.Rb (vR Aa) hb); replace A0 := kB A0 hb; replace HB := bB HB hb; clear hb hbox hg; have Cm := Ai.o; have Cp := Ac.o; have Av := bc0 A1; have Aw := bc1 A1; have Ax := bc2 A1; have Ay := bc3 A1; have Az := bc4 A1; have AA := bc5 A1; have AB := bc6 A1; have AC := bc7 A1; have AD := qz A1.o 0; have AE := qz A1.o 1; have AF := qz A1.o 2; have AG := qz A1.o 3; have AH := qz A1.o 4; have AI := qz A1.o 5; have AJ := qz A1.o 6; have AK := qz A1.o 7; obtain ⟨At, Au, C9⟩ := Kd.R_slice A9.o; subst C9) | ((with_reducible refine gq (N := 17) rfl ?_); refine Kd.R_lit (Kd.int .i64) _ 3 ?hg (N := 17) ?hd (xs := ([] : List Int)) (inner := []) (ok := fun _ => True) (okp := fun _ => True) ?hr ?hp (fun _ hk => hk) trivial (Below.refl _ _) (Nat.le_refl _) (by simp) ?_; (case hd => rfl); (case hg => rfl); (case hr => first | (go_simp; done) | (go_simp; rfl)); (case hp => exact (Reps.none _ _)); intro Cy CB As hb hg_ hnew_; clear hg_ hnew_; (first | rw [← AT.o] at As | (simp only [Int.reduceToNat] at As; rw [← AT.o] at As)); have By := Z.m (Kd.R_lower As (below_size (vB HB))); replace A9 := Z.m (Kd.Rb (by refine rK ?_; exact (Kd.Rm (rf (rf (rf (rf (rf (rf (rf (rf (Kd.Ry A9.o A1.o (by decide)))))))))) (fun _ h_ => h_.1))) hb); replace Aa := Z.m (Kd.Rb (by refine rK ?_; exact (Kd.Rm (rf (rf (rf (rf (rf (rf (rf (rf (Kd.Ry Aa.o A1.o (by decide)))))))))) (fun _ h_ => h_.1))) hb); replace A0 := Z.m (qb (g := Ah) (o := .cells #[.int .i64 a0_0, .int .i64 a0_1, .slice A0_2 l0_2.length c0_2, .int .i64 a0_3, .int .i64 a0_4, .int .i64 a0_5, .int .i64 a0_6, .int .i64 a0_7] 32 (0, 0)) (by refine bK ?_; (iterate 8 refine qF ?_ Ac); exact A0.o) hb); replace A1 := Z.m (qb (g := Aq) (o := .cells #[.int .i64 AM, .int .i64 AN, .slice At Al.length Au, .int .i64 AO, .int .i64 AP, .int .i64 AQ, .int .i64 AR, .int .i64 AS] 32 (0, 0)) (by refine bK ?_; apply st8; refine bK ?_; exact A1.o) hb); replace HB := bB HB hb; clear hb As; obtain ⟨C7, C8, Ca⟩ := Kd.R_slice Aa.o; subst Ca))
  go_loopg [6, 20] k (fun kq v6 v20 w' => ∃ (Am : List Int) (A3 : Int), v20 = .int .i64 A3 ∧ Z (impl_ReleasedColours.l0 kq Am A5 (A5.length : Int) A3 = some (r1, r2)) ∧ Z (kq ≤ k) ∧ Z (Kd.R (Kd.int .i64) 3 w' w.heap.size (fun _ => True) v6 Am) ∧ Z (Kd.R k69 69 w' w.heap.size (fun _ => True) (.slice C7 A5.length C8) A5) ∧ Z (Kd.R k88 88 w' w.heap.size (fun _ => True) (.slice At Al.length Au) Al) ∧ Z (w'.heap[Ah]? = some (.cells #[.int .i64 a0_0, .int .i64 a0_1, (.slice A0_2 l0_2.length c0_2), .int .i64 a0_3, .int .i64 a0_4, .int .i64 a0_5, .int .i64 a0_6, .int .i64 a0_7] 32 (0, 0))) ∧ Z (w'.heap[Aq]? = some (.cells #[.int .i64 AM, .int .i64 AN, (.slice At Al.length Au), .int .i64 AO, .int .i64 AP, .int .i64 AQ, .int .i64 AR, .int .i64 AS] 32 (0, 0))) ∧ Z (Below w.heap.size w w'))
  case atStart => exact ⟨(BD), (0), (by first | rfl | (simp; done) | (simp [*]; done)), H', ⟨Nat.le_refl _⟩, ⟨vR By⟩, ⟨vR Aa⟩, ⟨vR A9⟩, ⟨vK A0⟩, ⟨vK A1⟩, ⟨vB HB⟩⟩
  case round =>
   clear H'
   (try clear c3)
   (try clear Av); (try clear Aw); (try clear Ax); (try clear Ay); (try clear Az); (try clear AA); (try clear AB); (try clear AC)
   (try clear AU); (try clear AV); (try clear AW); (try clear AX); (try clear AY); (try clear AZ); (try clear B0); (try clear B2)
   (try clear B3); (try clear B7); (try clear B8); (try clear Ba); (try clear Bb); (try clear Bc); (try clear Bd); (try clear Be)
   (try clear AD); (try clear AE); (try clear AF); (try clear AG); (try clear AH); (try clear AI); (try clear AJ); (try clear AK)
   (try clear Bf); (try clear Bg); (try clear Bh); (try clear Bi); (try clear Bj); (try clear Bk); (try clear Bl); (try clear Bm)
   (try clear Bn); (try clear Bo); (try clear Bp); (try clear Bq); (try clear Br); (try clear Bs); (try clear Bt); (try clear Bu)
   obtain ⟨Am, A3, rfl, HA, Cg, A8, Ab, A7, A0, A1, HB⟩ := hrel
   cases gk with
   | zero => exact absurd HA.o (by simp [impl_ReleasedColours.l0])
   | succ k1 =>
    have H := HA.o
    clear HA
    simp only [impl_ReleasedColours.l0] at H
    by_cases c17 : A3 < (A5.length : Int)
    ·rw [if_pos c17] at H
     have BC := decide_eq_true c17
     clear c17
     by_cases c18 : 0 ≤ A3
     ·rw [if_pos c18] at H
      have Ci := decide_eq_true c18
      clear c18
      by_cases c19 : A3 < (A5.length : Int)
      ·rw [if_pos c19] at H
       have Cj := decide_eq_true c19
       clear c19
       by_cases c20 : Am.length < 17592186044416
       ·rw [if_pos c20] at H
        have BA := Z.m c20
        clear c20
        obtain ⟨BE, Ag⟩ : ∃ y_ : List Int, y_ = (Am ++ [(rd_T69 A5 A3).f0]) := ⟨_, rfl⟩
        replace H : (impl_ReleasedColours.l0 k1 BE A5 (A5.length : Int) (wrap64 (A3 + 1))) = some (r1, r2) := by first | (rw [Ag]; with_reducible exact H) | (have H2_ := (Option.bind_some _ _).symm.trans H; rw [Ag]; with_reducible exact H2_) | (have H2_ := (Option.bind_some _ _).symm.trans H; with_reducible exact H2_) | with_reducible exact H | (rw [Ag]; exact H) | exact H
        have BB := Z.m Ag
        clear Ag
        have H' := Z.m H
        clear H
        have p755 : 0 ≤ (A3 : Int) := ofD
        have q755 : A3 < (A5.length : Int) := ofD
        obtain ⟨Ch, e755, C3, C4, C5, C6⟩ := at_T69 (Kd.RrZ Ab.o).2.2 A3 p755 q755
        cases e755
        replace p755 := eq_true p755
        replace q755 := eq_true q755
        go_wp2_with (first | ((with_reducible refine gq (N := 8) rfl ?_); refine be (N := 8) (cs := #[.int .i64 0, .int .i64 0, .int .i64 0, .int .i64 0]) (t := 69) ?_; intro Ar hg CC hbox hb; have A6 := Z.m (hbox); have Bx := gW (w := w) HB hg; have Cf := Bx; have Ad := neL A0 hg; have Aj := neG A0 hg; have Ae := neL A1 hg; have Ak := neG A1 hg; replace A8 := Z.m (Kd.Rb (vR A8) hb); replace Ab := Z.m (Kd.Rb (Kd.R_elderB (vR Ab) Ar (Nat.le_of_eq hg.symm)) hb); replace A7 := Z.m (Kd.Rb (vR A7) hb); replace A0 := kB A0 hb; replace A1 := kB A1 hb; replace HB := bB HB hb; clear hb hbox hg; have Cn := Aj.o; have Cq := Ad.o; have Co := Ak.o; have Cr := Ae.o; have BF := bc0 A6; have BG := bc1 A6; have BH := bc2 A6; have BI := bc3 A6; have BR := qz A6.o 0; have BS := qz A6.o 1; have BT := qz A6.o 2; have BU := qz A6.o 3) | ((with_reducible refine gu (b := .append) (xs := #[.tmp 24, .tmp 27]) rfl ?_); at_builtin; refine Kd.R_append (Kd.int .i64) (w0 := w) w.heap.size rfl (.tmp 24) (.tmp 27) 41 3 (.int .i64 0) 8 rfl Try.underlying41 info3 rfl (by decide) (by omega) u6 Am ((rd_T69 A5 A3).f0) [.int .i64 ((rd_T69 A5 A3).f0)] (fun _ => True) (fun _ => False) rfl (by first | (go_simp; done) | (go_simp; rfl)) ?aP (fun _ hk => hk.elim) ?aF ?aO ?aB ?aS ?aL ?_; (case aP => exact rfl); (case aB => exact (vB HB)); (case aF => exact (fun _ _ => trivial)); (case aO => exact (by refine rK ?_; exact Kd.Rm (rf (rf (rf (rf (Kd.Ry A8.o A6.o (by decide)))))) (fun _ hk => trivial))); (case aS => exact (below_size (vB HB))); (case aL => have := BA.o; omega); intro Cz CD ho hb hg hat; rw [← BB.o] at ho; have Bz := Z.m (ho); replace Ab := Z.m (Kd.Ro (by refine rK ?_; exact (Kd.Rm (rf (rf (rf (rf (Kd.Rm Ab.o (fun k_ hk => (⟨hk, hk.2⟩ : _ ∧ k_ ≠ Ar))))))) (fun _ h_ => h_.1))) (Kd.Rt (by refine rK ?_; exact (Kd.Rm (rf (rf (rf (rf (Kd.Ry A8.o A6.o (by decide)))))) (fun _ h_ => h_.1)))) (by decide) hg); replace A7 := Z.m (Kd.Ro (by refine rK ?_; exact (Kd.Rm (rf (rf (rf (rf (Kd.Ry A7.o A6.o (by decide)))))) (fun _ h_ => h_.1))) (Kd.Rt (by refine rK ?_; exact (Kd.Rm (rf (rf (rf (rf (Kd.Ry A8.o A6.o (by decide)))))) (fun _ h_ => h_.1)))) (by decide) hg); replace A0 := Z.m (qg (g := Ah) (o := .cells #[.int .i64 a0_0, .int .i64 a0_1, .slice A0_2 l0_2.length c0_2, .int .i64 a0_3, .int .i64 a0_4, .int .i64 a0_5, .int .i64 a0_6, .int .i64 a0_7] 32 (0, 0)) (by refine bK ?_; (iterate 4 refine qF ?_ Ad); exact A0.o) hg (Kd.R_ne A8.o A0.o (by decide))); replace A1 := Z.m (qg (g := Aq) (o := .cells #[.int .i64 AM, .int .i64 AN, .slice At Al.length Au, .int .i64 AO, .int .i64 AP, .int .i64 AQ, .int .i64 AR, .int .i64 AS] 32 (0, 0)) (by refine bK ?_; (iterate 4 refine qF ?_ Ae); exact A1.o) hg (Kd.R_ne A8.o A1.o (by decide))); replace A6 := Z.m (qg (g := Ar) (o := .cells #[.int .i64 ((rd_T69 A5 A3).f0), .int .i64 ((rd_T69 A5 A3).f1.f0), .int .i64 ((rd_T69 A5 A3).f1.f1), .int .i64 ((rd_T69 A5 A3).f1.f2)] 69 (0, 0)) (by refine bK ?_; refine qp (cs := #[iV ((rd_T69 A5 A3).f0), iV ((rd_T69 A5 A3).f1.f0), iV ((rd_T69 A5 A3).f1.f1), iV 0]) ?_ 3 _ rfl; refine bK ?_; refine qp (cs := #[iV ((rd_T69 A5 A3).f0), iV ((rd_T69 A5 A3).f1.f0), iV 0, iV 0]) ?_ 2 _ rfl; refine bK ?_; refine qp (cs := #[iV ((rd_T69 A5 A3).f0), iV 0, iV 0, iV 0]) ?_ 1 _ rfl; refine bK ?_; refine qp (cs := #[iV 0, iV 0, iV 0, iV 0]) ?_ 0 _ rfl; refine bK ?_; exact A6.o) hg (Kd.R_ne A8.o A6.o (by decide))); replace HB := Z.m (hb); clear A8; clear ho hb hg hat))
        go_roundg k1
        case measure => have := Cg.o; omega
        case rel => exact ⟨(BE), (wrap64 (A3 + 1)), (by first | rfl | (simp; done) | (simp [*]; done)), H', ⟨by have := Cg.o; omega⟩, ⟨vR Bz⟩, ⟨by refine rK ?_; exact Kd.Rm Ab.o (fun _ hk => trivial)⟩, ⟨vR A7⟩, ⟨vK A0⟩, ⟨vK A1⟩, ⟨vB HB⟩⟩
       ·rw [if_neg c20] at H
        exact absurd H (by simp)
      ·rw [if_neg c19] at H
       exact absurd H (by simp)
     ·rw [if_neg c18] at H
      exact absurd H (by simp)
    ·rw [if_neg c17] at H
     have BC := decide_eq_false c17
     clear c17
     simp only [Option.some.injEq, Prod.mk.injEq] at H
     obtain ⟨rfl, rfl⟩ := H
     go_wp2
     go_ret2
     exact ⟨_, by first | rfl | (simp [eN, eS] <;> rfl) | (simp [*, eN, eS] <;> rfl), vR A8, vB HB⟩
 ·replace c3 := Bool.eq_false_iff.mpr c3
  subst c3
  have H1 : (some (([] : List Int), false)) = some (r1, r2) := by rw [if_neg (show ¬ (false = true) by decide)] at H; exact H
  clear H
  have H := H1
  clear H1
  simp only [Option.some.injEq, Prod.mk.injEq] at H
  obtain ⟨rfl, rfl⟩ := H
  go_enter Try.func20, Try.ntmps20
  go_wp2_with (first | ((with_reducible refine gq (N := 1) rfl ?_); refine be (N := 1) (cs := #[.int .i64 a0_0, .int .i64 a0_1, .slice A0_2 l0_2.length c0_2, .int .i64 a0_3, .int .i64 a0_4, .int .i64 a0_5, .int .i64 a0_6, .int .i64 a0_7]) (t := 32) ?_; intro Ah hg CE hbox hb; have A0 := Z.m (hbox); have An := gW (w := w) HB hg; have Bv := An; replace HB := bB HB hb; clear hb hbox hg; have BJ := bc0 A0; have BK := bc1 A0; have BL := bc2 A0; have BM := bc3 A0; have BN := bc4 A0; have BO := bc5 A0; have BP := bc6 A0; have BQ := bc7 A0; have BV := qz A0.o 0; have BW := qz A0.o 1; have BX := qz A0.o 2; have BY := qz A0.o 3; have BZ := qz A0.o 4; have C0 := qz A0.o 5; have C1 := qz A0.o 6; have C2 := qz A0.o 7) | ((with_reducible refine gc (f := 38) rfl ?_); refine gA (some 10) _ #[.agg #[.int .i64 a0_0, .int .i64 a0_1, .slice A0_2 l0_2.length c0_2, .int .i64 a0_3, .int .i64 a0_4, .int .i64 a0_5, .int .i64 a0_6, .int .i64 a0_7]] ?_ Try.func38; (with_reducible refine (impl_IsMachine.calls k a0_0 a0_1 _ _ l0_2 a0_3 a0_4 a0_5 a0_6 a0_7 false _ ?side1 ?side2 A2.o).mono ?_); (case side1 => repeat (first | exact (Kd.C_below Ap.o HB.o) | (with_reducible refine Kd.C_alloc ?_ _) | (with_reducible refine Kd.C_drewN ?_ _) | (with_reducible refine Kd.C_drew ?_))); (case side2 => exact Ao.o); rintro e CF ⟨rfl, hb⟩; refine ⟨_, rfl, ?_⟩; replace A0 := kB A0 hb; replace HB := bB HB hb; (try clear hb); (try clear Cl); (try clear hk); (try clear hi)))
  go_ret2
  exact ⟨_, by first | rfl | (simp [eN, eS] <;> rfl) | (simp [*, eN, eS] <;> rfl), by first | exact Kd.R_nil _ _ _ _ _ | exact Kd.N_nil _ _ _ _ _ | exact Kd.V_nil _ _ _ _ _ | exact Kd.Q_nil _ _ _ _ _ | exact Kd.S_nil _ _ _ _ _, vB HB⟩

/-! ### laws_eqIntS: function 21 -/
def laws_eqIntS.l0 : Nat → List Int → List Int → Int → Option (Bool)
 | 0, _, _, _ => none
 | k + 1, x0, x1, x5 => if x5 < (x0.length : Int) then (if 0 ≤ x5 then (if x5 < (x1.length : Int) then (if (rd x0 x5) = (rd x1 x5) then (laws_eqIntS.l0 k x0 x1 (wrap64 (x5 + 1))) else (some false)) else (none)) else (none)) else (some true)
def laws_eqIntS.f (k : Nat) (l0 : List Int) (l1 : List Int) : Option (Bool) := if (l0.length : Int) = (l1.length : Int) then (laws_eqIntS.l0 k l0 l1 0) else (some false)
set_option maxHeartbeats 8000000 in
set_option maxRecDepth 100000 in
theorem laws_eqIntS.calls (k : Nat) (A0 : Option Addr) (c0 : Nat) (l0 : List Int) (A1 : Option Addr) (c1 : Nat) (l1 : List Int) (r : Bool) (w : World) (hr0 : Kd.C (Kd.int .i64) w A0 l0.length l0) (hc0 : l0.length ≤ c0) (hr1 : Kd.C (Kd.int .i64) w A1 l1.length l1) (hc1 : l1.length ≤ c1) (h : laws_eqIntS.f k l0 l1 = some r) :
 Calls Try.prog 21 #[.slice A0 l0.length c0, .slice A1 l1.length c1] w fun e w' => e = .returned (.bool r) ∧ Drawn0 w w' := by
 have Ae := Z.m hr0
 have Ai := Z.m hc0
 clear hr0 hc0
 have Af := Z.m hr1
 have Aj := Z.m hc1
 clear hr1 hc1
 have H : (if (l0.length : Int) = (l1.length : Int) then (laws_eqIntS.l0 k l0 l1 0) else (some false)) = some r := h
 clear h
 by_cases c3 : (l0.length : Int) = (l1.length : Int)
 ·rw [if_pos c3] at H
  have A7 := beq_iff_eq.mpr c3
  have A8 := bne_eq_false_iff_eq.mpr c3
  have A9 : (l0.length == l1.length) = true := by first | simpa using c3 | (simp at c3 ⊢; omega)
  clear c3
  have H' := Z.m H
  clear H
  go_enter Try.func21, Try.ntmps21
  go_wp2
  repeat (go_quiet (fail); try go_wp2)
  go_loopg [5] k (fun kq v5 w' => ∃ (A2 : Int), v5 = .int .i64 A2 ∧ Z (laws_eqIntS.l0 kq l0 l1 A2 = some r) ∧ Z (kq ≤ k) ∧ Drawn0 w w')
  case atStart => exact ⟨(0), (by first | rfl | (simp; done) | (simp [*]; done)), H', ⟨Nat.le_refl _⟩, by repeat (first | exact Drawn0.refl _ | apply Drawn0.step)⟩
  case round =>
   clear H'
   (try clear A7); (try clear A8); (try clear A9)
   obtain ⟨A2, rfl, HA, Ad, ⟨m1, rfl⟩⟩ := hrel
   cases gk with
   | zero => exact absurd HA.o (by simp [laws_eqIntS.l0])
   | succ k1 =>
    have H := HA.o
    clear HA
    simp only [laws_eqIntS.l0] at H
    by_cases c4 : A2 < (l0.length : Int)
    ·rw [if_pos c4] at H
     have Aa := decide_eq_true c4
     clear c4
     by_cases c5 : 0 ≤ A2
     ·rw [if_pos c5] at H
      have Ag := decide_eq_true c5
      clear c5
      by_cases c6 : A2 < (l1.length : Int)
      ·rw [if_pos c6] at H
       have Ah := decide_eq_true c6
       clear c6
       by_cases c7 : (rd l0 A2) = (rd l1 A2)
       ·rw [if_pos c7] at H
        have Ab := beq_iff_eq.mpr c7
        have Ac := bne_eq_false_iff_eq.mpr c7
        clear c7
        have H' := Z.m H
        clear H
        have p760 : 0 ≤ (A2 : Int) := ofD
        have q760 : A2 < (l0.length : Int) := ofD
        obtain ⟨A5, e760, A3⟩ := Kd.at_int Ae.o A2 p760 q760
        cases e760
        replace p760 := eq_true p760
        replace q760 := eq_true q760
        have p761 : 0 ≤ (A2 : Int) := ofD
        have q761 : A2 < (l1.length : Int) := ofD
        obtain ⟨A6, e761, A4⟩ := Kd.at_int Af.o A2 p761 q761
        cases e761
        replace p761 := eq_true p761
        replace q761 := eq_true q761
        go_wp2
        repeat (go_quiet (fail); try go_wp2)
        go_roundg k1
        case measure => have := Ad.o; omega
        case rel => exact ⟨(wrap64 (A2 + 1)), (by first | rfl | (simp; done) | (simp [*]; done)), H', ⟨by have := Ad.o; omega⟩, by repeat (first | exact Drawn0.refl _ | apply Drawn0.step)⟩
       ·rw [if_neg c7] at H
        have Ab := beq_eq_false_iff_ne.mpr c7
        have Ac := bne_iff_ne.mpr c7
        obtain rfl := Option.some.inj H
        have p760 : 0 ≤ (A2 : Int) := ofD
        have q760 : A2 < (l0.length : Int) := ofD
        obtain ⟨A5, e760, A3⟩ := Kd.at_int Ae.o A2 p760 q760
        cases e760
        replace p760 := eq_true p760
        replace q760 := eq_true q760
        have p761 : 0 ≤ (A2 : Int) := ofD
        have q761 : A2 < (l1.length : Int) := ofD
        obtain ⟨A6, e761, A4⟩ := Kd.at_int Af.o A2 p761 q761
        cases e761
        replace p761 := eq_true p761
        replace q761 := eq_true q761
        go_wp2
        repeat (go_quiet (fail); try go_wp2)
        go_ret
        exact ⟨by first | rfl | (simp; done) | (simp [*]; done), by repeat (first | exact Drawn0.refl _ | apply Drawn0.step)⟩
      ·rw [if_neg c6] at H
       exact absurd H (by simp)
     ·rw [if_neg c5] at H
      exact absurd H (by simp)
    ·rw [if_neg c4] at H
     have Aa := decide_eq_false c4
     clear c4
     obtain rfl := Option.some.inj H
     go_wp2
     repeat (go_quiet (fail); try go_wp2)
     go_ret
     exact ⟨by first | rfl | (simp; done) | (simp [*]; done), by repeat (first | exact Drawn0.refl _ | apply Drawn0.step)⟩
 ·rw [if_neg c3] at H
  have A7 := beq_eq_false_iff_ne.mpr c3
  have A8 := bne_iff_ne.mpr c3
  have A9 : (l0.length == l1.length) = false := by first | simpa using c3 | (simp at c3 ⊢; omega)
  obtain rfl := Option.some.inj H
  go_enter Try.func21, Try.ntmps21
  go_wp2
  repeat (go_quiet (fail); try go_wp2)
  go_ret
  exact ⟨by first | rfl | (simp; done) | (simp [*]; done), by repeat (first | exact Drawn0.refl _ | apply Drawn0.step)⟩

/-! ### laws_markIntS: function 22 -/
def laws_markIntS.l0 : Nat → List Int → Int → Int → Option (Int × List Int)
 | 0, _, _, _ => none
 | k + 1, x0, x1, x5 => if x5 < (x0.length : Int) then (if 0 ≤ x5 then (laws_markIntS.l0 k (x0.set (x5 : Int).toNat x1) (wrap64 (x1 + 1)) (wrap64 (x5 + 1))) else (none)) else (some (x1, x0))
def laws_markIntS.f (k : Nat) (l0 : List Int) (a1 : Int) : Option (Int × List Int) := laws_markIntS.l0 k l0 a1 0
set_option maxHeartbeats 8000000 in
set_option maxRecDepth 100000 in
theorem laws_markIntS.calls (k : Nat) (P0_ : Nat → Prop) (u9000_ : Value) (l0 : List Int) (a1 : Int) (r1 : Int) (r2 : List Int) (w0 w : World) (hB : Below w0.heap.size w0 w) (ho0 : Kd.R (Kd.int .i64) 3 w w0.heap.size P0_ u9000_ l0) (h : laws_markIntS.f k l0 a1 = some (r1, r2)) :
 Calls Try.prog 22 #[u9000_, .int .i64 a1] w fun e w' => e = .returned (.int .i64 r1) ∧ Kd.R (Kd.int .i64) 3 w' w0.heap.size (fun k_ => (P0_ k_ ∨ w.heap.size ≤ k_)) u9000_ r2 ∧ Below w0.heap.size w0 w' ∧ Kept w w' (fun k_ => P0_ k_) := by
 have Ai := Z.m (show Kd.R (Kd.int .i64) 3 w w0.heap.size (fun k_ => (P0_ k_ ∨ w.heap.size ≤ k_)) u9000_ l0 from Kd.Rm ho0 (fun k_ hk => (.inl hk)))
 have HK := Z.m (Kept.refl w (fun k_ => P0_ k_))
 have HW0 := Z.m hB.size
 have HB := Z.m hB
 clear hB
 have H : (laws_markIntS.l0 k l0 a1 0) = some (r1, r2) := h
 clear h
 have H' := Z.m H
 clear H
 go_enter Try.func22, Try.ntmps22
 go_wp2
 go_loopg [1, 5] k (fun kq v1 v5 w' => ∃ (A4 : List Int) (A3 : Int) (A0 : Int), v1 = .int .i64 A3 ∧ v5 = .int .i64 A0 ∧ Z (laws_markIntS.l0 kq A4 A3 A0 = some (r1, r2)) ∧ Z (kq ≤ k) ∧ Z (Kd.R (Kd.int .i64) 3 w' w0.heap.size (fun k_ => (P0_ k_ ∨ w.heap.size ≤ k_)) u9000_ A4) ∧ Z (Kept w w' (fun k_ => P0_ k_)) ∧ Z (Below w0.heap.size w0 w'))
 case atStart => exact ⟨(l0), (a1), (0), (by first | rfl | (simp; done) | (simp [*]; done)), (by first | rfl | (simp; done) | (simp [*]; done)), H', ⟨Nat.le_refl _⟩, ⟨vR Ai⟩, ⟨vT HK⟩, ⟨vB HB⟩⟩
 case round =>
  clear H'
  obtain ⟨A4, A3, A0, rfl, rfl, HA, Ab, A1, HK, HB⟩ := hrel
  cases gk with
  | zero => exact absurd HA.o (by simp [laws_markIntS.l0])
  | succ k1 =>
   have H := HA.o
   clear HA
   simp only [laws_markIntS.l0] at H
   by_cases c3 : A0 < (A4.length : Int)
   ·rw [if_pos c3] at H
    have A9 := decide_eq_true c3
    clear c3
    by_cases c4 : 0 ≤ A0
    ·rw [if_pos c4] at H
     have Aj := decide_eq_true c4
     clear c4
     obtain ⟨A5, A2⟩ : ∃ y_ : List Int, y_ = (A4.set (A0 : Int).toNat A3) := ⟨_, rfl⟩
     replace H : (laws_markIntS.l0 k1 A5 (wrap64 (A3 + 1)) (wrap64 (A0 + 1))) = some (r1, r2) := by first | (rw [A2]; with_reducible exact H) | (have H2_ := (Option.bind_some _ _).symm.trans H; rw [A2]; with_reducible exact H2_) | (have H2_ := (Option.bind_some _ _).symm.trans H; with_reducible exact H2_) | with_reducible exact H | (rw [A2]; exact H) | exact H
     have A6 := Z.m A2
     clear A2
     have H' := Z.m H
     clear H
     obtain ⟨An, Ak, Al⟩ := Kd.R_slice A1.o
     subst Al
     have p5 : 0 ≤ (A0 : Int) := ofD
     have q5 : (A0 : Int) < ((A4.length : Int) : Int) := ofD
     obtain ⟨A7, Aq, Ad, Ae, gl5, cl5, Aa⟩ := Kd.R_form A1.o (by omega)
     (first | cases Ad | (injection Ad with ea_ en_ ec_; (first | subst ea_ | (injection ea_ with ea_; subst ea_)); subst ec_; clear en_))
     have Ah := Z.m Ae
     have Ap := Z.m Aa
     clear Ae gl5 Aa
     have Ac := Z.m (show (P0_ A7 ∨ w.heap.size ≤ A7) from (A1.o.1 _ rfl))
     obtain ⟨Ag, Af⟩ := Kd.R_celln 0 A1.o (A0 : Int) p5 q5
     replace p5 := eq_true p5
     replace q5 := eq_true q5
     have A8 := Kd.R_putg A1.o (A0 : Int) A3
     go_wp2_with (first | ((with_reducible refine gt (t := 3) (p := 15) rfl ?_); refine store_event (t := 3) (p := 15) (v := ?vo_w8) (w1 := (wr.setCell ⟨A7, (A0 : Int).toNat, none⟩ (.int .i64 A3))) ?hg ?ho ?hn ?hr ?_; (case ho => rfl); (case hg => rfl); (case hn => rfl); (case hr => first | (go_simp; done) | (go_simp; rfl)); intro w8 hw; have hg : wr.grownBy w8 (some A7) := (by rw [hw]; exact A8.2); have hp_ : Kd.R (Kd.int .i64) 3 w8 w0.heap.size (fun k_ => (P0_ k_ ∨ w.heap.size ≤ k_)) (.slice (some ⟨A7, 0, none⟩) A4.length Ak) A5 := (by rw [hw, A6.o]; exact A8.1); clear A8; replace HB := Z.m ((by rw [hw]; exact qx (HB.o) Ah.o : Below w0.heap.size w0 w8)); replace HK := Z.m (Kept.of_grown (S := (fun k_ => P0_ k_)) hg (vT HK) (fun k_ e_ => (A1.o.1 k_ e_))); replace A1 := Z.m (hp_); clear hg hw hp_))
     go_roundg k1
     case measure => have := Ab.o; omega
     case rel => exact ⟨(A5), (wrap64 (A3 + 1)), (wrap64 (A0 + 1)), (by first | rfl | (simp; done) | (simp [*]; done)), (by first | rfl | (simp; done) | (simp [*]; done)), H', ⟨by have := Ab.o; omega⟩, ⟨vR A1⟩, ⟨vT HK⟩, ⟨vB HB⟩⟩
    ·rw [if_neg c4] at H
     exact absurd H (by simp)
   ·rw [if_neg c3] at H
    have A9 := decide_eq_false c3
    clear c3
    simp only [Option.some.injEq, Prod.mk.injEq] at H
    obtain ⟨rfl, rfl⟩ := H
    obtain ⟨Ao, Ar, Am⟩ := Kd.R_slice A1.o
    subst Am
    go_wp2
    go_ret
    exact ⟨by first | rfl | (simp [eN, eS] <;> rfl) | (simp [*, eN, eS] <;> rfl), vR A1, vB HB, vT HK⟩

/-! ### laws_heldIntS: function 23 -/
def laws_heldIntS.l0 : Nat → List Int → Int → Int → Option (Int)
 | 0, _, _, _ => none
 | k + 1, x0, x1, x5 => if x5 < (x0.length : Int) then (if 0 ≤ x5 then (if (rd x0 x5) = x1 then (laws_heldIntS.l0 k x0 (wrap64 (x1 + 1)) (wrap64 (x5 + 1))) else (some (-1))) else (none)) else (some x1)
def laws_heldIntS.f (k : Nat) (l0 : List Int) (a1 : Int) : Option (Int) := laws_heldIntS.l0 k l0 a1 0
set_option maxHeartbeats 8000000 in
set_option maxRecDepth 100000 in
theorem laws_heldIntS.calls (k : Nat) (A0 : Option Addr) (c0 : Nat) (l0 : List Int) (a1 : Int) (r : Int) (w : World) (hr0 : Kd.C (Kd.int .i64) w A0 l0.length l0) (hc0 : l0.length ≤ c0) (h : laws_heldIntS.f k l0 a1 = some r) :
 Calls Try.prog 23 #[.slice A0 l0.length c0, .int .i64 a1] w fun e w' => e = .returned (.int .i64 r) ∧ Drawn0 w w' := by
 have A9 := Z.m hr0
 have Ab := Z.m hc0
 clear hr0 hc0
 have H : (laws_heldIntS.l0 k l0 a1 0) = some r := h
 clear h
 have H' := Z.m H
 clear H
 go_enter Try.func23, Try.ntmps23
 go_wp2
 go_loopg [1, 5] k (fun kq v1 v5 w' => ∃ (A2 : Int) (A1 : Int), v1 = .int .i64 A2 ∧ v5 = .int .i64 A1 ∧ Z (laws_heldIntS.l0 kq l0 A2 A1 = some r) ∧ Z (kq ≤ k) ∧ Drawn0 w w')
 case atStart => exact ⟨(a1), (0), (by first | rfl | (simp; done) | (simp [*]; done)), (by first | rfl | (simp; done) | (simp [*]; done)), H', ⟨Nat.le_refl _⟩, by repeat (first | exact Drawn0.refl _ | apply Drawn0.step)⟩
 case round =>
  clear H'
  obtain ⟨A2, A1, rfl, rfl, HA, A8, ⟨m1, rfl⟩⟩ := hrel
  cases gk with
  | zero => exact absurd HA.o (by simp [laws_heldIntS.l0])
  | succ k1 =>
   have H := HA.o
   clear HA
   simp only [laws_heldIntS.l0] at H
   by_cases c3 : A1 < (l0.length : Int)
   ·rw [if_pos c3] at H
    have A5 := decide_eq_true c3
    clear c3
    by_cases c4 : 0 ≤ A1
    ·rw [if_pos c4] at H
     have Aa := decide_eq_true c4
     clear c4
     by_cases c5 : (rd l0 A1) = A2
     ·rw [if_pos c5] at H
      have A6 := beq_iff_eq.mpr c5
      have A7 := bne_eq_false_iff_eq.mpr c5
      clear c5
      have H' := Z.m H
      clear H
      have p763 : 0 ≤ (A1 : Int) := ofD
      have q763 : A1 < (l0.length : Int) := ofD
      obtain ⟨A4, e763, A3⟩ := Kd.at_int A9.o A1 p763 q763
      cases e763
      replace p763 := eq_true p763
      replace q763 := eq_true q763
      go_wp2
      go_roundg k1
      case measure => have := A8.o; omega
      case rel => exact ⟨(wrap64 (A2 + 1)), (wrap64 (A1 + 1)), (by first | rfl | (simp; done) | (simp [*]; done)), (by first | rfl | (simp; done) | (simp [*]; done)), H', ⟨by have := A8.o; omega⟩, by repeat (first | exact Drawn0.refl _ | apply Drawn0.step)⟩
     ·rw [if_neg c5] at H
      have A6 := beq_eq_false_iff_ne.mpr c5
      have A7 := bne_iff_ne.mpr c5
      obtain rfl := Option.some.inj H
      have p763 : 0 ≤ (A1 : Int) := ofD
      have q763 : A1 < (l0.length : Int) := ofD
      obtain ⟨A4, e763, A3⟩ := Kd.at_int A9.o A1 p763 q763
      cases e763
      replace p763 := eq_true p763
      replace q763 := eq_true q763
      go_wp2
      go_ret
      exact ⟨by first | rfl | (simp; done) | (simp [*]; done), by repeat (first | exact Drawn0.refl _ | apply Drawn0.step)⟩
    ·rw [if_neg c4] at H
     exact absurd H (by simp)
   ·rw [if_neg c3] at H
    have A5 := decide_eq_false c3
    clear c3
    obtain rfl := Option.some.inj H
    go_wp2
    go_ret
    exact ⟨by first | rfl | (simp; done) | (simp [*]; done), by repeat (first | exact Drawn0.refl _ | apply Drawn0.step)⟩

end Go.Proofs.Ytjkiolpepchpdaa.PAll
