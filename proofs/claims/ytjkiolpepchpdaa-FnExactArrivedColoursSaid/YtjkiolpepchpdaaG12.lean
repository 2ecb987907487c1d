/- Began as a text that print.sh wrote (of the functions named below); turned and shortened by this session. -/
import Derived.Test.YtjkiolpepchpdaaG0
import Derived.Test.YtjkiolpepchpdaaG11
namespace Go.Proofs.Ytjkiolpepchpdaa.PAll
open Go.RowKit Go.Proofs.YtjkiolpepchpdaaW.PrintWords Go.Proofs.YtjkiolpepchpdaaW.PrintLast Go.Proofs.YtjkiolpepchpdaaW.PrintMore
attribute [local go_sem] max2_int min2_int max_two min_two max_three min_three max_four min_four   -- for this text's walks alone
set_option linter.unusedVariables false
set_option linter.unusedSimpArgs false

/-! ### impl_IsMachine: function 38 -/
def impl_IsMachine.f (k : Nat) (a0_0 : Int) (a0_1 : Int) (l0_2 : List (S88)) (a0_3 : Int) (a0_4 : Int) (a0_5 : Int) (a0_6 : Int) (a0_7 : Int) : Option (Bool) := (impl_validEntry.f k a0_0 a0_1 l0_2 a0_3).bind fun t331 => (if t331 = true then ((impl_validEntry.f k a0_0 a0_1 l0_2 a0_4).bind fun t332 => (if t332 = true then (if a0_5 ≥ 0 then (if a0_5 ≤ 30 then (if a0_6 ≥ 0 then (if a0_6 ≤ 30 then (if a0_7 ≥ 0 then (some (decide (a0_7 ≤ 2))) else (some false)) else (some false)) else (some false)) else (some false)) else (some false)) else (some false))) else (some false))
set_option maxHeartbeats 8000000 in
set_option maxRecDepth 100000 in
theorem impl_IsMachine.calls (k : Nat) (a0_0 : Int) (a0_1 : Int) (A0_2 : Option Addr) (c0_2 : Nat) (l0_2 : List (S88)) (a0_3 : Int) (a0_4 : Int) (a0_5 : Int) (a0_6 : Int) (a0_7 : Int) (r : Bool) (w : World) (hr0_2 : Kd.C k88 w A0_2 l0_2.length l0_2) (hc0_2 : l0_2.length ≤ c0_2) (h : impl_IsMachine.f k a0_0 a0_1 l0_2 a0_3 a0_4 a0_5 a0_6 a0_7 = some r) :
 Calls Try.prog 38 #[.agg #[.int .i64 a0_0, .int .i64 a0_1, .slice A0_2 l0_2.length c0_2, .int .i64 a0_3, .int .i64 a0_4, .int .i64 a0_5, .int .i64 a0_6, .int .i64 a0_7]] w fun e w' => e = .returned (.bool r) ∧ Below w.heap.size w w' := by
 have FT := Try.underlying32
 have FS := Try.underlying30
 have A5 := Z.m hr0_2
 have A3 := Z.m hc0_2
 clear hr0_2 hc0_2
 have HB := Z.m (Below.refl w.heap.size w)
 have H : ((impl_validEntry.f k a0_0 a0_1 l0_2 a0_3).bind fun Aa => (if Aa = true then ((impl_validEntry.f k a0_0 a0_1 l0_2 a0_4).bind fun A8 => (if A8 = true then (if a0_5 ≥ 0 then (if a0_5 ≤ 30 then (if a0_6 ≥ 0 then (if a0_6 ≤ 30 then (if a0_7 ≥ 0 then (some (decide (a0_7 ≤ 2))) else (some false)) else (some false)) else (some false)) else (some false)) else (some false)) else (some false))) else (some false))) = some r := h
 clear h
 replace H := Option.bind_eq_some_iff.mp H
 obtain ⟨Aa, FQ, H⟩ := H
 replace H : (if Aa = true then ((impl_validEntry.f k a0_0 a0_1 l0_2 a0_4).bind fun A8 => (if A8 = true then (if a0_5 ≥ 0 then (if a0_5 ≤ 30 then (if a0_6 ≥ 0 then (if a0_6 ≤ 30 then (if a0_7 ≥ 0 then (some (decide (a0_7 ≤ 2))) else (some false)) else (some false)) else (some false)) else (some false)) else (some false)) else (some false))) else (some false)) = some r := H
 have A2 := Z.m FQ
 clear FQ
 by_cases c3 : Aa = true
 ·subst c3
  have H1 : ((impl_validEntry.f k a0_0 a0_1 l0_2 a0_4).bind fun A8 => (if A8 = true then (if a0_5 ≥ 0 then (if a0_5 ≤ 30 then (if a0_6 ≥ 0 then (if a0_6 ≤ 30 then (if a0_7 ≥ 0 then (some (decide (a0_7 ≤ 2))) else (some false)) else (some false)) else (some false)) else (some false)) else (some false)) else (some false))) = some r := by rw [if_pos rfl] at H; exact H
  clear H
  have H := H1
  clear H1
  replace H := Option.bind_eq_some_iff.mp H
  obtain ⟨A8, FR, H⟩ := H
  replace H : (if A8 = true then (if a0_5 ≥ 0 then (if a0_5 ≤ 30 then (if a0_6 ≥ 0 then (if a0_6 ≤ 30 then (if a0_7 ≥ 0 then (some (decide (a0_7 ≤ 2))) else (some false)) else (some false)) else (some false)) else (some false)) else (some false)) else (some false)) = some r := H
  have A4 := Z.m FR
  clear FR
  by_cases c5 : A8 = true
  ·subst c5
   have H1 : (if a0_5 ≥ 0 then (if a0_5 ≤ 30 then (if a0_6 ≥ 0 then (if a0_6 ≤ 30 then (if a0_7 ≥ 0 then (some (decide (a0_7 ≤ 2))) else (some false)) else (some false)) else (some false)) else (some false)) else (some false)) = some r := by rw [if_pos rfl] at H; exact H
   clear H
   have H := H1
   clear H1
   by_cases c6 : a0_5 ≥ 0
   ·rw [if_pos c6] at H
    have FM := decide_eq_true c6
    clear c6
    by_cases c7 : a0_5 ≤ 30
    ·rw [if_pos c7] at H
     have FN := decide_eq_true c7
     clear c7
     by_cases c8 : a0_6 ≥ 0
     ·rw [if_pos c8] at H
      have FO := decide_eq_true c8
      clear c8
      by_cases c9 : a0_6 ≤ 30
      ·rw [if_pos c9] at H
       have FP := decide_eq_true c9
       clear c9
       by_cases c10 : a0_7 ≥ 0
       ·rw [if_pos c10] at H
        have Ab := decide_eq_true c10
        clear c10
        obtain rfl := Option.some.inj H
        go_enter Try.func38, Try.ntmps38
        go_wp2_with (first | ((with_reducible refine gq (N := 1) rfl ?_); refine be (N := 1) (cs := #[.int .i64 a0_0, .int .i64 a0_1, .slice A0_2 l0_2.length c0_2, .int .i64 a0_3, .int .i64 a0_4, .int .i64 a0_5, .int .i64 a0_6, .int .i64 a0_7]) (t := 32) ?_; intro A7 hg FU hbox hb; have A0 := Z.m (hbox); have A1 := gW (w := w) HB hg; have A6 := A1; replace HB := bB HB hb; clear hb hbox hg; have Ac := bc0 A0; have Ad := bc1 A0; have Ae := bc2 A0; have Af := bc3 A0; have Ag := bc4 A0; have Ah := bc5 A0; have Ai := bc6 A0; have Aj := bc7 A0; have D1 := qz A0.o 0; have D2 := qz A0.o 1; have D3 := qz A0.o 2; have D4 := qz A0.o 3; have D5 := qz A0.o 4; have D6 := qz A0.o 5; have D7 := qz A0.o 6; have D8 := qz A0.o 7) | ((with_reducible refine gc (f := 53) rfl ?_); refine gA (some 7) _ #[.agg #[.int .i64 a0_0, .int .i64 a0_1, .slice A0_2 l0_2.length c0_2], .int .i64 a0_3] ?_ Try.func53; (with_reducible refine (impl_validEntry.calls k a0_0 a0_1 _ _ l0_2 a0_3 true _ ?side1 ?side2 A2.o).mono ?_); (case side1 => repeat (first | exact (Kd.C_below A5.o HB.o) | (with_reducible refine Kd.C_alloc ?_ _) | (with_reducible refine Kd.C_drewN ?_ _) | (with_reducible refine Kd.C_drew ?_))); (case side2 => exact A3.o); rintro e FV ⟨rfl, hb⟩; refine ⟨_, rfl, ?_⟩; replace A0 := kB A0 hb; replace HB := bB HB hb; (try clear hb); (try clear A9); (try clear hk); (try clear hi); have Ak := bc0 A0; have Al := bc1 A0; have Am := bc2 A0; have An := bc3 A0; have Ao := bc4 A0; have Ap := bc5 A0; have Aq := bc6 A0; have Ar := bc7 A0; have D9 := qz A0.o 0; have Da := qz A0.o 1; have Db := qz A0.o 2; have Dc := qz A0.o 3; have Dd := qz A0.o 4; have De := qz A0.o 5; have Df := qz A0.o 6; have Dg := qz A0.o 7) | (go_at_call 53; (with_reducible refine (impl_validEntry.calls k a0_0 a0_1 _ _ l0_2 a0_4 true _ ?side1 ?side2 A4.o).mono ?_); (case side1 => repeat (first | exact (Kd.C_below A5.o HB.o) | (with_reducible refine Kd.C_alloc ?_ _) | (with_reducible refine Kd.C_drewN ?_ _) | (with_reducible refine Kd.C_drew ?_))); (case side2 => exact A3.o); rintro e FW ⟨rfl, hb⟩; replace A0 := kB A0 hb; replace HB := bB HB hb; (try clear hb); (try clear A9); (try clear hk); (try clear hi); have As := bc0 A0; have At := bc1 A0; have Au := bc2 A0; have Av := bc3 A0; have Aw := bc4 A0; have Ax := bc5 A0; have Ay := bc6 A0; have Az := bc7 A0; have Dh := qz A0.o 0; have Di := qz A0.o 1; have Dj := qz A0.o 2; have Dk := qz A0.o 3; have Dl := qz A0.o 4; have Dm := qz A0.o 5; have Dn := qz A0.o 6; have Do := qz A0.o 7))
        go_ret
        exact ⟨by first | rfl | (simp [eN, eS] <;> rfl) | (simp [*, eN, eS] <;> rfl), vB HB⟩
       ·rw [if_neg c10] at H
        have Ab := decide_eq_false c10
        clear c10
        obtain rfl := Option.some.inj H
        go_enter Try.func38, Try.ntmps38
        go_wp2_with (first | ((with_reducible refine gq (N := 1) rfl ?_); refine be (N := 1) (cs := #[.int .i64 a0_0, .int .i64 a0_1, .slice A0_2 l0_2.length c0_2, .int .i64 a0_3, .int .i64 a0_4, .int .i64 a0_5, .int .i64 a0_6, .int .i64 a0_7]) (t := 32) ?_; intro A7 hg FX hbox hb; have A0 := Z.m (hbox); have A1 := gW (w := w) HB hg; have A6 := A1; replace HB := bB HB hb; clear hb hbox hg; have AA := bc0 A0; have AB := bc1 A0; have AC := bc2 A0; have AD := bc3 A0; have AE := bc4 A0; have AF := bc5 A0; have AG := bc6 A0; have AH := bc7 A0; have Dp := qz A0.o 0; have Dq := qz A0.o 1; have Dr := qz A0.o 2; have Ds := qz A0.o 3; have Dt := qz A0.o 4; have Du := qz A0.o 5; have Dv := qz A0.o 6; have Dw := qz A0.o 7) | ((with_reducible refine gc (f := 53) rfl ?_); refine gA (some 7) _ #[.agg #[.int .i64 a0_0, .int .i64 a0_1, .slice A0_2 l0_2.length c0_2], .int .i64 a0_3] ?_ Try.func53; (with_reducible refine (impl_validEntry.calls k a0_0 a0_1 _ _ l0_2 a0_3 true _ ?side1 ?side2 A2.o).mono ?_); (case side1 => repeat (first | exact (Kd.C_below A5.o HB.o) | (with_reducible refine Kd.C_alloc ?_ _) | (with_reducible refine Kd.C_drewN ?_ _) | (with_reducible refine Kd.C_drew ?_))); (case side2 => exact A3.o); rintro e FY ⟨rfl, hb⟩; refine ⟨_, rfl, ?_⟩; replace A0 := kB A0 hb; replace HB := bB HB hb; (try clear hb); (try clear A9); (try clear hk); (try clear hi); have AI := bc0 A0; have AJ := bc1 A0; have AK := bc2 A0; have AL := bc3 A0; have AM := bc4 A0; have AN := bc5 A0; have AO := bc6 A0; have AP := bc7 A0; have Dx := qz A0.o 0; have Dy := qz A0.o 1; have Dz := qz A0.o 2; have DA := qz A0.o 3; have DB := qz A0.o 4; have DC := qz A0.o 5; have DD := qz A0.o 6; have DE := qz A0.o 7) | (go_at_call 53; (with_reducible refine (impl_validEntry.calls k a0_0 a0_1 _ _ l0_2 a0_4 true _ ?side1 ?side2 A4.o).mono ?_); (case side1 => repeat (first | exact (Kd.C_below A5.o HB.o) | (with_reducible refine Kd.C_alloc ?_ _) | (with_reducible refine Kd.C_drewN ?_ _) | (with_reducible refine Kd.C_drew ?_))); (case side2 => exact A3.o); rintro e FZ ⟨rfl, hb⟩; replace A0 := kB A0 hb; replace HB := bB HB hb; (try clear hb); (try clear A9); (try clear hk); (try clear hi); have AQ := bc0 A0; have AR := bc1 A0; have AS := bc2 A0; have AT := bc3 A0; have AU := bc4 A0; have AV := bc5 A0; have AW := bc6 A0; have AX := bc7 A0; have DF := qz A0.o 0; have DG := qz A0.o 1; have DH := qz A0.o 2; have DI := qz A0.o 3; have DJ := qz A0.o 4; have DK := qz A0.o 5; have DL := qz A0.o 6; have DM := qz A0.o 7))
        go_ret
        exact ⟨by first | rfl | (simp [eN, eS] <;> rfl) | (simp [*, eN, eS] <;> rfl), vB HB⟩
      ·rw [if_neg c9] at H
       have FP := decide_eq_false c9
       clear c9
       obtain rfl := Option.some.inj H
       go_enter Try.func38, Try.ntmps38
       go_wp2_with (first | ((with_reducible refine gq (N := 1) rfl ?_); refine be (N := 1) (cs := #[.int .i64 a0_0, .int .i64 a0_1, .slice A0_2 l0_2.length c0_2, .int .i64 a0_3, .int .i64 a0_4, .int .i64 a0_5, .int .i64 a0_6, .int .i64 a0_7]) (t := 32) ?_; intro A7 hg G0 hbox hb; have A0 := Z.m (hbox); have A1 := gW (w := w) HB hg; have A6 := A1; replace HB := bB HB hb; clear hb hbox hg; have AY := bc0 A0; have AZ := bc1 A0; have B0 := bc2 A0; have B2 := bc3 A0; have B3 := bc4 A0; have B7 := bc5 A0; have B8 := bc6 A0; have Ba := bc7 A0; have DN := qz A0.o 0; have DO := qz A0.o 1; have DP := qz A0.o 2; have DQ := qz A0.o 3; have DR := qz A0.o 4; have DS := qz A0.o 5; have DT := qz A0.o 6; have DU := qz A0.o 7) | ((with_reducible refine gc (f := 53) rfl ?_); refine gA (some 7) _ #[.agg #[.int .i64 a0_0, .int .i64 a0_1, .slice A0_2 l0_2.length c0_2], .int .i64 a0_3] ?_ Try.func53; (with_reducible refine (impl_validEntry.calls k a0_0 a0_1 _ _ l0_2 a0_3 true _ ?side1 ?side2 A2.o).mono ?_); (case side1 => repeat (first | exact (Kd.C_below A5.o HB.o) | (with_reducible refine Kd.C_alloc ?_ _) | (with_reducible refine Kd.C_drewN ?_ _) | (with_reducible refine Kd.C_drew ?_))); (case side2 => exact A3.o); rintro e G1 ⟨rfl, hb⟩; refine ⟨_, rfl, ?_⟩; replace A0 := kB A0 hb; replace HB := bB HB hb; (try clear hb); (try clear A9); (try clear hk); (try clear hi); have Bb := bc0 A0; have Bc := bc1 A0; have Bd := bc2 A0; have Be := bc3 A0; have Bf := bc4 A0; have Bg := bc5 A0; have Bh := bc6 A0; have Bi := bc7 A0; have DV := qz A0.o 0; have DW := qz A0.o 1; have DX := qz A0.o 2; have DY := qz A0.o 3; have DZ := qz A0.o 4; have E0 := qz A0.o 5; have E1 := qz A0.o 6; have E2 := qz A0.o 7) | (go_at_call 53; (with_reducible refine (impl_validEntry.calls k a0_0 a0_1 _ _ l0_2 a0_4 true _ ?side1 ?side2 A4.o).mono ?_); (case side1 => repeat (first | exact (Kd.C_below A5.o HB.o) | (with_reducible refine Kd.C_alloc ?_ _) | (with_reducible refine Kd.C_drewN ?_ _) | (with_reducible refine Kd.C_drew ?_))); (case side2 => exact A3.o); rintro e G2 ⟨rfl, hb⟩; replace A0 := kB A0 hb; replace HB := bB HB hb; (try clear hb); (try clear A9); (try clear hk); (try clear hi); have Bj := bc0 A0; have Bk := bc1 A0; have Bl := bc2 A0; have Bm := bc3 A0; have Bn := bc4 A0; have Bo := bc5 A0; have Bp := bc6 A0; have Bq := bc7 A0; have E3 := qz A0.o 0; have E4 := qz A0.o 1; have E5 := qz A0.o 2; have E6 := qz A0.o 3; have E7 := qz A0.o 4; have E8 := qz A0.o 5; have E9 := qz A0.o 6; have Ea := qz A0.o 7))
       go_ret
       exact ⟨by first | rfl | (simp [eN, eS] <;> rfl) | (simp [*, eN, eS] <;> rfl), vB HB⟩
     ·rw [if_neg c8] at H
      have FO := decide_eq_false c8
      clear c8
      obtain rfl := Option.some.inj H
      go_enter Try.func38, Try.ntmps38
      go_wp2_with (first | ((with_reducible refine gq (N := 1) rfl ?_); refine be (N := 1) (cs := #[.int .i64 a0_0, .int .i64 a0_1, .slice A0_2 l0_2.length c0_2, .int .i64 a0_3, .int .i64 a0_4, .int .i64 a0_5, .int .i64 a0_6, .int .i64 a0_7]) (t := 32) ?_; intro A7 hg G3 hbox hb; have A0 := Z.m (hbox); have A1 := gW (w := w) HB hg; have A6 := A1; replace HB := bB HB hb; clear hb hbox hg; have Br := bc0 A0; have Bs := bc1 A0; have Bt := bc2 A0; have Bu := bc3 A0; have Bv := bc4 A0; have Bw := bc5 A0; have Bx := bc6 A0; have By := bc7 A0; have Eb := qz A0.o 0; have Ec := qz A0.o 1; have Ed := qz A0.o 2; have Ee := qz A0.o 3; have Ef := qz A0.o 4; have Eg := qz A0.o 5; have Eh := qz A0.o 6; have Ei := qz A0.o 7) | ((with_reducible refine gc (f := 53) rfl ?_); refine gA (some 7) _ #[.agg #[.int .i64 a0_0, .int .i64 a0_1, .slice A0_2 l0_2.length c0_2], .int .i64 a0_3] ?_ Try.func53; (with_reducible refine (impl_validEntry.calls k a0_0 a0_1 _ _ l0_2 a0_3 true _ ?side1 ?side2 A2.o).mono ?_); (case side1 => repeat (first | exact (Kd.C_below A5.o HB.o) | (with_reducible refine Kd.C_alloc ?_ _) | (with_reducible refine Kd.C_drewN ?_ _) | (with_reducible refine Kd.C_drew ?_))); (case side2 => exact A3.o); rintro e G4 ⟨rfl, hb⟩; refine ⟨_, rfl, ?_⟩; replace A0 := kB A0 hb; replace HB := bB HB hb; (try clear hb); (try clear A9); (try clear hk); (try clear hi); have Bz := bc0 A0; have BA := bc1 A0; have BB := bc2 A0; have BC := bc3 A0; have BD := bc4 A0; have BE := bc5 A0; have BF := bc6 A0; have BG := bc7 A0; have Ej := qz A0.o 0; have Ek := qz A0.o 1; have El := qz A0.o 2; have Em := qz A0.o 3; have En := qz A0.o 4; have Eo := qz A0.o 5; have Ep := qz A0.o 6; have Er := qz A0.o 7) | (go_at_call 53; (with_reducible refine (impl_validEntry.calls k a0_0 a0_1 _ _ l0_2 a0_4 true _ ?side1 ?side2 A4.o).mono ?_); (case side1 => repeat (first | exact (Kd.C_below A5.o HB.o) | (with_reducible refine Kd.C_alloc ?_ _) | (with_reducible refine Kd.C_drewN ?_ _) | (with_reducible refine Kd.C_drew ?_))); (case side2 => exact A3.o); rintro e G5 ⟨rfl, hb⟩; replace A0 := kB A0 hb; replace HB := bB HB hb; (try clear hb); (try clear A9); (try clear hk); (try clear hi); have BH := bc0 A0; have BI := bc1 A0; have BJ := bc2 A0; have BK := bc3 A0; have BL := bc4 A0; have BM := bc5 A0; have BN := bc6 A0; have BO := bc7 A0; have Es := qz A0.o 0; have Et := qz A0.o 1; have Eu := qz A0.o 2; have Ew := qz A0.o 3; have Ex := qz A0.o 4; have Ey := qz A0.o 5; have Ez := qz A0.o 6; have EA := qz A0.o 7))
      go_ret
      exact ⟨by first | rfl | (simp [eN, eS] <;> rfl) | (simp [*, eN, eS] <;> rfl), vB HB⟩
    ·rw [if_neg c7] at H
     have FN := decide_eq_false c7
     clear c7
     obtain rfl := Option.some.inj H
     go_enter Try.func38, Try.ntmps38
     go_wp2_with (first | ((with_reducible refine gq (N := 1) rfl ?_); refine be (N := 1) (cs := #[.int .i64 a0_0, .int .i64 a0_1, .slice A0_2 l0_2.length c0_2, .int .i64 a0_3, .int .i64 a0_4, .int .i64 a0_5, .int .i64 a0_6, .int .i64 a0_7]) (t := 32) ?_; intro A7 hg G6 hbox hb; have A0 := Z.m (hbox); have A1 := gW (w := w) HB hg; have A6 := A1; replace HB := bB HB hb; clear hb hbox hg; have BP := bc0 A0; have BQ := bc1 A0; have BR := bc2 A0; have BS := bc3 A0; have BT := bc4 A0; have BU := bc5 A0; have BV := bc6 A0; have BW := bc7 A0; have EB := qz A0.o 0; have EC := qz A0.o 1; have ED := qz A0.o 2; have EE := qz A0.o 3; have EF := qz A0.o 4; have EG := qz A0.o 5; have EH := qz A0.o 6; have EI := qz A0.o 7) | ((with_reducible refine gc (f := 53) rfl ?_); refine gA (some 7) _ #[.agg #[.int .i64 a0_0, .int .i64 a0_1, .slice A0_2 l0_2.length c0_2], .int .i64 a0_3] ?_ Try.func53; (with_reducible refine (impl_validEntry.calls k a0_0 a0_1 _ _ l0_2 a0_3 true _ ?side1 ?side2 A2.o).mono ?_); (case side1 => repeat (first | exact (Kd.C_below A5.o HB.o) | (with_reducible refine Kd.C_alloc ?_ _) | (with_reducible refine Kd.C_drewN ?_ _) | (with_reducible refine Kd.C_drew ?_))); (case side2 => exact A3.o); rintro e G7 ⟨rfl, hb⟩; refine ⟨_, rfl, ?_⟩; replace A0 := kB A0 hb; replace HB := bB HB hb; (try clear hb); (try clear A9); (try clear hk); (try clear hi); have BX := bc0 A0; have BY := bc1 A0; have BZ := bc2 A0; have C0 := bc3 A0; have C1 := bc4 A0; have C2 := bc5 A0; have C3 := bc6 A0; have C4 := bc7 A0; have EJ := qz A0.o 0; have EK := qz A0.o 1; have EL := qz A0.o 2; have EM := qz A0.o 3; have EN := qz A0.o 4; have EO := qz A0.o 5; have EP := qz A0.o 6; have EQ := qz A0.o 7) | (go_at_call 53; (with_reducible refine (impl_validEntry.calls k a0_0 a0_1 _ _ l0_2 a0_4 true _ ?side1 ?side2 A4.o).mono ?_); (case side1 => repeat (first | exact (Kd.C_below A5.o HB.o) | (with_reducible refine Kd.C_alloc ?_ _) | (with_reducible refine Kd.C_drewN ?_ _) | (with_reducible refine Kd.C_drew ?_))); (case side2 => exact A3.o); rintro e G8 ⟨rfl, hb⟩; replace A0 := kB A0 hb; replace HB := bB HB hb; (try clear hb); (try clear A9); (try clear hk); (try clear hi); have C5 := bc0 A0; have C6 := bc1 A0; have C7 := bc2 A0; have C8 := bc3 A0; have C9 := bc4 A0; have Ca := bc5 A0; have Cb := bc6 A0; have Cd := bc7 A0; have ER := qz A0.o 0; have ES := qz A0.o 1; have ET := qz A0.o 2; have EU := qz A0.o 3; have EV := qz A0.o 4; have EW := qz A0.o 5; have EX := qz A0.o 6; have EY := qz A0.o 7))
     go_ret
     exact ⟨by first | rfl | (simp [eN, eS] <;> rfl) | (simp [*, eN, eS] <;> rfl), vB HB⟩
   ·rw [if_neg c6] at H
    have FM := decide_eq_false c6
    clear c6
    obtain rfl := Option.some.inj H
    go_enter Try.func38, Try.ntmps38
    go_wp2_with (first | ((with_reducible refine gq (N := 1) rfl ?_); refine be (N := 1) (cs := #[.int .i64 a0_0, .int .i64 a0_1, .slice A0_2 l0_2.length c0_2, .int .i64 a0_3, .int .i64 a0_4, .int .i64 a0_5, .int .i64 a0_6, .int .i64 a0_7]) (t := 32) ?_; intro A7 hg G9 hbox hb; have A0 := Z.m (hbox); have A1 := gW (w := w) HB hg; have A6 := A1; replace HB := bB HB hb; clear hb hbox hg; have Ce := bc0 A0; have Cf := bc1 A0; have Cg := bc2 A0; have Ch := bc3 A0; have Ci := bc4 A0; have Cj := bc5 A0; have Cl := bc6 A0; have Cm := bc7 A0; have EZ := qz A0.o 0; have F0 := qz A0.o 1; have F1 := qz A0.o 2; have F2 := qz A0.o 3; have F3 := qz A0.o 4; have F4 := qz A0.o 5; have F5 := qz A0.o 6; have F6 := qz A0.o 7) | ((with_reducible refine gc (f := 53) rfl ?_); refine gA (some 7) _ #[.agg #[.int .i64 a0_0, .int .i64 a0_1, .slice A0_2 l0_2.length c0_2], .int .i64 a0_3] ?_ Try.func53; (with_reducible refine (impl_validEntry.calls k a0_0 a0_1 _ _ l0_2 a0_3 true _ ?side1 ?side2 A2.o).mono ?_); (case side1 => repeat (first | exact (Kd.C_below A5.o HB.o) | (with_reducible refine Kd.C_alloc ?_ _) | (with_reducible refine Kd.C_drewN ?_ _) | (with_reducible refine Kd.C_drew ?_))); (case side2 => exact A3.o); rintro e Ga ⟨rfl, hb⟩; refine ⟨_, rfl, ?_⟩; replace A0 := kB A0 hb; replace HB := bB HB hb; (try clear hb); (try clear A9); (try clear hk); (try clear hi); have Cn := bc0 A0; have Co := bc1 A0; have Cp := bc2 A0; have Cq := bc3 A0; have Cr := bc4 A0; have Cs := bc5 A0; have Ct := bc6 A0; have Cu := bc7 A0; have F7 := qz A0.o 0; have F8 := qz A0.o 1; have F9 := qz A0.o 2; have Fa := qz A0.o 3; have Fb := qz A0.o 4; have Fc := qz A0.o 5; have Fd := qz A0.o 6; have Fe := qz A0.o 7) | (go_at_call 53; (with_reducible refine (impl_validEntry.calls k a0_0 a0_1 _ _ l0_2 a0_4 true _ ?side1 ?side2 A4.o).mono ?_); (case side1 => repeat (first | exact (Kd.C_below A5.o HB.o) | (with_reducible refine Kd.C_alloc ?_ _) | (with_reducible refine Kd.C_drewN ?_ _) | (with_reducible refine Kd.C_drew ?_))); (case side2 => exact A3.o); rintro e Gb ⟨rfl, hb⟩; replace A0 := kB A0 hb; replace HB := bB HB hb; (try clear hb); (try clear A9); (try clear hk); (try clear hi); have Cv := bc0 A0; have Cw := bc1 A0; have Cx := bc2 A0; have Cy := bc3 A0; have Cz := bc4 A0; have CA := bc5 A0; have CB := bc6 A0; have CC := bc7 A0; have Ff := qz A0.o 0; have Fg := qz A0.o 1; have Fh := qz A0.o 2; have Fi := qz A0.o 3; have Fj := qz A0.o 4; have Fk := qz A0.o 5; have Fl := qz A0.o 6; have Fm := qz A0.o 7))
    go_ret
    exact ⟨by first | rfl | (simp [eN, eS] <;> rfl) | (simp [*, eN, eS] <;> rfl), vB HB⟩
  ·replace c5 := Bool.eq_false_iff.mpr c5
   subst c5
   have H1 : (some false) = some r := by rw [if_neg (show ¬ (false = true) by decide)] at H; exact H
   clear H
   have H := H1
   clear H1
   obtain rfl := Option.some.inj H
   go_enter Try.func38, Try.ntmps38
   go_wp2_with (first | ((with_reducible refine gq (N := 1) rfl ?_); refine be (N := 1) (cs := #[.int .i64 a0_0, .int .i64 a0_1, .slice A0_2 l0_2.length c0_2, .int .i64 a0_3, .int .i64 a0_4, .int .i64 a0_5, .int .i64 a0_6, .int .i64 a0_7]) (t := 32) ?_; intro A7 hg Gc hbox hb; have A0 := Z.m (hbox); have A1 := gW (w := w) HB hg; have A6 := A1; replace HB := bB HB hb; clear hb hbox hg; have CD := bc0 A0; have CE := bc1 A0; have CF := bc2 A0; have CG := bc3 A0; have CH := bc4 A0; have CI := bc5 A0; have CJ := bc6 A0; have CK := bc7 A0; have Fn := qz A0.o 0; have Fo := qz A0.o 1; have Fp := qz A0.o 2; have Fq := qz A0.o 3; have Fr := qz A0.o 4; have Fs := qz A0.o 5; have Ft := qz A0.o 6; have Fu := qz A0.o 7) | ((with_reducible refine gc (f := 53) rfl ?_); refine gA (some 7) _ #[.agg #[.int .i64 a0_0, .int .i64 a0_1, .slice A0_2 l0_2.length c0_2], .int .i64 a0_3] ?_ Try.func53; (with_reducible refine (impl_validEntry.calls k a0_0 a0_1 _ _ l0_2 a0_3 true _ ?side1 ?side2 A2.o).mono ?_); (case side1 => repeat (first | exact (Kd.C_below A5.o HB.o) | (with_reducible refine Kd.C_alloc ?_ _) | (with_reducible refine Kd.C_drewN ?_ _) | (with_reducible refine Kd.C_drew ?_))); (case side2 => exact A3.o); rintro e Gd ⟨rfl, hb⟩; refine ⟨_, rfl, ?_⟩; replace A0 := kB A0 hb; replace HB := bB HB hb; (try clear hb); (try clear A9); (try clear hk); (try clear hi); have CL := bc0 A0; have CM := bc1 A0; have CN := bc2 A0; have CO := bc3 A0; have CP := bc4 A0; have CQ := bc5 A0; have CR := bc6 A0; have CS := bc7 A0; have Fv := qz A0.o 0; have Fw := qz A0.o 1; have Fx := qz A0.o 2; have Fy := qz A0.o 3; have Fz := qz A0.o 4; have FA := qz A0.o 5; have FB := qz A0.o 6; have FC := qz A0.o 7) | (go_at_call 53; (with_reducible refine (impl_validEntry.calls k a0_0 a0_1 _ _ l0_2 a0_4 false _ ?side1 ?side2 A4.o).mono ?_); (case side1 => repeat (first | exact (Kd.C_below A5.o HB.o) | (with_reducible refine Kd.C_alloc ?_ _) | (with_reducible refine Kd.C_drewN ?_ _) | (with_reducible refine Kd.C_drew ?_))); (case side2 => exact A3.o); rintro e Ge ⟨rfl, hb⟩; replace A0 := kB A0 hb; replace HB := bB HB hb; (try clear hb); (try clear A9); (try clear hk); (try clear hi)))
   go_ret
   exact ⟨by first | rfl | (simp [eN, eS] <;> rfl) | (simp [*, eN, eS] <;> rfl), vB HB⟩
 ·replace c3 := Bool.eq_false_iff.mpr c3
  subst c3
  have H1 : (some false) = some r := by rw [if_neg (show ¬ (false = true) by decide)] at H; exact H
  clear H
  have H := H1
  clear H1
  obtain rfl := Option.some.inj H
  go_enter Try.func38, Try.ntmps38
  go_wp2_with (first | ((with_reducible refine gq (N := 1) rfl ?_); refine be (N := 1) (cs := #[.int .i64 a0_0, .int .i64 a0_1, .slice A0_2 l0_2.length c0_2, .int .i64 a0_3, .int .i64 a0_4, .int .i64 a0_5, .int .i64 a0_6, .int .i64 a0_7]) (t := 32) ?_; intro A7 hg Gf hbox hb; have A0 := Z.m (hbox); have A1 := gW (w := w) HB hg; have A6 := A1; replace HB := bB HB hb; clear hb hbox hg; have CT := bc0 A0; have CU := bc1 A0; have CV := bc2 A0; have CW := bc3 A0; have CX := bc4 A0; have CY := bc5 A0; have CZ := bc6 A0; have D0 := bc7 A0; have FD := qz A0.o 0; have FE := qz A0.o 1; have FF := qz A0.o 2; have FG := qz A0.o 3; have FH := qz A0.o 4; have FI := qz A0.o 5; have FJ := qz A0.o 6; have FL := qz A0.o 7) | ((with_reducible refine gc (f := 53) rfl ?_); refine gA (some 7) _ #[.agg #[.int .i64 a0_0, .int .i64 a0_1, .slice A0_2 l0_2.length c0_2], .int .i64 a0_3] ?_ Try.func53; (with_reducible refine (impl_validEntry.calls k a0_0 a0_1 _ _ l0_2 a0_3 false _ ?side1 ?side2 A2.o).mono ?_); (case side1 => repeat (first | exact (Kd.C_below A5.o HB.o) | (with_reducible refine Kd.C_alloc ?_ _) | (with_reducible refine Kd.C_drewN ?_ _) | (with_reducible refine Kd.C_drew ?_))); (case side2 => exact A3.o); rintro e Gg ⟨rfl, hb⟩; refine ⟨_, rfl, ?_⟩; replace A0 := kB A0 hb; replace HB := bB HB hb; (try clear hb); (try clear A9); (try clear hk); (try clear hi)))
  go_ret
  exact ⟨by first | rfl | (simp [eN, eS] <;> rfl) | (simp [*, eN, eS] <;> rfl), vB HB⟩

/-! ### impl_canStep: function 45 -/
def impl_canStep.f (a0_0 : Int) (a0_1 : Int) (l0_2 : List (S88)) (a0_3 : Int) (a0_4 : Int) (a0_5 : Int) (a0_6 : Int) (a0_7 : Int) : Option (Bool) := if a0_7 = 0 then (if a0_5 > 0 then (some true) else (if a0_7 = 1 then (some (decide (a0_6 > 0))) else (some false))) else (if a0_7 = 1 then (some (decide (a0_6 > 0))) else (some false))
set_option maxHeartbeats 8000000 in
set_option maxRecDepth 100000 in
theorem impl_canStep.calls (a0_0 : Int) (a0_1 : Int) (A0_2 : Option Addr) (c0_2 : Nat) (l0_2 : List (S88)) (a0_3 : Int) (a0_4 : Int) (a0_5 : Int) (a0_6 : Int) (a0_7 : Int) (r : Bool) (w : World) (hr0_2 : Kd.C k88 w A0_2 l0_2.length l0_2) (hc0_2 : l0_2.length ≤ c0_2) (h : impl_canStep.f a0_0 a0_1 l0_2 a0_3 a0_4 a0_5 a0_6 a0_7 = some r) :
 Calls Try.prog 45 #[.agg #[.int .i64 a0_0, .int .i64 a0_1, .slice A0_2 l0_2.length c0_2, .int .i64 a0_3, .int .i64 a0_4, .int .i64 a0_5, .int .i64 a0_6, .int .i64 a0_7]] w fun e w' => e = .returned (.bool r) ∧ Below w.heap.size w w' := by
 have BA := Try.underlying32
 have Bz := Z.m hr0_2
 have By := Z.m hc0_2
 clear hr0_2 hc0_2
 have HB := Z.m (Below.refl w.heap.size w)
 have H : (if a0_7 = 0 then (if a0_5 > 0 then (some true) else (if a0_7 = 1 then (some (decide (a0_6 > 0))) else (some false))) else (if a0_7 = 1 then (some (decide (a0_6 > 0))) else (some false))) = some r := h
 clear h
 by_cases c2 : a0_7 = 0
 ·rw [if_pos c2] at H
  have AS := beq_iff_eq.mpr c2
  have AT := bne_eq_false_iff_eq.mpr c2
  clear c2
  by_cases c3 : a0_5 > 0
  ·rw [if_pos c3] at H
   have AU := decide_eq_true c3
   clear c3
   obtain rfl := Option.some.inj H
   go_enter Try.func45, Try.ntmps45
   go_wp2_with (first | ((with_reducible refine gq (N := 1) rfl ?_); refine be (N := 1) (cs := #[.int .i64 a0_0, .int .i64 a0_1, .slice A0_2 l0_2.length c0_2, .int .i64 a0_3, .int .i64 a0_4, .int .i64 a0_5, .int .i64 a0_6, .int .i64 a0_7]) (t := 32) ?_; intro A3 hg w4 hbox hb; have A0 := Z.m (hbox); have A1 := gW (w := w) HB hg; have A2 := A1; replace HB := bB HB hb; clear hb hbox hg; have AX := bc0 A0; have AY := bc1 A0; have AZ := bc2 A0; have B0 := bc3 A0; have B2 := bc4 A0; have B3 := bc5 A0; have B7 := bc6 A0; have B8 := bc7 A0; have Bi := qz A0.o 0; have Bj := qz A0.o 1; have Bk := qz A0.o 2; have Bl := qz A0.o 3; have Bm := qz A0.o 4; have Bn := qz A0.o 5; have Bo := qz A0.o 6; have Bp := qz A0.o 7))
   go_ret
   exact ⟨by first | rfl | (simp [eN, eS] <;> rfl) | (simp [*, eN, eS] <;> rfl), vB HB⟩
  ·rw [if_neg c3] at H
   have AU := decide_eq_false c3
   clear c3
   by_cases c6 : a0_7 = 1
   ·rw [if_pos c6] at H
    have AV := beq_iff_eq.mpr c6
    have AW := bne_eq_false_iff_eq.mpr c6
    clear c6
    obtain rfl := Option.some.inj H
    go_enter Try.func45, Try.ntmps45
    go_wp2_with (first | ((with_reducible refine gq (N := 1) rfl ?_); refine be (N := 1) (cs := #[.int .i64 a0_0, .int .i64 a0_1, .slice A0_2 l0_2.length c0_2, .int .i64 a0_3, .int .i64 a0_4, .int .i64 a0_5, .int .i64 a0_6, .int .i64 a0_7]) (t := 32) ?_; intro A3 hg w7 hbox hb; have A0 := Z.m (hbox); have A1 := gW (w := w) HB hg; have A2 := A1; replace HB := bB HB hb; clear hb hbox hg; have Ba := bc0 A0; have Bb := bc1 A0; have Bc := bc2 A0; have Bd := bc3 A0; have Be := bc4 A0; have Bf := bc5 A0; have Bg := bc6 A0; have Bh := bc7 A0; have Bq := qz A0.o 0; have Br := qz A0.o 1; have Bs := qz A0.o 2; have Bt := qz A0.o 3; have Bu := qz A0.o 4; have Bv := qz A0.o 5; have Bw := qz A0.o 6; have Bx := qz A0.o 7))
    go_ret
    exact ⟨by first | rfl | (simp [eN, eS] <;> rfl) | (simp [*, eN, eS] <;> rfl), vB HB⟩
   ·rw [if_neg c6] at H
    have AV := beq_eq_false_iff_ne.mpr c6
    have AW := bne_iff_ne.mpr c6
    obtain rfl := Option.some.inj H
    go_enter Try.func45, Try.ntmps45
    go_wp2_with (first | ((with_reducible refine gq (N := 1) rfl ?_); refine be (N := 1) (cs := #[.int .i64 a0_0, .int .i64 a0_1, .slice A0_2 l0_2.length c0_2, .int .i64 a0_3, .int .i64 a0_4, .int .i64 a0_5, .int .i64 a0_6, .int .i64 a0_7]) (t := 32) ?_; intro A3 hg w9 hbox hb; have A0 := Z.m (hbox); have A1 := gW (w := w) HB hg; have A2 := A1; replace HB := bB HB hb; clear hb hbox hg; have A6 := bc0 A0; have A7 := bc1 A0; have A8 := bc2 A0; have A9 := bc3 A0; have Aa := bc4 A0; have Ab := bc5 A0; have Ac := bc6 A0; have Ad := bc7 A0; have Au := qz A0.o 0; have Av := qz A0.o 1; have Aw := qz A0.o 2; have Ax := qz A0.o 3; have Ay := qz A0.o 4; have Az := qz A0.o 5; have AA := qz A0.o 6; have AB := qz A0.o 7))
    go_ret
    exact ⟨by first | rfl | (simp [eN, eS] <;> rfl) | (simp [*, eN, eS] <;> rfl), vB HB⟩
 ·rw [if_neg c2] at H
  have AS := beq_eq_false_iff_ne.mpr c2
  have AT := bne_iff_ne.mpr c2
  by_cases c11 : a0_7 = 1
  ·rw [if_pos c11] at H
   have A4 := beq_iff_eq.mpr c11
   have A5 := bne_eq_false_iff_eq.mpr c11
   clear c11
   obtain rfl := Option.some.inj H
   go_enter Try.func45, Try.ntmps45
   go_wp2_with (first | ((with_reducible refine gq (N := 1) rfl ?_); refine be (N := 1) (cs := #[.int .i64 a0_0, .int .i64 a0_1, .slice A0_2 l0_2.length c0_2, .int .i64 a0_3, .int .i64 a0_4, .int .i64 a0_5, .int .i64 a0_6, .int .i64 a0_7]) (t := 32) ?_; intro A3 hg BB hbox hb; have A0 := Z.m (hbox); have A1 := gW (w := w) HB hg; have A2 := A1; replace HB := bB HB hb; clear hb hbox hg; have Ae := bc0 A0; have Af := bc1 A0; have Ag := bc2 A0; have Ah := bc3 A0; have Ai := bc4 A0; have Aj := bc5 A0; have Ak := bc6 A0; have Al := bc7 A0; have AC := qz A0.o 0; have AD := qz A0.o 1; have AE := qz A0.o 2; have AF := qz A0.o 3; have AG := qz A0.o 4; have AH := qz A0.o 5; have AI := qz A0.o 6; have AJ := qz A0.o 7))
   go_ret
   exact ⟨by first | rfl | (simp [eN, eS] <;> rfl) | (simp [*, eN, eS] <;> rfl), vB HB⟩
  ·rw [if_neg c11] at H
   have A4 := beq_eq_false_iff_ne.mpr c11
   have A5 := bne_iff_ne.mpr c11
   obtain rfl := Option.some.inj H
   go_enter Try.func45, Try.ntmps45
   go_wp2_with (first | ((with_reducible refine gq (N := 1) rfl ?_); refine be (N := 1) (cs := #[.int .i64 a0_0, .int .i64 a0_1, .slice A0_2 l0_2.length c0_2, .int .i64 a0_3, .int .i64 a0_4, .int .i64 a0_5, .int .i64 a0_6, .int .i64 a0_7]) (t := 32) ?_; intro A3 hg BC hbox hb; have A0 := Z.m (hbox); have A1 := gW (w := w) HB hg; have A2 := A1; replace HB := bB HB hb; clear hb hbox hg; have Am := bc0 A0; have An := bc1 A0; have Ao := bc2 A0; have Ap := bc3 A0; have Aq := bc4 A0; have Ar := bc5 A0; have As := bc6 A0; have At := bc7 A0; have AK := qz A0.o 0; have AL := qz A0.o 1; have AM := qz A0.o 2; have AN := qz A0.o 3; have AO := qz A0.o 4; have AP := qz A0.o 5; have AQ := qz A0.o 6; have AR := qz A0.o 7))
   go_ret
   exact ⟨by first | rfl | (simp [eN, eS] <;> rfl) | (simp [*, eN, eS] <;> rfl), vB HB⟩

/-! ### impl_copyBoard: function 58 -/
def impl_copyBoard.f (a0_0 : Int) (a0_1 : Int) (l0_2 : List (S88)) : Option (Int × Int × (List (S88))) := (some (([] : List (S88)) : List (S88))).bind fun y336 => (if y336.length + l0_2.length < 8796093022208 then (some (a0_0, a0_1, (y336 ++ l0_2))) else (none))
def impl_copyBoard.T1 : Bool × List (List Nat × List Nat) := (true, [([], []), ([0], [0]), ([], []), ([2], [2]), ([], []), ([], []), ([5], [5]), ([4, 6], [4, 6]), ([1, 3, 7], [1, 3, 7]), ([8, 7, 0, 1, 2, 3, 4, 5, 6, 7, 8], [8])])
def impl_copyBoard.B1 : List Nat := [0, 1, 0, 4, 0, 0, 32, 112, 255, 511]
theorem impl_copyBoard.tab1 : rtab .any (opsOf Try.f58 1) = impl_copyBoard.T1 := by kernel_rfl
theorem impl_copyBoard.bits1 : waitsOk impl_copyBoard.T1.2 impl_copyBoard.B1 = true := by kernel_rfl
set_option maxHeartbeats 8000000 in
set_option maxRecDepth 100000 in
theorem impl_copyBoard.calls (a0_0 : Int) (a0_1 : Int) (A0_2 : Option Addr) (c0_2 : Nat) (l0_2 : List (S88)) (r1 : Int) (r2 : Int) (r3 : List (S88)) (w : World) (hr0_2 : Kd.C k88 w A0_2 l0_2.length l0_2) (hc0_2 : l0_2.length ≤ c0_2) (h : impl_copyBoard.f a0_0 a0_1 l0_2 = some (r1, r2, r3)) :
 Calls Try.prog 58 #[.agg #[.int .i64 a0_0, .int .i64 a0_1, .slice A0_2 l0_2.length c0_2]] w fun e w' => ∃ v2_ : Value, e = .returned (.agg #[.int .i64 r1, .int .i64 r2, v2_]) ∧ Kd.R k88 88 w' w.heap.size (fun _ => True) v2_ r3 ∧ Below w.heap.size w w' := by
 have Az := Try.underlying30
 have Ae := Z.m hr0_2
 have As := Z.m hc0_2
 clear hr0_2 hc0_2
 have HB := Z.m (Below.refl w.heap.size w)
 have H : ((some (([] : List (S88)) : List (S88))).bind fun A7 => (if A7.length + l0_2.length < 8796093022208 then (some (a0_0, a0_1, (A7 ++ l0_2))) else (none))) = some (r1, r2, r3) := h
 clear h
 obtain ⟨A7, A5⟩ : ∃ y_ : List (S88), y_ = (([] : List (S88))) := ⟨_, rfl⟩
 replace H : (if A7.length + l0_2.length < 8796093022208 then (some (a0_0, a0_1, (A7 ++ l0_2))) else (none)) = some (r1, r2, r3) := by first | (rw [A5]; with_reducible exact H) | (have H2_ := (Option.bind_some _ _).symm.trans H; rw [A5]; with_reducible exact H2_) | (have H2_ := (Option.bind_some _ _).symm.trans H; with_reducible exact H2_) | with_reducible exact H | (rw [A5]; exact H) | exact H
 have Ab := Z.m A5
 clear A5
 by_cases c2 : A7.length + l0_2.length < 8796093022208
 ·rw [if_pos c2] at H
  have Ao := Z.m c2
  clear c2
  obtain ⟨Ah, A6⟩ : ∃ y_ : List (S88), y_ = (A7 ++ l0_2) := ⟨_, rfl⟩
  replace H : (some (a0_0, a0_1, Ah)) = some (r1, r2, r3) := by first | (rw [A6]; with_reducible exact H) | (have H2_ := (Option.bind_some _ _).symm.trans H; rw [A6]; with_reducible exact H2_) | (have H2_ := (Option.bind_some _ _).symm.trans H; with_reducible exact H2_) | with_reducible exact H | (rw [A6]; exact H) | exact H
  have Af := Z.m A6
  clear A6
  simp only [Option.some.injEq, Prod.mk.injEq] at H
  obtain ⟨rfl, rfl, rfl⟩ := H
  go_enter Try.func58, Try.ntmps58
  try go_wp2_with (first | ((with_reducible refine gq (N := 1) rfl ?_); refine be (N := 1) (cs := #[.int .i64 a0_0, .int .i64 a0_1, .slice A0_2 l0_2.length c0_2]) (t := 30) ?_; intro A9 hg w3 hbox hb; have A1 := Z.m (hbox); have Ac := gW (w := w) HB hg; have Aq := Ac; replace HB := bB HB hb; clear hb hbox hg) | ((with_reducible refine gq (N := 2) rfl ?_); refine be (N := 2) (cs := #[.int .i64 0, .int .i64 0, .slice none 0 0]) (t := 30) ?_; intro A4 hg w4 hbox hb; have A2 := Z.m (hbox); have Ad := gW (w := w) HB hg; have Ar := Ad; have A0 := neL A1 hg; have A3 := neG A1 hg; replace A1 := kB A1 hb; replace HB := bB HB hb; clear hb hbox hg))
  replace A1 := Z.m (blk_drew A1.o)
  replace A2 := Z.m (blk_drew A2.o)
  replace HB := Z.m (qd HB.o)
  refine start_ (n := 10) (S := fun w' => w'.cell? ⟨A9, 0, none⟩ = some (.int .i64 a0_0) ∧ w'.cell? ⟨A9, 1, none⟩ = some (.int .i64 a0_1) ∧ w'.cell? ⟨A9, 2, none⟩ = some (.slice A0_2 l0_2.length c0_2)) (ds := []) #[false, false, false, false, false, false, false, false, false, false] (by kernel_rfl) rfl rfl ⟨(ql A1.o 0).trans rfl, (ql A1.o 1).trans rfl, (ql A1.o 2).trans rfl⟩ (fun hHeld => ?_); refine with_tabW impl_copyBoard.tab1 impl_copyBoard.bits1 (fun HT_ HW_ => ?_)
  generalize w4.drew = w5 at A1 A2 HB hHeld ⊢
  refine pure_ (i := 0) (N := some 3) (v := ?_) (a' := ?_) #[true, false, false, false, false, false, false, false, false, false] rfl rfl (any_of HT_.o (by kernel_rfl)) (fun _ _ _ h => h) (Or.inl ⟨by rfl, ?_⟩) ?_ ?_
  rotate_left
  ·intro w'
   go_simp
   with_reducible rfl
  rotate_left
  ·simp only [Act.put, q1, q2, q3, i64_w, i32_w]
   rfl
  refine pure_ (i := 2) (N := some 5) (v := ?_) (a' := ?_) #[true, false, true, false, false, false, false, false, false, false] rfl rfl (any_of HT_.o (by kernel_rfl)) (fun _ _ _ h => h) (Or.inl ⟨by rfl, ?_⟩) ?_ ?_
  rotate_left
  ·intro w'
   go_simp
   with_reducible rfl
  rotate_left
  ·simp only [Act.put, q1, q2, q3, i64_w, i32_w]
   rfl
  refine pure_ (i := 5) (N := some 8) (v := ?_) (a' := ?_) #[true, false, true, false, false, true, false, false, false, false] rfl rfl (any_of HT_.o (by kernel_rfl)) (fun _ _ _ h => h) (Or.inl ⟨by rfl, ?_⟩) ?_ ?_
  rotate_left
  ·intro w'
   go_simp
   with_reducible rfl
  rotate_left
  ·simp only [Act.put, q1, q2, q3, i64_w, i32_w]
   rfl
  refine take_ (i := 1) (N := some 4) (v := ?_) (a' := ?_) #[true, true, true, false, false, true, false, false, false, false] rfl rfl (take_ofW HT_.o HW_.o (by kernel_rfl)) (fun _ _ _ h => h) (Or.inl ⟨by rfl, ?_⟩) hHeld ?_ ?_
  rotate_left
  ·rintro w' ⟨s0, s1, s2⟩
   go_simp
   with_reducible rfl
  rotate_left
  ·simp only [Act.put, q1, q2, q3, i64_w, i32_w]
   rfl
  refine take_ (i := 3) (N := some 6) (v := ?_) (a' := ?_) #[true, true, true, true, false, true, false, false, false, false] rfl rfl (take_ofW HT_.o HW_.o (by kernel_rfl)) (fun _ _ _ h => h) (Or.inl ⟨by rfl, ?_⟩) hHeld ?_ ?_
  rotate_left
  ·rintro w' ⟨s0, s1, s2⟩
   go_simp
   with_reducible rfl
  rotate_left
  ·simp only [Act.put, q1, q2, q3, i64_w, i32_w]
   rfl
  refine take_ (i := 6) (N := some 9) (v := ?_) (a' := ?_) #[true, true, true, true, false, true, true, false, false, false] rfl rfl (take_ofW HT_.o HW_.o (by kernel_rfl)) (fun _ _ _ h => h) (Or.inl ⟨by rfl, ?_⟩) hHeld ?_ ?_
  rotate_left
  ·rintro w' ⟨s0, s1, s2⟩
   go_simp
   with_reducible rfl
  rotate_left
  ·simp only [Act.put, q1, q2, q3, i64_w, i32_w]
   rfl
  refine one_ (i := 4) (N := some 7) #[true, true, true, true, true, true, true, false, false, false] rfl rfl (one_of HT_.o (by kernel_rfl)) (by decide) (fun K hK => ?_)
  refine Kd.R_lit_step k88 _ 88 ?hg (N := 7) ?hd (xs := ([] : List (S88))) (inner := []) (ok := fun _ => True) (okp := fun _ => True) ?hr ?hp (fun _ hk => hk) trivial (Below.refl _ _) (Nat.le_refl _) (by simp) ?_; (case hd => rfl); (case hg => rfl); (case hr => first | (go_simp; done) | (go_simp; rfl)); (case hp => exact (Reps.none _ _))
  intro Ap w6 Ag hb hg_ hnew_
  clear hg_ hnew_
  (first | rw [← Ab.o] at Ag | (simp only [Int.reduceToNat] at Ag; rw [← Ab.o] at Ag))
  have A8 := Z.m (Kd.R_lower Ag (below_size (vB HB)))
  replace A1 := kB A1 hb
  replace A2 := kB A2 hb
  replace HB := bB HB hb
  clear hb Ag
  refine hK.out _ _ ⟨(ql A1.o 0).trans rfl, (ql A1.o 1).trans rfl, (ql A1.o 2).trans rfl⟩ (fun hHeld => ?_)
  clear hK K
  refine norm_ (a' := ?_) ?_ ?_
  rotate_left
  ·show Act.put _ (some 7) _ = _
   simp only [Act.put, q1, q2, q3, i64_w, i32_w]
   rfl
  refine one_ (i := 7) (N := some 10) #[true, true, true, true, true, true, true, true, false, false] rfl rfl (one_of HT_.o (by kernel_rfl)) (by decide) (fun K hK => ?_)
  refine Kd.R_append_rows_step k88 (w0 := w) w.heap.size (by rfl) (.tmp 7) (.tmp 9) 28 88 (.agg #[(.int .i64 0), (.int .i64 0)]) 16 rfl Try.underlying28 info88 rfl (by decide) (by omega) Ap A7 l0_2 _ _ _ (fun _ => True) (fun _ => False) rfl rfl ?aO ?aR (fun _ _ h => h) (fun _ h => h.elim) ?aF ?aB ?aS ?aL ?_
  (case aR => repeat (first | exact (Kd.C_below Ae.o HB.o) | (with_reducible refine Kd.C_alloc ?_ _) | (with_reducible refine Kd.C_drewN ?_ _) | (with_reducible refine Kd.C_drew ?_)))
  (case aB => exact (vB HB))
  (case aF => exact (fun _ _ => trivial))
  (case aO => exact (vR A8))
  (case aS => exact (below_size (vB HB)))
  (case aL => have := Ao.o; omega)
  intro AA w8 ho hb hg hat
  rw [← Af.o] at ho
  have Aa := Z.m (ho)
  replace A1 := Z.m (qg (g := A9) (o := .cells #[.int .i64 a0_0, .int .i64 a0_1, .slice A0_2 l0_2.length c0_2] 30 (0, 0)) (vK A1) hg (Kd.R_ne A8.o A1.o (by decide)))
  replace A2 := Z.m (qg (g := A4) (o := .cells #[.int .i64 0, .int .i64 0, .slice none 0 0] 30 (0, 0)) (vK A2) hg (Kd.R_ne A8.o A2.o (by decide)))
  replace HB := Z.m (hb)
  clear A8
  clear ho hb hg hat
  obtain ⟨Au, Av, At⟩ := Kd.R_slice Aa.o
  (first | subst At | (injection At with f1_ f2_ f3_; have f4_ := f1_.symm; have f5_ := f3_.symm; clear f1_ f2_ f3_; subst f4_; subst f5_))
  refine hK.out _ _ ⟨(ql A1.o 0).trans rfl, (ql A1.o 1).trans rfl, (ql A1.o 2).trans rfl⟩ (fun hHeld => ?_)
  clear hK K
  refine norm_ (a' := ?_) ?_ ?_
  rotate_left
  ·show Act.put _ (some 10) _ = _
   simp only [Act.put, q1, q2, q3, i64_w, i32_w]
   rfl
  refine pure_ (i := 8) (N := some 11) (v := ?_) (a' := ?_) #[true, true, true, true, true, true, true, true, true, false] rfl rfl (any_of HT_.o (by kernel_rfl)) (fun _ _ _ h => h) (Or.inl ⟨by rfl, ?_⟩) ?_ ?_
  rotate_left
  ·intro w'
   go_simp
   with_reducible rfl
  rotate_left
  ·simp only [Act.put, q1, q2, q3, i64_w, i32_w]
   rfl
  refine one_ (i := 9) (N := none) #[true, true, true, true, true, true, true, true, true, true] rfl rfl (one_of HT_.o (by kernel_rfl)) (by decide) (fun K hK => ?_)
  have Aw : w8.cell? ⟨A4, 0, none⟩ = some (.int .i64 0) := (ql A2.o 0).trans rfl
  have hfs10 := qz A2.o 0
  have Al := A0.o
  have Ai := A3.o
  have Ax : w8.cell? ⟨A4, 1, none⟩ = some (.int .i64 0) := (ql A2.o 1).trans rfl
  have hfs11 := qz A2.o 1
  have Am := A0.o
  have Aj := A3.o
  have Ay : w8.cell? ⟨A4, 2, none⟩ = some (.slice none 0 0) := (ql A2.o 2).trans rfl
  have hfs12 := qz A2.o 2
  have An := A0.o
  have Ak := A3.o
  refine skip_ (w1 := ?_) ?hwx ?hnx ?_ ?_; (case hwx => rfl); (case hnx => rfl)
  rotate_left
  ·go_simp
   rfl
  refine hK.out _ _ ⟨(cx A0.o ((cx A0.o ((cx A0.o (hHeld.1)))))), (cx A0.o ((cx A0.o ((cx A0.o (hHeld.2.1)))))), (cx A0.o ((cx A0.o ((cx A0.o (hHeld.2.2))))))⟩ (fun hHeld => ?_)
  clear hK K
  refine done_ (done_of HT_.o (by kernel_rfl)) ?_
  try go_wp2
  refine bodyPost_ret (results_cell_row rfl _ _ A4 30 #[.int .i64 a0_0, .int .i64 a0_1, .slice Au Ah.length Av] (0, 0) _ rfl (by refine bK ?_; apply st3; refine bK ?_; exact A2.o) Try.underlying30 rfl (by kernel_rfl)) rfl ?_
  exact ⟨_, by first | rfl | (simp [eN, eS] <;> rfl) | (simp [*, eN, eS] <;> rfl), by refine rK ?_; exact Kd.Rm (rf (rf (rf (Kd.Ry Aa.o A2.o (by decide))))) (fun _ hk => trivial), vB HB⟩
 ·rw [if_neg c2] at H
  exact absurd H (by simp)

/-! ### impl_copyMachine: function 46 -/
def impl_copyMachine.f (a0_0 : Int) (a0_1 : Int) (l0_2 : List (S88)) (a0_3 : Int) (a0_4 : Int) (a0_5 : Int) (a0_6 : Int) (a0_7 : Int) : Option (Int × Int × (List (S88)) × Int × Int × Int × Int × Int) := (impl_copyBoard.f a0_0 a0_1 l0_2).bind fun bt344 => (some (bt344.1, bt344.2.1, bt344.2.2, a0_3, a0_4, a0_5, a0_6, a0_7))
set_option maxHeartbeats 8000000 in
set_option maxRecDepth 100000 in
theorem impl_copyMachine.calls (a0_0 : Int) (a0_1 : Int) (A0_2 : Option Addr) (c0_2 : Nat) (l0_2 : List (S88)) (a0_3 : Int) (a0_4 : Int) (a0_5 : Int) (a0_6 : Int) (a0_7 : Int) (r1 : Int) (r2 : Int) (r3 : List (S88)) (r4 : Int) (r5 : Int) (r6 : Int) (r7 : Int) (r8 : Int) (w : World) (hr0_2 : Kd.C k88 w A0_2 l0_2.length l0_2) (hc0_2 : l0_2.length ≤ c0_2) (h : impl_copyMachine.f a0_0 a0_1 l0_2 a0_3 a0_4 a0_5 a0_6 a0_7 = some (r1, r2, r3, r4, r5, r6, r7, r8)) :
 Calls Try.prog 46 #[.agg #[.int .i64 a0_0, .int .i64 a0_1, .slice A0_2 l0_2.length c0_2, .int .i64 a0_3, .int .i64 a0_4, .int .i64 a0_5, .int .i64 a0_6, .int .i64 a0_7]] w fun e w' => ∃ v2_ : Value, e = .returned (.agg #[.int .i64 r1, .int .i64 r2, v2_, .int .i64 r4, .int .i64 r5, .int .i64 r6, .int .i64 r7, .int .i64 r8]) ∧ Kd.R k88 88 w' w.heap.size (fun _ => True) v2_ r3 ∧ Below w.heap.size w w' := by
 have Bg := Try.underlying32
 have Bf := Try.underlying30
 have Ac := Z.m hr0_2
 have Ab := Z.m hc0_2
 clear hr0_2 hc0_2
 have HB := Z.m (Below.refl w.heap.size w)
 have H : ((impl_copyBoard.f a0_0 a0_1 l0_2).bind fun bt344 => (some (bt344.1, bt344.2.1, bt344.2.2, a0_3, a0_4, a0_5, a0_6, a0_7))) = some (r1, r2, r3, r4, r5, r6, r7, r8) := h
 clear h
 replace H := Option.bind_eq_some_iff.mp H
 obtain ⟨⟨A6, A7, A8⟩, B0, H⟩ := H
 replace H : (some (A6, A7, A8, a0_3, a0_4, a0_5, a0_6, a0_7)) = some (r1, r2, r3, r4, r5, r6, r7, r8) := H
 have A2 := Z.m B0
 clear B0
 simp only [Option.some.injEq, Prod.mk.injEq] at H
 obtain ⟨rfl, rfl, rfl, rfl, rfl, rfl, rfl, rfl⟩ := H
 go_enter Try.func46, Try.ntmps46
 go_wp2_with (first | ((with_reducible refine gq (N := 1) rfl ?_); refine be (N := 1) (cs := #[.int .i64 a0_0, .int .i64 a0_1, .slice A0_2 l0_2.length c0_2, .int .i64 a0_3, .int .i64 a0_4, .int .i64 a0_5, .int .i64 a0_6, .int .i64 a0_7]) (t := 32) ?_; intro B7 hg w3 hbox hb; have A0 := Z.m (hbox); have A9 := gW (w := w) HB hg; have B2 := A9; replace HB := bB HB hb; clear hb hbox hg) | ((with_reducible refine gq (N := 2) rfl ?_); refine be (N := 2) (cs := #[.int .i64 0, .int .i64 0, .slice none 0 0, .int .i64 0, .int .i64 0, .int .i64 0, .int .i64 0, .int .i64 0]) (t := 32) ?_; intro Ad hg w4 hbox hb; have A1 := Z.m (hbox); have Aa := gW (w := w) HB hg; have B3 := Aa; have A4 := neL A0 hg; have A3 := neG A0 hg; replace A0 := kB A0 hb; replace HB := bB HB hb; clear hb hbox hg; have Bd := A4.o; have Be := A3.o; have Au := bc0 A0; have Av := bc1 A0; have Aw := bc2 A0; have Ax := bc3 A0; have Ay := bc4 A0; have Az := bc5 A0; have AA := bc6 A0; have AB := bc7 A0; have AK := qz A0.o 0; have AL := qz A0.o 1; have AM := qz A0.o 2; have AN := qz A0.o 3; have AO := qz A0.o 4; have AP := qz A0.o 5; have AQ := qz A0.o 6; have AR := qz A0.o 7) | ((with_reducible refine gc (f := 58) rfl ?_); refine gA (some 5) _ #[.agg #[.int .i64 a0_0, .int .i64 a0_1, .slice A0_2 l0_2.length c0_2]] ?_ Try.func58; (with_reducible refine (impl_copyBoard.calls a0_0 a0_1 _ _ l0_2 A6 A7 A8 _ ?side1 ?side2 A2.o).mono ?_); (case side1 => repeat (first | exact (Kd.C_below Ac.o HB.o) | (with_reducible refine Kd.C_alloc ?_ _) | (with_reducible refine Kd.C_drewN ?_ _) | (with_reducible refine Kd.C_drew ?_))); (case side2 => exact Ab.o); rintro e w7 ⟨Bh, rfl, B8, hb⟩; refine ⟨_, rfl, ?_⟩; have A5 := Z.m (Kd.R_lower B8 (below_size (vB HB))); replace A0 := kB A0 hb; replace A1 := kB A1 hb; replace HB := bB HB hb; (try clear hb); (try clear Bi); (try clear hk); (try clear hi); (try clear B8); have AC := bc0 A0; have AD := bc1 A0; have AE := bc2 A0; have AF := bc3 A0; have AG := bc4 A0; have AH := bc5 A0; have AI := bc6 A0; have AJ := bc7 A0; have AS := qz A0.o 0; have AT := qz A0.o 1; have AU := qz A0.o 2; have AV := qz A0.o 3; have AW := qz A0.o 4; have AX := qz A0.o 5; have AY := qz A0.o 6; have AZ := qz A0.o 7; obtain ⟨Ba, Bb, Bc⟩ := Kd.R_slice A5.o; subst Bc; have Ae := bc0 A1; have Af := bc1 A1; have Ag := bc2 A1; have Ah := bc3 A1; have Ai := bc4 A1; have Aj := bc5 A1; have Ak := bc6 A1; have Al := bc7 A1; have Am := qz A1.o 0; have An := qz A1.o 1; have Ao := qz A1.o 2; have Ap := qz A1.o 3; have Aq := qz A1.o 4; have Ar := qz A1.o 5; have As := qz A1.o 6; have At := qz A1.o 7))
 refine bodyPost_ret (results_cell_row rfl _ _ Ad 32 #[.int .i64 A6, .int .i64 A7, .slice Ba A8.length Bb, .int .i64 a0_3, .int .i64 a0_4, .int .i64 a0_5, .int .i64 a0_6, .int .i64 a0_7] (0, 0) _ rfl (by refine bK ?_; apply st8; refine bK ?_; (iterate 3 refine qF ?_ A3); exact A1.o) Try.underlying32 rfl (by kernel_rfl)) rfl ?_
 exact ⟨_, by first | rfl | (simp [eN, eS] <;> rfl) | (simp [*, eN, eS] <;> rfl), by refine rK ?_; exact Kd.Rm (rf (rf (rf (rf (rf (rf (rf (rf (rf1 (rf1 (rf1 (Kd.Ry (Kd.Ry A5.o A0.o (by decide)) A1.o (by decide))))))))))))) (fun _ hk => trivial), vB HB⟩

end Go.Proofs.Ytjkiolpepchpdaa.PAll
