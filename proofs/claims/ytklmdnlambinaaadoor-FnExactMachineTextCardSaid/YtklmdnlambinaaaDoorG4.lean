/- Began as a text that print.sh wrote (of the functions named below); turned and shortened by this session. -/
import Derived.Test.YtklmdnlambinaaaDoorItoa
import Derived.Test.YtklmdnlambinaaaDoorG0
import Derived.Test.YtklmdnlambinaaaDoorG3
namespace Go.Proofs.YtklmdnlambinaaaDoor.PAll
open Go.RowKit Go.Proofs.YtklmdnlambinaaaDoorW.PrintWords Go.Proofs.YtklmdnlambinaaaDoorW.PrintLast Go.Proofs.YtklmdnlambinaaaDoorW.PrintMore
attribute [local go_sem] max2_int min2_int max_two min_two max_three min_three max_four min_four   -- for this text's walks alone
set_option linter.unusedVariables false
set_option linter.unusedSimpArgs false

/-! ### impl_IsMachine: function 26 -/
def impl_IsMachine.f (k : Nat) (a0_0 : Int) (a0_1 : Int) (l0_2 : List (S62)) (a0_3 : Int) (a0_4 : Int) (a0_5 : Int) (a0_6 : Int) (a0_7 : Int) : Option (Bool) := (impl_validEntry.f k a0_0 a0_1 l0_2 a0_3).bind fun t188 => (if t188 = true then ((impl_validEntry.f k a0_0 a0_1 l0_2 a0_4).bind fun t189 => (if t189 = true then (if a0_5 ≥ 0 then (if a0_5 ≤ 30 then (if a0_6 ≥ 0 then (if a0_6 ≤ 30 then (if a0_7 ≥ 0 then (some (decide (a0_7 ≤ 2))) else (some false)) else (some false)) else (some false)) else (some false)) else (some false)) else (some false))) else (some false))
set_option maxHeartbeats 8000000 in
set_option maxRecDepth 100000 in
theorem impl_IsMachine.calls (k : Nat) (a0_0 : Int) (a0_1 : Int) (A0_2 : Option Addr) (c0_2 : Nat) (l0_2 : List (S62)) (a0_3 : Int) (a0_4 : Int) (a0_5 : Int) (a0_6 : Int) (a0_7 : Int) (r : Bool) (w : World) (hr0_2 : Kd.C k62 w A0_2 l0_2.length l0_2) (hc0_2 : l0_2.length ≤ c0_2) (h : impl_IsMachine.f k a0_0 a0_1 l0_2 a0_3 a0_4 a0_5 a0_6 a0_7 = some r) :
 Calls Tryd.prog 26 #[.agg #[.int .i64 a0_0, .int .i64 a0_1, .slice A0_2 l0_2.length c0_2, .int .i64 a0_3, .int .i64 a0_4, .int .i64 a0_5, .int .i64 a0_6, .int .i64 a0_7]] w fun e w' => e = .returned (.bool r) ∧ Below w.heap.size w w' := by
 have FQ := Tryd.underlying39
 have FP := Tryd.underlying24
 have A5 := Z.m hr0_2
 have A3 := Z.m hc0_2
 clear hr0_2 hc0_2
 have HB := Z.m (Below.refl w.heap.size w)
 have H : ((impl_validEntry.f k a0_0 a0_1 l0_2 a0_3).bind fun Aa => (if Aa = true then ((impl_validEntry.f k a0_0 a0_1 l0_2 a0_4).bind fun A8 => (if A8 = true then (if a0_5 ≥ 0 then (if a0_5 ≤ 30 then (if a0_6 ≥ 0 then (if a0_6 ≤ 30 then (if a0_7 ≥ 0 then (some (decide (a0_7 ≤ 2))) else (some false)) else (some false)) else (some false)) else (some false)) else (some false)) else (some false))) else (some false))) = some r := h
 clear h
 replace H := Option.bind_eq_some_iff.mp H
 obtain ⟨Aa, FN, H⟩ := H
 replace H : (if Aa = true then ((impl_validEntry.f k a0_0 a0_1 l0_2 a0_4).bind fun A8 => (if A8 = true then (if a0_5 ≥ 0 then (if a0_5 ≤ 30 then (if a0_6 ≥ 0 then (if a0_6 ≤ 30 then (if a0_7 ≥ 0 then (some (decide (a0_7 ≤ 2))) else (some false)) else (some false)) else (some false)) else (some false)) else (some false)) else (some false))) else (some false)) = some r := H
 have A2 := Z.m FN
 clear FN
 by_cases c3 : Aa = true
 ·subst c3
  have H1 : ((impl_validEntry.f k a0_0 a0_1 l0_2 a0_4).bind fun A8 => (if A8 = true then (if a0_5 ≥ 0 then (if a0_5 ≤ 30 then (if a0_6 ≥ 0 then (if a0_6 ≤ 30 then (if a0_7 ≥ 0 then (some (decide (a0_7 ≤ 2))) else (some false)) else (some false)) else (some false)) else (some false)) else (some false)) else (some false))) = some r := by rw [if_pos rfl] at H; exact H
  clear H
  have H := H1
  clear H1
  replace H := Option.bind_eq_some_iff.mp H
  obtain ⟨A8, FO, H⟩ := H
  replace H : (if A8 = true then (if a0_5 ≥ 0 then (if a0_5 ≤ 30 then (if a0_6 ≥ 0 then (if a0_6 ≤ 30 then (if a0_7 ≥ 0 then (some (decide (a0_7 ≤ 2))) else (some false)) else (some false)) else (some false)) else (some false)) else (some false)) else (some false)) = some r := H
  have A4 := Z.m FO
  clear FO
  by_cases c5 : A8 = true
  ·subst c5
   have H1 : (if a0_5 ≥ 0 then (if a0_5 ≤ 30 then (if a0_6 ≥ 0 then (if a0_6 ≤ 30 then (if a0_7 ≥ 0 then (some (decide (a0_7 ≤ 2))) else (some false)) else (some false)) else (some false)) else (some false)) else (some false)) = some r := by rw [if_pos rfl] at H; exact H
   clear H
   have H := H1
   clear H1
   by_cases c6 : a0_5 ≥ 0
   ·rw [if_pos c6] at H
    have FI := decide_eq_true c6
    clear c6
    by_cases c7 : a0_5 ≤ 30
    ·rw [if_pos c7] at H
     have FJ := decide_eq_true c7
     clear c7
     by_cases c8 : a0_6 ≥ 0
     ·rw [if_pos c8] at H
      have FL := decide_eq_true c8
      clear c8
      by_cases c9 : a0_6 ≤ 30
      ·rw [if_pos c9] at H
       have FM := decide_eq_true c9
       clear c9
       by_cases c10 : a0_7 ≥ 0
       ·rw [if_pos c10] at H
        have Ab := decide_eq_true c10
        clear c10
        obtain rfl := Option.some.inj H
        go_enter Tryd.func26, Tryd.ntmps26
        go_wp2_with (first | ((with_reducible refine gq (N := 1) rfl ?_); refine be (N := 1) (cs := #[.int .i64 a0_0, .int .i64 a0_1, .slice A0_2 l0_2.length c0_2, .int .i64 a0_3, .int .i64 a0_4, .int .i64 a0_5, .int .i64 a0_6, .int .i64 a0_7]) (t := 39) ?_; intro A7 hg FR hbox hb; have A0 := Z.m (hbox); have A1 := gW (w := w) HB hg; have A6 := A1; replace HB := bB HB hb; clear hb hbox hg; have Ac := bc0 A0; have Ad := bc1 A0; have Ae := bc2 A0; have Af := bc3 A0; have Ag := bc4 A0; have Ah := bc5 A0; have Ai := bc6 A0; have Aj := bc7 A0; have CY := qz A0.o 0; have CZ := qz A0.o 1; have D0 := qz A0.o 2; have D1 := qz A0.o 3; have D2 := qz A0.o 4; have D3 := qz A0.o 5; have D4 := qz A0.o 6; have D5 := qz A0.o 7) | ((with_reducible refine gc (f := 42) rfl ?_); refine gA (some 7) _ #[.agg #[.int .i64 a0_0, .int .i64 a0_1, .slice A0_2 l0_2.length c0_2], .int .i64 a0_3] ?_ Tryd.func42; (with_reducible refine (impl_validEntry.calls k a0_0 a0_1 _ _ l0_2 a0_3 true _ ?side1 ?side2 A2.o).mono ?_); (case side1 => repeat (first | exact (Kd.C_below A5.o HB.o) | (with_reducible refine Kd.C_alloc ?_ _) | (with_reducible refine Kd.C_drewN ?_ _) | (with_reducible refine Kd.C_drew ?_))); (case side2 => exact A3.o); rintro e FS ⟨rfl, hb⟩; refine ⟨_, rfl, ?_⟩; replace A0 := kB A0 hb; replace HB := bB HB hb; (try clear hb); (try clear A9); (try clear hk); (try clear hi); have Ak := bc0 A0; have Al := bc1 A0; have Am := bc2 A0; have An := bc3 A0; have Ao := bc4 A0; have Ap := bc5 A0; have Aq := bc6 A0; have Ar := bc7 A0; have D6 := qz A0.o 0; have D7 := qz A0.o 1; have D8 := qz A0.o 2; have D9 := qz A0.o 3; have Da := qz A0.o 4; have Db := qz A0.o 5; have Dc := qz A0.o 6; have Dd := qz A0.o 7) | (go_at_call 42; (with_reducible refine (impl_validEntry.calls k a0_0 a0_1 _ _ l0_2 a0_4 true _ ?side1 ?side2 A4.o).mono ?_); (case side1 => repeat (first | exact (Kd.C_below A5.o HB.o) | (with_reducible refine Kd.C_alloc ?_ _) | (with_reducible refine Kd.C_drewN ?_ _) | (with_reducible refine Kd.C_drew ?_))); (case side2 => exact A3.o); rintro e FT ⟨rfl, hb⟩; replace A0 := kB A0 hb; replace HB := bB HB hb; (try clear hb); (try clear A9); (try clear hk); (try clear hi); have As := bc0 A0; have At := bc1 A0; have Au := bc2 A0; have Av := bc3 A0; have Aw := bc4 A0; have Ax := bc5 A0; have Ay := bc6 A0; have Az := bc7 A0; have De := qz A0.o 0; have Df := qz A0.o 1; have Dg := qz A0.o 2; have Dh := qz A0.o 3; have Di := qz A0.o 4; have Dj := qz A0.o 5; have Dk := qz A0.o 6; have Dl := qz A0.o 7))
        go_ret
        exact ⟨by first | rfl | (simp [eN, eS] <;> rfl) | (simp [*, eN, eS] <;> rfl), vB HB⟩
       ·rw [if_neg c10] at H
        have Ab := decide_eq_false c10
        clear c10
        obtain rfl := Option.some.inj H
        go_enter Tryd.func26, Tryd.ntmps26
        go_wp2_with (first | ((with_reducible refine gq (N := 1) rfl ?_); refine be (N := 1) (cs := #[.int .i64 a0_0, .int .i64 a0_1, .slice A0_2 l0_2.length c0_2, .int .i64 a0_3, .int .i64 a0_4, .int .i64 a0_5, .int .i64 a0_6, .int .i64 a0_7]) (t := 39) ?_; intro A7 hg FU hbox hb; have A0 := Z.m (hbox); have A1 := gW (w := w) HB hg; have A6 := A1; replace HB := bB HB hb; clear hb hbox hg; have AA := bc0 A0; have AB := bc1 A0; have AC := bc2 A0; have AD := bc3 A0; have AE := bc4 A0; have AF := bc5 A0; have AG := bc6 A0; have AH := bc7 A0; have Dm := qz A0.o 0; have Dn := qz A0.o 1; have Do := qz A0.o 2; have Dp := qz A0.o 3; have Dq := qz A0.o 4; have Dr := qz A0.o 5; have Ds := qz A0.o 6; have Dt := qz A0.o 7) | ((with_reducible refine gc (f := 42) rfl ?_); refine gA (some 7) _ #[.agg #[.int .i64 a0_0, .int .i64 a0_1, .slice A0_2 l0_2.length c0_2], .int .i64 a0_3] ?_ Tryd.func42; (with_reducible refine (impl_validEntry.calls k a0_0 a0_1 _ _ l0_2 a0_3 true _ ?side1 ?side2 A2.o).mono ?_); (case side1 => repeat (first | exact (Kd.C_below A5.o HB.o) | (with_reducible refine Kd.C_alloc ?_ _) | (with_reducible refine Kd.C_drewN ?_ _) | (with_reducible refine Kd.C_drew ?_))); (case side2 => exact A3.o); rintro e FV ⟨rfl, hb⟩; refine ⟨_, rfl, ?_⟩; replace A0 := kB A0 hb; replace HB := bB HB hb; (try clear hb); (try clear A9); (try clear hk); (try clear hi); have AI := bc0 A0; have AJ := bc1 A0; have AK := bc2 A0; have AL := bc3 A0; have AM := bc4 A0; have AN := bc5 A0; have AO := bc6 A0; have AP := bc7 A0; have Du := qz A0.o 0; have Dv := qz A0.o 1; have Dw := qz A0.o 2; have Dx := qz A0.o 3; have Dy := qz A0.o 4; have Dz := qz A0.o 5; have DA := qz A0.o 6; have DB := qz A0.o 7) | (go_at_call 42; (with_reducible refine (impl_validEntry.calls k a0_0 a0_1 _ _ l0_2 a0_4 true _ ?side1 ?side2 A4.o).mono ?_); (case side1 => repeat (first | exact (Kd.C_below A5.o HB.o) | (with_reducible refine Kd.C_alloc ?_ _) | (with_reducible refine Kd.C_drewN ?_ _) | (with_reducible refine Kd.C_drew ?_))); (case side2 => exact A3.o); rintro e FW ⟨rfl, hb⟩; replace A0 := kB A0 hb; replace HB := bB HB hb; (try clear hb); (try clear A9); (try clear hk); (try clear hi); have AQ := bc0 A0; have AR := bc1 A0; have AS := bc2 A0; have AT := bc3 A0; have AU := bc4 A0; have AV := bc5 A0; have AW := bc6 A0; have AX := bc7 A0; have DC := qz A0.o 0; have DD := qz A0.o 1; have DE := qz A0.o 2; have DF := qz A0.o 3; have DG := qz A0.o 4; have DH := qz A0.o 5; have DI := qz A0.o 6; have DJ := qz A0.o 7))
        go_ret
        exact ⟨by first | rfl | (simp [eN, eS] <;> rfl) | (simp [*, eN, eS] <;> rfl), vB HB⟩
      ·rw [if_neg c9] at H
       have FM := decide_eq_false c9
       clear c9
       obtain rfl := Option.some.inj H
       go_enter Tryd.func26, Tryd.ntmps26
       go_wp2_with (first | ((with_reducible refine gq (N := 1) rfl ?_); refine be (N := 1) (cs := #[.int .i64 a0_0, .int .i64 a0_1, .slice A0_2 l0_2.length c0_2, .int .i64 a0_3, .int .i64 a0_4, .int .i64 a0_5, .int .i64 a0_6, .int .i64 a0_7]) (t := 39) ?_; intro A7 hg FX hbox hb; have A0 := Z.m (hbox); have A1 := gW (w := w) HB hg; have A6 := A1; replace HB := bB HB hb; clear hb hbox hg; have AY := bc0 A0; have AZ := bc1 A0; have B0 := bc2 A0; have B1 := bc3 A0; have B2 := bc4 A0; have B4 := bc5 A0; have B5 := bc6 A0; have B7 := bc7 A0; have DK := qz A0.o 0; have DL := qz A0.o 1; have DM := qz A0.o 2; have DN := qz A0.o 3; have DO := qz A0.o 4; have DP := qz A0.o 5; have DQ := qz A0.o 6; have DR := qz A0.o 7) | ((with_reducible refine gc (f := 42) rfl ?_); refine gA (some 7) _ #[.agg #[.int .i64 a0_0, .int .i64 a0_1, .slice A0_2 l0_2.length c0_2], .int .i64 a0_3] ?_ Tryd.func42; (with_reducible refine (impl_validEntry.calls k a0_0 a0_1 _ _ l0_2 a0_3 true _ ?side1 ?side2 A2.o).mono ?_); (case side1 => repeat (first | exact (Kd.C_below A5.o HB.o) | (with_reducible refine Kd.C_alloc ?_ _) | (with_reducible refine Kd.C_drewN ?_ _) | (with_reducible refine Kd.C_drew ?_))); (case side2 => exact A3.o); rintro e FY ⟨rfl, hb⟩; refine ⟨_, rfl, ?_⟩; replace A0 := kB A0 hb; replace HB := bB HB hb; (try clear hb); (try clear A9); (try clear hk); (try clear hi); have B8 := bc0 A0; have B9 := bc1 A0; have Ba := bc2 A0; have Bb := bc3 A0; have Bc := bc4 A0; have Bd := bc5 A0; have Be := bc6 A0; have Bf := bc7 A0; have DS := qz A0.o 0; have DT := qz A0.o 1; have DU := qz A0.o 2; have DV := qz A0.o 3; have DW := qz A0.o 4; have DX := qz A0.o 5; have DY := qz A0.o 6; have DZ := qz A0.o 7) | (go_at_call 42; (with_reducible refine (impl_validEntry.calls k a0_0 a0_1 _ _ l0_2 a0_4 true _ ?side1 ?side2 A4.o).mono ?_); (case side1 => repeat (first | exact (Kd.C_below A5.o HB.o) | (with_reducible refine Kd.C_alloc ?_ _) | (with_reducible refine Kd.C_drewN ?_ _) | (with_reducible refine Kd.C_drew ?_))); (case side2 => exact A3.o); rintro e FZ ⟨rfl, hb⟩; replace A0 := kB A0 hb; replace HB := bB HB hb; (try clear hb); (try clear A9); (try clear hk); (try clear hi); have Bg := bc0 A0; have Bh := bc1 A0; have Bi := bc2 A0; have Bj := bc3 A0; have Bk := bc4 A0; have Bl := bc5 A0; have Bm := bc6 A0; have Bn := bc7 A0; have E0 := qz A0.o 0; have E1 := qz A0.o 1; have E2 := qz A0.o 2; have E3 := qz A0.o 3; have E4 := qz A0.o 4; have E5 := qz A0.o 5; have E6 := qz A0.o 6; have E7 := qz A0.o 7))
       go_ret
       exact ⟨by first | rfl | (simp [eN, eS] <;> rfl) | (simp [*, eN, eS] <;> rfl), vB HB⟩
     ·rw [if_neg c8] at H
      have FL := decide_eq_false c8
      clear c8
      obtain rfl := Option.some.inj H
      go_enter Tryd.func26, Tryd.ntmps26
      go_wp2_with (first | ((with_reducible refine gq (N := 1) rfl ?_); refine be (N := 1) (cs := #[.int .i64 a0_0, .int .i64 a0_1, .slice A0_2 l0_2.length c0_2, .int .i64 a0_3, .int .i64 a0_4, .int .i64 a0_5, .int .i64 a0_6, .int .i64 a0_7]) (t := 39) ?_; intro A7 hg G0 hbox hb; have A0 := Z.m (hbox); have A1 := gW (w := w) HB hg; have A6 := A1; replace HB := bB HB hb; clear hb hbox hg; have Bo := bc0 A0; have Bp := bc1 A0; have Bq := bc2 A0; have Br := bc3 A0; have Bs := bc4 A0; have Bt := bc5 A0; have Bu := bc6 A0; have Bv := bc7 A0; have E8 := qz A0.o 0; have E9 := qz A0.o 1; have Ea := qz A0.o 2; have Eb := qz A0.o 3; have Ec := qz A0.o 4; have Ed := qz A0.o 5; have Ee := qz A0.o 6; have Ef := qz A0.o 7) | ((with_reducible refine gc (f := 42) rfl ?_); refine gA (some 7) _ #[.agg #[.int .i64 a0_0, .int .i64 a0_1, .slice A0_2 l0_2.length c0_2], .int .i64 a0_3] ?_ Tryd.func42; (with_reducible refine (impl_validEntry.calls k a0_0 a0_1 _ _ l0_2 a0_3 true _ ?side1 ?side2 A2.o).mono ?_); (case side1 => repeat (first | exact (Kd.C_below A5.o HB.o) | (with_reducible refine Kd.C_alloc ?_ _) | (with_reducible refine Kd.C_drewN ?_ _) | (with_reducible refine Kd.C_drew ?_))); (case side2 => exact A3.o); rintro e G1 ⟨rfl, hb⟩; refine ⟨_, rfl, ?_⟩; replace A0 := kB A0 hb; replace HB := bB HB hb; (try clear hb); (try clear A9); (try clear hk); (try clear hi); have Bw := bc0 A0; have Bx := bc1 A0; have By := bc2 A0; have Bz := bc3 A0; have BA := bc4 A0; have BB := bc5 A0; have BC := bc6 A0; have BD := bc7 A0; have Eg := qz A0.o 0; have Eh := qz A0.o 1; have Ei := qz A0.o 2; have Ej := qz A0.o 3; have Ek := qz A0.o 4; have El := qz A0.o 5; have Em := qz A0.o 6; have En := qz A0.o 7) | (go_at_call 42; (with_reducible refine (impl_validEntry.calls k a0_0 a0_1 _ _ l0_2 a0_4 true _ ?side1 ?side2 A4.o).mono ?_); (case side1 => repeat (first | exact (Kd.C_below A5.o HB.o) | (with_reducible refine Kd.C_alloc ?_ _) | (with_reducible refine Kd.C_drewN ?_ _) | (with_reducible refine Kd.C_drew ?_))); (case side2 => exact A3.o); rintro e G2 ⟨rfl, hb⟩; replace A0 := kB A0 hb; replace HB := bB HB hb; (try clear hb); (try clear A9); (try clear hk); (try clear hi); have BE := bc0 A0; have BF := bc1 A0; have BG := bc2 A0; have BH := bc3 A0; have BI := bc4 A0; have BJ := bc5 A0; have BK := bc6 A0; have BL := bc7 A0; have Eo := qz A0.o 0; have Ep := qz A0.o 1; have Er := qz A0.o 2; have Es := qz A0.o 3; have Et := qz A0.o 4; have Eu := qz A0.o 5; have Ew := qz A0.o 6; have Ex := qz A0.o 7))
      go_ret
      exact ⟨by first | rfl | (simp [eN, eS] <;> rfl) | (simp [*, eN, eS] <;> rfl), vB HB⟩
    ·rw [if_neg c7] at H
     have FJ := decide_eq_false c7
     clear c7
     obtain rfl := Option.some.inj H
     go_enter Tryd.func26, Tryd.ntmps26
     go_wp2_with (first | ((with_reducible refine gq (N := 1) rfl ?_); refine be (N := 1) (cs := #[.int .i64 a0_0, .int .i64 a0_1, .slice A0_2 l0_2.length c0_2, .int .i64 a0_3, .int .i64 a0_4, .int .i64 a0_5, .int .i64 a0_6, .int .i64 a0_7]) (t := 39) ?_; intro A7 hg G3 hbox hb; have A0 := Z.m (hbox); have A1 := gW (w := w) HB hg; have A6 := A1; replace HB := bB HB hb; clear hb hbox hg; have BM := bc0 A0; have BN := bc1 A0; have BO := bc2 A0; have BP := bc3 A0; have BQ := bc4 A0; have BR := bc5 A0; have BS := bc6 A0; have BT := bc7 A0; have Ey := qz A0.o 0; have Ez := qz A0.o 1; have EA := qz A0.o 2; have EB := qz A0.o 3; have EC := qz A0.o 4; have ED := qz A0.o 5; have EE := qz A0.o 6; have EF := qz A0.o 7) | ((with_reducible refine gc (f := 42) rfl ?_); refine gA (some 7) _ #[.agg #[.int .i64 a0_0, .int .i64 a0_1, .slice A0_2 l0_2.length c0_2], .int .i64 a0_3] ?_ Tryd.func42; (with_reducible refine (impl_validEntry.calls k a0_0 a0_1 _ _ l0_2 a0_3 true _ ?side1 ?side2 A2.o).mono ?_); (case side1 => repeat (first | exact (Kd.C_below A5.o HB.o) | (with_reducible refine Kd.C_alloc ?_ _) | (with_reducible refine Kd.C_drewN ?_ _) | (with_reducible refine Kd.C_drew ?_))); (case side2 => exact A3.o); rintro e G4 ⟨rfl, hb⟩; refine ⟨_, rfl, ?_⟩; replace A0 := kB A0 hb; replace HB := bB HB hb; (try clear hb); (try clear A9); (try clear hk); (try clear hi); have BU := bc0 A0; have BV := bc1 A0; have BW := bc2 A0; have BX := bc3 A0; have BY := bc4 A0; have BZ := bc5 A0; have C0 := bc6 A0; have C1 := bc7 A0; have EG := qz A0.o 0; have EH := qz A0.o 1; have EI := qz A0.o 2; have EJ := qz A0.o 3; have EK := qz A0.o 4; have EL := qz A0.o 5; have EM := qz A0.o 6; have EN := qz A0.o 7) | (go_at_call 42; (with_reducible refine (impl_validEntry.calls k a0_0 a0_1 _ _ l0_2 a0_4 true _ ?side1 ?side2 A4.o).mono ?_); (case side1 => repeat (first | exact (Kd.C_below A5.o HB.o) | (with_reducible refine Kd.C_alloc ?_ _) | (with_reducible refine Kd.C_drewN ?_ _) | (with_reducible refine Kd.C_drew ?_))); (case side2 => exact A3.o); rintro e G5 ⟨rfl, hb⟩; replace A0 := kB A0 hb; replace HB := bB HB hb; (try clear hb); (try clear A9); (try clear hk); (try clear hi); have C2 := bc0 A0; have C3 := bc1 A0; have C4 := bc2 A0; have C5 := bc3 A0; have C6 := bc4 A0; have C7 := bc5 A0; have C8 := bc6 A0; have C9 := bc7 A0; have EO := qz A0.o 0; have EP := qz A0.o 1; have EQ := qz A0.o 2; have ER := qz A0.o 3; have ES := qz A0.o 4; have ET := qz A0.o 5; have EU := qz A0.o 6; have EV := qz A0.o 7))
     go_ret
     exact ⟨by first | rfl | (simp [eN, eS] <;> rfl) | (simp [*, eN, eS] <;> rfl), vB HB⟩
   ·rw [if_neg c6] at H
    have FI := decide_eq_false c6
    clear c6
    obtain rfl := Option.some.inj H
    go_enter Tryd.func26, Tryd.ntmps26
    go_wp2_with (first | ((with_reducible refine gq (N := 1) rfl ?_); refine be (N := 1) (cs := #[.int .i64 a0_0, .int .i64 a0_1, .slice A0_2 l0_2.length c0_2, .int .i64 a0_3, .int .i64 a0_4, .int .i64 a0_5, .int .i64 a0_6, .int .i64 a0_7]) (t := 39) ?_; intro A7 hg G6 hbox hb; have A0 := Z.m (hbox); have A1 := gW (w := w) HB hg; have A6 := A1; replace HB := bB HB hb; clear hb hbox hg; have Ca := bc0 A0; have Cb := bc1 A0; have Cd := bc2 A0; have Ce := bc3 A0; have Cf := bc4 A0; have Cg := bc5 A0; have Ch := bc6 A0; have Ci := bc7 A0; have EW := qz A0.o 0; have EX := qz A0.o 1; have EY := qz A0.o 2; have EZ := qz A0.o 3; have F0 := qz A0.o 4; have F1 := qz A0.o 5; have F2 := qz A0.o 6; have F3 := qz A0.o 7) | ((with_reducible refine gc (f := 42) rfl ?_); refine gA (some 7) _ #[.agg #[.int .i64 a0_0, .int .i64 a0_1, .slice A0_2 l0_2.length c0_2], .int .i64 a0_3] ?_ Tryd.func42; (with_reducible refine (impl_validEntry.calls k a0_0 a0_1 _ _ l0_2 a0_3 true _ ?side1 ?side2 A2.o).mono ?_); (case side1 => repeat (first | exact (Kd.C_below A5.o HB.o) | (with_reducible refine Kd.C_alloc ?_ _) | (with_reducible refine Kd.C_drewN ?_ _) | (with_reducible refine Kd.C_drew ?_))); (case side2 => exact A3.o); rintro e G7 ⟨rfl, hb⟩; refine ⟨_, rfl, ?_⟩; replace A0 := kB A0 hb; replace HB := bB HB hb; (try clear hb); (try clear A9); (try clear hk); (try clear hi); have Cj := bc0 A0; have Cl := bc1 A0; have Cm := bc2 A0; have Cn := bc3 A0; have Co := bc4 A0; have Cp := bc5 A0; have Cq := bc6 A0; have Cr := bc7 A0; have F4 := qz A0.o 0; have F5 := qz A0.o 1; have F6 := qz A0.o 2; have F7 := qz A0.o 3; have F8 := qz A0.o 4; have F9 := qz A0.o 5; have Fa := qz A0.o 6; have Fb := qz A0.o 7) | (go_at_call 42; (with_reducible refine (impl_validEntry.calls k a0_0 a0_1 _ _ l0_2 a0_4 true _ ?side1 ?side2 A4.o).mono ?_); (case side1 => repeat (first | exact (Kd.C_below A5.o HB.o) | (with_reducible refine Kd.C_alloc ?_ _) | (with_reducible refine Kd.C_drewN ?_ _) | (with_reducible refine Kd.C_drew ?_))); (case side2 => exact A3.o); rintro e G8 ⟨rfl, hb⟩; replace A0 := kB A0 hb; replace HB := bB HB hb; (try clear hb); (try clear A9); (try clear hk); (try clear hi); have Cs := bc0 A0; have Ct := bc1 A0; have Cu := bc2 A0; have Cv := bc3 A0; have Cw := bc4 A0; have Cx := bc5 A0; have Cy := bc6 A0; have Cz := bc7 A0; have Fc := qz A0.o 0; have Fd := qz A0.o 1; have Fe := qz A0.o 2; have Ff := qz A0.o 3; have Fg := qz A0.o 4; have Fh := qz A0.o 5; have Fi := qz A0.o 6; have Fj := qz A0.o 7))
    go_ret
    exact ⟨by first | rfl | (simp [eN, eS] <;> rfl) | (simp [*, eN, eS] <;> rfl), vB HB⟩
  ·replace c5 := Bool.eq_false_iff.mpr c5
   subst c5
   have H1 : (some false) = some r := by rw [if_neg (show ¬ (false = true) by decide)] at H; exact H
   clear H
   have H := H1
   clear H1
   obtain rfl := Option.some.inj H
   go_enter Tryd.func26, Tryd.ntmps26
   go_wp2_with (first | ((with_reducible refine gq (N := 1) rfl ?_); refine be (N := 1) (cs := #[.int .i64 a0_0, .int .i64 a0_1, .slice A0_2 l0_2.length c0_2, .int .i64 a0_3, .int .i64 a0_4, .int .i64 a0_5, .int .i64 a0_6, .int .i64 a0_7]) (t := 39) ?_; intro A7 hg G9 hbox hb; have A0 := Z.m (hbox); have A1 := gW (w := w) HB hg; have A6 := A1; replace HB := bB HB hb; clear hb hbox hg; have CA := bc0 A0; have CB := bc1 A0; have CC := bc2 A0; have CD := bc3 A0; have CE := bc4 A0; have CF := bc5 A0; have CG := bc6 A0; have CH := bc7 A0; have Fk := qz A0.o 0; have Fl := qz A0.o 1; have Fm := qz A0.o 2; have Fn := qz A0.o 3; have Fo := qz A0.o 4; have Fp := qz A0.o 5; have Fq := qz A0.o 6; have Fr := qz A0.o 7) | ((with_reducible refine gc (f := 42) rfl ?_); refine gA (some 7) _ #[.agg #[.int .i64 a0_0, .int .i64 a0_1, .slice A0_2 l0_2.length c0_2], .int .i64 a0_3] ?_ Tryd.func42; (with_reducible refine (impl_validEntry.calls k a0_0 a0_1 _ _ l0_2 a0_3 true _ ?side1 ?side2 A2.o).mono ?_); (case side1 => repeat (first | exact (Kd.C_below A5.o HB.o) | (with_reducible refine Kd.C_alloc ?_ _) | (with_reducible refine Kd.C_drewN ?_ _) | (with_reducible refine Kd.C_drew ?_))); (case side2 => exact A3.o); rintro e Ga ⟨rfl, hb⟩; refine ⟨_, rfl, ?_⟩; replace A0 := kB A0 hb; replace HB := bB HB hb; (try clear hb); (try clear A9); (try clear hk); (try clear hi); have CI := bc0 A0; have CJ := bc1 A0; have CK := bc2 A0; have CL := bc3 A0; have CM := bc4 A0; have CN := bc5 A0; have CO := bc6 A0; have CP := bc7 A0; have Fs := qz A0.o 0; have Ft := qz A0.o 1; have Fu := qz A0.o 2; have Fv := qz A0.o 3; have Fw := qz A0.o 4; have Fx := qz A0.o 5; have Fy := qz A0.o 6; have Fz := qz A0.o 7) | (go_at_call 42; (with_reducible refine (impl_validEntry.calls k a0_0 a0_1 _ _ l0_2 a0_4 false _ ?side1 ?side2 A4.o).mono ?_); (case side1 => repeat (first | exact (Kd.C_below A5.o HB.o) | (with_reducible refine Kd.C_alloc ?_ _) | (with_reducible refine Kd.C_drewN ?_ _) | (with_reducible refine Kd.C_drew ?_))); (case side2 => exact A3.o); rintro e Gb ⟨rfl, hb⟩; replace A0 := kB A0 hb; replace HB := bB HB hb; (try clear hb); (try clear A9); (try clear hk); (try clear hi)))
   go_ret
   exact ⟨by first | rfl | (simp [eN, eS] <;> rfl) | (simp [*, eN, eS] <;> rfl), vB HB⟩
 ·replace c3 := Bool.eq_false_iff.mpr c3
  subst c3
  have H1 : (some false) = some r := by rw [if_neg (show ¬ (false = true) by decide)] at H; exact H
  clear H
  have H := H1
  clear H1
  obtain rfl := Option.some.inj H
  go_enter Tryd.func26, Tryd.ntmps26
  go_wp2_with (first | ((with_reducible refine gq (N := 1) rfl ?_); refine be (N := 1) (cs := #[.int .i64 a0_0, .int .i64 a0_1, .slice A0_2 l0_2.length c0_2, .int .i64 a0_3, .int .i64 a0_4, .int .i64 a0_5, .int .i64 a0_6, .int .i64 a0_7]) (t := 39) ?_; intro A7 hg Gc hbox hb; have A0 := Z.m (hbox); have A1 := gW (w := w) HB hg; have A6 := A1; replace HB := bB HB hb; clear hb hbox hg; have CQ := bc0 A0; have CR := bc1 A0; have CS := bc2 A0; have CT := bc3 A0; have CU := bc4 A0; have CV := bc5 A0; have CW := bc6 A0; have CX := bc7 A0; have FA := qz A0.o 0; have FB := qz A0.o 1; have FC := qz A0.o 2; have FD := qz A0.o 3; have FE := qz A0.o 4; have FF := qz A0.o 5; have FG := qz A0.o 6; have FH := qz A0.o 7) | ((with_reducible refine gc (f := 42) rfl ?_); refine gA (some 7) _ #[.agg #[.int .i64 a0_0, .int .i64 a0_1, .slice A0_2 l0_2.length c0_2], .int .i64 a0_3] ?_ Tryd.func42; (with_reducible refine (impl_validEntry.calls k a0_0 a0_1 _ _ l0_2 a0_3 false _ ?side1 ?side2 A2.o).mono ?_); (case side1 => repeat (first | exact (Kd.C_below A5.o HB.o) | (with_reducible refine Kd.C_alloc ?_ _) | (with_reducible refine Kd.C_drewN ?_ _) | (with_reducible refine Kd.C_drew ?_))); (case side2 => exact A3.o); rintro e Gd ⟨rfl, hb⟩; refine ⟨_, rfl, ?_⟩; replace A0 := kB A0 hb; replace HB := bB HB hb; (try clear hb); (try clear A9); (try clear hk); (try clear hi)))
  go_ret
  exact ⟨by first | rfl | (simp [eN, eS] <;> rfl) | (simp [*, eN, eS] <;> rfl), vB HB⟩

/-! ### impl_CellLetter: function 50 -/
def impl_CellLetter.f (a0_0 : Int) (a0_1 : Int) : Option (ByteArray × Bool) := (impl_IsCell.f a0_0 a0_1).bind fun t191 => (if t191 = true then (if a0_1 = 1 then (if 0 ≤ a0_0 then (if a0_0 ≤ (wrap64 (a0_0 + 1)) then (if (wrap64 (a0_0 + 1)) ≤ 8 then (some ((⟨#[46, 108, 114, 70, 120, 111, 71, 99]⟩ : ByteArray).extract (a0_0 : Int).toNat ((wrap64 (a0_0 + 1)) : Int).toNat, true)) else (none)) else (none)) else (none)) else (if 0 ≤ a0_0 then (if a0_0 ≤ (wrap64 (a0_0 + 1)) then (if (wrap64 (a0_0 + 1)) ≤ 8 then (some ((⟨#[46, 108, 114, 102, 120, 111, 103, 99]⟩ : ByteArray).extract (a0_0 : Int).toNat ((wrap64 (a0_0 + 1)) : Int).toNat, true)) else (none)) else (none)) else (none))) else (some ((⟨#[]⟩ : ByteArray), false)))
set_option maxHeartbeats 8000000 in
set_option maxRecDepth 100000 in
theorem impl_CellLetter.calls (a0_0 : Int) (a0_1 : Int) (r1 : ByteArray) (r2 : Bool) (w : World) (h : impl_CellLetter.f a0_0 a0_1 = some (r1, r2)) :
 Calls Tryd.prog 50 #[.agg #[.int .i64 a0_0, .int .i64 a0_1]] w fun e w' => e = .returned (.tuple #[.string r1, .bool r2]) ∧ Below w.heap.size w w' := by
 have AG := Tryd.underlying62
 have HB := Z.m (Below.refl w.heap.size w)
 have H : ((impl_IsCell.f a0_0 a0_1).bind fun A3 => (if A3 = true then (if a0_1 = 1 then (if 0 ≤ a0_0 then (if a0_0 ≤ (wrap64 (a0_0 + 1)) then (if (wrap64 (a0_0 + 1)) ≤ 8 then (some ((⟨#[46, 108, 114, 70, 120, 111, 71, 99]⟩ : ByteArray).extract (a0_0 : Int).toNat ((wrap64 (a0_0 + 1)) : Int).toNat, true)) else (none)) else (none)) else (none)) else (if 0 ≤ a0_0 then (if a0_0 ≤ (wrap64 (a0_0 + 1)) then (if (wrap64 (a0_0 + 1)) ≤ 8 then (some ((⟨#[46, 108, 114, 102, 120, 111, 103, 99]⟩ : ByteArray).extract (a0_0 : Int).toNat ((wrap64 (a0_0 + 1)) : Int).toNat, true)) else (none)) else (none)) else (none))) else (some ((⟨#[]⟩ : ByteArray), false)))) = some (r1, r2) := h
 clear h
 replace H := Option.bind_eq_some_iff.mp H
 obtain ⟨A3, As, H⟩ := H
 replace H : (if A3 = true then (if a0_1 = 1 then (if 0 ≤ a0_0 then (if a0_0 ≤ (wrap64 (a0_0 + 1)) then (if (wrap64 (a0_0 + 1)) ≤ 8 then (some ((⟨#[46, 108, 114, 70, 120, 111, 71, 99]⟩ : ByteArray).extract (a0_0 : Int).toNat ((wrap64 (a0_0 + 1)) : Int).toNat, true)) else (none)) else (none)) else (none)) else (if 0 ≤ a0_0 then (if a0_0 ≤ (wrap64 (a0_0 + 1)) then (if (wrap64 (a0_0 + 1)) ≤ 8 then (some ((⟨#[46, 108, 114, 102, 120, 111, 103, 99]⟩ : ByteArray).extract (a0_0 : Int).toNat ((wrap64 (a0_0 + 1)) : Int).toNat, true)) else (none)) else (none)) else (none))) else (some ((⟨#[]⟩ : ByteArray), false))) = some (r1, r2) := H
 have A2 := Z.m As
 clear As
 by_cases c3 : A3 = true
 ·subst c3
  have H1 : (if a0_1 = 1 then (if 0 ≤ a0_0 then (if a0_0 ≤ (wrap64 (a0_0 + 1)) then (if (wrap64 (a0_0 + 1)) ≤ 8 then (some ((⟨#[46, 108, 114, 70, 120, 111, 71, 99]⟩ : ByteArray).extract (a0_0 : Int).toNat ((wrap64 (a0_0 + 1)) : Int).toNat, true)) else (none)) else (none)) else (none)) else (if 0 ≤ a0_0 then (if a0_0 ≤ (wrap64 (a0_0 + 1)) then (if (wrap64 (a0_0 + 1)) ≤ 8 then (some ((⟨#[46, 108, 114, 102, 120, 111, 103, 99]⟩ : ByteArray).extract (a0_0 : Int).toNat ((wrap64 (a0_0 + 1)) : Int).toNat, true)) else (none)) else (none)) else (none))) = some (r1, r2) := by rw [if_pos rfl] at H; exact H
  clear H
  have H := H1
  clear H1
  by_cases c4 : a0_1 = 1
  ·rw [if_pos c4] at H
   have Am := beq_iff_eq.mpr c4
   have An := bne_eq_false_iff_eq.mpr c4
   clear c4
   by_cases c5 : 0 ≤ a0_0
   ·rw [if_pos c5] at H
    have AA := eq_true c5
    have AB := decide_eq_true c5
    clear c5
    by_cases c6 : a0_0 ≤ (wrap64 (a0_0 + 1))
    ·rw [if_pos c6] at H
     have AC := eq_true c6
     have AD := decide_eq_true c6
     by_cases c7 : (wrap64 (a0_0 + 1)) ≤ 8
     ·rw [if_pos c7] at H
      have AE := eq_true c7
      have AF := decide_eq_true c7
      simp only [Option.some.injEq, Prod.mk.injEq] at H
      obtain ⟨rfl, rfl⟩ := H
      go_enter Tryd.func50, Tryd.ntmps50
      go_wp2_with (first | ((with_reducible refine gq (N := 1) rfl ?_); refine be (N := 1) (cs := #[.int .i64 a0_0, .int .i64 a0_1]) (t := 62) ?_; intro A5 hg w8 hbox hb; have A0 := Z.m (hbox); have A1 := gW (w := w) HB hg; have A4 := A1; replace HB := bB HB hb; clear hb hbox hg; have Ao := bc0 A0; have Ap := bc1 A0; have Aq := qz A0.o 0; have Ar := qz A0.o 1) | ((with_reducible refine gc (f := 60) rfl ?_); refine gA (some 6) _ #[.agg #[.int .i64 a0_0, .int .i64 a0_1]] ?_ Tryd.func60; (with_reducible refine (impl_IsCell.calls a0_0 a0_1 true _ A2.o).mono ?_); rintro e AH ⟨rfl, hb⟩; refine ⟨_, rfl, ?_⟩; replace A0 := kB A0 hb; replace HB := bB HB hb; (try clear hb); (try clear Az); (try clear hk); (try clear hi); have A6 := bc0 A0; have A7 := bc1 A0; have Ae := qz A0.o 0; have Af := qz A0.o 1))
      go_ret2
      exact ⟨by first | rfl | (simp [eN, eS] <;> rfl) | (simp [*, eN, eS] <;> rfl), vB HB⟩
     ·rw [if_neg c7] at H
      exact absurd H (by simp)
    ·rw [if_neg c6] at H
     exact absurd H (by simp)
   ·rw [if_neg c5] at H
    exact absurd H (by simp)
  ·rw [if_neg c4] at H
   have Am := beq_eq_false_iff_ne.mpr c4
   have An := bne_iff_ne.mpr c4
   by_cases c12 : 0 ≤ a0_0
   ·rw [if_pos c12] at H
    have At := eq_true c12
    have Au := decide_eq_true c12
    clear c12
    by_cases c13 : a0_0 ≤ (wrap64 (a0_0 + 1))
    ·rw [if_pos c13] at H
     have Av := eq_true c13
     have Aw := decide_eq_true c13
     by_cases c14 : (wrap64 (a0_0 + 1)) ≤ 8
     ·rw [if_pos c14] at H
      have Ax := eq_true c14
      have Ay := decide_eq_true c14
      simp only [Option.some.injEq, Prod.mk.injEq] at H
      obtain ⟨rfl, rfl⟩ := H
      go_enter Tryd.func50, Tryd.ntmps50
      go_wp2_with (first | ((with_reducible refine gq (N := 1) rfl ?_); refine be (N := 1) (cs := #[.int .i64 a0_0, .int .i64 a0_1]) (t := 62) ?_; intro A5 hg AI hbox hb; have A0 := Z.m (hbox); have A1 := gW (w := w) HB hg; have A4 := A1; replace HB := bB HB hb; clear hb hbox hg; have A8 := bc0 A0; have A9 := bc1 A0; have Ag := qz A0.o 0; have Ah := qz A0.o 1) | ((with_reducible refine gc (f := 60) rfl ?_); refine gA (some 6) _ #[.agg #[.int .i64 a0_0, .int .i64 a0_1]] ?_ Tryd.func60; (with_reducible refine (impl_IsCell.calls a0_0 a0_1 true _ A2.o).mono ?_); rintro e AJ ⟨rfl, hb⟩; refine ⟨_, rfl, ?_⟩; replace A0 := kB A0 hb; replace HB := bB HB hb; (try clear hb); (try clear Az); (try clear hk); (try clear hi); have Aa := bc0 A0; have Ab := bc1 A0; have Ai := qz A0.o 0; have Aj := qz A0.o 1))
      go_ret2
      exact ⟨by first | rfl | (simp [eN, eS] <;> rfl) | (simp [*, eN, eS] <;> rfl), vB HB⟩
     ·rw [if_neg c14] at H
      exact absurd H (by simp)
    ·rw [if_neg c13] at H
     exact absurd H (by simp)
   ·rw [if_neg c12] at H
    exact absurd H (by simp)
 ·replace c3 := Bool.eq_false_iff.mpr c3
  subst c3
  have H1 : (some ((⟨#[]⟩ : ByteArray), false)) = some (r1, r2) := by rw [if_neg (show ¬ (false = true) by decide)] at H; exact H
  clear H
  have H := H1
  clear H1
  simp only [Option.some.injEq, Prod.mk.injEq] at H
  obtain ⟨rfl, rfl⟩ := H
  go_enter Tryd.func50, Tryd.ntmps50
  go_wp2_with (first | ((with_reducible refine gq (N := 1) rfl ?_); refine be (N := 1) (cs := #[.int .i64 a0_0, .int .i64 a0_1]) (t := 62) ?_; intro A5 hg AK hbox hb; have A0 := Z.m (hbox); have A1 := gW (w := w) HB hg; have A4 := A1; replace HB := bB HB hb; clear hb hbox hg; have Ac := bc0 A0; have Ad := bc1 A0; have Ak := qz A0.o 0; have Al := qz A0.o 1) | ((with_reducible refine gc (f := 60) rfl ?_); refine gA (some 6) _ #[.agg #[.int .i64 a0_0, .int .i64 a0_1]] ?_ Tryd.func60; (with_reducible refine (impl_IsCell.calls a0_0 a0_1 false _ A2.o).mono ?_); rintro e AL ⟨rfl, hb⟩; refine ⟨_, rfl, ?_⟩; replace A0 := kB A0 hb; replace HB := bB HB hb; (try clear hb); (try clear Az); (try clear hk); (try clear hi)))
  go_ret2
  exact ⟨by first | rfl | (simp [eN, eS] <;> rfl) | (simp [*, eN, eS] <;> rfl), vB HB⟩

/-! ### impl_CellsText: function 44 -/
def impl_CellsText.l0 : Nat → List Int → List (S62) → Int → Int → Option (ByteArray × Bool)
 | 0, _, _, _, _ => none
 | k + 1, x4, x13, x14, x15 => if x15 < x14 then (if 0 ≤ x15 then (if x15 < (x13.length : Int) then ((impl_CellLetter.f ((rd_T62 x13 x15).f0) ((rd_T62 x13 x15).f1)).bind fun bt198 => (if x4.length + bt198.1.size < 140737488355328 then (impl_CellsText.l0 k (x4 ++ bytesOf bt198.1) x13 x14 (wrap64 (x15 + 1))) else (none))) else (none)) else (none)) else (some (strOfNums x4, true))
def impl_CellsText.f (k : Nat) (l0 : List (S62)) : Option (ByteArray × Bool) := (impl_validCells.f k l0).bind fun t192 => (if t192 = true then (impl_CellsText.l0 k (([] : List Int)) l0 (l0.length : Int) 0) else (some ((⟨#[]⟩ : ByteArray), false)))
set_option maxHeartbeats 8000000 in
set_option maxRecDepth 100000 in
theorem impl_CellsText.calls (k : Nat) (A0 : Option Addr) (c0 : Nat) (l0 : List (S62)) (r1 : ByteArray) (r2 : Bool) (w : World) (hr0 : Kd.C k62 w A0 l0.length l0) (hc0 : l0.length ≤ c0) (h : impl_CellsText.f k l0 = some (r1, r2)) :
 Calls Tryd.prog 44 #[.slice A0 l0.length c0] w fun e w' => e = .returned (.tuple #[.string r1, .bool r2]) ∧ Below w.heap.size w w' := by
 have AF := Tryd.underlying62
 have Ar := Z.m hr0
 have Ax := Z.m hc0
 clear hr0 hc0
 have HB := Z.m (Below.refl w.heap.size w)
 have H : ((impl_validCells.f k l0).bind fun Ab => (if Ab = true then (impl_CellsText.l0 k (([] : List Int)) l0 (l0.length : Int) 0) else (some ((⟨#[]⟩ : ByteArray), false)))) = some (r1, r2) := h
 clear h
 replace H := Option.bind_eq_some_iff.mp H
 obtain ⟨Ab, Av, H⟩ := H
 replace H : (if Ab = true then (impl_CellsText.l0 k (([] : List Int)) l0 (l0.length : Int) 0) else (some ((⟨#[]⟩ : ByteArray), false))) = some (r1, r2) := H
 have A2 := Z.m Av
 clear Av
 by_cases c3 : Ab = true
 ·subst c3
  have H1 : (impl_CellsText.l0 k (([] : List Int)) l0 (l0.length : Int) 0) = some (r1, r2) := by rw [if_pos rfl] at H; exact H
  clear H
  have H := H1
  clear H1
  obtain ⟨Am, A7⟩ : ∃ y_ : List Int, y_ = (([] : List Int)) := ⟨_, rfl⟩
  replace H : (impl_CellsText.l0 k Am l0 (l0.length : Int) 0) = some (r1, r2) := by first | (rw [A7]; with_reducible exact H) | (have H2_ := (Option.bind_some _ _).symm.trans H; rw [A7]; with_reducible exact H2_) | (have H2_ := (Option.bind_some _ _).symm.trans H; with_reducible exact H2_) | with_reducible exact H | (rw [A7]; exact H) | exact H
  have Ac := Z.m A7
  clear A7
  have H' := Z.m H
  clear H
  go_enter Tryd.func44, Tryd.ntmps44
  go_wp2_with (first | ((with_reducible refine gc (f := 53) rfl ?_); refine gA (some 10) _ #[.slice A0 l0.length c0] ?_ Tryd.func53; (with_reducible refine (impl_validCells.calls k _ _ l0 true _ ?side1 ?side2 A2.o).mono ?_); (case side1 => repeat (first | exact Ar.o | (with_reducible refine Kd.C_alloc ?_ _) | (with_reducible refine Kd.C_drewN ?_ _) | (with_reducible refine Kd.C_drew ?_))); (case side2 => exact Ax.o); rintro e w4 ⟨rfl, hb⟩; refine ⟨_, rfl, ?_⟩; replace HB := bB HB hb; (try clear hb); (try clear AA); (try clear hk); (try clear hi)) | ((with_reducible refine gq (N := 12) rfl ?_); refine Kd.R_lit (Kd.int .u8) _ 5 ?hg (N := 12) ?hd (xs := ([] : List Int)) (inner := []) (ok := fun _ => True) (okp := fun _ => True) ?hr ?hp (fun _ hk => hk) trivial (Below.refl _ _) (Nat.le_refl _) (by simp) ?_; (case hd => rfl); (case hg => rfl); (case hr => first | (go_simp; done) | (go_simp; rfl)); (case hp => exact (Reps.none _ _)); intro AG w5 Al hb hg_ hnew_; clear hg_ hnew_; (first | rw [← Ac.o] at Al | (simp only [Int.reduceToNat] at Al; rw [← Ac.o] at Al)); have Ah := Z.m (Kd.R_lower Al (below_size (vB HB))); replace HB := bB HB hb; clear hb Al))
  go_loopg [4, 15] k (fun kq v4 v15 w' => ∃ (A9 : List Int) (A1 : Int), v15 = .int .i64 A1 ∧ Z (impl_CellsText.l0 kq A9 l0 (l0.length : Int) A1 = some (r1, r2)) ∧ Z (kq ≤ k) ∧ Z (Kd.R (Kd.int .u8) 5 w' w.heap.size (fun _ => True) v4 A9) ∧ Z (Below w.heap.size w w'))
  case atStart => exact ⟨(Am), (0), (by first | rfl | (simp; done) | (simp [*]; done)), H', ⟨Nat.le_refl _⟩, ⟨vR Ah⟩, ⟨vB HB⟩⟩
  case round =>
   clear H'
   (try clear c3)
   obtain ⟨A9, A1, rfl, HA, Ay, A6, HB⟩ := hrel
   cases gk with
   | zero => exact absurd HA.o (by simp [impl_CellsText.l0])
   | succ k1 =>
    have H := HA.o
    clear HA
    simp only [impl_CellsText.l0] at H
    by_cases c7 : A1 < (l0.length : Int)
    ·rw [if_pos c7] at H
     have As := decide_eq_true c7
     clear c7
     by_cases c8 : 0 ≤ A1
     ·rw [if_pos c8] at H
      have AD := decide_eq_true c8
      clear c8
      by_cases c9 : A1 < (l0.length : Int)
      ·rw [if_pos c9] at H
       have AE := decide_eq_true c9
       clear c9
       replace H := Option.bind_eq_some_iff.mp H
       obtain ⟨⟨Aa, At⟩, Af, H⟩ := H
       replace H : (if A9.length + Aa.size < 140737488355328 then (impl_CellsText.l0 k1 (A9 ++ bytesOf Aa) l0 (l0.length : Int) (wrap64 (A1 + 1))) else (none)) = some (r1, r2) := H
       have AC := Z.m Af
       clear Af
       by_cases c11 : A9.length + Aa.size < 140737488355328
       ·rw [if_pos c11] at H
        have Aj := Z.m c11
        clear c11
        obtain ⟨Ae, A8⟩ : ∃ y_ : List Int, y_ = (A9 ++ bytesOf Aa) := ⟨_, rfl⟩
        replace H : (impl_CellsText.l0 k1 Ae l0 (l0.length : Int) (wrap64 (A1 + 1))) = some (r1, r2) := by first | (rw [A8]; with_reducible exact H) | (have H2_ := (Option.bind_some _ _).symm.trans H; rw [A8]; with_reducible exact H2_) | (have H2_ := (Option.bind_some _ _).symm.trans H; with_reducible exact H2_) | with_reducible exact H | (rw [A8]; exact H) | exact H
        have Ak := Z.m A8
        clear A8
        have H' := Z.m H
        clear H
        have p196 : 0 ≤ (A1 : Int) := ofD
        have q196 : A1 < (l0.length : Int) := ofD
        obtain ⟨Az, e196, A4, A5⟩ := at_T62 Ar.o A1 p196 q196
        cases e196
        replace A4 := (HB.o.cell (World.block_lt_of_cell? w _ A4)).trans A4
        replace A5 := (HB.o.cell (World.block_lt_of_cell? w _ A5)).trans A5
        replace p196 := eq_true p196
        replace q196 := eq_true q196
        go_wp2_with (first | ((with_reducible refine gq (N := 6) rfl ?_); refine be (N := 6) (cs := #[.int .i64 0, .int .i64 0]) (t := 62) ?_; intro Ad hg AI hbox hb; have A3 := Z.m (hbox); have Ag := gW (w := w) HB hg; have Aw := Ag; replace A6 := Z.m (Kd.Rb (vR A6) hb); replace HB := bB HB hb; clear hb hbox hg; have An := bc0 A3; have Ao := bc1 A3; have Ap := qz A3.o 0; have Aq := qz A3.o 1) | ((with_reducible refine gc (f := 50) rfl ?_); refine gA (some 21) _ #[.agg #[.int .i64 ((rd_T62 l0 A1).f0), .int .i64 ((rd_T62 l0 A1).f1)]] ?_ Tryd.func50; (with_reducible refine (impl_CellLetter.calls ((rd_T62 l0 A1).f0) ((rd_T62 l0 A1).f1) Aa At _ AC.o).mono ?_); rintro e AJ ⟨rfl, hb⟩; refine ⟨_, rfl, ?_⟩; replace A6 := Z.m (Kd.Rb (by refine rK ?_; exact (Kd.Rm (rf (rf (Kd.Ry A6.o A3.o (by decide)))) (fun _ h_ => h_.1))) hb); replace A3 := Z.m (qb (g := Ad) (o := .cells #[.int .i64 ((rd_T62 l0 A1).f0), .int .i64 ((rd_T62 l0 A1).f1)] 62 (0, 0)) (by refine bK ?_; refine qp (cs := #[iV ((rd_T62 l0 A1).f0), iV 0]) ?_ 1 _ rfl; refine bK ?_; refine qp (cs := #[iV 0, iV 0]) ?_ 0 _ rfl; refine bK ?_; exact A3.o) hb); replace HB := bB HB hb; (try clear hb); (try clear AA); (try clear hk); (try clear hi)) | (at_builtin; refine print_append_str (w0 := w) w.heap.size rfl (.tmp 24) _ 69 9 5 rfl Tryd.underlying69 Tryd.underlying9 info5 u4 A9 Aa rfl rfl ?aO ?aB ?aS ?aL ?_; (case aB => exact (vB HB)); (case aO => exact (Kd.own_of_R (vR A6))); (case aS => exact (below_size (vB HB))); (case aL => have := Aj.o; omega); intro Au AH AB hb hg; have ho := Kd.R_of_own (h1 := fun _ => rfl) (ok := fun _ => True) AB (fun _ _ => trivial); clear AB; have hat := True.intro; rw [← Ak.o] at ho; change Kd.R (Kd.int .u8) 5 AH w.heap.size (fun _ => True) Au Ae at ho; have Ai := Z.m (ho); replace A3 := Z.m (qg (g := Ad) (o := .cells #[.int .i64 ((rd_T62 l0 A1).f0), .int .i64 ((rd_T62 l0 A1).f1)] 62 (0, 0)) (vK A3) hg (Kd.R_ne A6.o A3.o (by decide))); replace HB := Z.m (hb); clear A6; clear ho hb hg hat))
        go_roundg k1
        case measure => have := Ay.o; omega
        case rel => exact ⟨(Ae), (wrap64 (A1 + 1)), (by first | rfl | (simp; done) | (simp [*]; done)), H', ⟨by have := Ay.o; omega⟩, ⟨vR Ai⟩, ⟨vB HB⟩⟩
       ·rw [if_neg c11] at H
        exact absurd H (by simp)
      ·rw [if_neg c9] at H
       exact absurd H (by simp)
     ·rw [if_neg c8] at H
      exact absurd H (by simp)
    ·rw [if_neg c7] at H
     have As := decide_eq_false c7
     clear c7
     simp only [Option.some.injEq, Prod.mk.injEq] at H
     obtain ⟨rfl, rfl⟩ := H
     have hcv16 := own_string (P := Tryd.prog) Tryd.underlying69 Tryd.underlying5 Tryd.underlying9 (Kd.own_of_R A6.o)
     go_wp2
     go_ret2
     exact ⟨by first | rfl | (simp [eN, eS] <;> rfl) | (simp [*, eN, eS] <;> rfl), vB HB⟩
 ·replace c3 := Bool.eq_false_iff.mpr c3
  subst c3
  have H1 : (some ((⟨#[]⟩ : ByteArray), false)) = some (r1, r2) := by rw [if_neg (show ¬ (false = true) by decide)] at H; exact H
  clear H
  have H := H1
  clear H1
  simp only [Option.some.injEq, Prod.mk.injEq] at H
  obtain ⟨rfl, rfl⟩ := H
  go_enter Tryd.func44, Tryd.ntmps44
  go_wp2_with (first | ((with_reducible refine gc (f := 53) rfl ?_); refine gA (some 10) _ #[.slice A0 l0.length c0] ?_ Tryd.func53; (with_reducible refine (impl_validCells.calls k _ _ l0 false _ ?side1 ?side2 A2.o).mono ?_); (case side1 => repeat (first | exact Ar.o | (with_reducible refine Kd.C_alloc ?_ _) | (with_reducible refine Kd.C_drewN ?_ _) | (with_reducible refine Kd.C_drew ?_))); (case side2 => exact Ax.o); rintro e AK ⟨rfl, hb⟩; refine ⟨_, rfl, ?_⟩; replace HB := bB HB hb; (try clear hb); (try clear AA); (try clear hk); (try clear hi)))
  go_ret2
  exact ⟨by first | rfl | (simp [eN, eS] <;> rfl) | (simp [*, eN, eS] <;> rfl), vB HB⟩

/-! ### impl_BoardText: function 27 -/
def impl_BoardText.l0 : Nat → ByteArray → Int → Int → Int → List (S62) → Option (ByteArray × Bool)
 | 0, _, _, _, _, _ => none
 | k + 1, x4, x5, x204000, x204001, x204002 => if x5 < x204000 then (if 0 ≤ (wrap64 (x5 * x204001)) then (if (wrap64 (x5 * x204001)) ≤ (wrap64 ((wrap64 (x5 + 1)) * x204001)) then (if (wrap64 ((wrap64 (x5 + 1)) * x204001)) ≤ (x204002.length : Int) then ((impl_CellsText.f k ((x204002.take ((wrap64 ((wrap64 (x5 + 1)) * x204001)) : Int).toNat).drop ((wrap64 (x5 * x204001)) : Int).toNat)).bind fun bt209 => (if bt209.1.size + 1 ≤ 9223372036854775807 then (if x4.size + (bt209.1 ++ (⟨#[10]⟩ : ByteArray)).size ≤ 9223372036854775807 then (impl_BoardText.l0 k (x4 ++ (bt209.1 ++ (⟨#[10]⟩ : ByteArray))) (wrap64 (x5 + 1)) x204000 x204001 x204002) else (none)) else (none))) else (none)) else (none)) else (none)) else (some (x4, true))
def impl_BoardText.f (k : Nat) (a0_0 : Int) (a0_1 : Int) (l0_2 : List (S62)) : Option (ByteArray × Bool) := (impl_IsBoard.f k a0_0 a0_1 l0_2).bind fun t204 => (if t204 = true then (impl_BoardText.l0 k (⟨#[]⟩ : ByteArray) 0 a0_0 a0_1 l0_2) else (some ((⟨#[]⟩ : ByteArray), false)))
set_option maxHeartbeats 8000000 in
set_option maxRecDepth 100000 in
theorem impl_BoardText.calls (k : Nat) (a0_0 : Int) (a0_1 : Int) (A0_2 : Option Addr) (c0_2 : Nat) (l0_2 : List (S62)) (r1 : ByteArray) (r2 : Bool) (w : World) (hr0_2 : Kd.C k62 w A0_2 l0_2.length l0_2) (hc0_2 : l0_2.length ≤ c0_2) (h : impl_BoardText.f k a0_0 a0_1 l0_2 = some (r1, r2)) :
 Calls Tryd.prog 27 #[.agg #[.int .i64 a0_0, .int .i64 a0_1, .slice A0_2 l0_2.length c0_2]] w fun e w' => e = .returned (.tuple #[.string r1, .bool r2]) ∧ Below w.heap.size w w' := by
 have B4 := Tryd.underlying24
 have Ab := Z.m hr0_2
 have Aa := Z.m hc0_2
 clear hr0_2 hc0_2
 have HB := Z.m (Below.refl w.heap.size w)
 have H : ((impl_IsBoard.f k a0_0 a0_1 l0_2).bind fun Ae => (if Ae = true then (impl_BoardText.l0 k (⟨#[]⟩ : ByteArray) 0 a0_0 a0_1 l0_2) else (some ((⟨#[]⟩ : ByteArray), false)))) = some (r1, r2) := h
 clear h
 replace H := Option.bind_eq_some_iff.mp H
 obtain ⟨Ae, AN, H⟩ := H
 replace H : (if Ae = true then (impl_BoardText.l0 k (⟨#[]⟩ : ByteArray) 0 a0_0 a0_1 l0_2) else (some ((⟨#[]⟩ : ByteArray), false))) = some (r1, r2) := H
 have A2 := Z.m AN
 clear AN
 by_cases c3 : Ae = true
 ·subst c3
  have H1 : (impl_BoardText.l0 k (⟨#[]⟩ : ByteArray) 0 a0_0 a0_1 l0_2) = some (r1, r2) := by rw [if_pos rfl] at H; exact H
  clear H
  have H := H1
  clear H1
  have H' := Z.m H
  clear H
  go_enter Tryd.func27, Tryd.ntmps27
  go_wp2_with (first | ((with_reducible refine gq (N := 1) rfl ?_); refine be (N := 1) (cs := #[.int .i64 a0_0, .int .i64 a0_1, .slice A0_2 l0_2.length c0_2]) (t := 24) ?_; intro Ag hg w4 hbox hb; have A0 := Z.m (hbox); have A9 := gW (w := w) HB hg; have Ap := A9; replace HB := bB HB hb; clear hb hbox hg; have Ah := bc0 A0; have Ai := bc1 A0; have Aj := bc2 A0; have Ak := qz A0.o 0; have Al := qz A0.o 1; have Am := qz A0.o 2) | ((with_reducible refine gc (f := 43) rfl ?_); refine gA (some 9) _ #[.agg #[.int .i64 a0_0, .int .i64 a0_1, .slice A0_2 l0_2.length c0_2]] ?_ Tryd.func43; (with_reducible refine (impl_IsBoard.calls k a0_0 a0_1 _ _ l0_2 true _ ?side1 ?side2 A2.o).mono ?_); (case side1 => repeat (first | exact (Kd.C_below Ab.o HB.o) | (with_reducible refine Kd.C_alloc ?_ _) | (with_reducible refine Kd.C_drewN ?_ _) | (with_reducible refine Kd.C_drew ?_))); (case side2 => exact Aa.o); rintro e w6 ⟨rfl, hb⟩; refine ⟨_, rfl, ?_⟩; replace A0 := kB A0 hb; replace HB := bB HB hb; (try clear hb); (try clear AZ); (try clear hk); (try clear hi)))
  go_loopg [4, 5] k (fun kq v4 v5 w' => ∃ (A4 : ByteArray) (A3 : Int), v4 = .string A4 ∧ v5 = .int .i64 A3 ∧ Z (impl_BoardText.l0 kq A4 A3 a0_0 a0_1 l0_2 = some (r1, r2)) ∧ Z (kq ≤ k) ∧ Z (w'.heap[Ag]? = some (.cells #[.int .i64 a0_0, .int .i64 a0_1, (.slice A0_2 l0_2.length c0_2)] 24 (0, 0))) ∧ Z (Below w.heap.size w w'))
  case atStart => exact ⟨((⟨#[]⟩ : ByteArray)), (0), (by first | rfl | (simp; done) | (simp [*]; done)), (by first | rfl | (simp; done) | (simp [*]; done)), H', ⟨Nat.le_refl _⟩, ⟨vK A0⟩, ⟨vB HB⟩⟩
  case round =>
   clear H'
   (try clear c3)
   (try clear Ah); (try clear Ai); (try clear Aj); (try clear Ak); (try clear Al); (try clear Am)
   obtain ⟨A4, A3, rfl, rfl, HA, AO, A0, HB⟩ := hrel
   cases gk with
   | zero => exact absurd HA.o (by simp [impl_BoardText.l0])
   | succ k1 =>
    have H := HA.o
    clear HA
    simp only [impl_BoardText.l0] at H
    by_cases c7 : A3 < a0_0
    ·rw [if_pos c7] at H
     have AK := decide_eq_true c7
     clear c7
     obtain ⟨A8, An⟩ : ∃ j_ : Int, (wrap64 (A3 * a0_1)) = j_ := ⟨_, rfl⟩
     replace H : (if 0 ≤ (A8) then (if (A8) ≤ (wrap64 ((wrap64 (A3 + 1)) * a0_1)) then (if (wrap64 ((wrap64 (A3 + 1)) * a0_1)) ≤ (l0_2.length : Int) then ((impl_CellsText.f k1 ((l0_2.take ((wrap64 ((wrap64 (A3 + 1)) * a0_1)) : Int).toNat).drop ((A8) : Int).toNat)).bind fun bt209 => (if bt209.1.size + 1 ≤ 9223372036854775807 then (if A4.size + (bt209.1 ++ (⟨#[10]⟩ : ByteArray)).size ≤ 9223372036854775807 then (impl_BoardText.l0 k1 (A4 ++ (bt209.1 ++ (⟨#[10]⟩ : ByteArray))) (wrap64 (A3 + 1)) a0_0 a0_1 l0_2) else (none)) else (none))) else (none)) else (none)) else (none)) = some (r1, r2) := by first | (rw [An] at H; exact H) | (simp only [An] at H ⊢; exact H)
     have hji8w : (IntKind.i64.wrap (A3 * a0_1)) = A8 := (i64_w _).trans An
     by_cases c9 : 0 ≤ (A8)
     ·rw [if_pos c9] at H
      have B1 := eq_true c9
      have B2 := decide_eq_true c9
      clear c9
      by_cases c10 : (A8) ≤ (wrap64 ((wrap64 (A3 + 1)) * a0_1))
      ·rw [if_pos c10] at H
       have AP := eq_true c10
       have AQ := decide_eq_true c10
       by_cases c11 : (wrap64 ((wrap64 (A3 + 1)) * a0_1)) ≤ (l0_2.length : Int)
       ·rw [if_pos c11] at H
        have AR := eq_true c11
        have AS := decide_eq_true c11
        obtain ⟨A7, A6⟩ : ∃ y_ : List (S62), y_ = ((l0_2.take ((wrap64 ((wrap64 (A3 + 1)) * a0_1)) : Int).toNat).drop ((A8) : Int).toNat) := ⟨_, rfl⟩
        replace H : ((impl_CellsText.f k1 A7).bind fun bt209 => (if bt209.1.size + 1 ≤ 9223372036854775807 then (if A4.size + (bt209.1 ++ (⟨#[10]⟩ : ByteArray)).size ≤ 9223372036854775807 then (impl_BoardText.l0 k1 (A4 ++ (bt209.1 ++ (⟨#[10]⟩ : ByteArray))) (wrap64 (A3 + 1)) a0_0 a0_1 l0_2) else (none)) else (none))) = some (r1, r2) := by first | (rw [A6]; with_reducible exact H) | (have H2_ := (Option.bind_some _ _).symm.trans H; rw [A6]; with_reducible exact H2_) | (have H2_ := (Option.bind_some _ _).symm.trans H; with_reducible exact H2_) | with_reducible exact H | (rw [A6]; exact H) | exact H
        have Af := Z.m A6
        clear A6
        replace H := Option.bind_eq_some_iff.mp H
        obtain ⟨⟨A5, AL⟩, Ao, H⟩ := H
        replace H : (if A5.size + 1 ≤ 9223372036854775807 then (if A4.size + (A5 ++ (⟨#[10]⟩ : ByteArray)).size ≤ 9223372036854775807 then (impl_BoardText.l0 k1 (A4 ++ (A5 ++ (⟨#[10]⟩ : ByteArray))) (wrap64 (A3 + 1)) a0_0 a0_1 l0_2) else (none)) else (none)) = some (r1, r2) := H
        have B0 := Z.m Ao
        clear Ao
        by_cases c13 : A5.size + 1 ≤ 9223372036854775807
        ·rw [if_pos c13] at H
         have AT := eq_true c13
         have AU := decide_eq_true c13
         try have AV : (9223372036854775807 < A5.size + 1) = False := eq_false (Nat.not_lt.2 c13)
         by_cases c14 : A4.size + (A5 ++ (⟨#[10]⟩ : ByteArray)).size ≤ 9223372036854775807
         ·rw [if_pos c14] at H
          have AW := eq_true c14
          have AX := decide_eq_true c14
          try have AY : (9223372036854775807 < A4.size + (A5 ++ (⟨#[10]⟩ : ByteArray)).size) = False := eq_false (Nat.not_lt.2 c14)
          have H' := Z.m H
          clear H
          have As := bc0 A0
          have At := bc1 A0
          have Au := bc2 A0
          have AB := qz A0.o 0
          have AC := qz A0.o 1
          have AD := qz A0.o 2
          have q16 : ((wrap64 ((wrap64 (A3 + 1)) * a0_1)) : Int) ≤ ((l0_2.length : Int) : Int) := ofD
          obtain ⟨i016, hi016, _, hsz16, _⟩ := info_parts info62
          have hroom16 : l0_2.length ≤ c0_2 := Aa.o
          have hC16 : Kd.C k62 _ A0_2 l0_2.length l0_2 := Ab.o
          have ql16 : ((A8) : Int) ≤ ((wrap64 ((wrap64 (A3 + 1)) * a0_1)) : Int) := ofD
          have q016 : (0 : Int) ≤ ((A8) : Int) := ofD
          have hcut16 := cut_mid (P := Tryd.prog) 22 62 .i64 .i64 Tryd.underlying22 hi016 2 hsz16 A0_2 l0_2.length c0_2 (A8) (wrap64 ((wrap64 (A3 + 1)) * a0_1)) q016 ql16 q16 hroom16
          have Ac := Kd.C_mid (lo := ((A8) : Int).toNat) (hi := ((wrap64 ((wrap64 (A3 + 1)) * a0_1)) : Int).toNat) (c := c0_2) hC16 (by omega) (by omega) hroom16
          obtain ⟨AM, hA16⟩ : ∃ A1, A1 = (if c0_2 = ((A8) : Int).toNat then A0_2 else (A0_2 : Option Addr).map (·.add (((A8) : Int).toNat * 2))) := ⟨_, rfl⟩
          obtain ⟨c16, hc16⟩ : ∃ c1, c1 = c0_2 - ((A8) : Int).toNat := ⟨_, rfl⟩
          have Ad : A7.length = ((wrap64 ((wrap64 (A3 + 1)) * a0_1)) : Int).toNat - ((A8) : Int).toNat := (by rw [Af.o, List.length_drop, List.length_take] <;> omega)
          rw [show ((l0_2).take ((wrap64 ((wrap64 (A3 + 1)) * a0_1)) : Int).toNat).drop ((A8) : Int).toNat = A7 from Af.o.symm] at Ac
          replace Ac : Kd.C k62 _ AM A7.length A7 := (by rw [hA16]; exact Ac)
          rw [← Ad, ← hA16, ← hc16] at hcut16
          have Ar := Z.m Ac
          have Aq := Z.m (show A7.length ≤ c16 from by rw [Ad, hc16]; exact Nat.sub_le_sub_right (Nat.le_trans (by omega) hroom16) _)
          clear Ac hC16 hroom16 hi016 hsz16 hc16
          have KY16 := Z.m Ad
          have KA16 := Z.m hA16
          clear Ad hA16
          replace q16 := eq_true q16
          go_wp2_with (first | ((with_reducible refine gc (f := 44) rfl ?_); refine gA (some 30) _ #[.slice AM A7.length c16] ?_ Tryd.func44; (with_reducible refine (impl_CellsText.calls k1 _ _ A7 A5 AL _ ?side1 ?side2 B0.o).mono ?_); (case side1 => repeat (first | exact (Kd.C_below Ar.o HB.o) | (with_reducible refine Kd.C_alloc ?_ _) | (with_reducible refine Kd.C_drewN ?_ _) | (with_reducible refine Kd.C_drew ?_))); (case side2 => exact Aq.o); rintro e B5 ⟨rfl, hb⟩; refine ⟨_, rfl, ?_⟩; replace A0 := kB A0 hb; replace HB := bB HB hb; (try clear hb); (try clear AZ); (try clear hk); (try clear hi)))
          go_roundg k1
          case measure => have := AO.o; omega
          case rel => exact ⟨(A4 ++ (A5 ++ (⟨#[10]⟩ : ByteArray))), (wrap64 (A3 + 1)), (by first | rfl | (simp; done) | (simp [*]; done)), (by first | rfl | (simp; done) | (simp [*]; done)), H', ⟨by have := AO.o; omega⟩, ⟨vK A0⟩, ⟨vB HB⟩⟩
         ·rw [if_neg c14] at H
          exact absurd H (by simp)
        ·rw [if_neg c13] at H
         exact absurd H (by simp)
       ·rw [if_neg c11] at H
        exact absurd H (by simp)
      ·rw [if_neg c10] at H
       exact absurd H (by simp)
     ·rw [if_neg c9] at H
      exact absurd H (by simp)
    ·rw [if_neg c7] at H
     have AK := decide_eq_false c7
     clear c7
     simp only [Option.some.injEq, Prod.mk.injEq] at H
     obtain ⟨rfl, rfl⟩ := H
     have Av := bc0 A0
     have Aw := bc1 A0
     have Ax := bc2 A0
     have AE := qz A0.o 0
     have AF := qz A0.o 1
     have AG := qz A0.o 2
     go_wp2
     go_ret2
     exact ⟨by first | rfl | (simp [eN, eS] <;> rfl) | (simp [*, eN, eS] <;> rfl), vB HB⟩
 ·replace c3 := Bool.eq_false_iff.mpr c3
  subst c3
  have H1 : (some ((⟨#[]⟩ : ByteArray), false)) = some (r1, r2) := by rw [if_neg (show ¬ (false = true) by decide)] at H; exact H
  clear H
  have H := H1
  clear H1
  simp only [Option.some.injEq, Prod.mk.injEq] at H
  obtain ⟨rfl, rfl⟩ := H
  go_enter Tryd.func27, Tryd.ntmps27
  go_wp2_with (first | ((with_reducible refine gq (N := 1) rfl ?_); refine be (N := 1) (cs := #[.int .i64 a0_0, .int .i64 a0_1, .slice A0_2 l0_2.length c0_2]) (t := 24) ?_; intro Ag hg B7 hbox hb; have A0 := Z.m (hbox); have A9 := gW (w := w) HB hg; have Ap := A9; replace HB := bB HB hb; clear hb hbox hg; have Ay := bc0 A0; have Az := bc1 A0; have AA := bc2 A0; have AH := qz A0.o 0; have AI := qz A0.o 1; have AJ := qz A0.o 2) | ((with_reducible refine gc (f := 43) rfl ?_); refine gA (some 9) _ #[.agg #[.int .i64 a0_0, .int .i64 a0_1, .slice A0_2 l0_2.length c0_2]] ?_ Tryd.func43; (with_reducible refine (impl_IsBoard.calls k a0_0 a0_1 _ _ l0_2 false _ ?side1 ?side2 A2.o).mono ?_); (case side1 => repeat (first | exact (Kd.C_below Ab.o HB.o) | (with_reducible refine Kd.C_alloc ?_ _) | (with_reducible refine Kd.C_drewN ?_ _) | (with_reducible refine Kd.C_drew ?_))); (case side2 => exact Aa.o); rintro e B8 ⟨rfl, hb⟩; refine ⟨_, rfl, ?_⟩; replace A0 := kB A0 hb; replace HB := bB HB hb; (try clear hb); (try clear AZ); (try clear hk); (try clear hi)))
  go_ret2
  exact ⟨by first | rfl | (simp [eN, eS] <;> rfl) | (simp [*, eN, eS] <;> rfl), vB HB⟩

/-! ### strconv_Itoa_28: function 28 -/
def strconv_Itoa_28.f (a0 : Int) : Option (ByteArray) := if 0 ≤ a0 then (if a0 < 100 then (some (⟨(Lib.decDigits a0.toNat).toArray⟩ : ByteArray)) else (none)) else (none)
theorem strconv_Itoa_28.calls (a0 : Int) (r : ByteArray) (w : World) (h : strconv_Itoa_28.f a0 = some r) :
 Calls Tryd.prog 28 #[.int .i64 a0] w fun e w' => e = .returned (.string r) ∧ Drawn0 w w' := by
 unfold strconv_Itoa_28.f at h
 by_cases h0 : 0 ≤ a0
 case neg => rw [if_neg h0] at h; exact absurd h (by simp)
 rw [if_pos h0] at h
 by_cases h1 : a0 < 100
 case neg => rw [if_neg h1] at h; exact absurd h (by simp)
 rw [if_pos h1] at h
 obtain rfl := Option.some.inj h
 obtain ⟨n, rfl⟩ : ∃ n : Nat, a0 = n := ⟨a0.toNat, by omega⟩
 refine (Tryd.strconv_Itoa_small n (by omega) w).mono ?_
 rintro e w' ⟨rfl, rfl⟩
 exact ⟨by rw [Int.toNat_natCast], Drawn0.refl _⟩

end Go.Proofs.YtklmdnlambinaaaDoor.PAll
