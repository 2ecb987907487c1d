/- Began as a text that print.sh wrote (of the functions named below); turned and shortened by this session. -/
import Derived.Test.YtklmdnlambinaaaDoorG0
import Derived.Test.YtklmdnlambinaaaDoorG1
import Derived.Test.YtklmdnlambinaaaDoorG2
import Derived.Test.YtklmdnlambinaaaDoorG3
import Derived.Test.YtklmdnlambinaaaDoorG5
namespace Go.Proofs.YtklmdnlambinaaaDoor.PAll
open Go.RowKit Go.Proofs.YtklmdnlambinaaaDoorW.PrintWords Go.Proofs.YtklmdnlambinaaaDoorW.PrintLast Go.Proofs.YtklmdnlambinaaaDoorW.PrintMore
attribute [local go_sem] max2_int min2_int max_two min_two max_three min_three max_four min_four   -- for this text's walks alone
set_option linter.unusedVariables false
set_option linter.unusedSimpArgs false

/-! ### laws_eqMachine: function 14 -/
def laws_eqMachine.f (k : Nat) (a0_0 : Int) (a0_1 : Int) (l0_2 : List (S62)) (a0_3 : Int) (a0_4 : Int) (a0_5 : Int) (a0_6 : Int) (a0_7 : Int) (a1_0 : Int) (a1_1 : Int) (l1_2 : List (S62)) (a1_3 : Int) (a1_4 : Int) (a1_5 : Int) (a1_6 : Int) (a1_7 : Int) : Option (Bool) := (laws_eqBoard.f k a0_0 a0_1 l0_2 a1_0 a1_1 l1_2).bind fun t250 => (if t250 = true then (if a0_3 = a1_3 then (if a0_4 = a1_4 then (if a0_5 = a1_5 then (if a0_6 = a1_6 then (if a0_7 = a1_7 then (some true) else (some false)) else (some false)) else (some false)) else (some false)) else (some false)) else (some false))
set_option maxHeartbeats 8000000 in
set_option maxRecDepth 100000 in
theorem laws_eqMachine.calls (k : Nat) (a0_0 : Int) (a0_1 : Int) (A0_2 : Option Addr) (c0_2 : Nat) (l0_2 : List (S62)) (a0_3 : Int) (a0_4 : Int) (a0_5 : Int) (a0_6 : Int) (a0_7 : Int) (a1_0 : Int) (a1_1 : Int) (A1_2 : Option Addr) (c1_2 : Nat) (l1_2 : List (S62)) (a1_3 : Int) (a1_4 : Int) (a1_5 : Int) (a1_6 : Int) (a1_7 : Int) (r : Bool) (w : World) (hr0_2 : Kd.C k62 w A0_2 l0_2.length l0_2) (hc0_2 : l0_2.length ≤ c0_2) (hr1_2 : Kd.C k62 w A1_2 l1_2.length l1_2) (hc1_2 : l1_2.length ≤ c1_2) (h : laws_eqMachine.f k a0_0 a0_1 l0_2 a0_3 a0_4 a0_5 a0_6 a0_7 a1_0 a1_1 l1_2 a1_3 a1_4 a1_5 a1_6 a1_7 = some r) :
 Calls Tryd.prog 14 #[.agg #[.int .i64 a0_0, .int .i64 a0_1, .slice A0_2 l0_2.length c0_2, .int .i64 a0_3, .int .i64 a0_4, .int .i64 a0_5, .int .i64 a0_6, .int .i64 a0_7], .agg #[.int .i64 a1_0, .int .i64 a1_1, .slice A1_2 l1_2.length c1_2, .int .i64 a1_3, .int .i64 a1_4, .int .i64 a1_5, .int .i64 a1_6, .int .i64 a1_7]] w fun e w' => e = .returned (.bool r) ∧ Below w.heap.size w w' := by
 have Hx := Tryd.underlying39
 have Hw := Tryd.underlying24
 have A9 := Z.m hr0_2
 have A7 := Z.m hc0_2
 clear hr0_2 hc0_2
 have Aa := Z.m hr1_2
 have A8 := Z.m hc1_2
 clear hr1_2 hc1_2
 have HB := Z.m (Below.refl w.heap.size w)
 have H : ((laws_eqBoard.f k a0_0 a0_1 l0_2 a1_0 a1_1 l1_2).bind fun Af => (if Af = true then (if a0_3 = a1_3 then (if a0_4 = a1_4 then (if a0_5 = a1_5 then (if a0_6 = a1_6 then (if a0_7 = a1_7 then (some true) else (some false)) else (some false)) else (some false)) else (some false)) else (some false)) else (some false))) = some r := h
 clear h
 replace H := Option.bind_eq_some_iff.mp H
 obtain ⟨Af, Hh, H⟩ := H
 replace H : (if Af = true then (if a0_3 = a1_3 then (if a0_4 = a1_4 then (if a0_5 = a1_5 then (if a0_6 = a1_6 then (if a0_7 = a1_7 then (some true) else (some false)) else (some false)) else (some false)) else (some false)) else (some false)) else (some false)) = some r := H
 have A3 := Z.m Hh
 clear Hh
 by_cases c4 : Af = true
 ·subst c4
  have H1 : (if a0_3 = a1_3 then (if a0_4 = a1_4 then (if a0_5 = a1_5 then (if a0_6 = a1_6 then (if a0_7 = a1_7 then (some true) else (some false)) else (some false)) else (some false)) else (some false)) else (some false)) = some r := by rw [if_pos rfl] at H; exact H
  clear H
  have H := H1
  clear H1
  by_cases c5 : a0_3 = a1_3
  ·rw [if_pos c5] at H
   have H7 := beq_iff_eq.mpr c5
   have H8 := bne_eq_false_iff_eq.mpr c5
   clear c5
   by_cases c6 : a0_4 = a1_4
   ·rw [if_pos c6] at H
    have H9 := beq_iff_eq.mpr c6
    have Ha := bne_eq_false_iff_eq.mpr c6
    clear c6
    by_cases c7 : a0_5 = a1_5
    ·rw [if_pos c7] at H
     have Hb := beq_iff_eq.mpr c7
     have Hc := bne_eq_false_iff_eq.mpr c7
     clear c7
     by_cases c8 : a0_6 = a1_6
     ·rw [if_pos c8] at H
      have Hd := beq_iff_eq.mpr c8
      have He := bne_eq_false_iff_eq.mpr c8
      clear c8
      by_cases c9 : a0_7 = a1_7
      ·rw [if_pos c9] at H
       have Hf := beq_iff_eq.mpr c9
       have Hg := bne_eq_false_iff_eq.mpr c9
       clear c9
       obtain rfl := Option.some.inj H
       go_enter Tryd.func14, Tryd.ntmps14
       go_wp2_with (first | ((with_reducible refine gq (N := 2) rfl ?_); refine be (N := 2) (cs := #[.int .i64 a0_0, .int .i64 a0_1, .slice A0_2 l0_2.length c0_2, .int .i64 a0_3, .int .i64 a0_4, .int .i64 a0_5, .int .i64 a0_6, .int .i64 a0_7]) (t := 39) ?_; intro Ad hg Hy hbox hb; have A0 := Z.m (hbox); have A5 := gW (w := w) HB hg; have Ab := A5; replace HB := bB HB hb; clear hb hbox hg) | ((with_reducible refine gq (N := 3) rfl ?_); refine be (N := 3) (cs := #[.int .i64 a1_0, .int .i64 a1_1, .slice A1_2 l1_2.length c1_2, .int .i64 a1_3, .int .i64 a1_4, .int .i64 a1_5, .int .i64 a1_6, .int .i64 a1_7]) (t := 39) ?_; intro Ae hg Hz hbox hb; have A1 := Z.m (hbox); have A6 := gW (w := w) HB hg; have Ac := A6; have A2 := neL A0 hg; have A4 := neG A0 hg; replace A0 := kB A0 hb; replace HB := bB HB hb; clear hb hbox hg; have Hi := A2.o; have Hp := A4.o; have Ah := bc0 A0; have Ai := bc1 A0; have Aj := bc2 A0; have Ak := bc3 A0; have Al := bc4 A0; have Am := bc5 A0; have An := bc6 A0; have Ao := bc7 A0; have DH := qz A0.o 0; have DI := qz A0.o 1; have DJ := qz A0.o 2; have DK := qz A0.o 3; have DL := qz A0.o 4; have DM := qz A0.o 5; have DN := qz A0.o 6; have DO := qz A0.o 7; have Ap := bc0 A1; have Aq := bc1 A1; have Ar := bc2 A1; have As := bc3 A1; have At := bc4 A1; have Au := bc5 A1; have Av := bc6 A1; have Aw := bc7 A1; have DP := qz A1.o 0; have DQ := qz A1.o 1; have DR := qz A1.o 2; have DS := qz A1.o 3; have DT := qz A1.o 4; have DU := qz A1.o 5; have DV := qz A1.o 6; have DW := qz A1.o 7) | ((with_reducible refine gc (f := 7) rfl ?_); refine gA (some 9) _ #[.agg #[.int .i64 a0_0, .int .i64 a0_1, .slice A0_2 l0_2.length c0_2], .agg #[.int .i64 a1_0, .int .i64 a1_1, .slice A1_2 l1_2.length c1_2]] ?_ Tryd.func7; (with_reducible refine (laws_eqBoard.calls k a0_0 a0_1 _ _ l0_2 a1_0 a1_1 _ _ l1_2 true _ ?side1 ?side2 ?side3 ?side4 A3.o).mono ?_); (case side1 => repeat (first | exact (Kd.C_below A9.o HB.o) | (with_reducible refine Kd.C_alloc ?_ _) | (with_reducible refine Kd.C_drewN ?_ _) | (with_reducible refine Kd.C_drew ?_))); (case side2 => exact A7.o); (case side3 => repeat (first | exact (Kd.C_below Aa.o HB.o) | (with_reducible refine Kd.C_alloc ?_ _) | (with_reducible refine Kd.C_drewN ?_ _) | (with_reducible refine Kd.C_drew ?_))); (case side4 => exact A8.o); rintro e HA ⟨rfl, hb⟩; refine ⟨_, rfl, ?_⟩; replace A0 := kB A0 hb; replace A1 := kB A1 hb; replace HB := bB HB hb; (try clear hb); (try clear Ag); (try clear hk); (try clear hi); have Ax := bc0 A0; have Ay := bc1 A0; have Az := bc2 A0; have AA := bc3 A0; have AB := bc4 A0; have AC := bc5 A0; have AD := bc6 A0; have AE := bc7 A0; have DX := qz A0.o 0; have DY := qz A0.o 1; have DZ := qz A0.o 2; have E0 := qz A0.o 3; have E1 := qz A0.o 4; have E2 := qz A0.o 5; have E3 := qz A0.o 6; have E4 := qz A0.o 7; have AF := bc0 A1; have AG := bc1 A1; have AH := bc2 A1; have AI := bc3 A1; have AJ := bc4 A1; have AK := bc5 A1; have AL := bc6 A1; have AM := bc7 A1; have E5 := qz A1.o 0; have E6 := qz A1.o 1; have E7 := qz A1.o 2; have E8 := qz A1.o 3; have E9 := qz A1.o 4; have Ea := qz A1.o 5; have Eb := qz A1.o 6; have Ec := qz A1.o 7))
       go_ret
       exact ⟨by first | rfl | (simp [eN, eS] <;> rfl) | (simp [*, eN, eS] <;> rfl), vB HB⟩
      ·rw [if_neg c9] at H
       have Hf := beq_eq_false_iff_ne.mpr c9
       have Hg := bne_iff_ne.mpr c9
       obtain rfl := Option.some.inj H
       go_enter Tryd.func14, Tryd.ntmps14
       go_wp2_with (first | ((with_reducible refine gq (N := 2) rfl ?_); refine be (N := 2) (cs := #[.int .i64 a0_0, .int .i64 a0_1, .slice A0_2 l0_2.length c0_2, .int .i64 a0_3, .int .i64 a0_4, .int .i64 a0_5, .int .i64 a0_6, .int .i64 a0_7]) (t := 39) ?_; intro Ad hg HC hbox hb; have A0 := Z.m (hbox); have A5 := gW (w := w) HB hg; have Ab := A5; replace HB := bB HB hb; clear hb hbox hg) | ((with_reducible refine gq (N := 3) rfl ?_); refine be (N := 3) (cs := #[.int .i64 a1_0, .int .i64 a1_1, .slice A1_2 l1_2.length c1_2, .int .i64 a1_3, .int .i64 a1_4, .int .i64 a1_5, .int .i64 a1_6, .int .i64 a1_7]) (t := 39) ?_; intro Ae hg HD hbox hb; have A1 := Z.m (hbox); have A6 := gW (w := w) HB hg; have Ac := A6; have A2 := neL A0 hg; have A4 := neG A0 hg; replace A0 := kB A0 hb; replace HB := bB HB hb; clear hb hbox hg; have Hj := A2.o; have Hq := A4.o; have AN := bc0 A0; have AO := bc1 A0; have AP := bc2 A0; have AQ := bc3 A0; have AR := bc4 A0; have AS := bc5 A0; have AT := bc6 A0; have AU := bc7 A0; have Ed := qz A0.o 0; have Ee := qz A0.o 1; have Ef := qz A0.o 2; have Eg := qz A0.o 3; have Eh := qz A0.o 4; have Ei := qz A0.o 5; have Ej := qz A0.o 6; have Ek := qz A0.o 7; have AV := bc0 A1; have AW := bc1 A1; have AX := bc2 A1; have AY := bc3 A1; have AZ := bc4 A1; have B0 := bc5 A1; have B1 := bc6 A1; have B2 := bc7 A1; have El := qz A1.o 0; have Em := qz A1.o 1; have En := qz A1.o 2; have Eo := qz A1.o 3; have Ep := qz A1.o 4; have Er := qz A1.o 5; have Es := qz A1.o 6; have Et := qz A1.o 7) | ((with_reducible refine gc (f := 7) rfl ?_); refine gA (some 9) _ #[.agg #[.int .i64 a0_0, .int .i64 a0_1, .slice A0_2 l0_2.length c0_2], .agg #[.int .i64 a1_0, .int .i64 a1_1, .slice A1_2 l1_2.length c1_2]] ?_ Tryd.func7; (with_reducible refine (laws_eqBoard.calls k a0_0 a0_1 _ _ l0_2 a1_0 a1_1 _ _ l1_2 true _ ?side1 ?side2 ?side3 ?side4 A3.o).mono ?_); (case side1 => repeat (first | exact (Kd.C_below A9.o HB.o) | (with_reducible refine Kd.C_alloc ?_ _) | (with_reducible refine Kd.C_drewN ?_ _) | (with_reducible refine Kd.C_drew ?_))); (case side2 => exact A7.o); (case side3 => repeat (first | exact (Kd.C_below Aa.o HB.o) | (with_reducible refine Kd.C_alloc ?_ _) | (with_reducible refine Kd.C_drewN ?_ _) | (with_reducible refine Kd.C_drew ?_))); (case side4 => exact A8.o); rintro e HE ⟨rfl, hb⟩; refine ⟨_, rfl, ?_⟩; replace A0 := kB A0 hb; replace A1 := kB A1 hb; replace HB := bB HB hb; (try clear hb); (try clear Ag); (try clear hk); (try clear hi); have B4 := bc0 A0; have B5 := bc1 A0; have B7 := bc2 A0; have B8 := bc3 A0; have B9 := bc4 A0; have Ba := bc5 A0; have Bb := bc6 A0; have Bc := bc7 A0; have Eu := qz A0.o 0; have Ew := qz A0.o 1; have Ex := qz A0.o 2; have Ey := qz A0.o 3; have Ez := qz A0.o 4; have EA := qz A0.o 5; have EB := qz A0.o 6; have EC := qz A0.o 7; have Bd := bc0 A1; have Be := bc1 A1; have Bf := bc2 A1; have Bg := bc3 A1; have Bh := bc4 A1; have Bi := bc5 A1; have Bj := bc6 A1; have Bk := bc7 A1; have ED := qz A1.o 0; have EE := qz A1.o 1; have EF := qz A1.o 2; have EG := qz A1.o 3; have EH := qz A1.o 4; have EI := qz A1.o 5; have EJ := qz A1.o 6; have EK := qz A1.o 7))
       go_ret
       exact ⟨by first | rfl | (simp [eN, eS] <;> rfl) | (simp [*, eN, eS] <;> rfl), vB HB⟩
     ·rw [if_neg c8] at H
      have Hd := beq_eq_false_iff_ne.mpr c8
      have He := bne_iff_ne.mpr c8
      obtain rfl := Option.some.inj H
      go_enter Tryd.func14, Tryd.ntmps14
      go_wp2_with (first | ((with_reducible refine gq (N := 2) rfl ?_); refine be (N := 2) (cs := #[.int .i64 a0_0, .int .i64 a0_1, .slice A0_2 l0_2.length c0_2, .int .i64 a0_3, .int .i64 a0_4, .int .i64 a0_5, .int .i64 a0_6, .int .i64 a0_7]) (t := 39) ?_; intro Ad hg HF hbox hb; have A0 := Z.m (hbox); have A5 := gW (w := w) HB hg; have Ab := A5; replace HB := bB HB hb; clear hb hbox hg) | ((with_reducible refine gq (N := 3) rfl ?_); refine be (N := 3) (cs := #[.int .i64 a1_0, .int .i64 a1_1, .slice A1_2 l1_2.length c1_2, .int .i64 a1_3, .int .i64 a1_4, .int .i64 a1_5, .int .i64 a1_6, .int .i64 a1_7]) (t := 39) ?_; intro Ae hg HG hbox hb; have A1 := Z.m (hbox); have A6 := gW (w := w) HB hg; have Ac := A6; have A2 := neL A0 hg; have A4 := neG A0 hg; replace A0 := kB A0 hb; replace HB := bB HB hb; clear hb hbox hg; have Hk := A2.o; have Hr := A4.o; have Bl := bc0 A0; have Bm := bc1 A0; have Bn := bc2 A0; have Bo := bc3 A0; have Bp := bc4 A0; have Bq := bc5 A0; have Br := bc6 A0; have Bs := bc7 A0; have EL := qz A0.o 0; have EM := qz A0.o 1; have EN := qz A0.o 2; have EO := qz A0.o 3; have EP := qz A0.o 4; have EQ := qz A0.o 5; have ER := qz A0.o 6; have ES := qz A0.o 7; have Bt := bc0 A1; have Bu := bc1 A1; have Bv := bc2 A1; have Bw := bc3 A1; have Bx := bc4 A1; have By := bc5 A1; have Bz := bc6 A1; have BA := bc7 A1; have ET := qz A1.o 0; have EU := qz A1.o 1; have EV := qz A1.o 2; have EW := qz A1.o 3; have EX := qz A1.o 4; have EY := qz A1.o 5; have EZ := qz A1.o 6; have F0 := qz A1.o 7) | ((with_reducible refine gc (f := 7) rfl ?_); refine gA (some 9) _ #[.agg #[.int .i64 a0_0, .int .i64 a0_1, .slice A0_2 l0_2.length c0_2], .agg #[.int .i64 a1_0, .int .i64 a1_1, .slice A1_2 l1_2.length c1_2]] ?_ Tryd.func7; (with_reducible refine (laws_eqBoard.calls k a0_0 a0_1 _ _ l0_2 a1_0 a1_1 _ _ l1_2 true _ ?side1 ?side2 ?side3 ?side4 A3.o).mono ?_); (case side1 => repeat (first | exact (Kd.C_below A9.o HB.o) | (with_reducible refine Kd.C_alloc ?_ _) | (with_reducible refine Kd.C_drewN ?_ _) | (with_reducible refine Kd.C_drew ?_))); (case side2 => exact A7.o); (case side3 => repeat (first | exact (Kd.C_below Aa.o HB.o) | (with_reducible refine Kd.C_alloc ?_ _) | (with_reducible refine Kd.C_drewN ?_ _) | (with_reducible refine Kd.C_drew ?_))); (case side4 => exact A8.o); rintro e HH ⟨rfl, hb⟩; refine ⟨_, rfl, ?_⟩; replace A0 := kB A0 hb; replace A1 := kB A1 hb; replace HB := bB HB hb; (try clear hb); (try clear Ag); (try clear hk); (try clear hi); have BB := bc0 A0; have BC := bc1 A0; have BD := bc2 A0; have BE := bc3 A0; have BF := bc4 A0; have BG := bc5 A0; have BH := bc6 A0; have BI := bc7 A0; have F1 := qz A0.o 0; have F2 := qz A0.o 1; have F3 := qz A0.o 2; have F4 := qz A0.o 3; have F5 := qz A0.o 4; have F6 := qz A0.o 5; have F7 := qz A0.o 6; have F8 := qz A0.o 7; have BJ := bc0 A1; have BK := bc1 A1; have BL := bc2 A1; have BM := bc3 A1; have BN := bc4 A1; have BO := bc5 A1; have BP := bc6 A1; have BQ := bc7 A1; have F9 := qz A1.o 0; have Fa := qz A1.o 1; have Fb := qz A1.o 2; have Fc := qz A1.o 3; have Fd := qz A1.o 4; have Fe := qz A1.o 5; have Ff := qz A1.o 6; have Fg := qz A1.o 7))
      go_ret
      exact ⟨by first | rfl | (simp [eN, eS] <;> rfl) | (simp [*, eN, eS] <;> rfl), vB HB⟩
    ·rw [if_neg c7] at H
     have Hb := beq_eq_false_iff_ne.mpr c7
     have Hc := bne_iff_ne.mpr c7
     obtain rfl := Option.some.inj H
     go_enter Tryd.func14, Tryd.ntmps14
     go_wp2_with (first | ((with_reducible refine gq (N := 2) rfl ?_); refine be (N := 2) (cs := #[.int .i64 a0_0, .int .i64 a0_1, .slice A0_2 l0_2.length c0_2, .int .i64 a0_3, .int .i64 a0_4, .int .i64 a0_5, .int .i64 a0_6, .int .i64 a0_7]) (t := 39) ?_; intro Ad hg HI hbox hb; have A0 := Z.m (hbox); have A5 := gW (w := w) HB hg; have Ab := A5; replace HB := bB HB hb; clear hb hbox hg) | ((with_reducible refine gq (N := 3) rfl ?_); refine be (N := 3) (cs := #[.int .i64 a1_0, .int .i64 a1_1, .slice A1_2 l1_2.length c1_2, .int .i64 a1_3, .int .i64 a1_4, .int .i64 a1_5, .int .i64 a1_6, .int .i64 a1_7]) (t := 39) ?_; intro Ae hg HJ hbox hb; have A1 := Z.m (hbox); have A6 := gW (w := w) HB hg; have Ac := A6; have A2 := neL A0 hg; have A4 := neG A0 hg; replace A0 := kB A0 hb; replace HB := bB HB hb; clear hb hbox hg; have Hl := A2.o; have Hs := A4.o; have BR := bc0 A0; have BS := bc1 A0; have BT := bc2 A0; have BU := bc3 A0; have BV := bc4 A0; have BW := bc5 A0; have BX := bc6 A0; have BY := bc7 A0; have Fh := qz A0.o 0; have Fi := qz A0.o 1; have Fj := qz A0.o 2; have Fk := qz A0.o 3; have Fl := qz A0.o 4; have Fm := qz A0.o 5; have Fn := qz A0.o 6; have Fo := qz A0.o 7; have BZ := bc0 A1; have C0 := bc1 A1; have C1 := bc2 A1; have C2 := bc3 A1; have C3 := bc4 A1; have C4 := bc5 A1; have C5 := bc6 A1; have C6 := bc7 A1; have Fp := qz A1.o 0; have Fq := qz A1.o 1; have Fr := qz A1.o 2; have Fs := qz A1.o 3; have Ft := qz A1.o 4; have Fu := qz A1.o 5; have Fv := qz A1.o 6; have Fw := qz A1.o 7) | ((with_reducible refine gc (f := 7) rfl ?_); refine gA (some 9) _ #[.agg #[.int .i64 a0_0, .int .i64 a0_1, .slice A0_2 l0_2.length c0_2], .agg #[.int .i64 a1_0, .int .i64 a1_1, .slice A1_2 l1_2.length c1_2]] ?_ Tryd.func7; (with_reducible refine (laws_eqBoard.calls k a0_0 a0_1 _ _ l0_2 a1_0 a1_1 _ _ l1_2 true _ ?side1 ?side2 ?side3 ?side4 A3.o).mono ?_); (case side1 => repeat (first | exact (Kd.C_below A9.o HB.o) | (with_reducible refine Kd.C_alloc ?_ _) | (with_reducible refine Kd.C_drewN ?_ _) | (with_reducible refine Kd.C_drew ?_))); (case side2 => exact A7.o); (case side3 => repeat (first | exact (Kd.C_below Aa.o HB.o) | (with_reducible refine Kd.C_alloc ?_ _) | (with_reducible refine Kd.C_drewN ?_ _) | (with_reducible refine Kd.C_drew ?_))); (case side4 => exact A8.o); rintro e HK ⟨rfl, hb⟩; refine ⟨_, rfl, ?_⟩; replace A0 := kB A0 hb; replace A1 := kB A1 hb; replace HB := bB HB hb; (try clear hb); (try clear Ag); (try clear hk); (try clear hi); have C7 := bc0 A0; have C8 := bc1 A0; have C9 := bc2 A0; have Ca := bc3 A0; have Cb := bc4 A0; have Cd := bc5 A0; have Ce := bc6 A0; have Cf := bc7 A0; have Fx := qz A0.o 0; have Fy := qz A0.o 1; have Fz := qz A0.o 2; have FA := qz A0.o 3; have FB := qz A0.o 4; have FC := qz A0.o 5; have FD := qz A0.o 6; have FE := qz A0.o 7; have Cg := bc0 A1; have Ch := bc1 A1; have Ci := bc2 A1; have Cj := bc3 A1; have Cl := bc4 A1; have Cm := bc5 A1; have Cn := bc6 A1; have Co := bc7 A1; have FF := qz A1.o 0; have FG := qz A1.o 1; have FH := qz A1.o 2; have FI := qz A1.o 3; have FJ := qz A1.o 4; have FL := qz A1.o 5; have FM := qz A1.o 6; have FN := qz A1.o 7))
     go_ret
     exact ⟨by first | rfl | (simp [eN, eS] <;> rfl) | (simp [*, eN, eS] <;> rfl), vB HB⟩
   ·rw [if_neg c6] at H
    have H9 := beq_eq_false_iff_ne.mpr c6
    have Ha := bne_iff_ne.mpr c6
    obtain rfl := Option.some.inj H
    go_enter Tryd.func14, Tryd.ntmps14
    go_wp2_with (first | ((with_reducible refine gq (N := 2) rfl ?_); refine be (N := 2) (cs := #[.int .i64 a0_0, .int .i64 a0_1, .slice A0_2 l0_2.length c0_2, .int .i64 a0_3, .int .i64 a0_4, .int .i64 a0_5, .int .i64 a0_6, .int .i64 a0_7]) (t := 39) ?_; intro Ad hg HL hbox hb; have A0 := Z.m (hbox); have A5 := gW (w := w) HB hg; have Ab := A5; replace HB := bB HB hb; clear hb hbox hg) | ((with_reducible refine gq (N := 3) rfl ?_); refine be (N := 3) (cs := #[.int .i64 a1_0, .int .i64 a1_1, .slice A1_2 l1_2.length c1_2, .int .i64 a1_3, .int .i64 a1_4, .int .i64 a1_5, .int .i64 a1_6, .int .i64 a1_7]) (t := 39) ?_; intro Ae hg HM hbox hb; have A1 := Z.m (hbox); have A6 := gW (w := w) HB hg; have Ac := A6; have A2 := neL A0 hg; have A4 := neG A0 hg; replace A0 := kB A0 hb; replace HB := bB HB hb; clear hb hbox hg; have Hm := A2.o; have Ht := A4.o; have Cp := bc0 A0; have Cq := bc1 A0; have Cr := bc2 A0; have Cs := bc3 A0; have Ct := bc4 A0; have Cu := bc5 A0; have Cv := bc6 A0; have Cw := bc7 A0; have FO := qz A0.o 0; have FP := qz A0.o 1; have FQ := qz A0.o 2; have FR := qz A0.o 3; have FS := qz A0.o 4; have FT := qz A0.o 5; have FU := qz A0.o 6; have FV := qz A0.o 7; have Cx := bc0 A1; have Cy := bc1 A1; have Cz := bc2 A1; have CA := bc3 A1; have CB := bc4 A1; have CC := bc5 A1; have CD := bc6 A1; have CE := bc7 A1; have FW := qz A1.o 0; have FX := qz A1.o 1; have FY := qz A1.o 2; have FZ := qz A1.o 3; have G0 := qz A1.o 4; have G1 := qz A1.o 5; have G2 := qz A1.o 6; have G3 := qz A1.o 7) | ((with_reducible refine gc (f := 7) rfl ?_); refine gA (some 9) _ #[.agg #[.int .i64 a0_0, .int .i64 a0_1, .slice A0_2 l0_2.length c0_2], .agg #[.int .i64 a1_0, .int .i64 a1_1, .slice A1_2 l1_2.length c1_2]] ?_ Tryd.func7; (with_reducible refine (laws_eqBoard.calls k a0_0 a0_1 _ _ l0_2 a1_0 a1_1 _ _ l1_2 true _ ?side1 ?side2 ?side3 ?side4 A3.o).mono ?_); (case side1 => repeat (first | exact (Kd.C_below A9.o HB.o) | (with_reducible refine Kd.C_alloc ?_ _) | (with_reducible refine Kd.C_drewN ?_ _) | (with_reducible refine Kd.C_drew ?_))); (case side2 => exact A7.o); (case side3 => repeat (first | exact (Kd.C_below Aa.o HB.o) | (with_reducible refine Kd.C_alloc ?_ _) | (with_reducible refine Kd.C_drewN ?_ _) | (with_reducible refine Kd.C_drew ?_))); (case side4 => exact A8.o); rintro e HN ⟨rfl, hb⟩; refine ⟨_, rfl, ?_⟩; replace A0 := kB A0 hb; replace A1 := kB A1 hb; replace HB := bB HB hb; (try clear hb); (try clear Ag); (try clear hk); (try clear hi); have CF := bc0 A0; have CG := bc1 A0; have CH := bc2 A0; have CI := bc3 A0; have CJ := bc4 A0; have CK := bc5 A0; have CL := bc6 A0; have CM := bc7 A0; have G4 := qz A0.o 0; have G5 := qz A0.o 1; have G6 := qz A0.o 2; have G7 := qz A0.o 3; have G8 := qz A0.o 4; have G9 := qz A0.o 5; have Ga := qz A0.o 6; have Gb := qz A0.o 7; have CN := bc0 A1; have CO := bc1 A1; have CP := bc2 A1; have CQ := bc3 A1; have CR := bc4 A1; have CS := bc5 A1; have CT := bc6 A1; have CU := bc7 A1; have Gc := qz A1.o 0; have Gd := qz A1.o 1; have Ge := qz A1.o 2; have Gf := qz A1.o 3; have Gg := qz A1.o 4; have Gh := qz A1.o 5; have Gi := qz A1.o 6; have Gj := qz A1.o 7))
    go_ret
    exact ⟨by first | rfl | (simp [eN, eS] <;> rfl) | (simp [*, eN, eS] <;> rfl), vB HB⟩
  ·rw [if_neg c5] at H
   have H7 := beq_eq_false_iff_ne.mpr c5
   have H8 := bne_iff_ne.mpr c5
   obtain rfl := Option.some.inj H
   go_enter Tryd.func14, Tryd.ntmps14
   go_wp2_with (first | ((with_reducible refine gq (N := 2) rfl ?_); refine be (N := 2) (cs := #[.int .i64 a0_0, .int .i64 a0_1, .slice A0_2 l0_2.length c0_2, .int .i64 a0_3, .int .i64 a0_4, .int .i64 a0_5, .int .i64 a0_6, .int .i64 a0_7]) (t := 39) ?_; intro Ad hg HO hbox hb; have A0 := Z.m (hbox); have A5 := gW (w := w) HB hg; have Ab := A5; replace HB := bB HB hb; clear hb hbox hg) | ((with_reducible refine gq (N := 3) rfl ?_); refine be (N := 3) (cs := #[.int .i64 a1_0, .int .i64 a1_1, .slice A1_2 l1_2.length c1_2, .int .i64 a1_3, .int .i64 a1_4, .int .i64 a1_5, .int .i64 a1_6, .int .i64 a1_7]) (t := 39) ?_; intro Ae hg HP hbox hb; have A1 := Z.m (hbox); have A6 := gW (w := w) HB hg; have Ac := A6; have A2 := neL A0 hg; have A4 := neG A0 hg; replace A0 := kB A0 hb; replace HB := bB HB hb; clear hb hbox hg; have Hn := A2.o; have Hu := A4.o; have CV := bc0 A0; have CW := bc1 A0; have CX := bc2 A0; have CY := bc3 A0; have CZ := bc4 A0; have D0 := bc5 A0; have D1 := bc6 A0; have D2 := bc7 A0; have Gk := qz A0.o 0; have Gl := qz A0.o 1; have Gm := qz A0.o 2; have Gn := qz A0.o 3; have Go := qz A0.o 4; have Gp := qz A0.o 5; have Gq := qz A0.o 6; have Gr := qz A0.o 7; have D3 := bc0 A1; have D4 := bc1 A1; have D5 := bc2 A1; have D6 := bc3 A1; have D7 := bc4 A1; have D8 := bc5 A1; have D9 := bc6 A1; have Da := bc7 A1; have Gs := qz A1.o 0; have Gt := qz A1.o 1; have Gu := qz A1.o 2; have Gv := qz A1.o 3; have Gw := qz A1.o 4; have Gx := qz A1.o 5; have Gy := qz A1.o 6; have Gz := qz A1.o 7) | ((with_reducible refine gc (f := 7) rfl ?_); refine gA (some 9) _ #[.agg #[.int .i64 a0_0, .int .i64 a0_1, .slice A0_2 l0_2.length c0_2], .agg #[.int .i64 a1_0, .int .i64 a1_1, .slice A1_2 l1_2.length c1_2]] ?_ Tryd.func7; (with_reducible refine (laws_eqBoard.calls k a0_0 a0_1 _ _ l0_2 a1_0 a1_1 _ _ l1_2 true _ ?side1 ?side2 ?side3 ?side4 A3.o).mono ?_); (case side1 => repeat (first | exact (Kd.C_below A9.o HB.o) | (with_reducible refine Kd.C_alloc ?_ _) | (with_reducible refine Kd.C_drewN ?_ _) | (with_reducible refine Kd.C_drew ?_))); (case side2 => exact A7.o); (case side3 => repeat (first | exact (Kd.C_below Aa.o HB.o) | (with_reducible refine Kd.C_alloc ?_ _) | (with_reducible refine Kd.C_drewN ?_ _) | (with_reducible refine Kd.C_drew ?_))); (case side4 => exact A8.o); rintro e HQ ⟨rfl, hb⟩; refine ⟨_, rfl, ?_⟩; replace A0 := kB A0 hb; replace A1 := kB A1 hb; replace HB := bB HB hb; (try clear hb); (try clear Ag); (try clear hk); (try clear hi); have Db := bc0 A0; have Dc := bc1 A0; have Dd := bc2 A0; have De := bc3 A0; have Df := bc4 A0; have Dg := bc5 A0; have Dh := bc6 A0; have Di := bc7 A0; have GA := qz A0.o 0; have GB := qz A0.o 1; have GC := qz A0.o 2; have GD := qz A0.o 3; have GE := qz A0.o 4; have GF := qz A0.o 5; have GG := qz A0.o 6; have GH := qz A0.o 7; have Dj := bc0 A1; have Dk := bc1 A1; have Dl := bc2 A1; have Dm := bc3 A1; have Dn := bc4 A1; have Do := bc5 A1; have Dp := bc6 A1; have Dq := bc7 A1; have GI := qz A1.o 0; have GJ := qz A1.o 1; have GK := qz A1.o 2; have GL := qz A1.o 3; have GM := qz A1.o 4; have GN := qz A1.o 5; have GO := qz A1.o 6; have GP := qz A1.o 7))
   go_ret
   exact ⟨by first | rfl | (simp [eN, eS] <;> rfl) | (simp [*, eN, eS] <;> rfl), vB HB⟩
 ·replace c4 := Bool.eq_false_iff.mpr c4
  subst c4
  have H1 : (some false) = some r := by rw [if_neg (show ¬ (false = true) by decide)] at H; exact H
  clear H
  have H := H1
  clear H1
  obtain rfl := Option.some.inj H
  go_enter Tryd.func14, Tryd.ntmps14
  go_wp2_with (first | ((with_reducible refine gq (N := 2) rfl ?_); refine be (N := 2) (cs := #[.int .i64 a0_0, .int .i64 a0_1, .slice A0_2 l0_2.length c0_2, .int .i64 a0_3, .int .i64 a0_4, .int .i64 a0_5, .int .i64 a0_6, .int .i64 a0_7]) (t := 39) ?_; intro Ad hg HR hbox hb; have A0 := Z.m (hbox); have A5 := gW (w := w) HB hg; have Ab := A5; replace HB := bB HB hb; clear hb hbox hg) | ((with_reducible refine gq (N := 3) rfl ?_); refine be (N := 3) (cs := #[.int .i64 a1_0, .int .i64 a1_1, .slice A1_2 l1_2.length c1_2, .int .i64 a1_3, .int .i64 a1_4, .int .i64 a1_5, .int .i64 a1_6, .int .i64 a1_7]) (t := 39) ?_; intro Ae hg HS hbox hb; have A1 := Z.m (hbox); have A6 := gW (w := w) HB hg; have Ac := A6; have A2 := neL A0 hg; have A4 := neG A0 hg; replace A0 := kB A0 hb; replace HB := bB HB hb; clear hb hbox hg; have Ho := A2.o; have Hv := A4.o; have Dr := bc0 A0; have Ds := bc1 A0; have Dt := bc2 A0; have Du := bc3 A0; have Dv := bc4 A0; have Dw := bc5 A0; have Dx := bc6 A0; have Dy := bc7 A0; have GQ := qz A0.o 0; have GR := qz A0.o 1; have GS := qz A0.o 2; have GT := qz A0.o 3; have GU := qz A0.o 4; have GV := qz A0.o 5; have GW := qz A0.o 6; have GX := qz A0.o 7; have Dz := bc0 A1; have DA := bc1 A1; have DB := bc2 A1; have DC := bc3 A1; have DD := bc4 A1; have DE := bc5 A1; have DF := bc6 A1; have DG := bc7 A1; have GY := qz A1.o 0; have GZ := qz A1.o 1; have H0 := qz A1.o 2; have H2 := qz A1.o 3; have H3 := qz A1.o 4; have H4 := qz A1.o 5; have H5 := qz A1.o 6; have H6 := qz A1.o 7) | ((with_reducible refine gc (f := 7) rfl ?_); refine gA (some 9) _ #[.agg #[.int .i64 a0_0, .int .i64 a0_1, .slice A0_2 l0_2.length c0_2], .agg #[.int .i64 a1_0, .int .i64 a1_1, .slice A1_2 l1_2.length c1_2]] ?_ Tryd.func7; (with_reducible refine (laws_eqBoard.calls k a0_0 a0_1 _ _ l0_2 a1_0 a1_1 _ _ l1_2 false _ ?side1 ?side2 ?side3 ?side4 A3.o).mono ?_); (case side1 => repeat (first | exact (Kd.C_below A9.o HB.o) | (with_reducible refine Kd.C_alloc ?_ _) | (with_reducible refine Kd.C_drewN ?_ _) | (with_reducible refine Kd.C_drew ?_))); (case side2 => exact A7.o); (case side3 => repeat (first | exact (Kd.C_below Aa.o HB.o) | (with_reducible refine Kd.C_alloc ?_ _) | (with_reducible refine Kd.C_drewN ?_ _) | (with_reducible refine Kd.C_drew ?_))); (case side4 => exact A8.o); rintro e HT ⟨rfl, hb⟩; refine ⟨_, rfl, ?_⟩; replace A0 := kB A0 hb; replace A1 := kB A1 hb; replace HB := bB HB hb; (try clear hb); (try clear Ag); (try clear hk); (try clear hi)))
  go_ret
  exact ⟨by first | rfl | (simp [eN, eS] <;> rfl) | (simp [*, eN, eS] <;> rfl), vB HB⟩

/-! ### laws_FnExactMachineText: function 4 -/
def laws_FnExactMachineText.j0 : Nat → Bool → Int → Int → List (S79) → Int → Int → Int → Int → Int → Int → Int → List (S62) → Int → Int → Int → Int → Int → Option (Bool)
 | 0, _, _, _, _, _, _, _, _, _, _, _, _, _, _, _, _, _ => none
 | k + 1, x34, x252000, x252001, x252002, x252003, x252004, x252005, x252006, x252007, x276000, x276001, x276002, x276003, x276004, x276005, x276006, x276007 => if x34 = true then (some false) else ((laws_toMachine.f k x252000 x252001 x252002 x252003 x252004 x252005 x252006 x252007).bind fun bt278 => ((laws_eqMachine.f k x276000 x276001 x276002 x276003 x276004 x276005 x276006 x276007 bt278.1 bt278.2.1 bt278.2.2.1 bt278.2.2.2.1 bt278.2.2.2.2.1 bt278.2.2.2.2.2.1 bt278.2.2.2.2.2.2.1 bt278.2.2.2.2.2.2.2).bind fun t288 => (if t288 = true then (some true) else (some false))))
def laws_FnExactMachineText.f (k : Nat) (a0_0 : Int) (a0_1 : Int) (l0_2 : List (S79)) (a0_3 : Int) (a0_4 : Int) (a0_5 : Int) (a0_6 : Int) (a0_7 : Int) : Option (Bool) := (laws_szMachine.f a0_0 a0_1 l0_2 a0_3 a0_4 a0_5 a0_6 a0_7 1048576).bind fun t252 => (if t252 < 0 then (some true) else ((laws_toMachine.f k a0_0 a0_1 l0_2 a0_3 a0_4 a0_5 a0_6 a0_7).bind fun bt253 => ((spec_MachineText.f k bt253.1 bt253.2.1 bt253.2.2.1 bt253.2.2.2.1 bt253.2.2.2.2.1 bt253.2.2.2.2.2.1 bt253.2.2.2.2.2.2.1 bt253.2.2.2.2.2.2.2).bind fun bt263 => ((laws_toMachine.f k a0_0 a0_1 l0_2 a0_3 a0_4 a0_5 a0_6 a0_7).bind fun bt265 => ((impl_MachineText.f k bt265.1 bt265.2.1 bt265.2.2.1 bt265.2.2.2.1 bt265.2.2.2.2.1 bt265.2.2.2.2.2.1 bt265.2.2.2.2.2.2.1 bt265.2.2.2.2.2.2.2).bind fun bt276 => (if bt276.1.toList = bt263.1.toList then (laws_FnExactMachineText.j0 k (bt276.2 != bt263.2) a0_0 a0_1 l0_2 a0_3 a0_4 a0_5 a0_6 a0_7 bt265.1 bt265.2.1 bt265.2.2.1 bt265.2.2.2.1 bt265.2.2.2.2.1 bt265.2.2.2.2.2.1 bt265.2.2.2.2.2.2.1 bt265.2.2.2.2.2.2.2) else (laws_FnExactMachineText.j0 k true a0_0 a0_1 l0_2 a0_3 a0_4 a0_5 a0_6 a0_7 bt265.1 bt265.2.1 bt265.2.2.1 bt265.2.2.2.1 bt265.2.2.2.2.1 bt265.2.2.2.2.2.1 bt265.2.2.2.2.2.2.1 bt265.2.2.2.2.2.2.2)))))))
theorem laws_FnExactMachineText.bad_j0 (k : Nat) (y1 : Int) (y2 : Int) (y3 : List (S79)) (y4 : Int) (y5 : Int) (y6 : Int) (y7 : Int) (y8 : Int) (y9 : Int) (y10 : Int) (y11 : List (S62)) (y12 : Int) (y13 : Int) (y14 : Int) (y15 : Int) (y16 : Int) : ¬ laws_FnExactMachineText.j0 k true y1 y2 y3 y4 y5 y6 y7 y8 y9 y10 y11 y12 y13 y14 y15 y16 = some true := by
 cases k <;> simp [laws_FnExactMachineText.j0]
set_option maxHeartbeats 8000000 in
set_option maxRecDepth 100000 in
theorem laws_FnExactMachineText.calls (k : Nat) (a0_0 : Int) (a0_1 : Int) (A0_2 : Option Addr) (c0_2 : Nat) (l0_2 : List (S79)) (a0_3 : Int) (a0_4 : Int) (a0_5 : Int) (a0_6 : Int) (a0_7 : Int) (w : World) (hr0_2 : Kd.C k79 w A0_2 l0_2.length l0_2) (hc0_2 : l0_2.length ≤ c0_2) (h : laws_FnExactMachineText.f k a0_0 a0_1 l0_2 a0_3 a0_4 a0_5 a0_6 a0_7 = some true) :
 Calls Tryd.prog 4 #[.agg #[.int .i64 a0_0, .int .i64 a0_1, .slice A0_2 l0_2.length c0_2, .int .i64 a0_3, .int .i64 a0_4, .int .i64 a0_5, .int .i64 a0_6, .int .i64 a0_7]] w fun e w' => e = .returned (.bool true) ∧ Below w.heap.size w w' := by
 have CD := Tryd.underlying34
 have CE := Tryd.underlying39
 have An := Z.m hr0_2
 have Al := Z.m hc0_2
 clear hr0_2 hc0_2
 have HB := Z.m (Below.refl w.heap.size w)
 have H : ((laws_szMachine.f a0_0 a0_1 l0_2 a0_3 a0_4 a0_5 a0_6 a0_7 1048576).bind fun Ar => (if Ar < 0 then (some true) else ((laws_toMachine.f k a0_0 a0_1 l0_2 a0_3 a0_4 a0_5 a0_6 a0_7).bind fun bt253 => ((spec_MachineText.f k bt253.1 bt253.2.1 bt253.2.2.1 bt253.2.2.2.1 bt253.2.2.2.2.1 bt253.2.2.2.2.2.1 bt253.2.2.2.2.2.2.1 bt253.2.2.2.2.2.2.2).bind fun bt263 => ((laws_toMachine.f k a0_0 a0_1 l0_2 a0_3 a0_4 a0_5 a0_6 a0_7).bind fun bt265 => ((impl_MachineText.f k bt265.1 bt265.2.1 bt265.2.2.1 bt265.2.2.2.1 bt265.2.2.2.2.1 bt265.2.2.2.2.2.1 bt265.2.2.2.2.2.2.1 bt265.2.2.2.2.2.2.2).bind fun bt276 => (if bt276.1.toList = bt263.1.toList then (laws_FnExactMachineText.j0 k (bt276.2 != bt263.2) a0_0 a0_1 l0_2 a0_3 a0_4 a0_5 a0_6 a0_7 bt265.1 bt265.2.1 bt265.2.2.1 bt265.2.2.2.1 bt265.2.2.2.2.1 bt265.2.2.2.2.2.1 bt265.2.2.2.2.2.2.1 bt265.2.2.2.2.2.2.2) else (laws_FnExactMachineText.j0 k true a0_0 a0_1 l0_2 a0_3 a0_4 a0_5 a0_6 a0_7 bt265.1 bt265.2.1 bt265.2.2.1 bt265.2.2.2.1 bt265.2.2.2.2.1 bt265.2.2.2.2.2.1 bt265.2.2.2.2.2.2.1 bt265.2.2.2.2.2.2.2)))))))) = some true := h
 clear h
 replace H := Option.bind_eq_some_iff.mp H
 obtain ⟨Ar, Cr, H⟩ := H
 replace H : (if Ar < 0 then (some true) else ((laws_toMachine.f k a0_0 a0_1 l0_2 a0_3 a0_4 a0_5 a0_6 a0_7).bind fun bt253 => ((spec_MachineText.f k bt253.1 bt253.2.1 bt253.2.2.1 bt253.2.2.2.1 bt253.2.2.2.2.1 bt253.2.2.2.2.2.1 bt253.2.2.2.2.2.2.1 bt253.2.2.2.2.2.2.2).bind fun bt263 => ((laws_toMachine.f k a0_0 a0_1 l0_2 a0_3 a0_4 a0_5 a0_6 a0_7).bind fun bt265 => ((impl_MachineText.f k bt265.1 bt265.2.1 bt265.2.2.1 bt265.2.2.2.1 bt265.2.2.2.2.1 bt265.2.2.2.2.2.1 bt265.2.2.2.2.2.2.1 bt265.2.2.2.2.2.2.2).bind fun bt276 => (if bt276.1.toList = bt263.1.toList then (laws_FnExactMachineText.j0 k (bt276.2 != bt263.2) a0_0 a0_1 l0_2 a0_3 a0_4 a0_5 a0_6 a0_7 bt265.1 bt265.2.1 bt265.2.2.1 bt265.2.2.2.1 bt265.2.2.2.2.1 bt265.2.2.2.2.2.1 bt265.2.2.2.2.2.2.1 bt265.2.2.2.2.2.2.2) else (laws_FnExactMachineText.j0 k true a0_0 a0_1 l0_2 a0_3 a0_4 a0_5 a0_6 a0_7 bt265.1 bt265.2.1 bt265.2.2.1 bt265.2.2.2.1 bt265.2.2.2.2.1 bt265.2.2.2.2.2.1 bt265.2.2.2.2.2.2.1 bt265.2.2.2.2.2.2.2))))))) = some true := H
 have A2 := Z.m Cr
 clear Cr
 by_cases c3 : Ar < 0
 ·rw [if_pos c3] at H
  have C1 := decide_eq_true c3
  clear c3
  clear H
  go_enter Tryd.func4, Tryd.ntmps4
  go_wp2_with (first | ((with_reducible refine gq (N := 1) rfl ?_); refine be (N := 1) (cs := #[.int .i64 a0_0, .int .i64 a0_1, .slice A0_2 l0_2.length c0_2, .int .i64 a0_3, .int .i64 a0_4, .int .i64 a0_5, .int .i64 a0_6, .int .i64 a0_7]) (t := 34) ?_; intro A6 hg w4 hbox hb; have A0 := Z.m (hbox); have At := gW (w := w) HB hg; have BZ := At; replace HB := bB HB hb; clear hb hbox hg; have C9 := bc0 A0; have Ca := bc1 A0; have Cb := bc2 A0; have Cd := bc3 A0; have Ce := bc4 A0; have Cf := bc5 A0; have Cg := bc6 A0; have Ch := bc7 A0; have Ci := qz A0.o 0; have Cj := qz A0.o 1; have Cl := qz A0.o 2; have Cm := qz A0.o 3; have Cn := qz A0.o 4; have Co := qz A0.o 5; have Cp := qz A0.o 6; have Cq := qz A0.o 7) | ((with_reducible refine gc (f := 10) rfl ?_); refine gA (some 11) _ #[.agg #[.int .i64 a0_0, .int .i64 a0_1, .slice A0_2 l0_2.length c0_2, .int .i64 a0_3, .int .i64 a0_4, .int .i64 a0_5, .int .i64 a0_6, .int .i64 a0_7], .int .i64 1048576] ?_ Tryd.func10; (with_reducible refine (laws_szMachine.calls a0_0 a0_1 _ _ l0_2 a0_3 a0_4 a0_5 a0_6 a0_7 1048576 Ar _ ?side1 ?side2 A2.o).mono ?_); (case side1 => repeat (first | exact (Kd.C_below An.o HB.o) | (with_reducible refine Kd.C_alloc ?_ _) | (with_reducible refine Kd.C_drewN ?_ _) | (with_reducible refine Kd.C_drew ?_))); (case side2 => exact Al.o); rintro e w6 ⟨rfl, hb⟩; refine ⟨_, rfl, ?_⟩; replace A0 := kB A0 hb; replace HB := bB HB hb; (try clear hb); (try clear C4); (try clear hk); (try clear hi)))
  go_ret
  exact ⟨by first | rfl | (simp [eN, eS] <;> rfl) | (simp [*, eN, eS] <;> rfl), vB HB⟩
 ·rw [if_neg c3] at H
  have C1 := decide_eq_false c3
  clear c3
  replace H := Option.bind_eq_some_iff.mp H
  obtain ⟨⟨BC, BD, Au, BE, BF, BG, BH, BI⟩, Cs, H⟩ := H
  replace H : ((spec_MachineText.f k BC BD Au BE BF BG BH BI).bind fun bt263 => ((laws_toMachine.f k a0_0 a0_1 l0_2 a0_3 a0_4 a0_5 a0_6 a0_7).bind fun bt265 => ((impl_MachineText.f k bt265.1 bt265.2.1 bt265.2.2.1 bt265.2.2.2.1 bt265.2.2.2.2.1 bt265.2.2.2.2.2.1 bt265.2.2.2.2.2.2.1 bt265.2.2.2.2.2.2.2).bind fun bt276 => (if bt276.1.toList = bt263.1.toList then (laws_FnExactMachineText.j0 k (bt276.2 != bt263.2) a0_0 a0_1 l0_2 a0_3 a0_4 a0_5 a0_6 a0_7 bt265.1 bt265.2.1 bt265.2.2.1 bt265.2.2.2.1 bt265.2.2.2.2.1 bt265.2.2.2.2.2.1 bt265.2.2.2.2.2.2.1 bt265.2.2.2.2.2.2.2) else (laws_FnExactMachineText.j0 k true a0_0 a0_1 l0_2 a0_3 a0_4 a0_5 a0_6 a0_7 bt265.1 bt265.2.1 bt265.2.2.1 bt265.2.2.2.1 bt265.2.2.2.2.1 bt265.2.2.2.2.2.1 bt265.2.2.2.2.2.2.1 bt265.2.2.2.2.2.2.2))))) = some true := H
  have A7 := Z.m Cs
  clear Cs
  replace H := Option.bind_eq_some_iff.mp H
  obtain ⟨⟨Av, Aw⟩, Ct, H⟩ := H
  replace H : ((laws_toMachine.f k a0_0 a0_1 l0_2 a0_3 a0_4 a0_5 a0_6 a0_7).bind fun bt265 => ((impl_MachineText.f k bt265.1 bt265.2.1 bt265.2.2.1 bt265.2.2.2.1 bt265.2.2.2.2.1 bt265.2.2.2.2.2.1 bt265.2.2.2.2.2.2.1 bt265.2.2.2.2.2.2.2).bind fun bt276 => (if bt276.1.toList = Av.toList then (laws_FnExactMachineText.j0 k (bt276.2 != Aw) a0_0 a0_1 l0_2 a0_3 a0_4 a0_5 a0_6 a0_7 bt265.1 bt265.2.1 bt265.2.2.1 bt265.2.2.2.1 bt265.2.2.2.2.1 bt265.2.2.2.2.2.1 bt265.2.2.2.2.2.2.1 bt265.2.2.2.2.2.2.2) else (laws_FnExactMachineText.j0 k true a0_0 a0_1 l0_2 a0_3 a0_4 a0_5 a0_6 a0_7 bt265.1 bt265.2.1 bt265.2.2.1 bt265.2.2.2.1 bt265.2.2.2.2.1 bt265.2.2.2.2.2.1 bt265.2.2.2.2.2.2.1 bt265.2.2.2.2.2.2.2)))) = some true := H
  have A8 := Z.m Ct
  clear Ct
  replace H := Option.bind_eq_some_iff.mp H
  obtain ⟨⟨Aa, Ab, A4, Ac, Ad, Ae, Af, Ag⟩, Cu, H⟩ := H
  replace H : ((impl_MachineText.f k Aa Ab A4 Ac Ad Ae Af Ag).bind fun bt276 => (if bt276.1.toList = Av.toList then (laws_FnExactMachineText.j0 k (bt276.2 != Aw) a0_0 a0_1 l0_2 a0_3 a0_4 a0_5 a0_6 a0_7 Aa Ab A4 Ac Ad Ae Af Ag) else (laws_FnExactMachineText.j0 k true a0_0 a0_1 l0_2 a0_3 a0_4 a0_5 a0_6 a0_7 Aa Ab A4 Ac Ad Ae Af Ag))) = some true := H
  have A9 := Z.m Cu
  clear Cu
  replace H := Option.bind_eq_some_iff.mp H
  obtain ⟨⟨BT, BU⟩, BV, H⟩ := H
  replace H : (if BT.toList = Av.toList then (laws_FnExactMachineText.j0 k (BU != Aw) a0_0 a0_1 l0_2 a0_3 a0_4 a0_5 a0_6 a0_7 Aa Ab A4 Ac Ad Ae Af Ag) else (laws_FnExactMachineText.j0 k true a0_0 a0_1 l0_2 a0_3 a0_4 a0_5 a0_6 a0_7 Aa Ab A4 Ac Ad Ae Af Ag)) = some true := H
  have Cz := Z.m BV
  clear BV
  have BS := Z.m H
  clear H
  go_enter Tryd.func4, Tryd.ntmps4
  go_upto_region 8 with (first | ((with_reducible refine gq (N := 1) rfl ?_); refine be (N := 1) (cs := #[.int .i64 a0_0, .int .i64 a0_1, .slice A0_2 l0_2.length c0_2, .int .i64 a0_3, .int .i64 a0_4, .int .i64 a0_5, .int .i64 a0_6, .int .i64 a0_7]) (t := 34) ?_; intro A6 hg CI hbox hb; have A0 := Z.m (hbox); have At := gW (w := w) HB hg; have BZ := At; replace HB := bB HB hb; clear hb hbox hg; have Ay := bc0 A0; have Az := bc1 A0; have AA := bc2 A0; have AB := bc3 A0; have AC := bc4 A0; have AD := bc5 A0; have AE := bc6 A0; have AF := bc7 A0; have B5 := qz A0.o 0; have B7 := qz A0.o 1; have B8 := qz A0.o 2; have B9 := qz A0.o 3; have Ba := qz A0.o 4; have Bb := qz A0.o 5; have Bc := qz A0.o 6; have Bd := qz A0.o 7) | ((with_reducible refine gc (f := 10) rfl ?_); refine gA (some 11) _ #[.agg #[.int .i64 a0_0, .int .i64 a0_1, .slice A0_2 l0_2.length c0_2, .int .i64 a0_3, .int .i64 a0_4, .int .i64 a0_5, .int .i64 a0_6, .int .i64 a0_7], .int .i64 1048576] ?_ Tryd.func10; (with_reducible refine (laws_szMachine.calls a0_0 a0_1 _ _ l0_2 a0_3 a0_4 a0_5 a0_6 a0_7 1048576 Ar _ ?side1 ?side2 A2.o).mono ?_); (case side1 => repeat (first | exact (Kd.C_below An.o HB.o) | (with_reducible refine Kd.C_alloc ?_ _) | (with_reducible refine Kd.C_drewN ?_ _) | (with_reducible refine Kd.C_drew ?_))); (case side2 => exact Al.o); rintro e CJ ⟨rfl, hb⟩; refine ⟨_, rfl, ?_⟩; replace A0 := kB A0 hb; replace HB := bB HB hb; (try clear hb); (try clear C4); (try clear hk); (try clear hi); have AG := bc0 A0; have AH := bc1 A0; have AI := bc2 A0; have AJ := bc3 A0; have AK := bc4 A0; have AL := bc5 A0; have AM := bc6 A0; have AN := bc7 A0; have Be := qz A0.o 0; have Bf := qz A0.o 1; have Bg := qz A0.o 2; have Bh := qz A0.o 3; have Bi := qz A0.o 4; have Bj := qz A0.o 5; have Bk := qz A0.o 6; have Bl := qz A0.o 7) | ((with_reducible refine gc (f := 12) rfl ?_); refine gA (some 16) _ #[.agg #[.int .i64 a0_0, .int .i64 a0_1, .slice A0_2 l0_2.length c0_2, .int .i64 a0_3, .int .i64 a0_4, .int .i64 a0_5, .int .i64 a0_6, .int .i64 a0_7]] ?_ Tryd.func12; (with_reducible refine (laws_toMachine.calls k a0_0 a0_1 _ _ l0_2 a0_3 a0_4 a0_5 a0_6 a0_7 BC BD Au BE BF BG BH BI _ ?side1 ?side2 A7.o).mono ?_); (case side1 => repeat (first | exact (Kd.C_below An.o HB.o) | (with_reducible refine Kd.C_alloc ?_ _) | (with_reducible refine Kd.C_drewN ?_ _) | (with_reducible refine Kd.C_drew ?_))); (case side2 => exact Al.o); rintro e CK ⟨CF, rfl, Ax, hb⟩; refine ⟨_, rfl, ?_⟩; have A5 := Z.m (Kd.R_lower Ax (below_size (vB HB))); replace A0 := kB A0 hb; replace HB := bB HB hb; (try clear hb); (try clear C4); (try clear hk); (try clear hi); (try clear Ax); obtain ⟨BY, C2, C7⟩ := Kd.R_slice A5.o; subst C7) | ((with_reducible refine gc (f := 11) rfl ?_); refine gA (some 17) _ #[.agg #[.int .i64 BC, .int .i64 BD, .slice BY Au.length C2, .int .i64 BE, .int .i64 BF, .int .i64 BG, .int .i64 BH, .int .i64 BI]] ?_ Tryd.func11; (with_reducible refine (spec_MachineText.calls k BC BD _ _ Au BE BF BG BH BI Av Aw _ ?side1 ?side2 A8.o).mono ?_); (case side1 => repeat (first | exact (Kd.Rr A5.o).2.2 | (with_reducible refine Kd.C_alloc ?_ _) | (with_reducible refine Kd.C_drewN ?_ _) | (with_reducible refine Kd.C_drew ?_))); (case side2 => exact (Kd.Rr A5.o).2.1); rintro e CL ⟨rfl, hb⟩; refine ⟨_, rfl, ?_⟩; replace A5 := Z.m (Kd.Rb (vR A5) hb); replace A0 := kB A0 hb; replace HB := bB HB hb; (try clear hb); (try clear C4); (try clear hk); (try clear hi); have AO := bc0 A0; have AP := bc1 A0; have AQ := bc2 A0; have AR := bc3 A0; have AS := bc4 A0; have AT := bc5 A0; have AU := bc6 A0; have AV := bc7 A0; have Bm := qz A0.o 0; have Bn := qz A0.o 1; have Bo := qz A0.o 2; have Bp := qz A0.o 3; have Bq := qz A0.o 4; have Br := qz A0.o 5; have Bs := qz A0.o 6; have Bt := qz A0.o 7) | ((with_reducible refine gc (f := 12) rfl ?_); refine gA (some 21) _ #[.agg #[.int .i64 a0_0, .int .i64 a0_1, .slice A0_2 l0_2.length c0_2, .int .i64 a0_3, .int .i64 a0_4, .int .i64 a0_5, .int .i64 a0_6, .int .i64 a0_7]] ?_ Tryd.func12; (with_reducible refine (laws_toMachine.calls k a0_0 a0_1 _ _ l0_2 a0_3 a0_4 a0_5 a0_6 a0_7 Aa Ab A4 Ac Ad Ae Af Ag _ ?side1 ?side2 A9.o).mono ?_); (case side1 => repeat (first | exact (Kd.C_below An.o HB.o) | (with_reducible refine Kd.C_alloc ?_ _) | (with_reducible refine Kd.C_drewN ?_ _) | (with_reducible refine Kd.C_drew ?_))); (case side2 => exact Al.o); rintro e CM ⟨CG, rfl, Ax, hb⟩; refine ⟨_, rfl, ?_⟩; have Ai := Z.m (Kd.R_lower (Kd.R_new' Ax (Kd.R_lt (vR A5))) (below_size (vB HB))); replace A5 := Z.m (Kd.R_elder' (vR A5) (Kd.R_base Ax) hb); replace A0 := kB A0 hb; replace HB := bB HB hb; (try clear hb); (try clear C4); (try clear hk); (try clear hi); (try clear Ax)) | ((with_reducible refine gq (N := 6) rfl ?_); refine be (N := 6) (cs := #[.int .i64 0, .int .i64 0, .slice none 0 0, .int .i64 0, .int .i64 0, .int .i64 0, .int .i64 0, .int .i64 0]) (t := 39) ?_; intro Ah hg CN hbox hb; have A1 := Z.m (hbox); have C0 := gW (w := w) HB hg; have Cv := C0; have Aj := neL A0 hg; have Aq := neG A0 hg; replace A5 := Z.m (Kd.Rb (vR A5) hb); replace Ai := Z.m (Kd.Rb (vR Ai) hb); replace A0 := kB A0 hb; replace HB := bB HB hb; clear hb hbox hg; have Cx := Aq.o; have Cy := Aj.o; have AW := bc0 A1; have AX := bc1 A1; have AY := bc2 A1; have AZ := bc3 A1; have B0 := bc4 A1; have B1 := bc5 A1; have B2 := bc6 A1; have B4 := bc7 A1; have Bu := qz A1.o 0; have Bv := qz A1.o 1; have Bw := qz A1.o 2; have Bx := qz A1.o 3; have By := qz A1.o 4; have Bz := qz A1.o 5; have BA := qz A1.o 6; have BB := qz A1.o 7; obtain ⟨Ap, Ao, C8⟩ := Kd.R_slice Ai.o; subst C8) | ((with_reducible refine gc (f := 13) rfl ?_); refine gA (some 24) _ #[.agg #[.int .i64 Aa, .int .i64 Ab, .slice Ap A4.length Ao, .int .i64 Ac, .int .i64 Ad, .int .i64 Ae, .int .i64 Af, .int .i64 Ag]] ?_ Tryd.func13; (with_reducible refine (impl_MachineText.calls k Aa Ab _ _ A4 Ac Ad Ae Af Ag BT BU _ ?side1 ?side2 Cz.o).mono ?_); (case side1 => refine (Kd.Rr (e := 62) (base := w.heap.size) (ok := fun k_ => (True ∧ some k_ ≠ (.slice BY Au.length C2 : Value).ownBlock)) (n := A4.length) (c := Ao) ?_).2.2; exact (by refine rK ?_; exact (Kd.Rm (rf (rf (rf (rf (rf (rf (rf (rf (Kd.Ry Ai.o A1.o (by decide)))))))))) (fun _ h_ => h_.1)))); (case side2 => exact (Kd.Rr Ai.o).2.1); rintro e CO ⟨rfl, hb⟩; refine ⟨_, rfl, ?_⟩; replace A5 := Z.m (Kd.Rb (by refine rK ?_; exact (Kd.Rm (rf (rf (rf (rf (rf (rf (rf (rf (Kd.Ry A5.o A1.o (by decide)))))))))) (fun _ h_ => h_.1))) hb); replace Ai := Z.m (Kd.Rb (by refine rK ?_; exact (Kd.Rm (rf (rf (rf (rf (rf (rf (rf (rf (Kd.Ry Ai.o A1.o (by decide)))))))))) (fun _ h_ => h_.1))) hb); replace A0 := Z.m (qb (g := A6) (o := .cells #[.int .i64 a0_0, .int .i64 a0_1, .slice A0_2 l0_2.length c0_2, .int .i64 a0_3, .int .i64 a0_4, .int .i64 a0_5, .int .i64 a0_6, .int .i64 a0_7] 34 (0, 0)) (by refine bK ?_; (iterate 8 refine qF ?_ Aj); exact A0.o) hb); replace A1 := Z.m (qb (g := Ah) (o := .cells #[.int .i64 Aa, .int .i64 Ab, .slice Ap A4.length Ao, .int .i64 Ac, .int .i64 Ad, .int .i64 Ae, .int .i64 Af, .int .i64 Ag] 39 (0, 0)) (by refine bK ?_; apply st8; refine bK ?_; exact A1.o) hb); replace HB := bB HB hb; (try clear hb); (try clear C4); (try clear hk); (try clear hi)))
  (try simp only [Act.put, q1, q2, q3])
  go_cut [34] (fun v34 wc => ∃ (kq : Nat) (Ak : Bool), v34 = .bool Ak ∧ Z (laws_FnExactMachineText.j0 kq Ak a0_0 a0_1 l0_2 a0_3 a0_4 a0_5 a0_6 a0_7 Aa Ab A4 Ac Ad Ae Af Ag = some true) ∧ Z (kq ≤ k) ∧ Z (Kd.R k62 62 wc w.heap.size (fun _ => True) (.slice Ap A4.length Ao) A4) ∧ Z (wc.heap[A6]? = some (.cells #[.int .i64 a0_0, .int .i64 a0_1, (.slice A0_2 l0_2.length c0_2), .int .i64 a0_3, .int .i64 a0_4, .int .i64 a0_5, .int .i64 a0_6, .int .i64 a0_7] 34 (0, 0))) ∧ Z (wc.heap[Ah]? = some (.cells #[.int .i64 Aa, .int .i64 Ab, (.slice Ap A4.length Ao), .int .i64 Ac, .int .i64 Ad, .int .i64 Ae, .int .i64 Af, .int .i64 Ag] 39 (0, 0))) ∧ Z (Below w.heap.size w wc))
  case first =>
   have H := BS.o
   clear BS
   by_cases c26 : BT.toList = Av.toList
   ·rw [if_pos c26] at H
    have BR := beq_iff_eq.mpr c26
    have Cw := bne_eq_false_iff_eq.mpr c26
    clear c26
    (first | rw [BR] | (simp only [i64_w, i32_w]; rw [BR]) | skip)
    have H' := Z.m H
    clear H
    go_wp2
    go_meet
    case rel => exact ⟨_, ((BU != Aw)), (by first | rfl | (simp; done) | (simp [*]; done)), H', ⟨by first | omega | exact Nat.le_refl _⟩, ⟨by refine rK ?_; exact Kd.Rm Ai.o (fun _ hk => trivial)⟩, ⟨vK A0⟩, ⟨vK A1⟩, ⟨vB HB⟩⟩
   ·(rw [if_neg c26] at H; exact absurd H (laws_FnExactMachineText.bad_j0 _ _ _ _ _ _ _ _ _ _ _ _ _ _ _ _ _))
  case rest =>
   clear BS
   (try clear C1)
   (try clear Ay); (try clear Az); (try clear AA); (try clear AB); (try clear AC); (try clear AD); (try clear AE); (try clear AF)
   (try clear AG); (try clear AH); (try clear AI); (try clear AJ); (try clear AK); (try clear AL); (try clear AM); (try clear AN)
   (try clear AO); (try clear AP); (try clear AQ); (try clear AR); (try clear AS); (try clear AT); (try clear AU); (try clear AV)
   (try clear AW); (try clear AX); (try clear AY); (try clear AZ); (try clear B0); (try clear B1); (try clear B2); (try clear B4)
   (try clear B5); (try clear B7); (try clear B8); (try clear B9); (try clear Ba); (try clear Bb); (try clear Bc); (try clear Bd)
   (try clear Be); (try clear Bf); (try clear Bg); (try clear Bh); (try clear Bi); (try clear Bj); (try clear Bk); (try clear Bl)
   (try clear Bm); (try clear Bn); (try clear Bo); (try clear Bp); (try clear Bq); (try clear Br); (try clear Bs); (try clear Bt)
   (try clear Bu); (try clear Bv); (try clear Bw); (try clear Bx); (try clear By); (try clear Bz); (try clear BA); (try clear BB)
   obtain ⟨kq, Ak, rfl, HA, CC, A3, A0, A1, HB⟩ := hcut
   cases kq with
   | zero => exact absurd HA.o (by simp [laws_FnExactMachineText.j0])
   | succ kj10 =>
    have H := HA.o
    clear HA
    simp only [laws_FnExactMachineText.j0] at H
    by_cases c27 : Ak = true
    ·(rw [if_pos c27] at H; exact absurd H (by decide))
    ·replace c27 := Bool.eq_false_iff.mpr c27
     subst c27
     have H1 : ((laws_toMachine.f kj10 a0_0 a0_1 l0_2 a0_3 a0_4 a0_5 a0_6 a0_7).bind fun bt278 => ((laws_eqMachine.f kj10 Aa Ab A4 Ac Ad Ae Af Ag bt278.1 bt278.2.1 bt278.2.2.1 bt278.2.2.2.1 bt278.2.2.2.2.1 bt278.2.2.2.2.2.1 bt278.2.2.2.2.2.2.1 bt278.2.2.2.2.2.2.2).bind fun As => (if As = true then (some true) else (some false)))) = some true := by rw [if_neg (show ¬ (false = true) by decide)] at H; exact H
     clear H
     have H := H1
     clear H1
     replace H := Option.bind_eq_some_iff.mp H
     obtain ⟨⟨BJ, BK, BL, BM, BN, BO, BP, BQ⟩, BW, H⟩ := H
     replace H : ((laws_eqMachine.f kj10 Aa Ab A4 Ac Ad Ae Af Ag BJ BK BL BM BN BO BP BQ).bind fun As => (if As = true then (some true) else (some false))) = some true := H
     have CA := Z.m BW
     clear BW
     replace H := Option.bind_eq_some_iff.mp H
     obtain ⟨As, BX, H⟩ := H
     replace H : (if As = true then (some true) else (some false)) = some true := H
     have CB := Z.m BX
     clear BX
     by_cases c30 : As = true
     ·subst c30
      have H1 : (some true) = some true := rfl
      clear H
      have H := H1
      clear H1
      clear H
      try go_wp2
      replace A3 := Z.m (Kd.R_drew A3.o)
      replace A0 := Z.m (blk_drew A0.o)
      replace A1 := Z.m (blk_drew A1.o)
      replace HB := Z.m (qd HB.o)
      refine start_ (n := 5) (S := fun w' => w'.cell? ⟨Ah, 0, none⟩ = some (.int .i64 Aa) ∧ w'.cell? ⟨Ah, 1, none⟩ = some (.int .i64 Ab) ∧ w'.cell? ⟨Ah, 2, none⟩ = some (.slice Ap A4.length Ao) ∧ w'.cell? ⟨Ah, 3, none⟩ = some (.int .i64 Ac) ∧ w'.cell? ⟨Ah, 4, none⟩ = some (.int .i64 Ad) ∧ w'.cell? ⟨Ah, 5, none⟩ = some (.int .i64 Ae) ∧ w'.cell? ⟨Ah, 6, none⟩ = some (.int .i64 Af) ∧ w'.cell? ⟨Ah, 7, none⟩ = some (.int .i64 Ag) ∧ w'.cell? ⟨A6, 0, none⟩ = some (.int .i64 a0_0) ∧ w'.cell? ⟨A6, 1, none⟩ = some (.int .i64 a0_1) ∧ w'.cell? ⟨A6, 2, none⟩ = some (.slice A0_2 l0_2.length c0_2) ∧ w'.cell? ⟨A6, 3, none⟩ = some (.int .i64 a0_3) ∧ w'.cell? ⟨A6, 4, none⟩ = some (.int .i64 a0_4) ∧ w'.cell? ⟨A6, 5, none⟩ = some (.int .i64 a0_5) ∧ w'.cell? ⟨A6, 6, none⟩ = some (.int .i64 a0_6) ∧ w'.cell? ⟨A6, 7, none⟩ = some (.int .i64 a0_7)) (ds := []) #[false, false, false, false, false] (by kernel_rfl) rfl rfl ⟨(ql A1.o 0).trans rfl, (ql A1.o 1).trans rfl, (ql A1.o 2).trans rfl, (ql A1.o 3).trans rfl, (ql A1.o 4).trans rfl, (ql A1.o 5).trans rfl, (ql A1.o 6).trans rfl, (ql A1.o 7).trans rfl, (ql A0.o 0).trans rfl, (ql A0.o 1).trans rfl, (ql A0.o 2).trans rfl, (ql A0.o 3).trans rfl, (ql A0.o 4).trans rfl, (ql A0.o 5).trans rfl, (ql A0.o 6).trans rfl, (ql A0.o 7).trans rfl⟩ (fun hHeld => ?_)
      generalize wc.drew = CP at A3 A0 A1 HB hHeld ⊢
      refine take_ (i := 0) (N := some 35) (v := ?_) (a' := ?_) #[true, false, false, false, false] rfl rfl (by kernel_rfl) (fun _ _ _ h => h) (Or.inl ⟨by rfl, ?_⟩) hHeld ?_ ?_
      rotate_left
      ·rintro w' ⟨s0, s1, s2, s3, s4, s5, s6, s7, s8, s9, s10, s11, s12, s13, s14, s15⟩
       go_simp
       with_reducible rfl
      rotate_left
      ·simp only [Act.put, q1, q2, q3, i64_w, i32_w]
       rfl
      refine take_ (i := 1) (N := some 36) (v := ?_) (a' := ?_) #[true, true, false, false, false] rfl rfl (by kernel_rfl) (fun _ _ _ h => h) (Or.inl ⟨by rfl, ?_⟩) hHeld ?_ ?_
      rotate_left
      ·rintro w' ⟨s0, s1, s2, s3, s4, s5, s6, s7, s8, s9, s10, s11, s12, s13, s14, s15⟩
       go_simp
       with_reducible rfl
      rotate_left
      ·simp only [Act.put, q1, q2, q3, i64_w, i32_w]
       rfl
      refine one_ (i := 2) (N := some 37) #[true, true, true, false, false] rfl rfl (by kernel_rfl) (by decide) (fun K hK => ?_)
      refine goes_ Tryd.func12 (by kernel_rfl) rfl #[.agg #[.int .i64 a0_0, .int .i64 a0_1, .slice A0_2 l0_2.length c0_2, .int .i64 a0_3, .int .i64 a0_4, .int .i64 a0_5, .int .i64 a0_6, .int .i64 a0_7]] (by rfl) rfl rfl (by (try simp only [List.map_toArray, List.map_cons, List.map_nil]); first | done | rfl | (simp only [List.length_drop, List.length_take]; rfl)) ?_
      with_reducible refine (laws_toMachine.calls kj10 a0_0 a0_1 _ _ l0_2 a0_3 a0_4 a0_5 a0_6 a0_7 BJ BK BL BM BN BO BP BQ _ ?side1 ?side2 CA.o).mono ?_
      (case side1 => repeat (first | exact (Kd.C_below An.o HB.o) | (with_reducible refine Kd.C_alloc ?_ _) | (with_reducible refine Kd.C_drewN ?_ _) | (with_reducible refine Kd.C_drew ?_)))
      (case side2 => exact Al.o)
      rintro e CQ ⟨CH, rfl, Ax, hb⟩
      refine ⟨_, rfl, ?_⟩
      have Am := Z.m (Kd.R_lower (Kd.R_new' Ax (Kd.R_lt (vR A3))) (below_size (vB HB)))
      replace A3 := Z.m (Kd.R_elder' (vR A3) (Kd.R_base Ax) hb)
      replace A0 := kB A0 hb
      replace A1 := kB A1 hb
      replace HB := bB HB hb
      (try clear hb); (try clear Ax)
      obtain ⟨C5, C6, C3⟩ := Kd.R_slice Am.o
      (first | subst C3 | (injection C3 with f1_ f2_ f3_; have f4_ := f1_.symm; have f5_ := f3_.symm; clear f1_ f2_ f3_; subst f4_; subst f5_))
      refine hK.out _ _ ⟨(ql A1.o 0).trans rfl, (ql A1.o 1).trans rfl, (ql A1.o 2).trans rfl, (ql A1.o 3).trans rfl, (ql A1.o 4).trans rfl, (ql A1.o 5).trans rfl, (ql A1.o 6).trans rfl, (ql A1.o 7).trans rfl, (ql A0.o 0).trans rfl, (ql A0.o 1).trans rfl, (ql A0.o 2).trans rfl, (ql A0.o 3).trans rfl, (ql A0.o 4).trans rfl, (ql A0.o 5).trans rfl, (ql A0.o 6).trans rfl, (ql A0.o 7).trans rfl⟩ (fun hHeld => ?_)
      clear hK K
      refine norm_ (a' := ?_) ?_ ?_
      rotate_left
      ·show Act.put _ (some 37) _ = _
       simp only [Act.put, q1, q2, q3, i64_w, i32_w]
       rfl
      refine one_ (i := 3) (N := some 38) #[true, true, true, true, false] rfl rfl (by kernel_rfl) (by decide) (fun K hK => ?_)
      refine goes_ Tryd.func14 (by kernel_rfl) rfl #[.agg #[.int .i64 Aa, .int .i64 Ab, .slice Ap A4.length Ao, .int .i64 Ac, .int .i64 Ad, .int .i64 Ae, .int .i64 Af, .int .i64 Ag], .agg #[.int .i64 BJ, .int .i64 BK, .slice C5 BL.length C6, .int .i64 BM, .int .i64 BN, .int .i64 BO, .int .i64 BP, .int .i64 BQ]] (by rfl) rfl rfl (by (try simp only [List.map_toArray, List.map_cons, List.map_nil]); first | done | rfl | (simp only [List.length_drop, List.length_take]; rfl)) ?_
      with_reducible refine (laws_eqMachine.calls kj10 Aa Ab _ _ A4 Ac Ad Ae Af Ag BJ BK _ _ BL BM BN BO BP BQ true _ ?side1 ?side2 ?side3 ?side4 CB.o).mono ?_
      (case side1 => repeat (first | exact (Kd.Rr A3.o).2.2 | (with_reducible refine Kd.C_alloc ?_ _) | (with_reducible refine Kd.C_drewN ?_ _) | (with_reducible refine Kd.C_drew ?_)))
      (case side2 => exact (Kd.Rr A3.o).2.1)
      (case side3 => repeat (first | exact (Kd.Rr Am.o).2.2 | (with_reducible refine Kd.C_alloc ?_ _) | (with_reducible refine Kd.C_drewN ?_ _) | (with_reducible refine Kd.C_drew ?_)))
      (case side4 => exact (Kd.Rr Am.o).2.1)
      rintro e CR ⟨rfl, hb⟩
      refine ⟨_, rfl, ?_⟩
      replace A3 := Z.m (Kd.Rb (vR A3) hb)
      replace Am := Z.m (Kd.Rb (vR Am) hb)
      replace A0 := kB A0 hb
      replace A1 := kB A1 hb
      replace HB := bB HB hb
      (try clear hb)
      refine hK.out _ _ ⟨(ql A1.o 0).trans rfl, (ql A1.o 1).trans rfl, (ql A1.o 2).trans rfl, (ql A1.o 3).trans rfl, (ql A1.o 4).trans rfl, (ql A1.o 5).trans rfl, (ql A1.o 6).trans rfl, (ql A1.o 7).trans rfl, (ql A0.o 0).trans rfl, (ql A0.o 1).trans rfl, (ql A0.o 2).trans rfl, (ql A0.o 3).trans rfl, (ql A0.o 4).trans rfl, (ql A0.o 5).trans rfl, (ql A0.o 6).trans rfl, (ql A0.o 7).trans rfl⟩ (fun hHeld => ?_)
      clear hK K
      refine norm_ (a' := ?_) ?_ ?_
      rotate_left
      ·show Act.put _ (some 38) _ = _
       simp only [Act.put, q1, q2, q3, i64_w, i32_w]
       rfl
      refine pure_ (i := 4) (N := some 39) (v := ?_) (a' := ?_) #[true, true, true, true, true] rfl rfl (by kernel_rfl) (fun _ _ _ h => h) (Or.inl ⟨by rfl, ?_⟩) ?_ ?_
      rotate_left
      ·intro w'
       go_simp
       with_reducible rfl
      rotate_left
      ·simp only [Act.put, q1, q2, q3, i64_w, i32_w]
       rfl
      refine done_ (by kernel_rfl) ?_
      try go_wp2
      go_ret
      exact ⟨by first | rfl | (simp [eN, eS] <;> rfl) | (simp [*, eN, eS] <;> rfl), vB HB⟩
     ·(rw [if_neg c30] at H; exact absurd H (by decide))

end Go.Proofs.YtklmdnlambinaaaDoor.PAll
