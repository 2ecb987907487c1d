/- Began as a text that print.sh wrote (of the functions named below); turned and shortened by this session. -/
import Derived.Test.YtlkiakpipcnijaaG0
import Derived.Test.YtlkiakpipcnijaaG1
import Derived.Test.YtlkiakpipcnijaaG3
import Derived.Test.YtlkiakpipcnijaaG16
namespace Go.Proofs.Ytlkiakpipcnijaa.PAll
open Go.RowKit Go.Proofs.YtlkiakpipcnijaaW.PrintWords Go.Proofs.YtlkiakpipcnijaaW.PrintLast Go.Proofs.YtlkiakpipcnijaaW.PrintMore
attribute [local go_sem] max2_int min2_int max_two min_two max_three min_three max_four min_four   -- for this text's walks alone
set_option linter.unusedVariables false
set_option linter.unusedSimpArgs false

/-! ### laws_eqMachine: function 49 -/
def laws_eqMachine.f (k : Nat) (a0_0 : Int) (a0_1 : Int) (l0_2 : List (S71)) (a0_3 : Int) (a0_4 : Int) (a0_5 : Int) (a0_6 : Int) (a0_7 : Int) (a1_0 : Int) (a1_1 : Int) (l1_2 : List (S71)) (a1_3 : Int) (a1_4 : Int) (a1_5 : Int) (a1_6 : Int) (a1_7 : Int) : Option (Bool) := (laws_eqBoard.f k a0_0 a0_1 l0_2 a1_0 a1_1 l1_2).bind fun t615 => (if t615 = true then (if a0_3 = a1_3 then (if a0_4 = a1_4 then (if a0_5 = a1_5 then (if a0_6 = a1_6 then (if a0_7 = a1_7 then (some true) else (some false)) else (some false)) else (some false)) else (some false)) else (some false)) else (some false))
set_option maxHeartbeats 8000000 in
set_option maxRecDepth 100000 in
theorem laws_eqMachine.calls (k : Nat) (a0_0 : Int) (a0_1 : Int) (A0_2 : Option Addr) (c0_2 : Nat) (l0_2 : List (S71)) (a0_3 : Int) (a0_4 : Int) (a0_5 : Int) (a0_6 : Int) (a0_7 : Int) (a1_0 : Int) (a1_1 : Int) (A1_2 : Option Addr) (c1_2 : Nat) (l1_2 : List (S71)) (a1_3 : Int) (a1_4 : Int) (a1_5 : Int) (a1_6 : Int) (a1_7 : Int) (r : Bool) (w : World) (hr0_2 : Kd.C k71 w A0_2 l0_2.length l0_2) (hc0_2 : l0_2.length ≤ c0_2) (hr1_2 : Kd.C k71 w A1_2 l1_2.length l1_2) (hc1_2 : l1_2.length ≤ c1_2) (h : laws_eqMachine.f k a0_0 a0_1 l0_2 a0_3 a0_4 a0_5 a0_6 a0_7 a1_0 a1_1 l1_2 a1_3 a1_4 a1_5 a1_6 a1_7 = some r) :
 Calls Try.prog 49 #[.agg #[.int .i64 a0_0, .int .i64 a0_1, .slice A0_2 l0_2.length c0_2, .int .i64 a0_3, .int .i64 a0_4, .int .i64 a0_5, .int .i64 a0_6, .int .i64 a0_7], .agg #[.int .i64 a1_0, .int .i64 a1_1, .slice A1_2 l1_2.length c1_2, .int .i64 a1_3, .int .i64 a1_4, .int .i64 a1_5, .int .i64 a1_6, .int .i64 a1_7]] w fun e w' => e = .returned (.bool r) ∧ Below w.heap.size w w' := by
 have HD := Try.underlying55
 have HC := Try.underlying30
 have A9 := Z.m hr0_2
 have A7 := Z.m hc0_2
 clear hr0_2 hc0_2
 have Aa := Z.m hr1_2
 have A8 := Z.m hc1_2
 clear hr1_2 hc1_2
 have HB := Z.m (Below.refl w.heap.size w)
 have H : ((laws_eqBoard.f k a0_0 a0_1 l0_2 a1_0 a1_1 l1_2).bind fun Af => (if Af = true then (if a0_3 = a1_3 then (if a0_4 = a1_4 then (if a0_5 = a1_5 then (if a0_6 = a1_6 then (if a0_7 = a1_7 then (some true) else (some false)) else (some false)) else (some false)) else (some false)) else (some false)) else (some false))) = some r := h
 clear h
 replace H := Option.bind_eq_some_iff.mp H
 obtain ⟨Af, Hm, H⟩ := H
 replace H : (if Af = true then (if a0_3 = a1_3 then (if a0_4 = a1_4 then (if a0_5 = a1_5 then (if a0_6 = a1_6 then (if a0_7 = a1_7 then (some true) else (some false)) else (some false)) else (some false)) else (some false)) else (some false)) else (some false)) = some r := H
 have A3 := Z.m Hm
 clear Hm
 by_cases c4 : Af = true
 ·subst c4
  have H1 : (if a0_3 = a1_3 then (if a0_4 = a1_4 then (if a0_5 = a1_5 then (if a0_6 = a1_6 then (if a0_7 = a1_7 then (some true) else (some false)) else (some false)) else (some false)) else (some false)) else (some false)) = some r := by rw [if_pos rfl] at H; exact H
  clear H
  have H := H1
  clear H1
  by_cases c5 : a0_3 = a1_3
  ·rw [if_pos c5] at H
   have Hc := beq_iff_eq.mpr c5
   have Hd := bne_eq_false_iff_eq.mpr c5
   clear c5
   by_cases c6 : a0_4 = a1_4
   ·rw [if_pos c6] at H
    have He := beq_iff_eq.mpr c6
    have Hf := bne_eq_false_iff_eq.mpr c6
    clear c6
    by_cases c7 : a0_5 = a1_5
    ·rw [if_pos c7] at H
     have Hg := beq_iff_eq.mpr c7
     have Hh := bne_eq_false_iff_eq.mpr c7
     clear c7
     by_cases c8 : a0_6 = a1_6
     ·rw [if_pos c8] at H
      have Hi := beq_iff_eq.mpr c8
      have Hj := bne_eq_false_iff_eq.mpr c8
      clear c8
      by_cases c9 : a0_7 = a1_7
      ·rw [if_pos c9] at H
       have Hk := beq_iff_eq.mpr c9
       have Hl := bne_eq_false_iff_eq.mpr c9
       clear c9
       obtain rfl := Option.some.inj H
       go_enter Try.func49, Try.ntmps49
       go_wp2_with (first | ((with_reducible refine gq (N := 2) rfl ?_); refine be (N := 2) (cs := #[.int .i64 a0_0, .int .i64 a0_1, .slice A0_2 l0_2.length c0_2, .int .i64 a0_3, .int .i64 a0_4, .int .i64 a0_5, .int .i64 a0_6, .int .i64 a0_7]) (t := 55) ?_; intro Ad hg HE hbox hb; have A0 := Z.m (hbox); have A5 := gW (w := w) HB hg; have Ab := A5; replace HB := bB HB hb; clear hb hbox hg) | ((with_reducible refine gq (N := 3) rfl ?_); refine be (N := 3) (cs := #[.int .i64 a1_0, .int .i64 a1_1, .slice A1_2 l1_2.length c1_2, .int .i64 a1_3, .int .i64 a1_4, .int .i64 a1_5, .int .i64 a1_6, .int .i64 a1_7]) (t := 55) ?_; intro Ae hg HF hbox hb; have A1 := Z.m (hbox); have A6 := gW (w := w) HB hg; have Ac := A6; have A2 := neL A0 hg; have A4 := neG A0 hg; replace A0 := kB A0 hb; replace HB := bB HB hb; clear hb hbox hg; have Hn := A2.o; have Hu := A4.o; have Ah := bc0 A0; have Ai := bc1 A0; have Aj := bc2 A0; have Ak := bc3 A0; have Al := bc4 A0; have Am := bc5 A0; have An := bc6 A0; have Ao := bc7 A0; have DM := qz A0.o 0; have DN := qz A0.o 1; have DO := qz A0.o 2; have DP := qz A0.o 3; have DQ := qz A0.o 4; have DR := qz A0.o 5; have DS := qz A0.o 6; have DT := qz A0.o 7; have Ap := bc0 A1; have Aq := bc1 A1; have Ar := bc2 A1; have As := bc3 A1; have At := bc4 A1; have Au := bc5 A1; have Av := bc6 A1; have Aw := bc7 A1; have DU := qz A1.o 0; have DV := qz A1.o 1; have DW := qz A1.o 2; have DX := qz A1.o 3; have DY := qz A1.o 4; have DZ := qz A1.o 5; have E0 := qz A1.o 6; have E1 := qz A1.o 7) | ((with_reducible refine gc (f := 19) rfl ?_); refine gA (some 9) _ #[.agg #[.int .i64 a0_0, .int .i64 a0_1, .slice A0_2 l0_2.length c0_2], .agg #[.int .i64 a1_0, .int .i64 a1_1, .slice A1_2 l1_2.length c1_2]] ?_ Try.func19; (with_reducible refine (laws_eqBoard.calls k a0_0 a0_1 _ _ l0_2 a1_0 a1_1 _ _ l1_2 true _ ?side1 ?side2 ?side3 ?side4 A3.o).mono ?_); (case side1 => repeat (first | exact (Kd.C_below A9.o HB.o) | (with_reducible refine Kd.C_alloc ?_ _) | (with_reducible refine Kd.C_drewN ?_ _) | (with_reducible refine Kd.C_drew ?_))); (case side2 => exact A7.o); (case side3 => repeat (first | exact (Kd.C_below Aa.o HB.o) | (with_reducible refine Kd.C_alloc ?_ _) | (with_reducible refine Kd.C_drewN ?_ _) | (with_reducible refine Kd.C_drew ?_))); (case side4 => exact A8.o); rintro e HG ⟨rfl, hb⟩; refine ⟨_, rfl, ?_⟩; replace A0 := kB A0 hb; replace A1 := kB A1 hb; replace HB := bB HB hb; (try clear hb); (try clear Ag); (try clear hk); (try clear hi); have Ax := bc0 A0; have Ay := bc1 A0; have Az := bc2 A0; have AA := bc3 A0; have AB := bc4 A0; have AC := bc5 A0; have AD := bc6 A0; have AE := bc7 A0; have E2 := qz A0.o 0; have E3 := qz A0.o 1; have E4 := qz A0.o 2; have E5 := qz A0.o 3; have E6 := qz A0.o 4; have E7 := qz A0.o 5; have E8 := qz A0.o 6; have E9 := qz A0.o 7; have AF := bc0 A1; have AG := bc1 A1; have AH := bc2 A1; have AI := bc3 A1; have AJ := bc4 A1; have AK := bc5 A1; have AL := bc6 A1; have AM := bc7 A1; have Ea := qz A1.o 0; have Eb := qz A1.o 1; have Ec := qz A1.o 2; have Ed := qz A1.o 3; have Ee := qz A1.o 4; have Ef := qz A1.o 5; have Eg := qz A1.o 6; have Eh := qz A1.o 7))
       go_ret
       exact ⟨by first | rfl | (simp [eN, eS] <;> rfl) | (simp [*, eN, eS] <;> rfl), vB HB⟩
      ·rw [if_neg c9] at H
       have Hk := beq_eq_false_iff_ne.mpr c9
       have Hl := bne_iff_ne.mpr c9
       obtain rfl := Option.some.inj H
       go_enter Try.func49, Try.ntmps49
       go_wp2_with (first | ((with_reducible refine gq (N := 2) rfl ?_); refine be (N := 2) (cs := #[.int .i64 a0_0, .int .i64 a0_1, .slice A0_2 l0_2.length c0_2, .int .i64 a0_3, .int .i64 a0_4, .int .i64 a0_5, .int .i64 a0_6, .int .i64 a0_7]) (t := 55) ?_; intro Ad hg HH hbox hb; have A0 := Z.m (hbox); have A5 := gW (w := w) HB hg; have Ab := A5; replace HB := bB HB hb; clear hb hbox hg) | ((with_reducible refine gq (N := 3) rfl ?_); refine be (N := 3) (cs := #[.int .i64 a1_0, .int .i64 a1_1, .slice A1_2 l1_2.length c1_2, .int .i64 a1_3, .int .i64 a1_4, .int .i64 a1_5, .int .i64 a1_6, .int .i64 a1_7]) (t := 55) ?_; intro Ae hg HI hbox hb; have A1 := Z.m (hbox); have A6 := gW (w := w) HB hg; have Ac := A6; have A2 := neL A0 hg; have A4 := neG A0 hg; replace A0 := kB A0 hb; replace HB := bB HB hb; clear hb hbox hg; have Ho := A2.o; have Hv := A4.o; have AN := bc0 A0; have AO := bc1 A0; have AP := bc2 A0; have AQ := bc3 A0; have AR := bc4 A0; have AS := bc5 A0; have AT := bc6 A0; have AU := bc7 A0; have Ei := qz A0.o 0; have Ej := qz A0.o 1; have Ek := qz A0.o 2; have El := qz A0.o 3; have Em := qz A0.o 4; have En := qz A0.o 5; have Eo := qz A0.o 6; have Ep := qz A0.o 7; have AV := bc0 A1; have AW := bc1 A1; have AX := bc2 A1; have AY := bc3 A1; have AZ := bc4 A1; have B0 := bc5 A1; have B2 := bc6 A1; have B7 := bc7 A1; have Er := qz A1.o 0; have Es := qz A1.o 1; have Et := qz A1.o 2; have Eu := qz A1.o 3; have Ew := qz A1.o 4; have Ex := qz A1.o 5; have Ey := qz A1.o 6; have Ez := qz A1.o 7) | ((with_reducible refine gc (f := 19) rfl ?_); refine gA (some 9) _ #[.agg #[.int .i64 a0_0, .int .i64 a0_1, .slice A0_2 l0_2.length c0_2], .agg #[.int .i64 a1_0, .int .i64 a1_1, .slice A1_2 l1_2.length c1_2]] ?_ Try.func19; (with_reducible refine (laws_eqBoard.calls k a0_0 a0_1 _ _ l0_2 a1_0 a1_1 _ _ l1_2 true _ ?side1 ?side2 ?side3 ?side4 A3.o).mono ?_); (case side1 => repeat (first | exact (Kd.C_below A9.o HB.o) | (with_reducible refine Kd.C_alloc ?_ _) | (with_reducible refine Kd.C_drewN ?_ _) | (with_reducible refine Kd.C_drew ?_))); (case side2 => exact A7.o); (case side3 => repeat (first | exact (Kd.C_below Aa.o HB.o) | (with_reducible refine Kd.C_alloc ?_ _) | (with_reducible refine Kd.C_drewN ?_ _) | (with_reducible refine Kd.C_drew ?_))); (case side4 => exact A8.o); rintro e HJ ⟨rfl, hb⟩; refine ⟨_, rfl, ?_⟩; replace A0 := kB A0 hb; replace A1 := kB A1 hb; replace HB := bB HB hb; (try clear hb); (try clear Ag); (try clear hk); (try clear hi); have Ba := bc0 A0; have Bb := bc1 A0; have Bc := bc2 A0; have Bd := bc3 A0; have Be := bc4 A0; have Bf := bc5 A0; have Bg := bc6 A0; have Bh := bc7 A0; have EA := qz A0.o 0; have EB := qz A0.o 1; have EC := qz A0.o 2; have ED := qz A0.o 3; have EE := qz A0.o 4; have EF := qz A0.o 5; have EG := qz A0.o 6; have EH := qz A0.o 7; have Bi := bc0 A1; have Bj := bc1 A1; have Bk := bc2 A1; have Bl := bc3 A1; have Bm := bc4 A1; have Bn := bc5 A1; have Bo := bc6 A1; have Bp := bc7 A1; have EI := qz A1.o 0; have EJ := qz A1.o 1; have EK := qz A1.o 2; have EL := qz A1.o 3; have EM := qz A1.o 4; have EN := qz A1.o 5; have EO := qz A1.o 6; have EP := qz A1.o 7))
       go_ret
       exact ⟨by first | rfl | (simp [eN, eS] <;> rfl) | (simp [*, eN, eS] <;> rfl), vB HB⟩
     ·rw [if_neg c8] at H
      have Hi := beq_eq_false_iff_ne.mpr c8
      have Hj := bne_iff_ne.mpr c8
      obtain rfl := Option.some.inj H
      go_enter Try.func49, Try.ntmps49
      go_wp2_with (first | ((with_reducible refine gq (N := 2) rfl ?_); refine be (N := 2) (cs := #[.int .i64 a0_0, .int .i64 a0_1, .slice A0_2 l0_2.length c0_2, .int .i64 a0_3, .int .i64 a0_4, .int .i64 a0_5, .int .i64 a0_6, .int .i64 a0_7]) (t := 55) ?_; intro Ad hg HK hbox hb; have A0 := Z.m (hbox); have A5 := gW (w := w) HB hg; have Ab := A5; replace HB := bB HB hb; clear hb hbox hg) | ((with_reducible refine gq (N := 3) rfl ?_); refine be (N := 3) (cs := #[.int .i64 a1_0, .int .i64 a1_1, .slice A1_2 l1_2.length c1_2, .int .i64 a1_3, .int .i64 a1_4, .int .i64 a1_5, .int .i64 a1_6, .int .i64 a1_7]) (t := 55) ?_; intro Ae hg HL hbox hb; have A1 := Z.m (hbox); have A6 := gW (w := w) HB hg; have Ac := A6; have A2 := neL A0 hg; have A4 := neG A0 hg; replace A0 := kB A0 hb; replace HB := bB HB hb; clear hb hbox hg; have Hp := A2.o; have Hw := A4.o; have Bq := bc0 A0; have Br := bc1 A0; have Bs := bc2 A0; have Bt := bc3 A0; have Bu := bc4 A0; have Bv := bc5 A0; have Bw := bc6 A0; have Bx := bc7 A0; have EQ := qz A0.o 0; have ER := qz A0.o 1; have ES := qz A0.o 2; have ET := qz A0.o 3; have EU := qz A0.o 4; have EV := qz A0.o 5; have EW := qz A0.o 6; have EX := qz A0.o 7; have By := bc0 A1; have Bz := bc1 A1; have BA := bc2 A1; have BB := bc3 A1; have BC := bc4 A1; have BD := bc5 A1; have BE := bc6 A1; have BF := bc7 A1; have EY := qz A1.o 0; have EZ := qz A1.o 1; have F0 := qz A1.o 2; have F1 := qz A1.o 3; have F2 := qz A1.o 4; have F3 := qz A1.o 5; have F4 := qz A1.o 6; have F5 := qz A1.o 7) | ((with_reducible refine gc (f := 19) rfl ?_); refine gA (some 9) _ #[.agg #[.int .i64 a0_0, .int .i64 a0_1, .slice A0_2 l0_2.length c0_2], .agg #[.int .i64 a1_0, .int .i64 a1_1, .slice A1_2 l1_2.length c1_2]] ?_ Try.func19; (with_reducible refine (laws_eqBoard.calls k a0_0 a0_1 _ _ l0_2 a1_0 a1_1 _ _ l1_2 true _ ?side1 ?side2 ?side3 ?side4 A3.o).mono ?_); (case side1 => repeat (first | exact (Kd.C_below A9.o HB.o) | (with_reducible refine Kd.C_alloc ?_ _) | (with_reducible refine Kd.C_drewN ?_ _) | (with_reducible refine Kd.C_drew ?_))); (case side2 => exact A7.o); (case side3 => repeat (first | exact (Kd.C_below Aa.o HB.o) | (with_reducible refine Kd.C_alloc ?_ _) | (with_reducible refine Kd.C_drewN ?_ _) | (with_reducible refine Kd.C_drew ?_))); (case side4 => exact A8.o); rintro e HM ⟨rfl, hb⟩; refine ⟨_, rfl, ?_⟩; replace A0 := kB A0 hb; replace A1 := kB A1 hb; replace HB := bB HB hb; (try clear hb); (try clear Ag); (try clear hk); (try clear hi); have BG := bc0 A0; have BH := bc1 A0; have BI := bc2 A0; have BJ := bc3 A0; have BK := bc4 A0; have BL := bc5 A0; have BM := bc6 A0; have BN := bc7 A0; have F6 := qz A0.o 0; have F7 := qz A0.o 1; have F8 := qz A0.o 2; have F9 := qz A0.o 3; have Fa := qz A0.o 4; have Fb := qz A0.o 5; have Fc := qz A0.o 6; have Fd := qz A0.o 7; have BO := bc0 A1; have BP := bc1 A1; have BQ := bc2 A1; have BR := bc3 A1; have BS := bc4 A1; have BT := bc5 A1; have BU := bc6 A1; have BV := bc7 A1; have Fe := qz A1.o 0; have Ff := qz A1.o 1; have Fg := qz A1.o 2; have Fh := qz A1.o 3; have Fi := qz A1.o 4; have Fj := qz A1.o 5; have Fk := qz A1.o 6; have Fl := qz A1.o 7))
      go_ret
      exact ⟨by first | rfl | (simp [eN, eS] <;> rfl) | (simp [*, eN, eS] <;> rfl), vB HB⟩
    ·rw [if_neg c7] at H
     have Hg := beq_eq_false_iff_ne.mpr c7
     have Hh := bne_iff_ne.mpr c7
     obtain rfl := Option.some.inj H
     go_enter Try.func49, Try.ntmps49
     go_wp2_with (first | ((with_reducible refine gq (N := 2) rfl ?_); refine be (N := 2) (cs := #[.int .i64 a0_0, .int .i64 a0_1, .slice A0_2 l0_2.length c0_2, .int .i64 a0_3, .int .i64 a0_4, .int .i64 a0_5, .int .i64 a0_6, .int .i64 a0_7]) (t := 55) ?_; intro Ad hg HN hbox hb; have A0 := Z.m (hbox); have A5 := gW (w := w) HB hg; have Ab := A5; replace HB := bB HB hb; clear hb hbox hg) | ((with_reducible refine gq (N := 3) rfl ?_); refine be (N := 3) (cs := #[.int .i64 a1_0, .int .i64 a1_1, .slice A1_2 l1_2.length c1_2, .int .i64 a1_3, .int .i64 a1_4, .int .i64 a1_5, .int .i64 a1_6, .int .i64 a1_7]) (t := 55) ?_; intro Ae hg HO hbox hb; have A1 := Z.m (hbox); have A6 := gW (w := w) HB hg; have Ac := A6; have A2 := neL A0 hg; have A4 := neG A0 hg; replace A0 := kB A0 hb; replace HB := bB HB hb; clear hb hbox hg; have Hq := A2.o; have Hx := A4.o; have BW := bc0 A0; have BX := bc1 A0; have BY := bc2 A0; have BZ := bc3 A0; have C0 := bc4 A0; have C1 := bc5 A0; have C2 := bc6 A0; have C3 := bc7 A0; have Fm := qz A0.o 0; have Fn := qz A0.o 1; have Fo := qz A0.o 2; have Fp := qz A0.o 3; have Fq := qz A0.o 4; have Fr := qz A0.o 5; have Fs := qz A0.o 6; have Ft := qz A0.o 7; have C4 := bc0 A1; have C5 := bc1 A1; have C6 := bc2 A1; have C7 := bc3 A1; have C8 := bc4 A1; have C9 := bc5 A1; have Ca := bc6 A1; have Cb := bc7 A1; have Fu := qz A1.o 0; have Fv := qz A1.o 1; have Fw := qz A1.o 2; have Fx := qz A1.o 3; have Fy := qz A1.o 4; have Fz := qz A1.o 5; have FA := qz A1.o 6; have FB := qz A1.o 7) | ((with_reducible refine gc (f := 19) rfl ?_); refine gA (some 9) _ #[.agg #[.int .i64 a0_0, .int .i64 a0_1, .slice A0_2 l0_2.length c0_2], .agg #[.int .i64 a1_0, .int .i64 a1_1, .slice A1_2 l1_2.length c1_2]] ?_ Try.func19; (with_reducible refine (laws_eqBoard.calls k a0_0 a0_1 _ _ l0_2 a1_0 a1_1 _ _ l1_2 true _ ?side1 ?side2 ?side3 ?side4 A3.o).mono ?_); (case side1 => repeat (first | exact (Kd.C_below A9.o HB.o) | (with_reducible refine Kd.C_alloc ?_ _) | (with_reducible refine Kd.C_drewN ?_ _) | (with_reducible refine Kd.C_drew ?_))); (case side2 => exact A7.o); (case side3 => repeat (first | exact (Kd.C_below Aa.o HB.o) | (with_reducible refine Kd.C_alloc ?_ _) | (with_reducible refine Kd.C_drewN ?_ _) | (with_reducible refine Kd.C_drew ?_))); (case side4 => exact A8.o); rintro e HP ⟨rfl, hb⟩; refine ⟨_, rfl, ?_⟩; replace A0 := kB A0 hb; replace A1 := kB A1 hb; replace HB := bB HB hb; (try clear hb); (try clear Ag); (try clear hk); (try clear hi); have Cd := bc0 A0; have Ce := bc1 A0; have Cf := bc2 A0; have Cg := bc3 A0; have Ch := bc4 A0; have Ci := bc5 A0; have Cj := bc6 A0; have Cl := bc7 A0; have FC := qz A0.o 0; have FD := qz A0.o 1; have FE := qz A0.o 2; have FF := qz A0.o 3; have FG := qz A0.o 4; have FH := qz A0.o 5; have FI := qz A0.o 6; have FJ := qz A0.o 7; have Cm := bc0 A1; have Cn := bc1 A1; have Co := bc2 A1; have Cp := bc3 A1; have Cq := bc4 A1; have Cr := bc5 A1; have Cs := bc6 A1; have Ct := bc7 A1; have FL := qz A1.o 0; have FM := qz A1.o 1; have FN := qz A1.o 2; have FO := qz A1.o 3; have FP := qz A1.o 4; have FQ := qz A1.o 5; have FR := qz A1.o 6; have FS := qz A1.o 7))
     go_ret
     exact ⟨by first | rfl | (simp [eN, eS] <;> rfl) | (simp [*, eN, eS] <;> rfl), vB HB⟩
   ·rw [if_neg c6] at H
    have He := beq_eq_false_iff_ne.mpr c6
    have Hf := bne_iff_ne.mpr c6
    obtain rfl := Option.some.inj H
    go_enter Try.func49, Try.ntmps49
    go_wp2_with (first | ((with_reducible refine gq (N := 2) rfl ?_); refine be (N := 2) (cs := #[.int .i64 a0_0, .int .i64 a0_1, .slice A0_2 l0_2.length c0_2, .int .i64 a0_3, .int .i64 a0_4, .int .i64 a0_5, .int .i64 a0_6, .int .i64 a0_7]) (t := 55) ?_; intro Ad hg HQ hbox hb; have A0 := Z.m (hbox); have A5 := gW (w := w) HB hg; have Ab := A5; replace HB := bB HB hb; clear hb hbox hg) | ((with_reducible refine gq (N := 3) rfl ?_); refine be (N := 3) (cs := #[.int .i64 a1_0, .int .i64 a1_1, .slice A1_2 l1_2.length c1_2, .int .i64 a1_3, .int .i64 a1_4, .int .i64 a1_5, .int .i64 a1_6, .int .i64 a1_7]) (t := 55) ?_; intro Ae hg HR hbox hb; have A1 := Z.m (hbox); have A6 := gW (w := w) HB hg; have Ac := A6; have A2 := neL A0 hg; have A4 := neG A0 hg; replace A0 := kB A0 hb; replace HB := bB HB hb; clear hb hbox hg; have Hr := A2.o; have Hy := A4.o; have Cu := bc0 A0; have Cv := bc1 A0; have Cw := bc2 A0; have Cx := bc3 A0; have Cy := bc4 A0; have Cz := bc5 A0; have CA := bc6 A0; have CB := bc7 A0; have FT := qz A0.o 0; have FU := qz A0.o 1; have FV := qz A0.o 2; have FW := qz A0.o 3; have FX := qz A0.o 4; have FY := qz A0.o 5; have FZ := qz A0.o 6; have G0 := qz A0.o 7; have CC := bc0 A1; have CD := bc1 A1; have CE := bc2 A1; have CF := bc3 A1; have CG := bc4 A1; have CH := bc5 A1; have CI := bc6 A1; have CJ := bc7 A1; have G1 := qz A1.o 0; have G2 := qz A1.o 1; have G3 := qz A1.o 2; have G4 := qz A1.o 3; have G5 := qz A1.o 4; have G6 := qz A1.o 5; have G7 := qz A1.o 6; have G8 := qz A1.o 7) | ((with_reducible refine gc (f := 19) rfl ?_); refine gA (some 9) _ #[.agg #[.int .i64 a0_0, .int .i64 a0_1, .slice A0_2 l0_2.length c0_2], .agg #[.int .i64 a1_0, .int .i64 a1_1, .slice A1_2 l1_2.length c1_2]] ?_ Try.func19; (with_reducible refine (laws_eqBoard.calls k a0_0 a0_1 _ _ l0_2 a1_0 a1_1 _ _ l1_2 true _ ?side1 ?side2 ?side3 ?side4 A3.o).mono ?_); (case side1 => repeat (first | exact (Kd.C_below A9.o HB.o) | (with_reducible refine Kd.C_alloc ?_ _) | (with_reducible refine Kd.C_drewN ?_ _) | (with_reducible refine Kd.C_drew ?_))); (case side2 => exact A7.o); (case side3 => repeat (first | exact (Kd.C_below Aa.o HB.o) | (with_reducible refine Kd.C_alloc ?_ _) | (with_reducible refine Kd.C_drewN ?_ _) | (with_reducible refine Kd.C_drew ?_))); (case side4 => exact A8.o); rintro e HS ⟨rfl, hb⟩; refine ⟨_, rfl, ?_⟩; replace A0 := kB A0 hb; replace A1 := kB A1 hb; replace HB := bB HB hb; (try clear hb); (try clear Ag); (try clear hk); (try clear hi); have CK := bc0 A0; have CL := bc1 A0; have CM := bc2 A0; have CN := bc3 A0; have CO := bc4 A0; have CP := bc5 A0; have CQ := bc6 A0; have CR := bc7 A0; have G9 := qz A0.o 0; have Ga := qz A0.o 1; have Gb := qz A0.o 2; have Gc := qz A0.o 3; have Gd := qz A0.o 4; have Ge := qz A0.o 5; have Gf := qz A0.o 6; have Gg := qz A0.o 7; have CS := bc0 A1; have CT := bc1 A1; have CU := bc2 A1; have CV := bc3 A1; have CW := bc4 A1; have CX := bc5 A1; have CY := bc6 A1; have CZ := bc7 A1; have Gh := qz A1.o 0; have Gi := qz A1.o 1; have Gj := qz A1.o 2; have Gk := qz A1.o 3; have Gl := qz A1.o 4; have Gm := qz A1.o 5; have Gn := qz A1.o 6; have Go := qz A1.o 7))
    go_ret
    exact ⟨by first | rfl | (simp [eN, eS] <;> rfl) | (simp [*, eN, eS] <;> rfl), vB HB⟩
  ·rw [if_neg c5] at H
   have Hc := beq_eq_false_iff_ne.mpr c5
   have Hd := bne_iff_ne.mpr c5
   obtain rfl := Option.some.inj H
   go_enter Try.func49, Try.ntmps49
   go_wp2_with (first | ((with_reducible refine gq (N := 2) rfl ?_); refine be (N := 2) (cs := #[.int .i64 a0_0, .int .i64 a0_1, .slice A0_2 l0_2.length c0_2, .int .i64 a0_3, .int .i64 a0_4, .int .i64 a0_5, .int .i64 a0_6, .int .i64 a0_7]) (t := 55) ?_; intro Ad hg HT hbox hb; have A0 := Z.m (hbox); have A5 := gW (w := w) HB hg; have Ab := A5; replace HB := bB HB hb; clear hb hbox hg) | ((with_reducible refine gq (N := 3) rfl ?_); refine be (N := 3) (cs := #[.int .i64 a1_0, .int .i64 a1_1, .slice A1_2 l1_2.length c1_2, .int .i64 a1_3, .int .i64 a1_4, .int .i64 a1_5, .int .i64 a1_6, .int .i64 a1_7]) (t := 55) ?_; intro Ae hg HU hbox hb; have A1 := Z.m (hbox); have A6 := gW (w := w) HB hg; have Ac := A6; have A2 := neL A0 hg; have A4 := neG A0 hg; replace A0 := kB A0 hb; replace HB := bB HB hb; clear hb hbox hg; have Hs := A2.o; have Hz := A4.o; have D0 := bc0 A0; have D1 := bc1 A0; have D2 := bc2 A0; have D3 := bc3 A0; have D4 := bc4 A0; have D5 := bc5 A0; have D6 := bc6 A0; have D7 := bc7 A0; have Gp := qz A0.o 0; have Gq := qz A0.o 1; have Gr := qz A0.o 2; have Gs := qz A0.o 3; have Gt := qz A0.o 4; have Gu := qz A0.o 5; have Gv := qz A0.o 6; have Gw := qz A0.o 7; have D8 := bc0 A1; have D9 := bc1 A1; have Da := bc2 A1; have Db := bc3 A1; have Dc := bc4 A1; have Dd := bc5 A1; have De := bc6 A1; have Df := bc7 A1; have Gx := qz A1.o 0; have Gy := qz A1.o 1; have Gz := qz A1.o 2; have GA := qz A1.o 3; have GB := qz A1.o 4; have GC := qz A1.o 5; have GD := qz A1.o 6; have GE := qz A1.o 7) | ((with_reducible refine gc (f := 19) rfl ?_); refine gA (some 9) _ #[.agg #[.int .i64 a0_0, .int .i64 a0_1, .slice A0_2 l0_2.length c0_2], .agg #[.int .i64 a1_0, .int .i64 a1_1, .slice A1_2 l1_2.length c1_2]] ?_ Try.func19; (with_reducible refine (laws_eqBoard.calls k a0_0 a0_1 _ _ l0_2 a1_0 a1_1 _ _ l1_2 true _ ?side1 ?side2 ?side3 ?side4 A3.o).mono ?_); (case side1 => repeat (first | exact (Kd.C_below A9.o HB.o) | (with_reducible refine Kd.C_alloc ?_ _) | (with_reducible refine Kd.C_drewN ?_ _) | (with_reducible refine Kd.C_drew ?_))); (case side2 => exact A7.o); (case side3 => repeat (first | exact (Kd.C_below Aa.o HB.o) | (with_reducible refine Kd.C_alloc ?_ _) | (with_reducible refine Kd.C_drewN ?_ _) | (with_reducible refine Kd.C_drew ?_))); (case side4 => exact A8.o); rintro e HV ⟨rfl, hb⟩; refine ⟨_, rfl, ?_⟩; replace A0 := kB A0 hb; replace A1 := kB A1 hb; replace HB := bB HB hb; (try clear hb); (try clear Ag); (try clear hk); (try clear hi); have Dg := bc0 A0; have Dh := bc1 A0; have Di := bc2 A0; have Dj := bc3 A0; have Dk := bc4 A0; have Dl := bc5 A0; have Dm := bc6 A0; have Dn := bc7 A0; have GF := qz A0.o 0; have GG := qz A0.o 1; have GH := qz A0.o 2; have GI := qz A0.o 3; have GJ := qz A0.o 4; have GK := qz A0.o 5; have GL := qz A0.o 6; have GM := qz A0.o 7; have Do := bc0 A1; have Dp := bc1 A1; have Dq := bc2 A1; have Dr := bc3 A1; have Ds := bc4 A1; have Dt := bc5 A1; have Du := bc6 A1; have Dv := bc7 A1; have GN := qz A1.o 0; have GO := qz A1.o 1; have GP := qz A1.o 2; have GQ := qz A1.o 3; have GR := qz A1.o 4; have GS := qz A1.o 5; have GT := qz A1.o 6; have GU := qz A1.o 7))
   go_ret
   exact ⟨by first | rfl | (simp [eN, eS] <;> rfl) | (simp [*, eN, eS] <;> rfl), vB HB⟩
 ·replace c4 := Bool.eq_false_iff.mpr c4
  subst c4
  have H1 : (some false) = some r := by rw [if_neg (show ¬ (false = true) by decide)] at H; exact H
  clear H
  have H := H1
  clear H1
  obtain rfl := Option.some.inj H
  go_enter Try.func49, Try.ntmps49
  go_wp2_with (first | ((with_reducible refine gq (N := 2) rfl ?_); refine be (N := 2) (cs := #[.int .i64 a0_0, .int .i64 a0_1, .slice A0_2 l0_2.length c0_2, .int .i64 a0_3, .int .i64 a0_4, .int .i64 a0_5, .int .i64 a0_6, .int .i64 a0_7]) (t := 55) ?_; intro Ad hg HW hbox hb; have A0 := Z.m (hbox); have A5 := gW (w := w) HB hg; have Ab := A5; replace HB := bB HB hb; clear hb hbox hg) | ((with_reducible refine gq (N := 3) rfl ?_); refine be (N := 3) (cs := #[.int .i64 a1_0, .int .i64 a1_1, .slice A1_2 l1_2.length c1_2, .int .i64 a1_3, .int .i64 a1_4, .int .i64 a1_5, .int .i64 a1_6, .int .i64 a1_7]) (t := 55) ?_; intro Ae hg HX hbox hb; have A1 := Z.m (hbox); have A6 := gW (w := w) HB hg; have Ac := A6; have A2 := neL A0 hg; have A4 := neG A0 hg; replace A0 := kB A0 hb; replace HB := bB HB hb; clear hb hbox hg; have Ht := A2.o; have HA := A4.o; have Dw := bc0 A0; have Dx := bc1 A0; have Dy := bc2 A0; have Dz := bc3 A0; have DA := bc4 A0; have DB := bc5 A0; have DC := bc6 A0; have DD := bc7 A0; have GV := qz A0.o 0; have GW := qz A0.o 1; have GX := qz A0.o 2; have GY := qz A0.o 3; have GZ := qz A0.o 4; have H0 := qz A0.o 5; have H2 := qz A0.o 6; have H3 := qz A0.o 7; have DE := bc0 A1; have DF := bc1 A1; have DG := bc2 A1; have DH := bc3 A1; have DI := bc4 A1; have DJ := bc5 A1; have DK := bc6 A1; have DL := bc7 A1; have H4 := qz A1.o 0; have H5 := qz A1.o 1; have H6 := qz A1.o 2; have H7 := qz A1.o 3; have H8 := qz A1.o 4; have H9 := qz A1.o 5; have Ha := qz A1.o 6; have Hb := qz A1.o 7) | ((with_reducible refine gc (f := 19) rfl ?_); refine gA (some 9) _ #[.agg #[.int .i64 a0_0, .int .i64 a0_1, .slice A0_2 l0_2.length c0_2], .agg #[.int .i64 a1_0, .int .i64 a1_1, .slice A1_2 l1_2.length c1_2]] ?_ Try.func19; (with_reducible refine (laws_eqBoard.calls k a0_0 a0_1 _ _ l0_2 a1_0 a1_1 _ _ l1_2 false _ ?side1 ?side2 ?side3 ?side4 A3.o).mono ?_); (case side1 => repeat (first | exact (Kd.C_below A9.o HB.o) | (with_reducible refine Kd.C_alloc ?_ _) | (with_reducible refine Kd.C_drewN ?_ _) | (with_reducible refine Kd.C_drew ?_))); (case side2 => exact A7.o); (case side3 => repeat (first | exact (Kd.C_below Aa.o HB.o) | (with_reducible refine Kd.C_alloc ?_ _) | (with_reducible refine Kd.C_drewN ?_ _) | (with_reducible refine Kd.C_drew ?_))); (case side4 => exact A8.o); rintro e HY ⟨rfl, hb⟩; refine ⟨_, rfl, ?_⟩; replace A0 := kB A0 hb; replace A1 := kB A1 hb; replace HB := bB HB hb; (try clear hb); (try clear Ag); (try clear hk); (try clear hi)))
  go_ret
  exact ⟨by first | rfl | (simp [eN, eS] <;> rfl) | (simp [*, eN, eS] <;> rfl), vB HB⟩

/-! ### laws_markMachine: function 50 -/
def laws_markMachine.f (k : Nat) (a0_0 : Int) (a0_1 : Int) (l0_2 : List (S71)) (a0_3 : Int) (a0_4 : Int) (a0_5 : Int) (a0_6 : Int) (a0_7 : Int) (a1 : Int) : Option (Int × (List (S71))) := (laws_markBoard.f k a0_0 a0_1 l0_2 a1).bind fun bt617 => (some (bt617.1, bt617.2))
set_option maxHeartbeats 8000000 in
set_option maxRecDepth 100000 in
theorem laws_markMachine.calls (k : Nat) (a0_0 : Int) (a0_1 : Int) (P0_2_ : Nat → Prop) (u9000_ : Value) (l0_2 : List (S71)) (a0_3 : Int) (a0_4 : Int) (a0_5 : Int) (a0_6 : Int) (a0_7 : Int) (a1 : Int) (r1 : Int) (r2 : List (S71)) (w0 w : World) (hB : Below w0.heap.size w0 w) (ho0_2 : Kd.R k71 71 w w0.heap.size P0_2_ u9000_ l0_2) (h : laws_markMachine.f k a0_0 a0_1 l0_2 a0_3 a0_4 a0_5 a0_6 a0_7 a1 = some (r1, r2)) :
 Calls Try.prog 50 #[.agg #[.int .i64 a0_0, .int .i64 a0_1, u9000_, .int .i64 a0_3, .int .i64 a0_4, .int .i64 a0_5, .int .i64 a0_6, .int .i64 a0_7], .int .i64 a1] w fun e w' => e = .returned (.int .i64 r1) ∧ Kd.R k71 71 w' w0.heap.size (fun k_ => (P0_2_ k_ ∨ w.heap.size ≤ k_)) u9000_ r2 ∧ Below w0.heap.size w0 w' ∧ Kept w w' (fun k_ => P0_2_ k_) := by
 have Au := Try.underlying55
 have At := Try.underlying30
 have A1 := Z.m (show Kd.R k71 71 w w0.heap.size (fun k_ => (P0_2_ k_ ∨ w.heap.size ≤ k_)) u9000_ l0_2 from Kd.Rm ho0_2 (fun k_ hk => (.inl hk)))
 have HK := Z.m (Kept.refl w (fun k_ => P0_2_ k_))
 have HW0 := Z.m hB.size
 have HB := Z.m hB
 clear hB
 have H : ((laws_markBoard.f k a0_0 a0_1 l0_2 a1).bind fun bt617 => (some (bt617.1, bt617.2))) = some (r1, r2) := h
 clear h
 replace H := Option.bind_eq_some_iff.mp H
 obtain ⟨⟨A5, A6⟩, Ap, H⟩ := H
 replace H : (some (A5, A6)) = some (r1, r2) := H
 have A3 := Z.m Ap
 clear Ap
 simp only [Option.some.injEq, Prod.mk.injEq] at H
 obtain ⟨rfl, rfl⟩ := H
 obtain ⟨A7, A8, As⟩ := Kd.R_slice A1.o
 subst As
 go_enter Try.func50, Try.ntmps50
 go_wp2_with (first | ((with_reducible refine gq (N := 2) rfl ?_); refine be (N := 2) (cs := #[.int .i64 a0_0, .int .i64 a0_1, .slice A7 l0_2.length A8, .int .i64 a0_3, .int .i64 a0_4, .int .i64 a0_5, .int .i64 a0_6, .int .i64 a0_7]) (t := 55) ?_; intro A4 hg w5 hbox hb; have A0 := Z.m (hbox); have Aq := Z.m ((by rw [hg]; exact (by first | exact HK.o.1 | exact (show Kept w _ (fun k_ => P0_2_ k_) from vT HK).1) : w.heap.size ≤ A4)); have A2 := gW (w := w0) HB hg; replace A1 := Z.m (Kd.Rb (vR A1) hb); replace HK := Z.m (Kept.below (S := (fun k_ => P0_2_ k_)) (vT HK) hb); replace HB := bB HB hb; clear hb hbox hg; have A9 := bc0 A0; have Aa := bc1 A0; have Ab := bc2 A0; have Ac := bc3 A0; have Ad := bc4 A0; have Ae := bc5 A0; have Af := bc6 A0; have Ag := bc7 A0; have Ah := qz A0.o 0; have Ai := qz A0.o 1; have Aj := qz A0.o 2; have Ak := qz A0.o 3; have Al := qz A0.o 4; have Am := qz A0.o 5; have An := qz A0.o 6; have Ao := qz A0.o 7) | ((with_reducible refine gc (f := 27) rfl ?_); refine gA (some 8) _ #[.agg #[.int .i64 a0_0, .int .i64 a0_1, .slice A7 l0_2.length A8], .int .i64 a1] ?_ Try.func27; (with_reducible refine (laws_markBoard.calls k a0_0 a0_1 (fun k_ => some k_ = (.slice A7 l0_2.length A8 : Value).ownBlock) (.slice A7 l0_2.length A8) l0_2 a1 A5 A6 w0 _ ?side1 ?side2 A3.o).mono ?_); (case side1 => repeat (first | (with_reducible first | exact HB.o | apply qa | apply qn | apply qd | refine qx ?_ A2.o) | exact HB.o)); (case side2 => exact Kd.Rg rfl A1.o); rintro e w7 ⟨rfl, Ar, hb, hkp⟩; refine ⟨_, rfl, ?_⟩; replace A0 := Z.m (qk (vK A0) hkp (fun hs_ => (fun e_ => (Kd.R_ne A1.o A0.o (by decide)) e_) hs_)); replace HK := Z.m (Kept.then_ (S := (fun k_ => P0_2_ k_)) (vT HK) hkp (fun k_ hs_ => (fun e_ => (A1.o.1 k_ e_.symm)) hs_)); replace A1 := Z.m (Kd.Re rfl Ar (fun k_ e_ => A1.o.1 k_ e_)); replace HB := Z.m (hb); (try clear hb); (try clear hkp); (try clear Ar)))
 go_ret
 exact ⟨by first | rfl | (simp [eN, eS] <;> rfl) | (simp [*, eN, eS] <;> rfl), vR A1, vB HB, vT HK⟩

/-! ### laws_heldMachine: function 51 -/
def laws_heldMachine.f (k : Nat) (a0_0 : Int) (a0_1 : Int) (l0_2 : List (S71)) (a0_3 : Int) (a0_4 : Int) (a0_5 : Int) (a0_6 : Int) (a0_7 : Int) (a1 : Int) : Option (Int) := (laws_heldBoard.f k a0_0 a0_1 l0_2 a1).bind fun t620 => (if t620 < 0 then (some (-1)) else (some t620))
set_option maxHeartbeats 8000000 in
set_option maxRecDepth 100000 in
theorem laws_heldMachine.calls (k : Nat) (a0_0 : Int) (a0_1 : Int) (A0_2 : Option Addr) (c0_2 : Nat) (l0_2 : List (S71)) (a0_3 : Int) (a0_4 : Int) (a0_5 : Int) (a0_6 : Int) (a0_7 : Int) (a1 : Int) (r : Int) (w : World) (hr0_2 : Kd.C k71 w A0_2 l0_2.length l0_2) (hc0_2 : l0_2.length ≤ c0_2) (h : laws_heldMachine.f k a0_0 a0_1 l0_2 a0_3 a0_4 a0_5 a0_6 a0_7 a1 = some r) :
 Calls Try.prog 51 #[.agg #[.int .i64 a0_0, .int .i64 a0_1, .slice A0_2 l0_2.length c0_2, .int .i64 a0_3, .int .i64 a0_4, .int .i64 a0_5, .int .i64 a0_6, .int .i64 a0_7], .int .i64 a1] w fun e w' => e = .returned (.int .i64 r) ∧ Below w.heap.size w w' := by
 have AI := Try.underlying55
 have AH := Try.underlying30
 have A5 := Z.m hr0_2
 have A4 := Z.m hc0_2
 clear hr0_2 hc0_2
 have HB := Z.m (Below.refl w.heap.size w)
 have H : ((laws_heldBoard.f k a0_0 a0_1 l0_2 a1).bind fun A1 => (if A1 < 0 then (some (-1)) else (some A1))) = some r := h
 clear h
 replace H := Option.bind_eq_some_iff.mp H
 obtain ⟨A1, AF, H⟩ := H
 replace H : (if A1 < 0 then (some (-1)) else (some A1)) = some r := H
 have A3 := Z.m AF
 clear AF
 by_cases c4 : A1 < 0
 ·rw [if_pos c4] at H
  have A8 := decide_eq_true c4
  clear c4
  obtain rfl := Option.some.inj H
  go_enter Try.func51, Try.ntmps51
  go_wp2_with (first | ((with_reducible refine gq (N := 2) rfl ?_); refine be (N := 2) (cs := #[.int .i64 a0_0, .int .i64 a0_1, .slice A0_2 l0_2.length c0_2, .int .i64 a0_3, .int .i64 a0_4, .int .i64 a0_5, .int .i64 a0_6, .int .i64 a0_7]) (t := 55) ?_; intro A7 hg w5 hbox hb; have A0 := Z.m (hbox); have A2 := gW (w := w) HB hg; have A6 := A2; replace HB := bB HB hb; clear hb hbox hg; have A9 := bc0 A0; have Aa := bc1 A0; have Ab := bc2 A0; have Ac := bc3 A0; have Ad := bc4 A0; have Ae := bc5 A0; have Af := bc6 A0; have Ag := bc7 A0; have Ap := qz A0.o 0; have Aq := qz A0.o 1; have Ar := qz A0.o 2; have As := qz A0.o 3; have At := qz A0.o 4; have Au := qz A0.o 5; have Av := qz A0.o 6; have Aw := qz A0.o 7) | ((with_reducible refine gc (f := 34) rfl ?_); refine gA (some 8) _ #[.agg #[.int .i64 a0_0, .int .i64 a0_1, .slice A0_2 l0_2.length c0_2], .int .i64 a1] ?_ Try.func34; (with_reducible refine (laws_heldBoard.calls k a0_0 a0_1 _ _ l0_2 a1 A1 _ ?side1 ?side2 A3.o).mono ?_); (case side1 => repeat (first | exact (Kd.C_below A5.o HB.o) | (with_reducible refine Kd.C_alloc ?_ _) | (with_reducible refine Kd.C_drewN ?_ _) | (with_reducible refine Kd.C_drew ?_))); (case side2 => exact A4.o); rintro e w7 ⟨rfl, hb⟩; refine ⟨_, rfl, ?_⟩; replace A0 := kB A0 hb; replace HB := bB HB hb; (try clear hb); (try clear AG); (try clear hk); (try clear hi)))
  go_ret
  exact ⟨by first | rfl | (simp [eN, eS] <;> rfl) | (simp [*, eN, eS] <;> rfl), vB HB⟩
 ·rw [if_neg c4] at H
  have A8 := decide_eq_false c4
  clear c4
  obtain rfl := Option.some.inj H
  go_enter Try.func51, Try.ntmps51
  go_wp2_with (first | ((with_reducible refine gq (N := 2) rfl ?_); refine be (N := 2) (cs := #[.int .i64 a0_0, .int .i64 a0_1, .slice A0_2 l0_2.length c0_2, .int .i64 a0_3, .int .i64 a0_4, .int .i64 a0_5, .int .i64 a0_6, .int .i64 a0_7]) (t := 55) ?_; intro A7 hg w8 hbox hb; have A0 := Z.m (hbox); have A2 := gW (w := w) HB hg; have A6 := A2; replace HB := bB HB hb; clear hb hbox hg; have Ah := bc0 A0; have Ai := bc1 A0; have Aj := bc2 A0; have Ak := bc3 A0; have Al := bc4 A0; have Am := bc5 A0; have An := bc6 A0; have Ao := bc7 A0; have Ax := qz A0.o 0; have Ay := qz A0.o 1; have Az := qz A0.o 2; have AA := qz A0.o 3; have AB := qz A0.o 4; have AC := qz A0.o 5; have AD := qz A0.o 6; have AE := qz A0.o 7) | ((with_reducible refine gc (f := 34) rfl ?_); refine gA (some 8) _ #[.agg #[.int .i64 a0_0, .int .i64 a0_1, .slice A0_2 l0_2.length c0_2], .int .i64 a1] ?_ Try.func34; (with_reducible refine (laws_heldBoard.calls k a0_0 a0_1 _ _ l0_2 a1 A1 _ ?side1 ?side2 A3.o).mono ?_); (case side1 => repeat (first | exact (Kd.C_below A5.o HB.o) | (with_reducible refine Kd.C_alloc ?_ _) | (with_reducible refine Kd.C_drewN ?_ _) | (with_reducible refine Kd.C_drew ?_))); (case side2 => exact A4.o); rintro e AJ ⟨rfl, hb⟩; refine ⟨_, rfl, ?_⟩; replace A0 := kB A0 hb; replace HB := bB HB hb; (try clear hb); (try clear AG); (try clear hk); (try clear hi)))
  go_ret
  exact ⟨by first | rfl | (simp [eN, eS] <;> rfl) | (simp [*, eN, eS] <;> rfl), vB HB⟩

end Go.Proofs.Ytlkiakpipcnijaa.PAll
