/- Began as a text that print.sh wrote (of the functions named below); turned and shortened by this session. -/
import Derived.Test.YtjkiolpepchpdaaG0
import Derived.Test.YtjkiolpepchpdaaG1
import Derived.Test.YtjkiolpepchpdaaG9
import Derived.Test.YtjkiolpepchpdaaG12
import Derived.Test.YtjkiolpepchpdaaG19
namespace Go.Proofs.Ytjkiolpepchpdaa.PAll
open Go.RowKit Go.Proofs.YtjkiolpepchpdaaW.PrintWords Go.Proofs.YtjkiolpepchpdaaW.PrintLast Go.Proofs.YtjkiolpepchpdaaW.PrintMore
attribute [local go_sem] max2_int min2_int max_two min_two max_three min_three max_four min_four   -- for this text's walks alone
set_option linter.unusedVariables false
set_option linter.unusedSimpArgs false

/-! ### spec_FirstArrivalIn: function 26 -/
def spec_FirstArrivalIn.l0 : Nat → Int → List (S52) → Int → Int → Option (Int × Bool)
 | 0, _, _, _, _ => none
 | k + 1, x1, x20, x21, x22 => if x22 < x21 then (if 0 ≤ x22 then (if x22 < (x20.length : Int) then (if ((rd_T52 x20 x22).f0) = 1 then (if ((rd_T52 x20 x22).f2) = x1 then (some (wrap64 (x22 + 1), true)) else (spec_FirstArrivalIn.l0 k x1 x20 x21 (wrap64 (x22 + 1)))) else (spec_FirstArrivalIn.l0 k x1 x20 x21 (wrap64 (x22 + 1)))) else (none)) else (none)) else (some (0, false))
def spec_FirstArrivalIn.f (k : Nat) (a0_0 : Int) (a0_1 : Int) (l0_2 : List (S88)) (a0_3 : Int) (a0_4 : Int) (a0_5 : Int) (a0_6 : Int) (a0_7 : Int) (a1 : Int) : Option (Int × Bool) := (spec_maGood.f k a0_0 a0_1 l0_2 a0_3 a0_4 a0_5 a0_6 a0_7).bind fun t903 => (if t903 = true then ((spec_maRun.f k a0_0 a0_1 l0_2 a0_3 a0_4 a0_5 a0_6 a0_7 60).bind fun bt904 => (spec_FirstArrivalIn.l0 k a1 bt904.2.2.2.2.2.2.2.2.2 (bt904.2.2.2.2.2.2.2.2.2.length : Int) 0)) else (some (0, false)))
set_option maxHeartbeats 8000000 in
set_option maxRecDepth 100000 in
theorem spec_FirstArrivalIn.calls (k : Nat) (a0_0 : Int) (a0_1 : Int) (A0_2 : Option Addr) (c0_2 : Nat) (l0_2 : List (S88)) (a0_3 : Int) (a0_4 : Int) (a0_5 : Int) (a0_6 : Int) (a0_7 : Int) (a1 : Int) (r1 : Int) (r2 : Bool) (w : World) (hr0_2 : Kd.C k88 w A0_2 l0_2.length l0_2) (hc0_2 : l0_2.length ≤ c0_2) (h : spec_FirstArrivalIn.f k a0_0 a0_1 l0_2 a0_3 a0_4 a0_5 a0_6 a0_7 a1 = some (r1, r2)) :
 Calls Try.prog 26 #[.agg #[.int .i64 a0_0, .int .i64 a0_1, .slice A0_2 l0_2.length c0_2, .int .i64 a0_3, .int .i64 a0_4, .int .i64 a0_5, .int .i64 a0_6, .int .i64 a0_7], .int .i64 a1] w fun e w' => e = .returned (.tuple #[.int .i64 r1, .bool r2]) ∧ Below w.heap.size w w' := by
 have CG := Try.underlying32
 have CH := Try.underlying52
 have Ao := Z.m hr0_2
 have An := Z.m hc0_2
 clear hr0_2 hc0_2
 have HB := Z.m (Below.refl w.heap.size w)
 have H : ((spec_maGood.f k a0_0 a0_1 l0_2 a0_3 a0_4 a0_5 a0_6 a0_7).bind fun AF => (if AF = true then ((spec_maRun.f k a0_0 a0_1 l0_2 a0_3 a0_4 a0_5 a0_6 a0_7 60).bind fun bt904 => (spec_FirstArrivalIn.l0 k a1 bt904.2.2.2.2.2.2.2.2.2 (bt904.2.2.2.2.2.2.2.2.2.length : Int) 0)) else (some (0, false)))) = some (r1, r2) := h
 clear h
 replace H := Option.bind_eq_some_iff.mp H
 obtain ⟨AF, Ci, H⟩ := H
 replace H : (if AF = true then ((spec_maRun.f k a0_0 a0_1 l0_2 a0_3 a0_4 a0_5 a0_6 a0_7 60).bind fun bt904 => (spec_FirstArrivalIn.l0 k a1 bt904.2.2.2.2.2.2.2.2.2 (bt904.2.2.2.2.2.2.2.2.2.length : Int) 0)) else (some (0, false))) = some (r1, r2) := H
 have A3 := Z.m Ci
 clear Ci
 by_cases c4 : AF = true
 ·subst c4
  have H1 : ((spec_maRun.f k a0_0 a0_1 l0_2 a0_3 a0_4 a0_5 a0_6 a0_7 60).bind fun bt904 => (spec_FirstArrivalIn.l0 k a1 bt904.2.2.2.2.2.2.2.2.2 (bt904.2.2.2.2.2.2.2.2.2.length : Int) 0)) = some (r1, r2) := by rw [if_pos rfl] at H; exact H
  clear H
  have H := H1
  clear H1
  replace H := Option.bind_eq_some_iff.mp H
  obtain ⟨⟨Bw, Bx, AG, By, Bz, BA, BB, BC, Ch, Ac⟩, Cj, H⟩ := H
  replace H : (spec_FirstArrivalIn.l0 k a1 Ac (Ac.length : Int) 0) = some (r1, r2) := H
  have A5 := Z.m Cj
  clear Cj
  have H' := Z.m H
  clear H
  go_enter Try.func26, Try.ntmps26
  go_wp2_with (first | ((with_reducible refine gq (N := 2) rfl ?_); refine be (N := 2) (cs := #[.int .i64 a0_0, .int .i64 a0_1, .slice A0_2 l0_2.length c0_2, .int .i64 a0_3, .int .i64 a0_4, .int .i64 a0_5, .int .i64 a0_6, .int .i64 a0_7]) (t := 32) ?_; intro AK hg w6 hbox hb; have A0 := Z.m (hbox); have Am := gW (w := w) HB hg; have Bn := Am; replace HB := bB HB hb; clear hb hbox hg; have AL := bc0 A0; have AM := bc1 A0; have AN := bc2 A0; have AO := bc3 A0; have AP := bc4 A0; have AQ := bc5 A0; have AR := bc6 A0; have AS := bc7 A0; have B2 := qz A0.o 0; have B3 := qz A0.o 1; have B7 := qz A0.o 2; have B8 := qz A0.o 3; have Ba := qz A0.o 4; have Bb := qz A0.o 5; have Bc := qz A0.o 6; have Bd := qz A0.o 7) | ((with_reducible refine gc (f := 34) rfl ?_); refine gA (some 12) _ #[.agg #[.int .i64 a0_0, .int .i64 a0_1, .slice A0_2 l0_2.length c0_2, .int .i64 a0_3, .int .i64 a0_4, .int .i64 a0_5, .int .i64 a0_6, .int .i64 a0_7]] ?_ Try.func34; (with_reducible refine (spec_maGood.calls k a0_0 a0_1 _ _ l0_2 a0_3 a0_4 a0_5 a0_6 a0_7 true _ ?side1 ?side2 A3.o).mono ?_); (case side1 => repeat (first | exact (Kd.C_below Ao.o HB.o) | (with_reducible refine Kd.C_alloc ?_ _) | (with_reducible refine Kd.C_drewN ?_ _) | (with_reducible refine Kd.C_drew ?_))); (case side2 => exact An.o); rintro e w8 ⟨rfl, hb⟩; refine ⟨_, rfl, ?_⟩; replace A0 := kB A0 hb; replace HB := bB HB hb; (try clear hb); (try clear Co); (try clear hk); (try clear hi); have AT := bc0 A0; have AU := bc1 A0; have AV := bc2 A0; have AW := bc3 A0; have AX := bc4 A0; have AY := bc5 A0; have AZ := bc6 A0; have B0 := bc7 A0; have Be := qz A0.o 0; have Bf := qz A0.o 1; have Bg := qz A0.o 2; have Bh := qz A0.o 3; have Bi := qz A0.o 4; have Bj := qz A0.o 5; have Bk := qz A0.o 6; have Bl := qz A0.o 7) | ((with_reducible refine gc (f := 36) rfl ?_); refine gA (some 16) _ #[.agg #[.int .i64 a0_0, .int .i64 a0_1, .slice A0_2 l0_2.length c0_2, .int .i64 a0_3, .int .i64 a0_4, .int .i64 a0_5, .int .i64 a0_6, .int .i64 a0_7], .int .i64 60] ?_ Try.func36; (with_reducible refine (spec_maRun.calls k a0_0 a0_1 _ _ l0_2 a0_3 a0_4 a0_5 a0_6 a0_7 60 Bw Bx AG By Bz BA BB BC Ch Ac _ ?side1 ?side2 A5.o).mono ?_); (case side1 => repeat (first | exact (Kd.C_below Ao.o HB.o) | (with_reducible refine Kd.C_alloc ?_ _) | (with_reducible refine Kd.C_drewN ?_ _) | (with_reducible refine Kd.C_drew ?_))); (case side2 => exact An.o); rintro e CL ⟨CI, CJ, CK, rfl, CD, CE, CF, hb⟩; refine ⟨_, rfl, ?_⟩; have Ag := Z.m (Kd.R_lower CD (below_size (vB HB))); have AI := Z.m (Kd.R_lower CE (below_size (vB HB))); have Ah := Z.m (Kd.R_lower CF (below_size (vB HB))); replace A0 := kB A0 hb; replace HB := bB HB hb; (try clear hb); (try clear Co); (try clear hk); (try clear hi); (try clear CD); (try clear CE); (try clear CF)) | ((with_reducible refine gq (N := 6) rfl ?_); refine be (N := 6) (cs := #[.int .i64 0, .int .i64 0, .slice none 0 0, .int .i64 0, .int .i64 0, .int .i64 0, .int .i64 0, .int .i64 0]) (t := 32) ?_; intro Bv hg CM hbox hb; have A1 := Z.m (hbox); have Bo := gW (w := w) HB hg; have Cl := Bo; have Ae := neL A0 hg; have Al := neG A0 hg; replace Ag := Z.m (Kd.Rb (vR Ag) hb); replace AI := Z.m (Kd.Rb (vR AI) hb); replace Ah := Z.m (Kd.Rb (vR Ah) hb); replace A0 := kB A0 hb; replace HB := bB HB hb; clear hb hbox hg; have Cp := Al.o; have Cw := Ae.o; have Ap := bc0 A1; have Aq := bc1 A1; have Ar := bc2 A1; have As := bc3 A1; have At := bc4 A1; have Au := bc5 A1; have Av := bc6 A1; have Aw := bc7 A1; have Ax := qz A1.o 0; have Ay := qz A1.o 1; have Az := qz A1.o 2; have AA := qz A1.o 3; have AB := qz A1.o 4; have AC := qz A1.o 5; have AD := qz A1.o 6; have AE := qz A1.o 7; obtain ⟨Bm, Bu, Cf⟩ := Kd.R_slice Ag.o; subst Cf; obtain ⟨Cd, Ce, Cg⟩ := Kd.R_slice Ah.o; subst Cg))
  go_loopg [22] k (fun kq v22 w' => ∃ (A6 : Int), v22 = .int .i64 A6 ∧ Z (spec_FirstArrivalIn.l0 kq a1 Ac (Ac.length : Int) A6 = some (r1, r2)) ∧ Z (kq ≤ k) ∧ Z (Kd.R k52 52 w' w.heap.size (fun _ => True) (.slice Cd Ac.length Ce) Ac) ∧ Z (Kd.R k88 88 w' w.heap.size (fun _ => True) (.slice Bm AG.length Bu) AG) ∧ Z (w'.heap[AK]? = some (.cells #[.int .i64 a0_0, .int .i64 a0_1, (.slice A0_2 l0_2.length c0_2), .int .i64 a0_3, .int .i64 a0_4, .int .i64 a0_5, .int .i64 a0_6, .int .i64 a0_7] 32 (0, 0))) ∧ Z (w'.heap[Bv]? = some (.cells #[.int .i64 Bw, .int .i64 Bx, (.slice Bm AG.length Bu), .int .i64 By, .int .i64 Bz, .int .i64 BA, .int .i64 BB, .int .i64 BC] 32 (0, 0))) ∧ Z (Below w.heap.size w w'))
  case atStart => exact ⟨(0), (by first | rfl | (simp; done) | (simp [*]; done)), H', ⟨Nat.le_refl _⟩, ⟨by refine rK ?_; exact Kd.Rm (rf (rf (rf (rf (rf (rf (rf (rf (Kd.Ry Ah.o A1.o (by decide)))))))))) (fun _ hk => trivial)⟩, ⟨by refine rK ?_; exact Kd.Rm (rf (rf (rf (rf (rf (rf (rf (rf (Kd.Ry Ag.o A1.o (by decide)))))))))) (fun _ hk => trivial)⟩, ⟨by refine bK ?_; (iterate 8 refine qF ?_ Ae); exact A0.o⟩, ⟨by refine bK ?_; apply st8; refine bK ?_; exact A1.o⟩, ⟨vB HB⟩⟩
  case round =>
   clear H'
   (try clear c4)
   (try clear Ap); (try clear Aq); (try clear Ar); (try clear As); (try clear At); (try clear Au); (try clear Av); (try clear Aw)
   (try clear AL); (try clear AM); (try clear AN); (try clear AO); (try clear AP); (try clear AQ); (try clear AR); (try clear AS)
   (try clear AT); (try clear AU); (try clear AV); (try clear AW); (try clear AX); (try clear AY); (try clear AZ); (try clear B0)
   (try clear Ax); (try clear Ay); (try clear Az); (try clear AA); (try clear AB); (try clear AC); (try clear AD); (try clear AE)
   (try clear B2); (try clear B3); (try clear B7); (try clear B8); (try clear Ba); (try clear Bb); (try clear Bc); (try clear Bd)
   (try clear Be); (try clear Bf); (try clear Bg); (try clear Bh); (try clear Bi); (try clear Bj); (try clear Bk); (try clear Bl)
   obtain ⟨A6, rfl, HA, BD, Ab, A4, A0, A1, HB⟩ := hrel
   cases gk with
   | zero => exact absurd HA.o (by simp [spec_FirstArrivalIn.l0])
   | succ k1 =>
    have H := HA.o
    clear HA
    simp only [spec_FirstArrivalIn.l0] at H
    by_cases c16 : A6 < (Ac.length : Int)
    ·rw [if_pos c16] at H
     have Bp := decide_eq_true c16
     clear c16
     by_cases c17 : 0 ≤ A6
     ·rw [if_pos c17] at H
      have Cm := decide_eq_true c17
      clear c17
      by_cases c18 : A6 < (Ac.length : Int)
      ·rw [if_pos c18] at H
       have Cn := decide_eq_true c18
       clear c18
       by_cases c19 : ((rd_T52 Ac A6).f0) = 1
       ·rw [if_pos c19] at H
        have Bq := beq_iff_eq.mpr c19
        have Br := bne_eq_false_iff_eq.mpr c19
        clear c19
        by_cases c20 : ((rd_T52 Ac A6).f2) = a1
        ·rw [if_pos c20] at H
         have Bs := beq_iff_eq.mpr c20
         have Bt := bne_eq_false_iff_eq.mpr c20
         clear c20
         simp only [Option.some.injEq, Prod.mk.injEq] at H
         obtain ⟨rfl, rfl⟩ := H
         have p921 : 0 ≤ (A6 : Int) := ofD
         have q921 : A6 < (Ac.length : Int) := ofD
         obtain ⟨AJ, e921, Ai, Aj, Ak⟩ := at_T52 (Kd.RrZ Ab.o).2.2 A6 p921 q921
         cases e921
         replace p921 := eq_true p921
         replace q921 := eq_true q921
         go_wp2_with (first | ((with_reducible refine gq (N := 10) rfl ?_); refine be (N := 10) (cs := #[.int .i64 0, .int .i64 0, .int .i64 0]) (t := 52) ?_; intro Ad hg CN hbox hb; have A2 := Z.m (hbox); have Af := gW (w := w) HB hg; have AH := Af; have A7 := neL A0 hg; have A9 := neG A0 hg; have A8 := neL A1 hg; have Aa := neG A1 hg; replace Ab := Z.m (Kd.Rb (Kd.R_elderB (vR Ab) Ad (Nat.le_of_eq hg.symm)) hb); replace A4 := Z.m (Kd.Rb (vR A4) hb); replace A0 := kB A0 hb; replace A1 := kB A1 hb; replace HB := bB HB hb; clear hb hbox hg; have Cq := A9.o; have Cx := A7.o; have Cr := Aa.o; have Cy := A8.o; have BE := bc0 A2; have BF := bc1 A2; have BG := bc2 A2; have BV := qz A2.o 0; have BW := qz A2.o 1; have BX := qz A2.o 2))
         go_ret2
         exact ⟨by first | rfl | (simp [eN, eS] <;> rfl) | (simp [*, eN, eS] <;> rfl), vB HB⟩
        ·rw [if_neg c20] at H
         have Bs := beq_eq_false_iff_ne.mpr c20
         have Bt := bne_iff_ne.mpr c20
         have H' := Z.m H
         clear H
         have p921 : 0 ≤ (A6 : Int) := ofD
         have q921 : A6 < (Ac.length : Int) := ofD
         obtain ⟨AJ, e921, Ai, Aj, Ak⟩ := at_T52 (Kd.RrZ Ab.o).2.2 A6 p921 q921
         cases e921
         replace p921 := eq_true p921
         replace q921 := eq_true q921
         go_wp2_with (first | ((with_reducible refine gq (N := 10) rfl ?_); refine be (N := 10) (cs := #[.int .i64 0, .int .i64 0, .int .i64 0]) (t := 52) ?_; intro Ad hg CO hbox hb; have A2 := Z.m (hbox); have Af := gW (w := w) HB hg; have AH := Af; have A7 := neL A0 hg; have A9 := neG A0 hg; have A8 := neL A1 hg; have Aa := neG A1 hg; replace Ab := Z.m (Kd.Rb (Kd.R_elderB (vR Ab) Ad (Nat.le_of_eq hg.symm)) hb); replace A4 := Z.m (Kd.Rb (vR A4) hb); replace A0 := kB A0 hb; replace A1 := kB A1 hb; replace HB := bB HB hb; clear hb hbox hg; have Cs := A9.o; have Cz := A7.o; have Ct := Aa.o; have CA := A8.o; have BH := bc0 A2; have BI := bc1 A2; have BJ := bc2 A2; have BY := qz A2.o 0; have BZ := qz A2.o 1; have C0 := qz A2.o 2))
         go_roundg k1
         case measure => have := BD.o; omega
         case rel => exact ⟨(wrap64 (A6 + 1)), (by first | rfl | (simp; done) | (simp [*]; done)), H', ⟨by have := BD.o; omega⟩, ⟨by refine rK ?_; exact Kd.Rm (rf (rf (rf (Kd.Rm Ab.o (fun k_ hk => (⟨hk, hk.2⟩ : _ ∧ k_ ≠ Ad)))))) (fun _ hk => trivial)⟩, ⟨by refine rK ?_; exact Kd.Rm (rf (rf (rf (Kd.Ry A4.o A2.o (by decide))))) (fun _ hk => trivial)⟩, ⟨by refine bK ?_; (iterate 3 refine qF ?_ A7); exact A0.o⟩, ⟨by refine bK ?_; (iterate 3 refine qF ?_ A8); exact A1.o⟩, ⟨vB HB⟩⟩
       ·rw [if_neg c19] at H
        have Bq := beq_eq_false_iff_ne.mpr c19
        have Br := bne_iff_ne.mpr c19
        have H' := Z.m H
        clear H
        have p921 : 0 ≤ (A6 : Int) := ofD
        have q921 : A6 < (Ac.length : Int) := ofD
        obtain ⟨AJ, e921, Ai, Aj, Ak⟩ := at_T52 (Kd.RrZ Ab.o).2.2 A6 p921 q921
        cases e921
        replace p921 := eq_true p921
        replace q921 := eq_true q921
        go_wp2_with (first | ((with_reducible refine gq (N := 10) rfl ?_); refine be (N := 10) (cs := #[.int .i64 0, .int .i64 0, .int .i64 0]) (t := 52) ?_; intro Ad hg CP hbox hb; have A2 := Z.m (hbox); have Af := gW (w := w) HB hg; have AH := Af; have A7 := neL A0 hg; have A9 := neG A0 hg; have A8 := neL A1 hg; have Aa := neG A1 hg; replace Ab := Z.m (Kd.Rb (Kd.R_elderB (vR Ab) Ad (Nat.le_of_eq hg.symm)) hb); replace A4 := Z.m (Kd.Rb (vR A4) hb); replace A0 := kB A0 hb; replace A1 := kB A1 hb; replace HB := bB HB hb; clear hb hbox hg; have Cu := A9.o; have CB := A7.o; have Cv := Aa.o; have CC := A8.o; have BK := bc0 A2; have BL := bc1 A2; have BM := bc2 A2; have C1 := qz A2.o 0; have C2 := qz A2.o 1; have C3 := qz A2.o 2))
        go_roundg k1
        case measure => have := BD.o; omega
        case rel => exact ⟨(wrap64 (A6 + 1)), (by first | rfl | (simp; done) | (simp [*]; done)), H', ⟨by have := BD.o; omega⟩, ⟨by refine rK ?_; exact Kd.Rm (rf (rf (rf (Kd.Rm Ab.o (fun k_ hk => (⟨hk, hk.2⟩ : _ ∧ k_ ≠ Ad)))))) (fun _ hk => trivial)⟩, ⟨by refine rK ?_; exact Kd.Rm (rf (rf (rf (Kd.Ry A4.o A2.o (by decide))))) (fun _ hk => trivial)⟩, ⟨by refine bK ?_; (iterate 3 refine qF ?_ A7); exact A0.o⟩, ⟨by refine bK ?_; (iterate 3 refine qF ?_ A8); exact A1.o⟩, ⟨vB HB⟩⟩
      ·rw [if_neg c18] at H
       exact absurd H (by simp)
     ·rw [if_neg c17] at H
      exact absurd H (by simp)
    ·rw [if_neg c16] at H
     have Bp := decide_eq_false c16
     clear c16
     simp only [Option.some.injEq, Prod.mk.injEq] at H
     obtain ⟨rfl, rfl⟩ := H
     go_wp2
     go_ret2
     exact ⟨by first | rfl | (simp [eN, eS] <;> rfl) | (simp [*, eN, eS] <;> rfl), vB HB⟩
 ·replace c4 := Bool.eq_false_iff.mpr c4
  subst c4
  have H1 : (some (0, false)) = some (r1, r2) := by rw [if_neg (show ¬ (false = true) by decide)] at H; exact H
  clear H
  have H := H1
  clear H1
  simp only [Option.some.injEq, Prod.mk.injEq] at H
  obtain ⟨rfl, rfl⟩ := H
  go_enter Try.func26, Try.ntmps26
  go_wp2_with (first | ((with_reducible refine gq (N := 2) rfl ?_); refine be (N := 2) (cs := #[.int .i64 a0_0, .int .i64 a0_1, .slice A0_2 l0_2.length c0_2, .int .i64 a0_3, .int .i64 a0_4, .int .i64 a0_5, .int .i64 a0_6, .int .i64 a0_7]) (t := 32) ?_; intro AK hg CQ hbox hb; have A0 := Z.m (hbox); have Am := gW (w := w) HB hg; have Bn := Am; replace HB := bB HB hb; clear hb hbox hg; have BN := bc0 A0; have BO := bc1 A0; have BP := bc2 A0; have BQ := bc3 A0; have BR := bc4 A0; have BS := bc5 A0; have BT := bc6 A0; have BU := bc7 A0; have C4 := qz A0.o 0; have C5 := qz A0.o 1; have C6 := qz A0.o 2; have C7 := qz A0.o 3; have C8 := qz A0.o 4; have C9 := qz A0.o 5; have Ca := qz A0.o 6; have Cb := qz A0.o 7) | ((with_reducible refine gc (f := 34) rfl ?_); refine gA (some 12) _ #[.agg #[.int .i64 a0_0, .int .i64 a0_1, .slice A0_2 l0_2.length c0_2, .int .i64 a0_3, .int .i64 a0_4, .int .i64 a0_5, .int .i64 a0_6, .int .i64 a0_7]] ?_ Try.func34; (with_reducible refine (spec_maGood.calls k a0_0 a0_1 _ _ l0_2 a0_3 a0_4 a0_5 a0_6 a0_7 false _ ?side1 ?side2 A3.o).mono ?_); (case side1 => repeat (first | exact (Kd.C_below Ao.o HB.o) | (with_reducible refine Kd.C_alloc ?_ _) | (with_reducible refine Kd.C_drewN ?_ _) | (with_reducible refine Kd.C_drew ?_))); (case side2 => exact An.o); rintro e CR ⟨rfl, hb⟩; refine ⟨_, rfl, ?_⟩; replace A0 := kB A0 hb; replace HB := bB HB hb; (try clear hb); (try clear Co); (try clear hk); (try clear hi)))
  go_ret2
  exact ⟨by first | rfl | (simp [eN, eS] <;> rfl) | (simp [*, eN, eS] <;> rfl), vB HB⟩

/-! ### impl_FirstArrivalIn: function 27 -/
def impl_FirstArrivalIn.l0 : Nat → Int → List (S69) → Int → Int → Option (Int × Bool)
 | 0, _, _, _, _ => none
 | k + 1, x1, x18, x19, x20 => if x20 < x19 then (if 0 ≤ x20 then (if x20 < (x18.length : Int) then (if ((rd_T69 x18 x20).f1.f0) = 1 then (if ((rd_T69 x18 x20).f1.f2) = x1 then (some (wrap64 (x20 + 1), true)) else (impl_FirstArrivalIn.l0 k x1 x18 x19 (wrap64 (x20 + 1)))) else (impl_FirstArrivalIn.l0 k x1 x18 x19 (wrap64 (x20 + 1)))) else (none)) else (none)) else (some (0, false))
def impl_FirstArrivalIn.f (k : Nat) (a0_0 : Int) (a0_1 : Int) (l0_2 : List (S88)) (a0_3 : Int) (a0_4 : Int) (a0_5 : Int) (a0_6 : Int) (a0_7 : Int) (a1 : Int) : Option (Int × Bool) := (impl_IsMachine.f k a0_0 a0_1 l0_2 a0_3 a0_4 a0_5 a0_6 a0_7).bind fun t924 => (if t924 = true then ((impl_runSteps.f k a0_0 a0_1 l0_2 a0_3 a0_4 a0_5 a0_6 a0_7 60).bind fun bt925 => (impl_FirstArrivalIn.l0 k a1 bt925.2.2.2.2.2.2.2.2 (bt925.2.2.2.2.2.2.2.2.length : Int) 0)) else (some (0, false)))
set_option maxHeartbeats 8000000 in
set_option maxRecDepth 100000 in
theorem impl_FirstArrivalIn.calls (k : Nat) (a0_0 : Int) (a0_1 : Int) (A0_2 : Option Addr) (c0_2 : Nat) (l0_2 : List (S88)) (a0_3 : Int) (a0_4 : Int) (a0_5 : Int) (a0_6 : Int) (a0_7 : Int) (a1 : Int) (r1 : Int) (r2 : Bool) (w : World) (hr0_2 : Kd.C k88 w A0_2 l0_2.length l0_2) (hc0_2 : l0_2.length ≤ c0_2) (h : impl_FirstArrivalIn.f k a0_0 a0_1 l0_2 a0_3 a0_4 a0_5 a0_6 a0_7 a1 = some (r1, r2)) :
 Calls Try.prog 27 #[.agg #[.int .i64 a0_0, .int .i64 a0_1, .slice A0_2 l0_2.length c0_2, .int .i64 a0_3, .int .i64 a0_4, .int .i64 a0_5, .int .i64 a0_6, .int .i64 a0_7], .int .i64 a1] w fun e w' => e = .returned (.tuple #[.int .i64 r1, .bool r2]) ∧ Below w.heap.size w w' := by
 have CK := Try.underlying32
 have CL := Try.underlying69
 have Ap := Z.m hr0_2
 have Ao := Z.m hc0_2
 clear hr0_2 hc0_2
 have HB := Z.m (Below.refl w.heap.size w)
 have H : ((impl_IsMachine.f k a0_0 a0_1 l0_2 a0_3 a0_4 a0_5 a0_6 a0_7).bind fun AG => (if AG = true then ((impl_runSteps.f k a0_0 a0_1 l0_2 a0_3 a0_4 a0_5 a0_6 a0_7 60).bind fun bt925 => (impl_FirstArrivalIn.l0 k a1 bt925.2.2.2.2.2.2.2.2 (bt925.2.2.2.2.2.2.2.2.length : Int) 0)) else (some (0, false)))) = some (r1, r2) := h
 clear h
 replace H := Option.bind_eq_some_iff.mp H
 obtain ⟨AG, Co, H⟩ := H
 replace H : (if AG = true then ((impl_runSteps.f k a0_0 a0_1 l0_2 a0_3 a0_4 a0_5 a0_6 a0_7 60).bind fun bt925 => (impl_FirstArrivalIn.l0 k a1 bt925.2.2.2.2.2.2.2.2 (bt925.2.2.2.2.2.2.2.2.length : Int) 0)) else (some (0, false))) = some (r1, r2) := H
 have A3 := Z.m Co
 clear Co
 by_cases c4 : AG = true
 ·subst c4
  have H1 : ((impl_runSteps.f k a0_0 a0_1 l0_2 a0_3 a0_4 a0_5 a0_6 a0_7 60).bind fun bt925 => (impl_FirstArrivalIn.l0 k a1 bt925.2.2.2.2.2.2.2.2 (bt925.2.2.2.2.2.2.2.2.length : Int) 0)) = some (r1, r2) := by rw [if_pos rfl] at H; exact H
  clear H
  have H := H1
  clear H1
  replace H := Option.bind_eq_some_iff.mp H
  obtain ⟨⟨Bw, Bx, AH, By, Bz, BA, BB, BC, Ac⟩, Cp, H⟩ := H
  replace H : (impl_FirstArrivalIn.l0 k a1 Ac (Ac.length : Int) 0) = some (r1, r2) := H
  have A5 := Z.m Cp
  clear Cp
  have H' := Z.m H
  clear H
  go_enter Try.func27, Try.ntmps27
  go_wp2_with (first | ((with_reducible refine gq (N := 2) rfl ?_); refine be (N := 2) (cs := #[.int .i64 a0_0, .int .i64 a0_1, .slice A0_2 l0_2.length c0_2, .int .i64 a0_3, .int .i64 a0_4, .int .i64 a0_5, .int .i64 a0_6, .int .i64 a0_7]) (t := 32) ?_; intro AK hg w6 hbox hb; have A0 := Z.m (hbox); have An := gW (w := w) HB hg; have Bn := An; replace HB := bB HB hb; clear hb hbox hg; have AL := bc0 A0; have AM := bc1 A0; have AN := bc2 A0; have AO := bc3 A0; have AP := bc4 A0; have AQ := bc5 A0; have AR := bc6 A0; have AS := bc7 A0; have B2 := qz A0.o 0; have B3 := qz A0.o 1; have B7 := qz A0.o 2; have B8 := qz A0.o 3; have Ba := qz A0.o 4; have Bb := qz A0.o 5; have Bc := qz A0.o 6; have Bd := qz A0.o 7) | ((with_reducible refine gc (f := 38) rfl ?_); refine gA (some 11) _ #[.agg #[.int .i64 a0_0, .int .i64 a0_1, .slice A0_2 l0_2.length c0_2, .int .i64 a0_3, .int .i64 a0_4, .int .i64 a0_5, .int .i64 a0_6, .int .i64 a0_7]] ?_ Try.func38; (with_reducible refine (impl_IsMachine.calls k a0_0 a0_1 _ _ l0_2 a0_3 a0_4 a0_5 a0_6 a0_7 true _ ?side1 ?side2 A3.o).mono ?_); (case side1 => repeat (first | exact (Kd.C_below Ap.o HB.o) | (with_reducible refine Kd.C_alloc ?_ _) | (with_reducible refine Kd.C_drewN ?_ _) | (with_reducible refine Kd.C_drew ?_))); (case side2 => exact Ao.o); rintro e w8 ⟨rfl, hb⟩; refine ⟨_, rfl, ?_⟩; replace A0 := kB A0 hb; replace HB := bB HB hb; (try clear hb); (try clear Ct); (try clear hk); (try clear hi); have AT := bc0 A0; have AU := bc1 A0; have AV := bc2 A0; have AW := bc3 A0; have AX := bc4 A0; have AY := bc5 A0; have AZ := bc6 A0; have B0 := bc7 A0; have Be := qz A0.o 0; have Bf := qz A0.o 1; have Bg := qz A0.o 2; have Bh := qz A0.o 3; have Bi := qz A0.o 4; have Bj := qz A0.o 5; have Bk := qz A0.o 6; have Bl := qz A0.o 7) | ((with_reducible refine gc (f := 39) rfl ?_); refine gA (some 15) _ #[.agg #[.int .i64 a0_0, .int .i64 a0_1, .slice A0_2 l0_2.length c0_2, .int .i64 a0_3, .int .i64 a0_4, .int .i64 a0_5, .int .i64 a0_6, .int .i64 a0_7], .int .i64 60] ?_ Try.func39; (with_reducible refine (impl_runSteps.calls k a0_0 a0_1 _ _ l0_2 a0_3 a0_4 a0_5 a0_6 a0_7 60 Bw Bx AH By Bz BA BB BC Ac _ ?side1 ?side2 A5.o).mono ?_); (case side1 => repeat (first | exact (Kd.C_below Ap.o HB.o) | (with_reducible refine Kd.C_alloc ?_ _) | (with_reducible refine Kd.C_drewN ?_ _) | (with_reducible refine Kd.C_drew ?_))); (case side2 => exact Ao.o); rintro e CO ⟨CM, CN, rfl, CI, CJ, hb⟩; refine ⟨_, rfl, ?_⟩; have Ag := Z.m (Kd.R_lower CI (below_size (vB HB))); have Ah := Z.m (Kd.R_lower CJ (below_size (vB HB))); replace A0 := kB A0 hb; replace HB := bB HB hb; (try clear hb); (try clear Ct); (try clear hk); (try clear hi); (try clear CI); (try clear CJ)) | ((with_reducible refine gq (N := 6) rfl ?_); refine be (N := 6) (cs := #[.int .i64 0, .int .i64 0, .slice none 0 0, .int .i64 0, .int .i64 0, .int .i64 0, .int .i64 0, .int .i64 0]) (t := 32) ?_; intro Bv hg CP hbox hb; have A1 := Z.m (hbox); have Bo := gW (w := w) HB hg; have Cq := Bo; have Ae := neL A0 hg; have Am := neG A0 hg; replace Ag := Z.m (Kd.Rb (vR Ag) hb); replace Ah := Z.m (Kd.Rb (vR Ah) hb); replace A0 := kB A0 hb; replace HB := bB HB hb; clear hb hbox hg; have Cu := Am.o; have CB := Ae.o; have Aq := bc0 A1; have Ar := bc1 A1; have As := bc2 A1; have At := bc3 A1; have Au := bc4 A1; have Av := bc5 A1; have Aw := bc6 A1; have Ax := bc7 A1; have Ay := qz A1.o 0; have Az := qz A1.o 1; have AA := qz A1.o 2; have AB := qz A1.o 3; have AC := qz A1.o 4; have AD := qz A1.o 5; have AE := qz A1.o 6; have AF := qz A1.o 7; obtain ⟨Bm, Bu, Cm⟩ := Kd.R_slice Ag.o; subst Cm; obtain ⟨Cj, Cl, Cn⟩ := Kd.R_slice Ah.o; subst Cn))
  go_loopg [20] k (fun kq v20 w' => ∃ (A6 : Int), v20 = .int .i64 A6 ∧ Z (impl_FirstArrivalIn.l0 kq a1 Ac (Ac.length : Int) A6 = some (r1, r2)) ∧ Z (kq ≤ k) ∧ Z (Kd.R k69 69 w' w.heap.size (fun _ => True) (.slice Cj Ac.length Cl) Ac) ∧ Z (Kd.R k88 88 w' w.heap.size (fun _ => True) (.slice Bm AH.length Bu) AH) ∧ Z (w'.heap[AK]? = some (.cells #[.int .i64 a0_0, .int .i64 a0_1, (.slice A0_2 l0_2.length c0_2), .int .i64 a0_3, .int .i64 a0_4, .int .i64 a0_5, .int .i64 a0_6, .int .i64 a0_7] 32 (0, 0))) ∧ Z (w'.heap[Bv]? = some (.cells #[.int .i64 Bw, .int .i64 Bx, (.slice Bm AH.length Bu), .int .i64 By, .int .i64 Bz, .int .i64 BA, .int .i64 BB, .int .i64 BC] 32 (0, 0))) ∧ Z (Below w.heap.size w w'))
  case atStart => exact ⟨(0), (by first | rfl | (simp; done) | (simp [*]; done)), H', ⟨Nat.le_refl _⟩, ⟨by refine rK ?_; exact Kd.Rm (rf (rf (rf (rf (rf (rf (rf (rf (Kd.Ry Ah.o A1.o (by decide)))))))))) (fun _ hk => trivial)⟩, ⟨by refine rK ?_; exact Kd.Rm (rf (rf (rf (rf (rf (rf (rf (rf (Kd.Ry Ag.o A1.o (by decide)))))))))) (fun _ hk => trivial)⟩, ⟨by refine bK ?_; (iterate 8 refine qF ?_ Ae); exact A0.o⟩, ⟨by refine bK ?_; apply st8; refine bK ?_; exact A1.o⟩, ⟨vB HB⟩⟩
  case round =>
   clear H'
   (try clear c4)
   (try clear Aq); (try clear Ar); (try clear As); (try clear At); (try clear Au); (try clear Av); (try clear Aw); (try clear Ax)
   (try clear AL); (try clear AM); (try clear AN); (try clear AO); (try clear AP); (try clear AQ); (try clear AR); (try clear AS)
   (try clear AT); (try clear AU); (try clear AV); (try clear AW); (try clear AX); (try clear AY); (try clear AZ); (try clear B0)
   (try clear Ay); (try clear Az); (try clear AA); (try clear AB); (try clear AC); (try clear AD); (try clear AE); (try clear AF)
   (try clear B2); (try clear B3); (try clear B7); (try clear B8); (try clear Ba); (try clear Bb); (try clear Bc); (try clear Bd)
   (try clear Be); (try clear Bf); (try clear Bg); (try clear Bh); (try clear Bi); (try clear Bj); (try clear Bk); (try clear Bl)
   obtain ⟨A6, rfl, HA, BD, Ab, A4, A0, A1, HB⟩ := hrel
   cases gk with
   | zero => exact absurd HA.o (by simp [impl_FirstArrivalIn.l0])
   | succ k1 =>
    have H := HA.o
    clear HA
    simp only [impl_FirstArrivalIn.l0] at H
    by_cases c16 : A6 < (Ac.length : Int)
    ·rw [if_pos c16] at H
     have Bp := decide_eq_true c16
     clear c16
     by_cases c17 : 0 ≤ A6
     ·rw [if_pos c17] at H
      have Cr := decide_eq_true c17
      clear c17
      by_cases c18 : A6 < (Ac.length : Int)
      ·rw [if_pos c18] at H
       have Cs := decide_eq_true c18
       clear c18
       by_cases c19 : ((rd_T69 Ac A6).f1.f0) = 1
       ·rw [if_pos c19] at H
        have Bq := beq_iff_eq.mpr c19
        have Br := bne_eq_false_iff_eq.mpr c19
        clear c19
        by_cases c20 : ((rd_T69 Ac A6).f1.f2) = a1
        ·rw [if_pos c20] at H
         have Bs := beq_iff_eq.mpr c20
         have Bt := bne_eq_false_iff_eq.mpr c20
         clear c20
         simp only [Option.some.injEq, Prod.mk.injEq] at H
         obtain ⟨rfl, rfl⟩ := H
         have p939 : 0 ≤ (A6 : Int) := ofD
         have q939 : A6 < (Ac.length : Int) := ofD
         obtain ⟨AJ, e939, Ai, Aj, Ak, Al⟩ := at_T69 (Kd.RrZ Ab.o).2.2 A6 p939 q939
         cases e939
         replace p939 := eq_true p939
         replace q939 := eq_true q939
         go_wp2_with (first | ((with_reducible refine gq (N := 9) rfl ?_); refine be (N := 9) (cs := #[.int .i64 0, .int .i64 0, .int .i64 0, .int .i64 0]) (t := 69) ?_; intro Ad hg CQ hbox hb; have A2 := Z.m (hbox); have Af := gW (w := w) HB hg; have AI := Af; have A7 := neL A0 hg; have A9 := neG A0 hg; have A8 := neL A1 hg; have Aa := neG A1 hg; replace Ab := Z.m (Kd.Rb (Kd.R_elderB (vR Ab) Ad (Nat.le_of_eq hg.symm)) hb); replace A4 := Z.m (Kd.Rb (vR A4) hb); replace A0 := kB A0 hb; replace A1 := kB A1 hb; replace HB := bB HB hb; clear hb hbox hg; have Cv := A9.o; have CC := A7.o; have Cw := Aa.o; have CD := A8.o; have BE := bc0 A2; have BF := bc1 A2; have BG := bc2 A2; have BH := bc3 A2; have BY := qz A2.o 0; have BZ := qz A2.o 1; have C0 := qz A2.o 2; have C1 := qz A2.o 3))
         go_ret2
         exact ⟨by first | rfl | (simp [eN, eS] <;> rfl) | (simp [*, eN, eS] <;> rfl), vB HB⟩
        ·rw [if_neg c20] at H
         have Bs := beq_eq_false_iff_ne.mpr c20
         have Bt := bne_iff_ne.mpr c20
         have H' := Z.m H
         clear H
         have p939 : 0 ≤ (A6 : Int) := ofD
         have q939 : A6 < (Ac.length : Int) := ofD
         obtain ⟨AJ, e939, Ai, Aj, Ak, Al⟩ := at_T69 (Kd.RrZ Ab.o).2.2 A6 p939 q939
         cases e939
         replace p939 := eq_true p939
         replace q939 := eq_true q939
         go_wp2_with (first | ((with_reducible refine gq (N := 9) rfl ?_); refine be (N := 9) (cs := #[.int .i64 0, .int .i64 0, .int .i64 0, .int .i64 0]) (t := 69) ?_; intro Ad hg CR hbox hb; have A2 := Z.m (hbox); have Af := gW (w := w) HB hg; have AI := Af; have A7 := neL A0 hg; have A9 := neG A0 hg; have A8 := neL A1 hg; have Aa := neG A1 hg; replace Ab := Z.m (Kd.Rb (Kd.R_elderB (vR Ab) Ad (Nat.le_of_eq hg.symm)) hb); replace A4 := Z.m (Kd.Rb (vR A4) hb); replace A0 := kB A0 hb; replace A1 := kB A1 hb; replace HB := bB HB hb; clear hb hbox hg; have Cx := A9.o; have CE := A7.o; have Cy := Aa.o; have CF := A8.o; have BI := bc0 A2; have BJ := bc1 A2; have BK := bc2 A2; have BL := bc3 A2; have C2 := qz A2.o 0; have C3 := qz A2.o 1; have C4 := qz A2.o 2; have C5 := qz A2.o 3))
         go_roundg k1
         case measure => have := BD.o; omega
         case rel => exact ⟨(wrap64 (A6 + 1)), (by first | rfl | (simp; done) | (simp [*]; done)), H', ⟨by have := BD.o; omega⟩, ⟨by refine rK ?_; exact Kd.Rm (rf (rf (rf (rf (Kd.Rm Ab.o (fun k_ hk => (⟨hk, hk.2⟩ : _ ∧ k_ ≠ Ad))))))) (fun _ hk => trivial)⟩, ⟨by refine rK ?_; exact Kd.Rm (rf (rf (rf (rf (Kd.Ry A4.o A2.o (by decide)))))) (fun _ hk => trivial)⟩, ⟨by refine bK ?_; (iterate 4 refine qF ?_ A7); exact A0.o⟩, ⟨by refine bK ?_; (iterate 4 refine qF ?_ A8); exact A1.o⟩, ⟨vB HB⟩⟩
       ·rw [if_neg c19] at H
        have Bq := beq_eq_false_iff_ne.mpr c19
        have Br := bne_iff_ne.mpr c19
        have H' := Z.m H
        clear H
        have p939 : 0 ≤ (A6 : Int) := ofD
        have q939 : A6 < (Ac.length : Int) := ofD
        obtain ⟨AJ, e939, Ai, Aj, Ak, Al⟩ := at_T69 (Kd.RrZ Ab.o).2.2 A6 p939 q939
        cases e939
        replace p939 := eq_true p939
        replace q939 := eq_true q939
        go_wp2_with (first | ((with_reducible refine gq (N := 9) rfl ?_); refine be (N := 9) (cs := #[.int .i64 0, .int .i64 0, .int .i64 0, .int .i64 0]) (t := 69) ?_; intro Ad hg CS hbox hb; have A2 := Z.m (hbox); have Af := gW (w := w) HB hg; have AI := Af; have A7 := neL A0 hg; have A9 := neG A0 hg; have A8 := neL A1 hg; have Aa := neG A1 hg; replace Ab := Z.m (Kd.Rb (Kd.R_elderB (vR Ab) Ad (Nat.le_of_eq hg.symm)) hb); replace A4 := Z.m (Kd.Rb (vR A4) hb); replace A0 := kB A0 hb; replace A1 := kB A1 hb; replace HB := bB HB hb; clear hb hbox hg; have Cz := A9.o; have CG := A7.o; have CA := Aa.o; have CH := A8.o; have BM := bc0 A2; have BN := bc1 A2; have BO := bc2 A2; have BP := bc3 A2; have C6 := qz A2.o 0; have C7 := qz A2.o 1; have C8 := qz A2.o 2; have C9 := qz A2.o 3))
        go_roundg k1
        case measure => have := BD.o; omega
        case rel => exact ⟨(wrap64 (A6 + 1)), (by first | rfl | (simp; done) | (simp [*]; done)), H', ⟨by have := BD.o; omega⟩, ⟨by refine rK ?_; exact Kd.Rm (rf (rf (rf (rf (Kd.Rm Ab.o (fun k_ hk => (⟨hk, hk.2⟩ : _ ∧ k_ ≠ Ad))))))) (fun _ hk => trivial)⟩, ⟨by refine rK ?_; exact Kd.Rm (rf (rf (rf (rf (Kd.Ry A4.o A2.o (by decide)))))) (fun _ hk => trivial)⟩, ⟨by refine bK ?_; (iterate 4 refine qF ?_ A7); exact A0.o⟩, ⟨by refine bK ?_; (iterate 4 refine qF ?_ A8); exact A1.o⟩, ⟨vB HB⟩⟩
      ·rw [if_neg c18] at H
       exact absurd H (by simp)
     ·rw [if_neg c17] at H
      exact absurd H (by simp)
    ·rw [if_neg c16] at H
     have Bp := decide_eq_false c16
     clear c16
     simp only [Option.some.injEq, Prod.mk.injEq] at H
     obtain ⟨rfl, rfl⟩ := H
     go_wp2
     go_ret2
     exact ⟨by first | rfl | (simp [eN, eS] <;> rfl) | (simp [*, eN, eS] <;> rfl), vB HB⟩
 ·replace c4 := Bool.eq_false_iff.mpr c4
  subst c4
  have H1 : (some (0, false)) = some (r1, r2) := by rw [if_neg (show ¬ (false = true) by decide)] at H; exact H
  clear H
  have H := H1
  clear H1
  simp only [Option.some.injEq, Prod.mk.injEq] at H
  obtain ⟨rfl, rfl⟩ := H
  go_enter Try.func27, Try.ntmps27
  go_wp2_with (first | ((with_reducible refine gq (N := 2) rfl ?_); refine be (N := 2) (cs := #[.int .i64 a0_0, .int .i64 a0_1, .slice A0_2 l0_2.length c0_2, .int .i64 a0_3, .int .i64 a0_4, .int .i64 a0_5, .int .i64 a0_6, .int .i64 a0_7]) (t := 32) ?_; intro AK hg CT hbox hb; have A0 := Z.m (hbox); have An := gW (w := w) HB hg; have Bn := An; replace HB := bB HB hb; clear hb hbox hg; have BQ := bc0 A0; have BR := bc1 A0; have BS := bc2 A0; have BT := bc3 A0; have BU := bc4 A0; have BV := bc5 A0; have BW := bc6 A0; have BX := bc7 A0; have Ca := qz A0.o 0; have Cb := qz A0.o 1; have Cd := qz A0.o 2; have Ce := qz A0.o 3; have Cf := qz A0.o 4; have Cg := qz A0.o 5; have Ch := qz A0.o 6; have Ci := qz A0.o 7) | ((with_reducible refine gc (f := 38) rfl ?_); refine gA (some 11) _ #[.agg #[.int .i64 a0_0, .int .i64 a0_1, .slice A0_2 l0_2.length c0_2, .int .i64 a0_3, .int .i64 a0_4, .int .i64 a0_5, .int .i64 a0_6, .int .i64 a0_7]] ?_ Try.func38; (with_reducible refine (impl_IsMachine.calls k a0_0 a0_1 _ _ l0_2 a0_3 a0_4 a0_5 a0_6 a0_7 false _ ?side1 ?side2 A3.o).mono ?_); (case side1 => repeat (first | exact (Kd.C_below Ap.o HB.o) | (with_reducible refine Kd.C_alloc ?_ _) | (with_reducible refine Kd.C_drewN ?_ _) | (with_reducible refine Kd.C_drew ?_))); (case side2 => exact Ao.o); rintro e CU ⟨rfl, hb⟩; refine ⟨_, rfl, ?_⟩; replace A0 := kB A0 hb; replace HB := bB HB hb; (try clear hb); (try clear Ct); (try clear hk); (try clear hi)))
  go_ret2
  exact ⟨by first | rfl | (simp [eN, eS] <;> rfl) | (simp [*, eN, eS] <;> rfl), vB HB⟩

end Go.Proofs.Ytjkiolpepchpdaa.PAll
