/- Began as a text that print.sh wrote (of the functions named below); turned and shortened by this session. -/
import Derived.Test.YtjkiolpepchpdaaG0
import Derived.Test.YtjkiolpepchpdaaG2
import Derived.Test.YtjkiolpepchpdaaG8
namespace Go.Proofs.Ytjkiolpepchpdaa.PAll
open Go.RowKit Go.Proofs.YtjkiolpepchpdaaW.PrintWords Go.Proofs.YtjkiolpepchpdaaW.PrintLast Go.Proofs.YtjkiolpepchpdaaW.PrintMore
attribute [local go_sem] max2_int min2_int max_two min_two max_three min_three max_four min_four   -- for this text's walks alone
set_option linter.unusedVariables false
set_option linter.unusedSimpArgs false

/-! ### spec_maRun: function 36 -/
def spec_maRun.l0 : Nat → Int → List Int → List (S52) → Int → Int → List (S88) → Int → Int → Int → Int → Int → Option (Int × Int × (List (S88)) × Int × Int × Int × Int × Int × List Int × (List (S52)))
 | 0, _, _, _, _, _, _, _, _, _, _, _ => none
 | k + 1, x1, x7, x8, x249000, x249001, x249002, x249003, x249004, x249005, x249006, x249007 => if (x8.length : Int) < x1 then ((spec_maCan.f x249000 x249001 x249002 x249003 x249004 x249005 x249006 x249007).bind fun t255 => (if t255 = true then (if x7.length < 17592186044416 then ((spec_maStep.f k x249000 x249001 x249002 x249003 x249004 x249005 x249006 x249007).bind fun bt259 => (if x8.length < 5864062014805 then (spec_maRun.l0 k x1 (x7 ++ [x249007]) (x8 ++ [(⟨bt259.2.2.2.2.2.2.2.2.1, bt259.2.2.2.2.2.2.2.2.2.1, bt259.2.2.2.2.2.2.2.2.2.2⟩ : S52)]) bt259.1 bt259.2.1 bt259.2.2.1 bt259.2.2.2.1 bt259.2.2.2.2.1 bt259.2.2.2.2.2.1 bt259.2.2.2.2.2.2.1 bt259.2.2.2.2.2.2.2.1) else (none))) else (none)) else (some (x249000, x249001, x249002, x249003, x249004, x249005, x249006, x249007, x7, x8)))) else (some (x249000, x249001, x249002, x249003, x249004, x249005, x249006, x249007, x7, x8))
def spec_maRun.f (k : Nat) (a0_0 : Int) (a0_1 : Int) (l0_2 : List (S88)) (a0_3 : Int) (a0_4 : Int) (a0_5 : Int) (a0_6 : Int) (a0_7 : Int) (a1 : Int) : Option (Int × Int × (List (S88)) × Int × Int × Int × Int × Int × List Int × (List (S52))) := (spec_boOwn.f a0_0 a0_1 l0_2).bind fun bt250 => (spec_maRun.l0 k a1 ([] : List Int) ([] : List (S52)) bt250.1 bt250.2.1 bt250.2.2 a0_3 a0_4 a0_5 a0_6 a0_7)
set_option maxHeartbeats 8000000 in
set_option maxRecDepth 100000 in
theorem spec_maRun.calls (k : Nat) (a0_0 : Int) (a0_1 : Int) (A0_2 : Option Addr) (c0_2 : Nat) (l0_2 : List (S88)) (a0_3 : Int) (a0_4 : Int) (a0_5 : Int) (a0_6 : Int) (a0_7 : Int) (a1 : Int) (r1 : Int) (r2 : Int) (r3 : List (S88)) (r4 : Int) (r5 : Int) (r6 : Int) (r7 : Int) (r8 : Int) (r9 : List Int) (r10 : List (S52)) (w : World) (hr0_2 : Kd.C k88 w A0_2 l0_2.length l0_2) (hc0_2 : l0_2.length ≤ c0_2) (h : spec_maRun.f k a0_0 a0_1 l0_2 a0_3 a0_4 a0_5 a0_6 a0_7 a1 = some (r1, r2, r3, r4, r5, r6, r7, r8, r9, r10)) :
 Calls Try.prog 36 #[.agg #[.int .i64 a0_0, .int .i64 a0_1, .slice A0_2 l0_2.length c0_2, .int .i64 a0_3, .int .i64 a0_4, .int .i64 a0_5, .int .i64 a0_6, .int .i64 a0_7], .int .i64 a1] w fun e w' => ∃ v2_ v8_ v9_ : Value, e = .returned (.tuple #[.agg #[.int .i64 r1, .int .i64 r2, v2_, .int .i64 r4, .int .i64 r5, .int .i64 r6, .int .i64 r7, .int .i64 r8], v8_, v9_]) ∧ Kd.R k88 88 w' w.heap.size (fun _ => True) v2_ r3 ∧ Kd.R (Kd.int .i64) 3 w' w.heap.size (fun _ => True) v8_ r9 ∧ Kd.R k52 52 w' w.heap.size (fun _ => True) v9_ r10 ∧ Below w.heap.size w w' := by
 have FA := Try.underlying32
 have Fz := Try.underlying30
 have FB := Try.underlying52
 have BE := Z.m hr0_2
 have BC := Z.m hc0_2
 clear hr0_2 hc0_2
 have HB := Z.m (Below.refl w.heap.size w)
 have H : ((spec_boOwn.f a0_0 a0_1 l0_2).bind fun bt250 => (spec_maRun.l0 k a1 ([] : List Int) ([] : List (S52)) bt250.1 bt250.2.1 bt250.2.2 a0_3 a0_4 a0_5 a0_6 a0_7)) = some (r1, r2, r3, r4, r5, r6, r7, r8, r9, r10) := h
 clear h
 replace H := Option.bind_eq_some_iff.mp H
 obtain ⟨⟨AF, AN, AO⟩, F6, H⟩ := H
 replace H : (spec_maRun.l0 k a1 ([] : List Int) ([] : List (S52)) AF AN AO a0_3 a0_4 a0_5 a0_6 a0_7) = some (r1, r2, r3, r4, r5, r6, r7, r8, r9, r10) := H
 have A3 := Z.m F6
 clear F6
 have H' := Z.m H
 clear H
 go_enter Try.func36, Try.ntmps36
 go_wp2_with (first | ((with_reducible refine gq (N := 2) rfl ?_); refine be (N := 2) (cs := #[.int .i64 a0_0, .int .i64 a0_1, .slice A0_2 l0_2.length c0_2, .int .i64 a0_3, .int .i64 a0_4, .int .i64 a0_5, .int .i64 a0_6, .int .i64 a0_7]) (t := 32) ?_; intro AE hg w4 hbox hb; have A0 := Z.m (hbox); have By := gW (w := w) HB hg; have F7 := By; replace HB := bB HB hb; clear hb hbox hg) | ((with_reducible refine gq (N := 4) rfl ?_); refine be (N := 4) (cs := #[.int .i64 0, .int .i64 0, .slice none 0 0, .int .i64 0, .int .i64 0, .int .i64 0, .int .i64 0, .int .i64 0]) (t := 32) ?_; intro At hg w5 hbox hb; have A1 := Z.m (hbox); have Bz := gW (w := w) HB hg; have F8 := Bz; have Ah := neL A0 hg; have Ae := neG A0 hg; replace A0 := kB A0 hb; replace HB := bB HB hb; clear hb hbox hg; have Fx := Ah.o; have Fy := Ae.o; have AT := bc0 A0; have AU := bc1 A0; have AV := bc2 A0; have AW := bc3 A0; have AX := bc4 A0; have AY := bc5 A0; have AZ := bc6 A0; have B0 := bc7 A0; have Be := qz A0.o 0; have Bf := qz A0.o 1; have Bg := qz A0.o 2; have Bh := qz A0.o 3; have Bi := qz A0.o 4; have Bj := qz A0.o 5; have Bk := qz A0.o 6; have Bl := qz A0.o 7) | ((with_reducible refine gc (f := 51) rfl ?_); refine gA (some 13) _ #[.agg #[.int .i64 a0_0, .int .i64 a0_1, .slice A0_2 l0_2.length c0_2]] ?_ Try.func51; (with_reducible refine (spec_boOwn.calls a0_0 a0_1 _ _ l0_2 AF AN AO _ ?side1 ?side2 A3.o).mono ?_); (case side1 => repeat (first | exact (Kd.C_below BE.o HB.o) | (with_reducible refine Kd.C_alloc ?_ _) | (with_reducible refine Kd.C_drewN ?_ _) | (with_reducible refine Kd.C_drew ?_))); (case side2 => exact BC.o); rintro e w8 ⟨FC, rfl, Bu, hb⟩; refine ⟨_, rfl, ?_⟩; have AQ := Z.m (Kd.R_lower Bu (below_size (vB HB))); replace A0 := kB A0 hb; replace A1 := kB A1 hb; replace HB := bB HB hb; (try clear hb); (try clear F4); (try clear hk); (try clear hi); (try clear Bu); have B2 := bc0 A0; have B3 := bc1 A0; have B7 := bc2 A0; have B8 := bc3 A0; have Ba := bc4 A0; have Bb := bc5 A0; have Bc := bc6 A0; have Bd := bc7 A0; have Bm := qz A0.o 0; have Bn := qz A0.o 1; have Bo := qz A0.o 2; have Bp := qz A0.o 3; have Bq := qz A0.o 4; have Br := qz A0.o 5; have Bs := qz A0.o 6; have Bt := qz A0.o 7; obtain ⟨EO, ES, EW⟩ := Kd.R_slice AQ.o; subst EW))
 go_loopg [7, 8] k (fun kq v7 v8 w' => ∃ (An : List Int) (Ag : List (S52)) (A6 : Int) (A7 : Int) (A8 : List (S88)) (A9 : Int) (Aa : Int) (Ab : Int) (Ac : Int) (A4 : Int) (u249002 : Value), Z (spec_maRun.l0 kq a1 An Ag A6 A7 A8 A9 Aa Ab Ac A4 = some (r1, r2, r3, r4, r5, r6, r7, r8, r9, r10)) ∧ Z (kq ≤ k) ∧ Z (Kd.R (Kd.int .i64) 3 w' w.heap.size (fun _ => True) v7 An) ∧ Z (Kd.R k52 52 w' w.heap.size (fun _ => True) v8 Ag) ∧ Z (Kd.R k88 88 w' w.heap.size (fun _ => True) u249002 A8) ∧ Z (w'.heap[AE]? = some (.cells #[.int .i64 A6, .int .i64 A7, u249002, .int .i64 A9, .int .i64 Aa, .int .i64 Ab, .int .i64 Ac, .int .i64 A4] 32 (0, 0))) ∧ Z (w'.heap[At]? = some (.cells #[.int .i64 0, .int .i64 0, (.slice none 0 0), .int .i64 0, .int .i64 0, .int .i64 0, .int .i64 0, .int .i64 0] 32 (0, 0))) ∧ Z (Below w.heap.size w w'))
 case atStart => exact ⟨(([] : List Int)), (([] : List (S52))), (AF), (AN), (AO), (a0_3), (a0_4), (a0_5), (a0_6), (a0_7), (.slice EO AO.length ES), H', ⟨Nat.le_refl _⟩, ⟨by first | exact Kd.R_nil _ _ _ _ _ | exact Kd.N_nil _ _ _ _ _ | exact Kd.V_nil _ _ _ _ _ | exact Kd.Q_nil _ _ _ _ _ | exact Kd.S_nil _ _ _ _ _⟩, ⟨by first | exact Kd.R_nil _ _ _ _ _ | exact Kd.N_nil _ _ _ _ _ | exact Kd.V_nil _ _ _ _ _ | exact Kd.Q_nil _ _ _ _ _ | exact Kd.S_nil _ _ _ _ _⟩, ⟨by refine rK ?_; exact Kd.Rm (rf (rf (rf (Kd.Ry AQ.o A0.o (by decide))))) (fun _ hk => trivial)⟩, ⟨by refine bK ?_; refine qp (cs := #[iV AF, iV AN, .slice A0_2 l0_2.length c0_2, iV a0_3, iV a0_4, iV a0_5, iV a0_6, iV a0_7]) ?_ 2 _ rfl; refine bK ?_; refine qp (cs := #[iV AF, iV a0_1, .slice A0_2 l0_2.length c0_2, iV a0_3, iV a0_4, iV a0_5, iV a0_6, iV a0_7]) ?_ 1 _ rfl; refine bK ?_; refine qp (cs := #[iV a0_0, iV a0_1, .slice A0_2 l0_2.length c0_2, iV a0_3, iV a0_4, iV a0_5, iV a0_6, iV a0_7]) ?_ 0 _ rfl; refine bK ?_; exact A0.o⟩, ⟨by refine bK ?_; (iterate 3 refine qF ?_ Ae); exact A1.o⟩, ⟨vB HB⟩⟩
 case round =>
  clear H'
  (try clear AT); (try clear AU); (try clear AV); (try clear AW); (try clear AX); (try clear AY); (try clear AZ); (try clear B0)
  (try clear B2); (try clear B3); (try clear B7); (try clear B8); (try clear Ba); (try clear Bb); (try clear Bc); (try clear Bd)
  (try clear Be); (try clear Bf); (try clear Bg); (try clear Bh); (try clear Bi); (try clear Bj); (try clear Bk); (try clear Bl)
  (try clear Bm); (try clear Bn); (try clear Bo); (try clear Bp); (try clear Bq); (try clear Br); (try clear Bs); (try clear Bt)
  obtain ⟨An, Ag, A6, A7, A8, A9, Aa, Ab, Ac, A4, u249002, HA, Fb, Am, Ad, A2, A0, A1, HB⟩ := hrel
  cases gk with
  | zero => exact absurd HA.o (by simp [spec_maRun.l0])
  | succ k1 =>
   have H := HA.o
   clear HA
   simp only [spec_maRun.l0] at H
   by_cases c11 : (Ag.length : Int) < a1
   ·rw [if_pos c11] at H
    have BJ := decide_eq_true c11
    clear c11
    replace H := Option.bind_eq_some_iff.mp H
    obtain ⟨BM, Bv, H⟩ := H
    replace H : (if BM = true then (if An.length < 17592186044416 then ((spec_maStep.f k1 A6 A7 A8 A9 Aa Ab Ac A4).bind fun bt259 => (if Ag.length < 5864062014805 then (spec_maRun.l0 k1 a1 (An ++ [A4]) (Ag ++ [(⟨bt259.2.2.2.2.2.2.2.2.1, bt259.2.2.2.2.2.2.2.2.2.1, bt259.2.2.2.2.2.2.2.2.2.2⟩ : S52)]) bt259.1 bt259.2.1 bt259.2.2.1 bt259.2.2.2.1 bt259.2.2.2.2.1 bt259.2.2.2.2.2.1 bt259.2.2.2.2.2.2.1 bt259.2.2.2.2.2.2.2.1) else (none))) else (none)) else (some (A6, A7, A8, A9, Aa, Ab, Ac, A4, An, Ag))) = some (r1, r2, r3, r4, r5, r6, r7, r8, r9, r10) := H
    have F5 := Z.m Bv
    clear Bv
    by_cases c13 : BM = true
    ·subst c13
     have H1 : (if An.length < 17592186044416 then ((spec_maStep.f k1 A6 A7 A8 A9 Aa Ab Ac A4).bind fun bt259 => (if Ag.length < 5864062014805 then (spec_maRun.l0 k1 a1 (An ++ [A4]) (Ag ++ [(⟨bt259.2.2.2.2.2.2.2.2.1, bt259.2.2.2.2.2.2.2.2.2.1, bt259.2.2.2.2.2.2.2.2.2.2⟩ : S52)]) bt259.1 bt259.2.1 bt259.2.2.1 bt259.2.2.2.1 bt259.2.2.2.2.1 bt259.2.2.2.2.2.1 bt259.2.2.2.2.2.2.1 bt259.2.2.2.2.2.2.2.1) else (none))) else (none)) = some (r1, r2, r3, r4, r5, r6, r7, r8, r9, r10) := by rw [if_pos rfl] at H; exact H
     clear H
     have H := H1
     clear H1
     by_cases c14 : An.length < 17592186044416
     ·rw [if_pos c14] at H
      have BF := Z.m c14
      clear c14
      obtain ⟨AP, Au⟩ : ∃ y_ : List Int, y_ = (An ++ [A4]) := ⟨_, rfl⟩
      replace H : ((spec_maStep.f k1 A6 A7 A8 A9 Aa Ab Ac A4).bind fun bt259 => (if Ag.length < 5864062014805 then (spec_maRun.l0 k1 a1 AP (Ag ++ [(⟨bt259.2.2.2.2.2.2.2.2.1, bt259.2.2.2.2.2.2.2.2.2.1, bt259.2.2.2.2.2.2.2.2.2.2⟩ : S52)]) bt259.1 bt259.2.1 bt259.2.2.1 bt259.2.2.2.1 bt259.2.2.2.2.1 bt259.2.2.2.2.2.1 bt259.2.2.2.2.2.2.1 bt259.2.2.2.2.2.2.2.1) else (none))) = some (r1, r2, r3, r4, r5, r6, r7, r8, r9, r10) := by first | (rw [Au]; with_reducible exact H) | (have H2_ := (Option.bind_some _ _).symm.trans H; rw [Au]; with_reducible exact H2_) | (have H2_ := (Option.bind_some _ _).symm.trans H; with_reducible exact H2_) | with_reducible exact H | (rw [Au]; exact H) | exact H
      have BH := Z.m Au
      clear Au
      replace H := Option.bind_eq_some_iff.mp H
      obtain ⟨⟨AG, AH, AD, AI, AJ, AK, AL, AM, Aw, Ax, Ay⟩, Bw, H⟩ := H
      replace H : (if Ag.length < 5864062014805 then (spec_maRun.l0 k1 a1 AP (Ag ++ [(⟨Aw, Ax, Ay⟩ : S52)]) AG AH AD AI AJ AK AL AM) else (none)) = some (r1, r2, r3, r4, r5, r6, r7, r8, r9, r10) := H
      have Fs := Z.m Bw
      clear Bw
      by_cases c16 : Ag.length < 5864062014805
      ·rw [if_pos c16] at H
       have BG := Z.m c16
       clear c16
       obtain ⟨BN, Av⟩ : ∃ y_ : List (S52), y_ = (Ag ++ [(⟨Aw, Ax, Ay⟩ : S52)]) := ⟨_, rfl⟩
       replace H : (spec_maRun.l0 k1 a1 AP BN AG AH AD AI AJ AK AL AM) = some (r1, r2, r3, r4, r5, r6, r7, r8, r9, r10) := by first | (rw [Av]; with_reducible exact H) | (have H2_ := (Option.bind_some _ _).symm.trans H; rw [Av]; with_reducible exact H2_) | (have H2_ := (Option.bind_some _ _).symm.trans H; with_reducible exact H2_) | with_reducible exact H | (rw [Av]; exact H) | exact H
       have BI := Z.m Av
       clear Av
       have H' := Z.m H
       clear H
       obtain ⟨EP, ET, EX⟩ := Kd.R_slice Ad.o
       subst EX
       have Fc := Ah.o
       have Fk := Ae.o
       have BO := bc0 A0
       have BP := bc1 A0
       have BQ := bc2 A0
       have BR := bc3 A0
       have BS := bc4 A0
       have BT := bc5 A0
       have BU := bc6 A0
       have BV := bc7 A0
       have Dj := qz A0.o 0
       have Dk := qz A0.o 1
       have Dl := qz A0.o 2
       have Dm := qz A0.o 3
       have Dn := qz A0.o 4
       have Do := qz A0.o 5
       have Dp := qz A0.o 6
       have Dq := qz A0.o 7
       obtain ⟨AR, AS, EY⟩ := Kd.R_slice A2.o
       subst EY
       go_wp2_with (first | (go_at_call 43; (with_reducible refine (spec_maCan.calls A6 A7 _ _ A8 A9 Aa Ab Ac A4 true _ ?side1 ?side2 F5.o).mono ?_); (case side1 => repeat (first | exact (Kd.RrZ A2.o).2.2 | (with_reducible refine Kd.C_alloc ?_ _) | (with_reducible refine Kd.C_drewN ?_ _) | (with_reducible refine Kd.C_drew ?_))); (case side2 => exact (Kd.RrZ A2.o).2.1); rintro e FG ⟨rfl, hb⟩; replace Am := Z.m (Kd.Rb (vR Am) hb); replace Ad := Z.m (Kd.Rb (vR Ad) hb); replace A2 := Z.m (Kd.Rb (vR A2) hb); replace A0 := kB A0 hb; replace A1 := kB A1 hb; replace HB := bB HB hb; (try clear hb); (try clear F4); (try clear hk); (try clear hi); have BW := bc0 A0; have BX := bc1 A0; have BY := bc2 A0; have BZ := bc3 A0; have C0 := bc4 A0; have C1 := bc5 A0; have C2 := bc6 A0; have C3 := bc7 A0; have Dr := qz A0.o 0; have Ds := qz A0.o 1; have Dt := qz A0.o 2; have Du := qz A0.o 3; have Dv := qz A0.o 4; have Dw := qz A0.o 5; have Dx := qz A0.o 6; have Dy := qz A0.o 7) | ((with_reducible refine gu (b := .append) (xs := #[.tmp 23, .tmp 26]) rfl ?_); at_builtin; refine Kd.R_append (Kd.int .i64) (w0 := w) w.heap.size rfl (.tmp 23) (.tmp 26) 41 3 (.int .i64 0) 8 rfl Try.underlying41 info3 rfl (by decide) (by omega) u7 An A4 [.int .i64 A4] (fun _ => True) (fun _ => False) rfl rfl ?aP (fun _ hk => hk.elim) ?aF ?aO ?aB ?aS ?aL ?_; (case aP => exact rfl); (case aB => exact (vB HB)); (case aF => exact (fun _ _ => trivial)); (case aO => exact (vR Am)); (case aS => exact (below_size (vB HB))); (case aL => have := BF.o; omega); intro FD FH ho hb hg hat; rw [← BH.o] at ho; have Ai := Z.m (ho); replace Ad := Z.m (Kd.Ro (vR Ad) (Kd.Rt (vR Am)) (by decide) hg); replace A2 := Z.m (Kd.Ro (vR A2) (Kd.Rt (vR Am)) (by decide) hg); replace A0 := Z.m (qg (g := AE) (o := .cells #[.int .i64 A6, .int .i64 A7, .slice AR A8.length AS, .int .i64 A9, .int .i64 Aa, .int .i64 Ab, .int .i64 Ac, .int .i64 A4] 32 (0, 0)) (vK A0) hg (Kd.R_ne Am.o A0.o (by decide))); replace A1 := Z.m (qg (g := At) (o := .cells #[.int .i64 0, .int .i64 0, .slice none 0 0, .int .i64 0, .int .i64 0, .int .i64 0, .int .i64 0, .int .i64 0] 32 (0, 0)) (vK A1) hg (Kd.R_ne Am.o A1.o (by decide))); replace HB := Z.m (hb); clear Am; clear ho hb hg hat; have C4 := bc0 A0; have C5 := bc1 A0; have C6 := bc2 A0; have C7 := bc3 A0; have C8 := bc4 A0; have C9 := bc5 A0; have Ca := bc6 A0; have Cb := bc7 A0; have Dz := qz A0.o 0; have DA := qz A0.o 1; have DB := qz A0.o 2; have DC := qz A0.o 3; have DD := qz A0.o 4; have DE := qz A0.o 5; have DF := qz A0.o 6; have DG := qz A0.o 7) | ((with_reducible refine gc (f := 44) rfl ?_); refine gA (some 30) _ #[.agg #[.int .i64 A6, .int .i64 A7, .slice AR A8.length AS, .int .i64 A9, .int .i64 Aa, .int .i64 Ab, .int .i64 Ac, .int .i64 A4]] ?_ Try.func44; (with_reducible refine (spec_maStep.calls k1 A6 A7 _ _ A8 A9 Aa Ab Ac A4 AG AH AD AI AJ AK AL AM Aw Ax Ay _ ?side1 ?side2 Fs.o).mono ?_); (case side1 => repeat (first | exact (Kd.RrZ A2.o).2.2 | (with_reducible refine Kd.C_alloc ?_ _) | (with_reducible refine Kd.C_drewN ?_ _) | (with_reducible refine Kd.C_drew ?_))); (case side2 => exact (Kd.RrZ A2.o).2.1); rintro e FI ⟨FE, rfl, Bu, hb⟩; refine ⟨_, rfl, ?_⟩; have Ak := Z.m (Kd.R_lower (Kd.R_new' Bu (Kd.R_lt (vR A2))) (below_size (vB HB))); replace Ad := Z.m (Kd.Rb (vR Ad) hb); replace A2 := Z.m (Kd.R_elder' (vR A2) (Kd.R_base Bu) hb); replace Ai := Z.m (Kd.Rb (vR Ai) hb); replace A0 := kB A0 hb; replace A1 := kB A1 hb; replace HB := bB HB hb; (try clear hb); (try clear F4); (try clear hk); (try clear hi); (try clear Bu)) | ((with_reducible refine gq (N := 9) rfl ?_); refine be (N := 9) (cs := #[.int .i64 0, .int .i64 0, .slice none 0 0, .int .i64 0, .int .i64 0, .int .i64 0, .int .i64 0, .int .i64 0]) (t := 32) ?_; intro BL hg FJ hbox hb; have A5 := Z.m (hbox); have BA := gW (w := w) HB hg; have F9 := BA; have Ao := neL A0 hg; have Az := neG A0 hg; have Aq := neL A1 hg; have AA := neG A1 hg; replace Ad := Z.m (Kd.Rb (vR Ad) hb); replace A2 := Z.m (Kd.Rb (vR A2) hb); replace Ai := Z.m (Kd.Rb (vR Ai) hb); replace Ak := Z.m (Kd.Rb (vR Ak) hb); replace A0 := kB A0 hb; replace A1 := kB A1 hb; replace HB := bB HB hb; clear hb hbox hg) | ((with_reducible refine gq (N := 10) rfl ?_); refine be (N := 10) (cs := #[.int .i64 0, .int .i64 0, .int .i64 0]) (t := 52) ?_; intro Al hg FL hbox hb; have Af := Z.m (hbox); have BB := gW (w := w) HB hg; have Fa := BB; have Ap := neL A0 hg; have AB := neG A0 hg; have Ar := neL A1 hg; have AC := neG A1 hg; have As := neL A5 hg; have Aj := neG A5 hg; replace Ad := Z.m (Kd.Rb (Kd.R_elderB (vR Ad) Al (Nat.le_of_eq hg.symm)) hb); replace A2 := Z.m (Kd.Rb (vR A2) hb); replace Ai := Z.m (Kd.Rb (vR Ai) hb); replace Ak := Z.m (Kd.Rb (vR Ak) hb); replace A0 := kB A0 hb; replace A1 := kB A1 hb; replace A5 := kB A5 hb; replace HB := bB HB hb; clear hb hbox hg; have Fd := Az.o; have Fl := Ao.o; have Fe := AA.o; have Fm := Aq.o; have Ff := As.o; have Fn := Aj.o; have Cd := bc0 A5; have Ce := bc1 A5; have Cf := bc2 A5; have Cg := bc3 A5; have Ch := bc4 A5; have Ci := bc5 A5; have Cj := bc6 A5; have Cl := bc7 A5; have DH := qz A5.o 0; have DI := qz A5.o 1; have DJ := qz A5.o 2; have DK := qz A5.o 3; have DL := qz A5.o 4; have DM := qz A5.o 5; have DN := qz A5.o 6; have DO := qz A5.o 7; obtain ⟨Bx, BK, EZ⟩ := Kd.R_slice Ak.o; subst EZ; have Fg := AB.o; have Fo := Ap.o; have Fh := AC.o; have Fp := Ar.o; have Cm := bc0 Af; have Cn := bc1 Af; have Co := bc2 Af; have DP := qz Af.o 0; have DQ := qz Af.o 1; have DR := qz Af.o 2) | ((with_reducible refine gu (b := .append) (xs := #[.tmp 33, .tmp 35]) rfl ?_); at_builtin; refine Kd.R_append k52 (w0 := w) w.heap.size rfl (.tmp 33) (.tmp 35) 59 52 (.agg #[(.int .i64 0), (.int .i64 0), (.int .i64 0)]) 24 rfl Try.underlying59 info52 rfl (by decide) (by omega) (.slice EP Ag.length ET) Ag (⟨Aw, Ax, Ay⟩ : S52) [.int .i64 Aw, .int .i64 Ax, .int .i64 Ay] (fun k_ => k_ ≠ Al) (fun _ => False) rfl (by first | (go_simp; done) | (go_simp; rfl)) ?aP (fun _ hk => hk.elim) ?aF ?aO ?aB ?aS ?aL ?_; (case aP => exact k52_mkM _ _ _ (⟨Aw, Ax, Ay⟩ : S52)); (case aB => exact (vB HB)); (case aF => exact (fun k_ hk => Kd.freshB (g := Al) (o := .cells #[.int .i64 Aw, .int .i64 Ax, .int .i64 Ay] 52 (0, 0)) (by refine bK ?_; apply st3; refine bK ?_; (iterate 8 refine qF ?_ Aj); exact Af.o) k_ hk)); (case aO => exact (by refine rK ?_; exact Kd.Rm (rf (rf (rf (rf1 (rf1 (rf1 (rf1 (rf1 (rf1 (rf1 (rf1 (Kd.Rm (Kd.Ry Ad.o A5.o (by decide)) (fun k_ hk => (⟨hk, hk.1.2⟩ : _ ∧ k_ ≠ Al)))))))))))))) (fun _ hk => hk.1.1.2))); (case aS => exact (below_size (vB HB))); (case aL => have := BG.o; omega); intro FF FM ho hb hg hat; rw [← BI.o] at ho; have BD := Z.m (ho); replace A2 := Z.m (Kd.Ro (by refine rK ?_; exact (Kd.Rm (Kd.Rm (rf (rf (rf (rf1 (rf1 (rf1 (rf1 (rf1 (rf1 (rf1 (rf1 (Kd.Ry (Kd.Ry A2.o A5.o (by decide)) Af.o (by decide))))))))))))) (fun _ h_ => h_.1)) (fun _ h_ => h_.1))) (Kd.Rt (by refine rK ?_; exact (Kd.Rm (Kd.Rm (rf (rf (rf (rf1 (rf1 (rf1 (rf1 (rf1 (rf1 (rf1 (rf1 (Kd.Rm (Kd.Ry Ad.o A5.o (by decide)) (fun k_ hk => (⟨hk, hk.1.2⟩ : _ ∧ k_ ≠ Al)))))))))))))) (fun _ h_ => h_.1)) (fun _ h_ => h_.1)))) (by decide) hg); replace A0 := Z.m (qg (g := AE) (o := .cells #[.int .i64 A6, .int .i64 A7, .slice AR A8.length AS, .int .i64 A9, .int .i64 Aa, .int .i64 Ab, .int .i64 Ac, .int .i64 A4] 32 (0, 0)) (by refine bK ?_; (iterate 3 refine qF ?_ Ap); (iterate 8 refine qF ?_ Ao); exact A0.o) hg (Kd.R_ne Ad.o A0.o (by decide))); replace A1 := Z.m (qg (g := At) (o := .cells #[.int .i64 0, .int .i64 0, .slice none 0 0, .int .i64 0, .int .i64 0, .int .i64 0, .int .i64 0, .int .i64 0] 32 (0, 0)) (by refine bK ?_; (iterate 3 refine qF ?_ Ar); (iterate 8 refine qF ?_ Aq); exact A1.o) hg (Kd.R_ne Ad.o A1.o (by decide))); replace Ai := Z.m (Kd.Ro (by refine rK ?_; exact (Kd.Rm (Kd.Rm (rf (rf (rf (rf1 (rf1 (rf1 (rf1 (rf1 (rf1 (rf1 (rf1 (Kd.Ry (Kd.Ry Ai.o A5.o (by decide)) Af.o (by decide))))))))))))) (fun _ h_ => h_.1)) (fun _ h_ => h_.1))) (Kd.Rt (by refine rK ?_; exact (Kd.Rm (Kd.Rm (rf (rf (rf (rf1 (rf1 (rf1 (rf1 (rf1 (rf1 (rf1 (rf1 (Kd.Rm (Kd.Ry Ad.o A5.o (by decide)) (fun k_ hk => (⟨hk, hk.1.2⟩ : _ ∧ k_ ≠ Al)))))))))))))) (fun _ h_ => h_.1)) (fun _ h_ => h_.1)))) (by decide) hg); replace Ak := Z.m (Kd.Ro (by refine rK ?_; exact (Kd.Rm (Kd.Rm (rf (rf (rf (rf1 (rf1 (rf1 (rf1 (rf1 (rf1 (rf1 (rf1 (Kd.Ry (Kd.Ry Ak.o A5.o (by decide)) Af.o (by decide))))))))))))) (fun _ h_ => h_.1)) (fun _ h_ => h_.1))) (Kd.Rt (by refine rK ?_; exact (Kd.Rm (Kd.Rm (rf (rf (rf (rf1 (rf1 (rf1 (rf1 (rf1 (rf1 (rf1 (rf1 (Kd.Rm (Kd.Ry Ad.o A5.o (by decide)) (fun k_ hk => (⟨hk, hk.1.2⟩ : _ ∧ k_ ≠ Al)))))))))))))) (fun _ h_ => h_.1)) (fun _ h_ => h_.1)))) (by decide) hg); replace A5 := Z.m (qg (g := BL) (o := .cells #[.int .i64 AG, .int .i64 AH, .slice Bx AD.length BK, .int .i64 AI, .int .i64 AJ, .int .i64 AK, .int .i64 AL, .int .i64 AM] 32 (0, 0)) (by refine bK ?_; (iterate 3 refine qF ?_ As); apply st8; refine bK ?_; exact A5.o) hg (Kd.R_ne Ad.o A5.o (by decide))); replace Af := Z.m (qg (g := Al) (o := .cells #[.int .i64 Aw, .int .i64 Ax, .int .i64 Ay] 52 (0, 0)) (by refine bK ?_; apply st3; refine bK ?_; (iterate 8 refine qF ?_ Aj); exact Af.o) hg (Kd.R_away Ad.o (fun _ hk => hk.2))); replace HB := Z.m (hb); clear Ad; clear ho hb hg hat; have Cp := bc0 A5; have Cq := bc1 A5; have Cr := bc2 A5; have Cs := bc3 A5; have Ct := bc4 A5; have Cu := bc5 A5; have Cv := bc6 A5; have Cw := bc7 A5; have DS := qz A5.o 0; have DT := qz A5.o 1; have DU := qz A5.o 2; have DV := qz A5.o 3; have DW := qz A5.o 4; have DX := qz A5.o 5; have DY := qz A5.o 6; have DZ := qz A5.o 7; have Cx := bc0 A0; have Cy := bc1 A0; have Cz := bc2 A0; have CA := bc3 A0; have CB := bc4 A0; have CC := bc5 A0; have CD := bc6 A0; have CE := bc7 A0; have E0 := qz A0.o 0; have E1 := qz A0.o 1; have E2 := qz A0.o 2; have E3 := qz A0.o 3; have E4 := qz A0.o 4; have E5 := qz A0.o 5; have E6 := qz A0.o 6; have E7 := qz A0.o 7))
       go_roundg k1
       case measure => have := Fb.o; omega
       case rel => exact ⟨(AP), (BN), (AG), (AH), (AD), (AI), (AJ), (AK), (AL), (AM), (.slice Bx AD.length BK), H', ⟨by have := Fb.o; omega⟩, ⟨by refine rK ?_; exact Kd.Rm (rf (rf (rf (rf (rf (rf (rf (rf (Kd.Ry Ai.o A0.o (by decide)))))))))) (fun _ hk => trivial)⟩, ⟨by refine rK ?_; exact Kd.Rm (rf (rf (rf (rf (rf (rf (rf (rf (Kd.Ry BD.o A0.o (by decide)))))))))) (fun _ hk => trivial)⟩, ⟨by refine rK ?_; exact Kd.Rm (rf (rf (rf (rf (rf (rf (rf (rf (Kd.Ry Ak.o A0.o (by decide)))))))))) (fun _ hk => trivial)⟩, ⟨by refine bK ?_; apply st8; refine bK ?_; exact A0.o⟩, ⟨by refine bK ?_; (iterate 8 refine qF ?_ Ae); exact A1.o⟩, ⟨vB HB⟩⟩
      ·rw [if_neg c16] at H
       exact absurd H (by simp)
     ·rw [if_neg c14] at H
      exact absurd H (by simp)
    ·replace c13 := Bool.eq_false_iff.mpr c13
     subst c13
     have H1 : (some (A6, A7, A8, A9, Aa, Ab, Ac, A4, An, Ag)) = some (r1, r2, r3, r4, r5, r6, r7, r8, r9, r10) := by rw [if_neg (show ¬ (false = true) by decide)] at H; exact H
     clear H
     have H := H1
     clear H1
     simp only [Option.some.injEq, Prod.mk.injEq] at H
     obtain ⟨rfl, rfl, rfl, rfl, rfl, rfl, rfl, rfl, rfl, rfl⟩ := H
     obtain ⟨Ft, Fv, F0⟩ := Kd.R_slice Ad.o
     subst F0
     have Fi := Ah.o
     have Fq := Ae.o
     have CF := bc0 A0
     have CG := bc1 A0
     have CH := bc2 A0
     have CI := bc3 A0
     have CJ := bc4 A0
     have CK := bc5 A0
     have CL := bc6 A0
     have CM := bc7 A0
     have E8 := qz A0.o 0
     have E9 := qz A0.o 1
     have Ea := qz A0.o 2
     have Eb := qz A0.o 3
     have Ec := qz A0.o 4
     have Ed := qz A0.o 5
     have Ee := qz A0.o 6
     have Ef := qz A0.o 7
     obtain ⟨EQ, EU, F1⟩ := Kd.R_slice A2.o
     subst F1
     go_wp2_with (first | (go_at_call 43; (with_reducible refine (spec_maCan.calls A6 A7 _ _ A8 A9 Aa Ab Ac A4 false _ ?side1 ?side2 F5.o).mono ?_); (case side1 => repeat (first | exact (Kd.RrZ A2.o).2.2 | (with_reducible refine Kd.C_alloc ?_ _) | (with_reducible refine Kd.C_drewN ?_ _) | (with_reducible refine Kd.C_drew ?_))); (case side2 => exact (Kd.RrZ A2.o).2.1); rintro e FN ⟨rfl, hb⟩; replace Am := Z.m (Kd.Rb (vR Am) hb); replace Ad := Z.m (Kd.Rb (vR Ad) hb); replace A2 := Z.m (Kd.Rb (vR A2) hb); replace A0 := kB A0 hb; replace A1 := kB A1 hb; replace HB := bB HB hb; (try clear hb); (try clear F4); (try clear hk); (try clear hi); have CN := bc0 A0; have CO := bc1 A0; have CP := bc2 A0; have CQ := bc3 A0; have CR := bc4 A0; have CS := bc5 A0; have CT := bc6 A0; have CU := bc7 A0; have Eg := qz A0.o 0; have Eh := qz A0.o 1; have Ei := qz A0.o 2; have Ej := qz A0.o 3; have Ek := qz A0.o 4; have El := qz A0.o 5; have Em := qz A0.o 6; have En := qz A0.o 7; have CV := bc0 A1; have CW := bc1 A1; have CX := bc2 A1; have CY := bc3 A1; have CZ := bc4 A1; have D0 := bc5 A1; have D1 := bc6 A1; have D2 := bc7 A1; have Eo := qz A1.o 0; have Ep := qz A1.o 1; have Er := qz A1.o 2; have Es := qz A1.o 3; have Et := qz A1.o 4; have Eu := qz A1.o 5; have Ew := qz A1.o 6; have Ex := qz A1.o 7))
     refine bodyPost_ret (results_ctt rfl _ _ At 32 #[.int .i64 A6, .int .i64 A7, .slice EQ A8.length EU, .int .i64 A9, .int .i64 Aa, .int .i64 Ab, .int .i64 Ac, .int .i64 A4] (0, 0) _ rfl (by refine bK ?_; apply st8; refine bK ?_; exact A1.o) Try.underlying32 rfl (by kernel_rfl)) rfl ?_
     exact ⟨_, _, _, by first | rfl | (simp [eN, eS] <;> rfl) | (simp [*, eN, eS] <;> rfl), by refine rK ?_; exact Kd.Rm (rf (rf (rf (rf (rf (rf (rf (rf (Kd.Ry A2.o A1.o (by decide)))))))))) (fun _ hk => trivial), by refine rK ?_; exact Kd.Rm (rf (rf (rf (rf (rf (rf (rf (rf (Kd.Ry Am.o A1.o (by decide)))))))))) (fun _ hk => trivial), by refine rK ?_; exact Kd.Rm (rf (rf (rf (rf (rf (rf (rf (rf (Kd.Ry Ad.o A1.o (by decide)))))))))) (fun _ hk => trivial), vB HB⟩
   ·rw [if_neg c11] at H
    have BJ := decide_eq_false c11
    clear c11
    simp only [Option.some.injEq, Prod.mk.injEq] at H
    obtain ⟨rfl, rfl, rfl, rfl, rfl, rfl, rfl, rfl, rfl, rfl⟩ := H
    obtain ⟨Fu, Fw, F2⟩ := Kd.R_slice Ad.o
    subst F2
    have Fj := Ah.o
    have Fr := Ae.o
    have D3 := bc0 A0
    have D4 := bc1 A0
    have D5 := bc2 A0
    have D6 := bc3 A0
    have D7 := bc4 A0
    have D8 := bc5 A0
    have D9 := bc6 A0
    have Da := bc7 A0
    have Ey := qz A0.o 0
    have Ez := qz A0.o 1
    have EA := qz A0.o 2
    have EB := qz A0.o 3
    have EC := qz A0.o 4
    have ED := qz A0.o 5
    have EE := qz A0.o 6
    have EF := qz A0.o 7
    have Db := bc0 A1
    have Dc := bc1 A1
    have Dd := bc2 A1
    have De := bc3 A1
    have Df := bc4 A1
    have Dg := bc5 A1
    have Dh := bc6 A1
    have Di := bc7 A1
    have EG := qz A1.o 0
    have EH := qz A1.o 1
    have EI := qz A1.o 2
    have EJ := qz A1.o 3
    have EK := qz A1.o 4
    have EL := qz A1.o 5
    have EM := qz A1.o 6
    have EN := qz A1.o 7
    obtain ⟨ER, EV, F3⟩ := Kd.R_slice A2.o
    subst F3
    go_wp2
    refine bodyPost_ret (results_ctt rfl _ _ At 32 #[.int .i64 A6, .int .i64 A7, .slice ER A8.length EV, .int .i64 A9, .int .i64 Aa, .int .i64 Ab, .int .i64 Ac, .int .i64 A4] (0, 0) _ rfl (by refine bK ?_; apply st8; refine bK ?_; exact A1.o) Try.underlying32 rfl (by kernel_rfl)) rfl ?_
    exact ⟨_, _, _, by first | rfl | (simp [eN, eS] <;> rfl) | (simp [*, eN, eS] <;> rfl), by refine rK ?_; exact Kd.Rm (rf (rf (rf (rf (rf (rf (rf (rf (Kd.Ry A2.o A1.o (by decide)))))))))) (fun _ hk => trivial), by refine rK ?_; exact Kd.Rm (rf (rf (rf (rf (rf (rf (rf (rf (Kd.Ry Am.o A1.o (by decide)))))))))) (fun _ hk => trivial), by refine rK ?_; exact Kd.Rm (rf (rf (rf (rf (rf (rf (rf (rf (Kd.Ry Ad.o A1.o (by decide)))))))))) (fun _ hk => trivial), vB HB⟩

end Go.Proofs.Ytjkiolpepchpdaa.PAll
