/- Began as a text that print.sh wrote (of the functions named below); turned and shortened by this session. -/
import Derived.Test.YtjkiolpepchpdaaG0
import Derived.Test.YtjkiolpepchpdaaG7
namespace Go.Proofs.Ytjkiolpepchpdaa.PAll
open Go.RowKit Go.Proofs.YtjkiolpepchpdaaW.PrintWords Go.Proofs.YtjkiolpepchpdaaW.PrintLast Go.Proofs.YtjkiolpepchpdaaW.PrintMore
attribute [local go_sem] max2_int min2_int max_two min_two max_three min_three max_four min_four   -- for this text's walks alone
set_option linter.unusedVariables false
set_option linter.unusedSimpArgs false

/-- A cell is there after a store as it was before: a cell that is stored twice. -/
theorem setSome (w : World) (a b : Addr) (v : Value) : ((w.setCell a v).cell? b).isSome = (w.cell? b).isSome := by
 by_cases h : a = b
 ·subst h
  cases hc : w.cell? a with
  | some u => rw [World.cell?_setCell_same w a v hc]; rfl
  | none =>
   have e : (w.setCell a v).cell? a = none := by
    simp only [World.cell?, World.setCell, Array.getElem?_modify] at hc ⊢
    cases ho : w.heap[a.block]? with
    | none => simp
    | some o =>
     rw [ho] at hc
     cases o with
     | cells c el fr =>
      simp only [Option.map_some, if_true] at hc ⊢
      cases hs : a.spot with
      | some x => simp
      | none => rw [hs] at hc; simp at hc ⊢; exact hc
     | _ => simp
   rw [e]
 ·rw [World.cell?_setCell_other (h := h)]
attribute [local go_sem] setSome

/-! ### spec_maStep: function 44 -/
def spec_maStep.j0 : Nat → Int → Int → Int → List (S88) → Int → Int → Int → Int → Int → Int → Int → List (S88) → Int → Int → Int → Int → Int → Option (Int × Int × (List (S88)) × Int × Int × Int × Int × Int × Int × Int × Int)
 | 0, _, _, _, _, _, _, _, _, _, _, _, _, _, _, _, _, _ => none
 | k + 1, x5, x235000, x235001, x235002, x235003, x235004, x235005, x235006, x235007, x238000, x238001, x238002, x238003, x238004, x238005, x238006, x238007 => (spec_flRun.f k x235000 x235001 x235002 x5).bind fun bt238 => (if bt238.1 = 1 then (if (wrap64 (2 * bt238.2.2.1)) < x235001 then (some (bt238.2.2.2.1, bt238.2.2.2.2.1, bt238.2.2.2.2.2, x238003, x238004, x238005, x238006, 0, bt238.1, bt238.2.1, bt238.2.2.1)) else (some (bt238.2.2.2.1, bt238.2.2.2.2.1, bt238.2.2.2.2.2, x238003, x238004, x238005, x238006, 1, bt238.1, bt238.2.1, bt238.2.2.1))) else (some (bt238.2.2.2.1, bt238.2.2.2.2.1, bt238.2.2.2.2.2, x238003, x238004, x238005, x238006, 2, bt238.1, bt238.2.1, bt238.2.2.1)))
def spec_maStep.f (k : Nat) (a0_0 : Int) (a0_1 : Int) (l0_2 : List (S88)) (a0_3 : Int) (a0_4 : Int) (a0_5 : Int) (a0_6 : Int) (a0_7 : Int) : Option (Int × Int × (List (S88)) × Int × Int × Int × Int × Int × Int × Int × Int) := if a0_7 = 0 then (spec_maStep.j0 k a0_3 a0_0 a0_1 l0_2 a0_3 a0_4 a0_5 a0_6 a0_7 a0_0 a0_1 l0_2 a0_3 a0_4 (wrap64 (a0_5 - 1)) a0_6 a0_7) else (spec_maStep.j0 k a0_4 a0_0 a0_1 l0_2 a0_3 a0_4 a0_5 a0_6 a0_7 a0_0 a0_1 l0_2 a0_3 a0_4 a0_5 (wrap64 (a0_6 - 1)) a0_7)
set_option maxHeartbeats 8000000 in
set_option maxRecDepth 100000 in
theorem spec_maStep.calls (k : Nat) (a0_0 : Int) (a0_1 : Int) (A0_2 : Option Addr) (c0_2 : Nat) (l0_2 : List (S88)) (a0_3 : Int) (a0_4 : Int) (a0_5 : Int) (a0_6 : Int) (a0_7 : Int) (r1 : Int) (r2 : Int) (r3 : List (S88)) (r4 : Int) (r5 : Int) (r6 : Int) (r7 : Int) (r8 : Int) (r9 : Int) (r10 : Int) (r11 : Int) (w : World) (hr0_2 : Kd.C k88 w A0_2 l0_2.length l0_2) (hc0_2 : l0_2.length ≤ c0_2) (h : spec_maStep.f k a0_0 a0_1 l0_2 a0_3 a0_4 a0_5 a0_6 a0_7 = some (r1, r2, r3, r4, r5, r6, r7, r8, r9, r10, r11)) :
 Calls Try.prog 44 #[.agg #[.int .i64 a0_0, .int .i64 a0_1, .slice A0_2 l0_2.length c0_2, .int .i64 a0_3, .int .i64 a0_4, .int .i64 a0_5, .int .i64 a0_6, .int .i64 a0_7]] w fun e w' => ∃ v2_ : Value, e = .returned (.tuple #[.agg #[.int .i64 r1, .int .i64 r2, v2_, .int .i64 r4, .int .i64 r5, .int .i64 r6, .int .i64 r7, .int .i64 r8], .agg #[.int .i64 r9, .int .i64 r10, .int .i64 r11]]) ∧ Kd.R k88 88 w' w.heap.size (fun _ => True) v2_ r3 ∧ Below w.heap.size w w' := by
 have Pz := Try.underlying32
 have PA := Try.underlying52
 have Py := Try.underlying30
 have B3 := Z.m hr0_2
 have B2 := Z.m hc0_2
 clear hr0_2 hc0_2
 have HB := Z.m (Below.refl w.heap.size w)
 have H : (if a0_7 = 0 then (spec_maStep.j0 k a0_3 a0_0 a0_1 l0_2 a0_3 a0_4 a0_5 a0_6 a0_7 a0_0 a0_1 l0_2 a0_3 a0_4 (wrap64 (a0_5 - 1)) a0_6 a0_7) else (spec_maStep.j0 k a0_4 a0_0 a0_1 l0_2 a0_3 a0_4 a0_5 a0_6 a0_7 a0_0 a0_1 l0_2 a0_3 a0_4 a0_5 (wrap64 (a0_6 - 1)) a0_7)) = some (r1, r2, r3, r4, r5, r6, r7, r8, r9, r10, r11) := h
 clear h
 have M5 := Z.m H
 clear H
 go_enter Try.func44, Try.ntmps44
 go_upto_if 13 with (first | ((with_reducible refine gq (N := 1) rfl ?_); refine be (N := 1) (cs := #[.int .i64 a0_0, .int .i64 a0_1, .slice A0_2 l0_2.length c0_2, .int .i64 a0_3, .int .i64 a0_4, .int .i64 a0_5, .int .i64 a0_6, .int .i64 a0_7]) (t := 32) ?_; intro B0 hg w3 hbox hb; have A3 := Z.m (hbox); have C2 := gW (w := w) HB hg; have MB := C2; replace HB := bB HB hb; clear hb hbox hg) | ((with_reducible refine gq (N := 2) rfl ?_); refine be (N := 2) (cs := #[.int .i64 0, .int .i64 0, .slice none 0 0, .int .i64 0, .int .i64 0, .int .i64 0, .int .i64 0, .int .i64 0]) (t := 32) ?_; intro Ax hg w4 hbox hb; have A6 := Z.m (hbox); have C3 := gW (w := w) HB hg; have MC := C3; have Ai := neL A3 hg; have Aj := neG A3 hg; replace A3 := kB A3 hb; replace HB := bB HB hb; clear hb hbox hg) | ((with_reducible refine gq (N := 3) rfl ?_); refine be (N := 3) (cs := #[.int .i64 0, .int .i64 0, .int .i64 0]) (t := 52) ?_; intro AQ hg w5 hbox hb; have Ad := Z.m (hbox); have C4 := gW (w := w) HB hg; have MD := C4; have Au := neL A3 hg; have Av := neG A3 hg; have Aa := neL A6 hg; have Ab := neG A6 hg; replace A3 := kB A3 hb; replace A6 := kB A6 hb; replace HB := bB HB hb; clear hb hbox hg; have Pa := Ai.o; have Pc := Aj.o; have Pb := Au.o; have Pd := Av.o; have BL := bc0 A3; have BM := bc1 A3; have BN := bc2 A3; have BO := bc3 A3; have BP := bc4 A3; have BQ := bc5 A3; have BR := bc6 A3; have BS := bc7 A3; have BT := qz A3.o 0; have BU := qz A3.o 1; have BV := qz A3.o 2; have BW := qz A3.o 3; have BX := qz A3.o 4; have BY := qz A3.o 5; have BZ := qz A3.o 6; have C0 := qz A3.o 7) | ((with_reducible refine gq (N := 4) rfl ?_); refine be (N := 4) (cs := #[.int .i64 0, .int .i64 0, .slice none 0 0, .int .i64 0, .int .i64 0, .int .i64 0, .int .i64 0, .int .i64 0]) (t := 32) ?_; intro A5 hg w9 hbox hb; have A4 := Z.m (hbox); have C5 := gW (w := w) HB hg; have ME := C5; have AB := neL A3 hg; have AR := neG A3 hg; have Ac := neL A6 hg; have A0 := neG A6 hg; have Ap := neL Ad hg; have A2 := neG Ad hg; replace A3 := kB A3 hb; replace A6 := kB A6 hb; replace Ad := kB Ad hb; replace HB := bB HB hb; clear hb hbox hg; have MG := AR.o; have Nk := AB.o; have MH := A0.o; have Nl := Ac.o; have MI := A2.o; have Nm := Ap.o; have Ba := bc0 A4; have Bb := bc1 A4; have Bc := bc2 A4; have Bd := bc3 A4; have Be := bc4 A4; have Bf := bc5 A4; have Bg := bc6 A4; have Bh := bc7 A4; have Bq := qz A4.o 0; have Br := qz A4.o 1; have Bs := qz A4.o 2; have Bt := qz A4.o 3; have Bu := qz A4.o 4; have Bv := qz A4.o 5; have Bw := qz A4.o 6; have Bx := qz A4.o 7; have Bi := bc0 A3; have Bj := bc1 A3; have Bk := bc2 A3; have Bl := bc3 A3; have Bm := bc4 A3; have Bn := bc5 A3; have Bo := bc6 A3; have Bp := bc7 A3; have By := qz A3.o 0; have Bz := qz A3.o 1; have BA := qz A3.o 2; have BB := qz A3.o 3; have BC := qz A3.o 4; have BD := qz A3.o 5; have BE := qz A3.o 6; have BF := qz A3.o 7))
 (try simp only [Act.put, q1, q2, q3])
 go_cut [5] (fun v5 wc => ∃ (kq : Nat) (AW : Int) (Ag : Int) (Ah : Int), v5 = .int .i64 AW ∧ Z (spec_maStep.j0 kq AW a0_0 a0_1 l0_2 a0_3 a0_4 a0_5 a0_6 a0_7 a0_0 a0_1 l0_2 a0_3 a0_4 Ag Ah a0_7 = some (r1, r2, r3, r4, r5, r6, r7, r8, r9, r10, r11)) ∧ Z (kq ≤ k) ∧ Z (wc.heap[B0]? = some (.cells #[.int .i64 a0_0, .int .i64 a0_1, (.slice A0_2 l0_2.length c0_2), .int .i64 a0_3, .int .i64 a0_4, .int .i64 a0_5, .int .i64 a0_6, .int .i64 a0_7] 32 (0, 0))) ∧ Z (wc.heap[Ax]? = some (.cells #[.int .i64 0, .int .i64 0, (.slice none 0 0), .int .i64 0, .int .i64 0, .int .i64 0, .int .i64 0, .int .i64 0] 32 (0, 0))) ∧ Z (wc.heap[AQ]? = some (.cells #[.int .i64 0, .int .i64 0, .int .i64 0] 52 (0, 0))) ∧ Z (wc.heap[A5]? = some (.cells #[.int .i64 a0_0, .int .i64 a0_1, (.slice A0_2 l0_2.length c0_2), .int .i64 a0_3, .int .i64 a0_4, .int .i64 Ag, .int .i64 Ah, .int .i64 a0_7] 32 (0, 0))) ∧ Z (Below w.heap.size w wc))
 case first =>
  have H := M5.o
  clear M5
  by_cases c15 : a0_7 = 0
  ·rw [if_pos c15] at H
   have AZ := beq_iff_eq.mpr c15
   have C6 := bne_eq_false_iff_eq.mpr c15
   clear c15
   (first | rw [AZ] | (simp only [i64_w, i32_w]; rw [AZ]) | skip)
   have H' := Z.m H
   clear H
   have MJ := AR.o
   have Nn := AB.o
   have MK := A0.o
   have No := Ac.o
   have ML := A2.o
   have Np := Ap.o
   have F4 := bc0 A4
   have F5 := bc1 A4
   have F6 := bc2 A4
   have F7 := bc3 A4
   have F8 := bc4 A4
   have F9 := bc5 A4
   have Fa := bc6 A4
   have Fb := bc7 A4
   have Gr := qz A4.o 0
   have Gs := qz A4.o 1
   have Gt := qz A4.o 2
   have Gu := qz A4.o 3
   have Gv := qz A4.o 4
   have Gw := qz A4.o 5
   have Gx := qz A4.o 6
   have Gy := qz A4.o 7
   go_wp2
   go_meet
   case rel => exact ⟨_, (a0_3), (wrap64 (a0_5 - 1)), (a0_6), (by first | rfl | (simp; done) | (simp [*]; done)), H', ⟨by first | omega | exact Nat.le_refl _⟩, ⟨by refine bK ?_; (iterate 9 refine qF ?_ AB); exact A3.o⟩, ⟨by refine bK ?_; (iterate 9 refine qF ?_ Ac); exact A6.o⟩, ⟨by refine bK ?_; (iterate 9 refine qF ?_ Ap); exact Ad.o⟩, ⟨by refine bK ?_; refine qp (cs := #[iV a0_0, iV a0_1, .slice A0_2 l0_2.length c0_2, iV a0_3, iV a0_4, iV a0_5, iV a0_6, iV a0_7]) ?_ 5 _ rfl; refine bK ?_; apply st8; refine bK ?_; exact A4.o⟩, ⟨vB HB⟩⟩
  ·rw [if_neg c15] at H
   have AZ := beq_eq_false_iff_ne.mpr c15
   have C6 := bne_iff_ne.mpr c15
   (first | rw [AZ] | (simp only [i64_w, i32_w]; rw [AZ]) | skip)
   have H' := Z.m H
   clear H
   have MM := AR.o
   have Nq := AB.o
   have MN := A0.o
   have Nr := Ac.o
   have MO := A2.o
   have Ns := Ap.o
   have Fc := bc0 A4
   have Fd := bc1 A4
   have Fe := bc2 A4
   have Ff := bc3 A4
   have Fg := bc4 A4
   have Fh := bc5 A4
   have Fi := bc6 A4
   have Fj := bc7 A4
   have Gz := qz A4.o 0
   have GA := qz A4.o 1
   have GB := qz A4.o 2
   have GC := qz A4.o 3
   have GD := qz A4.o 4
   have GE := qz A4.o 5
   have GF := qz A4.o 6
   have GG := qz A4.o 7
   have MP := Ai.o
   have Nt := Aj.o
   have MQ := Au.o
   have Nu := Av.o
   have Fk := bc0 A3
   have Fl := bc1 A3
   have Fm := bc2 A3
   have Fn := bc3 A3
   have Fo := bc4 A3
   have Fp := bc5 A3
   have Fq := bc6 A3
   have Fr := bc7 A3
   have GH := qz A3.o 0
   have GI := qz A3.o 1
   have GJ := qz A3.o 2
   have GK := qz A3.o 3
   have GL := qz A3.o 4
   have GM := qz A3.o 5
   have GN := qz A3.o 6
   have GO := qz A3.o 7
   go_wp2
   go_meet
   case rel => exact ⟨_, (a0_4), (a0_5), (wrap64 (a0_6 - 1)), (by first | rfl | (simp; done) | (simp [*]; done)), H', ⟨by first | omega | exact Nat.le_refl _⟩, ⟨by refine bK ?_; (iterate 9 refine qF ?_ AB); exact A3.o⟩, ⟨by refine bK ?_; (iterate 9 refine qF ?_ Ac); exact A6.o⟩, ⟨by refine bK ?_; (iterate 9 refine qF ?_ Ap); exact Ad.o⟩, ⟨by refine bK ?_; refine qp (cs := #[iV a0_0, iV a0_1, .slice A0_2 l0_2.length c0_2, iV a0_3, iV a0_4, iV a0_5, iV a0_6, iV a0_7]) ?_ 6 _ rfl; refine bK ?_; apply st8; refine bK ?_; exact A4.o⟩, ⟨vB HB⟩⟩
 case rest =>
  clear M5
  (try clear Ba); (try clear Bb); (try clear Bc); (try clear Bd); (try clear Be); (try clear Bf); (try clear Bg); (try clear Bh)
  (try clear Bi); (try clear Bj); (try clear Bk); (try clear Bl); (try clear Bm); (try clear Bn); (try clear Bo); (try clear Bp)
  (try clear BL); (try clear BM); (try clear BN); (try clear BO); (try clear BP); (try clear BQ); (try clear BR); (try clear BS)
  (try clear Bq); (try clear Br); (try clear Bs); (try clear Bt); (try clear Bu); (try clear Bv); (try clear Bw); (try clear Bx)
  (try clear By); (try clear Bz); (try clear BA); (try clear BB); (try clear BC); (try clear BD); (try clear BE); (try clear BF)
  (try clear BT); (try clear BU); (try clear BV); (try clear BW); (try clear BX); (try clear BY); (try clear BZ); (try clear C0)
  obtain ⟨kq, AW, Ag, Ah, rfl, HA, PF, A3, A6, Ad, A4, HB⟩ := hcut
  cases kq with
  | zero => exact absurd HA.o (by simp [spec_maStep.j0])
  | succ kj1 =>
   have H := HA.o
   clear HA
   simp only [spec_maStep.j0] at H
   replace H := Option.bind_eq_some_iff.mp H
   obtain ⟨⟨Ay, AA, Az, Am, Ao, An⟩, C1, H⟩ := H
   replace H : (if Ay = 1 then (if (wrap64 (2 * Az)) < a0_1 then (some (Am, Ao, An, a0_3, a0_4, Ag, Ah, 0, Ay, AA, Az)) else (some (Am, Ao, An, a0_3, a0_4, Ag, Ah, 1, Ay, AA, Az))) else (some (Am, Ao, An, a0_3, a0_4, Ag, Ah, 2, Ay, AA, Az))) = some (r1, r2, r3, r4, r5, r6, r7, r8, r9, r10, r11) := H
   have M4 := Z.m C1
   clear C1
   by_cases c28 : Ay = 1
   ·rw [if_pos c28] at H
    have C7 := beq_iff_eq.mpr c28
    have C8 := bne_eq_false_iff_eq.mpr c28
    clear c28
    by_cases c29 : (wrap64 (2 * Az)) < a0_1
    ·rw [if_pos c29] at H
     have C9 := decide_eq_true c29
     clear c29
     simp only [Option.some.injEq, Prod.mk.injEq] at H
     obtain ⟨rfl, rfl, rfl, rfl, rfl, rfl, rfl, rfl, rfl, rfl, rfl⟩ := H
     have MR := Ai.o
     have Nv := Aj.o
     have MS := Au.o
     have Nw := Av.o
     have MT := AB.o
     have Nx := AR.o
     have Fs := bc0 A3
     have Ft := bc1 A3
     have Fu := bc2 A3
     have Fv := bc3 A3
     have Fw := bc4 A3
     have Fx := bc5 A3
     have Fy := bc6 A3
     have Fz := bc7 A3
     have GP := qz A3.o 0
     have GQ := qz A3.o 1
     have GR := qz A3.o 2
     have GS := qz A3.o 3
     have GT := qz A3.o 4
     have GU := qz A3.o 5
     have GV := qz A3.o 6
     have GW := qz A3.o 7
     try go_wp2_with (first | ((with_reducible refine gc (f := 57) rfl ?_); refine gA (some 28) _ #[.agg #[.int .i64 a0_0, .int .i64 a0_1, .slice A0_2 l0_2.length c0_2], .int .i64 AW] ?_ Try.func57; (with_reducible refine (spec_flRun.calls kj1 a0_0 a0_1 _ _ l0_2 AW Ay AA Az Am Ao An _ ?side1 ?side2 M4.o).mono ?_); (case side1 => repeat (first | exact (Kd.C_below B3.o HB.o) | (with_reducible refine Kd.C_alloc ?_ _) | (with_reducible refine Kd.C_drewN ?_ _) | (with_reducible refine Kd.C_drew ?_))); (case side2 => exact B2.o); rintro e PG ⟨F3, rfl, BK, hb⟩; refine ⟨_, rfl, ?_⟩; have At := Z.m (Kd.R_lower BK (below_size (vB HB))); replace A3 := kB A3 hb; replace A6 := kB A6 hb; replace Ad := kB Ad hb; replace A4 := kB A4 hb; replace HB := bB HB hb; (try clear hb); (try clear MF); (try clear hk); (try clear hi); (try clear BK)) | ((with_reducible refine gq (N := 6) rfl ?_); refine be (N := 6) (cs := #[.int .i64 0, .int .i64 0, .int .i64 0]) (t := 52) ?_; intro A8 hg PH hbox hb; have Al := Z.m (hbox); have AX := gW (w := w) HB hg; have BI := AX; have AE := neL A3 hg; have AS := neG A3 hg; have Ae := neL A6 hg; have A1 := neG A6 hg; have Ar := neL Ad hg; have A7 := neG Ad hg; have AG := neL A4 hg; have AI := neG A4 hg; replace At := Z.m (Kd.Rb (vR At) hb); replace A3 := kB A3 hb; replace A6 := kB A6 hb; replace Ad := kB Ad hb; replace A4 := kB A4 hb; replace HB := bB HB hb; clear hb hbox hg) | ((with_reducible refine gq (N := 7) rfl ?_); refine be (N := 7) (cs := #[.int .i64 0, .int .i64 0, .slice none 0 0]) (t := 30) ?_; intro A9 hg BG hbox hb; have Aq := Z.m (hbox); have AY := gW (w := w) HB hg; have BJ := AY; have AF := neL A3 hg; have AT := neG A3 hg; have Af := neL A6 hg; have Ak := neG A6 hg; have As := neL Ad hg; have Aw := neG Ad hg; have AH := neL A4 hg; have AK := neG A4 hg; have AJ := neL Al hg; have AL := neG Al hg; replace At := Z.m (Kd.Rb (vR At) hb); replace A3 := kB A3 hb; replace A6 := kB A6 hb; replace Ad := kB Ad hb; replace A4 := kB A4 hb; replace Al := kB Al hb; replace HB := bB HB hb; clear hb hbox hg; have MU := AS.o; have Ny := AE.o; have MV := A1.o; have Nz := Ae.o; have MW := A7.o; have NA := Ar.o; have MX := AI.o; have NB := AG.o; have MY := AJ.o; have NC := AL.o; have FA := bc0 Al; have FB := bc1 Al; have FC := bc2 Al; have GX := qz Al.o 0; have GY := qz Al.o 1; have GZ := qz Al.o 2; have MZ := AT.o; have ND := AF.o; have N0 := Ak.o; have NE := Af.o; have N1 := Aw.o; have NF := As.o; have N2 := AK.o; have NG := AH.o; have FD := bc0 Aq; have FE := bc1 Aq; have FF := bc2 Aq; have H0 := qz Aq.o 0; have H1 := qz Aq.o 1; have H2 := qz Aq.o 2; obtain ⟨AM, AN, M6⟩ := Kd.R_slice At.o; subst M6; have N3 := A0.o; have NH := Ac.o; have N4 := A2.o; have NI := Ap.o; have FG := bc0 A4; have FH := bc1 A4; have FI := bc2 A4; have FJ := bc3 A4; have FL := bc4 A4; have FM := bc5 A4; have FN := bc6 A4; have FO := bc7 A4; have H3 := qz A4.o 0; have H4 := qz A4.o 1; have H5 := qz A4.o 2; have H6 := qz A4.o 3; have H7 := qz A4.o 4; have H8 := qz A4.o 5; have H9 := qz A4.o 6; have Ha := qz A4.o 7; have FP := bc0 A3; have FQ := bc1 A3; have FR := bc2 A3; have FS := bc3 A3; have FT := bc4 A3; have FU := bc5 A3; have FV := bc6 A3; have FW := bc7 A3; have Hb := qz A3.o 0; have Hc := qz A3.o 1; have Hd := qz A3.o 2; have He := qz A3.o 3; have Hf := qz A3.o 4; have Hg := qz A3.o 5; have Hh := qz A3.o 6; have Hi := qz A3.o 7))
     have n0_ : Z (Kd.R k88 88 ((((((((((((BG.setCell ⟨A8, 0, none⟩ (.int .i64 Ay)).setCell ⟨A8, 1, none⟩ (.int .i64 AA)).setCell ⟨A8, 2, none⟩ (.int .i64 Az)).setCell ⟨A9, 0, none⟩ (.int .i64 Am)).setCell ⟨A9, 1, none⟩ (.int .i64 Ao)).setCell ⟨A9, 2, none⟩ (.slice AM An.length AN)).setCell ⟨A5, 0, none⟩ (.int .i64 Am)).setCell ⟨A5, 1, none⟩ (.int .i64 Ao)).setCell ⟨A5, 2, none⟩ (.slice AM An.length AN)).setCell ⟨A5, 7, none⟩ (.int .i64 2)).setCell ⟨A5, 7, none⟩ (.int .i64 1)).setCell ⟨A5, 7, none⟩ (.int .i64 0)) w.heap.size (fun _ => True) (.slice AM An.length AN) An) := ⟨by refine rK ?_; exact Kd.Rm (rf (rf (rf (rf (rf (rf (rf1 (rf1 (rf1 (rf2 (rf2 (rf2 (Kd.Ry (Kd.Ry (Kd.Ry At.o Al.o (by decide)) Aq.o (by decide)) A4.o (by decide)))))))))))))) (fun _ hk => trivial)⟩
     have n1_ : Z (((((((((((((BG.setCell ⟨A8, 0, none⟩ (.int .i64 Ay)).setCell ⟨A8, 1, none⟩ (.int .i64 AA)).setCell ⟨A8, 2, none⟩ (.int .i64 Az)).setCell ⟨A9, 0, none⟩ (.int .i64 Am)).setCell ⟨A9, 1, none⟩ (.int .i64 Ao)).setCell ⟨A9, 2, none⟩ (.slice AM An.length AN)).setCell ⟨A5, 0, none⟩ (.int .i64 Am)).setCell ⟨A5, 1, none⟩ (.int .i64 Ao)).setCell ⟨A5, 2, none⟩ (.slice AM An.length AN)).setCell ⟨A5, 7, none⟩ (.int .i64 2)).setCell ⟨A5, 7, none⟩ (.int .i64 1)).setCell ⟨A5, 7, none⟩ (.int .i64 0)).heap[B0]? = some (.cells #[.int .i64 a0_0, .int .i64 a0_1, .slice A0_2 l0_2.length c0_2, .int .i64 a0_3, .int .i64 a0_4, .int .i64 a0_5, .int .i64 a0_6, .int .i64 a0_7] 32 (0, 0))) := ⟨by refine bK ?_; (iterate 6 refine qF ?_ AB); (iterate 3 refine qF ?_ AF); (iterate 3 refine qF ?_ AE); exact A3.o⟩
     have n2_ : Z (((((((((((((BG.setCell ⟨A8, 0, none⟩ (.int .i64 Ay)).setCell ⟨A8, 1, none⟩ (.int .i64 AA)).setCell ⟨A8, 2, none⟩ (.int .i64 Az)).setCell ⟨A9, 0, none⟩ (.int .i64 Am)).setCell ⟨A9, 1, none⟩ (.int .i64 Ao)).setCell ⟨A9, 2, none⟩ (.slice AM An.length AN)).setCell ⟨A5, 0, none⟩ (.int .i64 Am)).setCell ⟨A5, 1, none⟩ (.int .i64 Ao)).setCell ⟨A5, 2, none⟩ (.slice AM An.length AN)).setCell ⟨A5, 7, none⟩ (.int .i64 2)).setCell ⟨A5, 7, none⟩ (.int .i64 1)).setCell ⟨A5, 7, none⟩ (.int .i64 0)).heap[Ax]? = some (.cells #[.int .i64 0, .int .i64 0, .slice none 0 0, .int .i64 0, .int .i64 0, .int .i64 0, .int .i64 0, .int .i64 0] 32 (0, 0))) := ⟨by refine bK ?_; (iterate 6 refine qF ?_ Ac); (iterate 3 refine qF ?_ Af); (iterate 3 refine qF ?_ Ae); exact A6.o⟩
     have n3_ : Z (((((((((((((BG.setCell ⟨A8, 0, none⟩ (.int .i64 Ay)).setCell ⟨A8, 1, none⟩ (.int .i64 AA)).setCell ⟨A8, 2, none⟩ (.int .i64 Az)).setCell ⟨A9, 0, none⟩ (.int .i64 Am)).setCell ⟨A9, 1, none⟩ (.int .i64 Ao)).setCell ⟨A9, 2, none⟩ (.slice AM An.length AN)).setCell ⟨A5, 0, none⟩ (.int .i64 Am)).setCell ⟨A5, 1, none⟩ (.int .i64 Ao)).setCell ⟨A5, 2, none⟩ (.slice AM An.length AN)).setCell ⟨A5, 7, none⟩ (.int .i64 2)).setCell ⟨A5, 7, none⟩ (.int .i64 1)).setCell ⟨A5, 7, none⟩ (.int .i64 0)).heap[AQ]? = some (.cells #[.int .i64 0, .int .i64 0, .int .i64 0] 52 (0, 0))) := ⟨by refine bK ?_; (iterate 6 refine qF ?_ Ap); (iterate 3 refine qF ?_ As); (iterate 3 refine qF ?_ Ar); exact Ad.o⟩
     have n4_ : Z (((((((((((((BG.setCell ⟨A8, 0, none⟩ (.int .i64 Ay)).setCell ⟨A8, 1, none⟩ (.int .i64 AA)).setCell ⟨A8, 2, none⟩ (.int .i64 Az)).setCell ⟨A9, 0, none⟩ (.int .i64 Am)).setCell ⟨A9, 1, none⟩ (.int .i64 Ao)).setCell ⟨A9, 2, none⟩ (.slice AM An.length AN)).setCell ⟨A5, 0, none⟩ (.int .i64 Am)).setCell ⟨A5, 1, none⟩ (.int .i64 Ao)).setCell ⟨A5, 2, none⟩ (.slice AM An.length AN)).setCell ⟨A5, 7, none⟩ (.int .i64 2)).setCell ⟨A5, 7, none⟩ (.int .i64 1)).setCell ⟨A5, 7, none⟩ (.int .i64 0)).heap[A5]? = some (.cells #[.int .i64 Am, .int .i64 Ao, .slice AM An.length AN, .int .i64 a0_3, .int .i64 a0_4, .int .i64 Ag, .int .i64 Ah, .int .i64 0] 32 (0, 0))) := ⟨by refine bK ?_; refine qp (cs := #[iV Am, iV Ao, .slice AM An.length AN, iV a0_3, iV a0_4, iV Ag, iV Ah, iV 1]) ?_ 7 _ rfl; refine bK ?_; refine qp (cs := #[iV Am, iV Ao, .slice AM An.length AN, iV a0_3, iV a0_4, iV Ag, iV Ah, iV 2]) ?_ 7 _ rfl; refine bK ?_; refine qp (cs := #[iV Am, iV Ao, .slice AM An.length AN, iV a0_3, iV a0_4, iV Ag, iV Ah, iV a0_7]) ?_ 7 _ rfl; refine bK ?_; refine qp (cs := #[iV Am, iV Ao, .slice A0_2 l0_2.length c0_2, iV a0_3, iV a0_4, iV Ag, iV Ah, iV a0_7]) ?_ 2 _ rfl; refine bK ?_; refine qp (cs := #[iV Am, iV a0_1, .slice A0_2 l0_2.length c0_2, iV a0_3, iV a0_4, iV Ag, iV Ah, iV a0_7]) ?_ 1 _ rfl; refine bK ?_; refine qp (cs := #[iV a0_0, iV a0_1, .slice A0_2 l0_2.length c0_2, iV a0_3, iV a0_4, iV Ag, iV Ah, iV a0_7]) ?_ 0 _ rfl; refine bK ?_; (iterate 3 refine qF ?_ AH); (iterate 3 refine qF ?_ AG); exact A4.o⟩
     have n5_ : Z (((((((((((((BG.setCell ⟨A8, 0, none⟩ (.int .i64 Ay)).setCell ⟨A8, 1, none⟩ (.int .i64 AA)).setCell ⟨A8, 2, none⟩ (.int .i64 Az)).setCell ⟨A9, 0, none⟩ (.int .i64 Am)).setCell ⟨A9, 1, none⟩ (.int .i64 Ao)).setCell ⟨A9, 2, none⟩ (.slice AM An.length AN)).setCell ⟨A5, 0, none⟩ (.int .i64 Am)).setCell ⟨A5, 1, none⟩ (.int .i64 Ao)).setCell ⟨A5, 2, none⟩ (.slice AM An.length AN)).setCell ⟨A5, 7, none⟩ (.int .i64 2)).setCell ⟨A5, 7, none⟩ (.int .i64 1)).setCell ⟨A5, 7, none⟩ (.int .i64 0)).heap[A8]? = some (.cells #[.int .i64 Ay, .int .i64 AA, .int .i64 Az] 52 (0, 0))) := ⟨by refine bK ?_; (iterate 6 refine qF ?_ AI); (iterate 3 refine qF ?_ AJ); apply st3; refine bK ?_; exact Al.o⟩
     have n6_ : Z (((((((((((((BG.setCell ⟨A8, 0, none⟩ (.int .i64 Ay)).setCell ⟨A8, 1, none⟩ (.int .i64 AA)).setCell ⟨A8, 2, none⟩ (.int .i64 Az)).setCell ⟨A9, 0, none⟩ (.int .i64 Am)).setCell ⟨A9, 1, none⟩ (.int .i64 Ao)).setCell ⟨A9, 2, none⟩ (.slice AM An.length AN)).setCell ⟨A5, 0, none⟩ (.int .i64 Am)).setCell ⟨A5, 1, none⟩ (.int .i64 Ao)).setCell ⟨A5, 2, none⟩ (.slice AM An.length AN)).setCell ⟨A5, 7, none⟩ (.int .i64 2)).setCell ⟨A5, 7, none⟩ (.int .i64 1)).setCell ⟨A5, 7, none⟩ (.int .i64 0)).heap[A9]? = some (.cells #[.int .i64 Am, .int .i64 Ao, .slice AM An.length AN] 30 (0, 0))) := ⟨by refine bK ?_; (iterate 6 refine qF ?_ AK); apply st3; refine bK ?_; (iterate 3 refine qF ?_ AL); exact Aq.o⟩
     have n7_ : Z (Below w.heap.size w ((((((((((((BG.setCell ⟨A8, 0, none⟩ (.int .i64 Ay)).setCell ⟨A8, 1, none⟩ (.int .i64 AA)).setCell ⟨A8, 2, none⟩ (.int .i64 Az)).setCell ⟨A9, 0, none⟩ (.int .i64 Am)).setCell ⟨A9, 1, none⟩ (.int .i64 Ao)).setCell ⟨A9, 2, none⟩ (.slice AM An.length AN)).setCell ⟨A5, 0, none⟩ (.int .i64 Am)).setCell ⟨A5, 1, none⟩ (.int .i64 Ao)).setCell ⟨A5, 2, none⟩ (.slice AM An.length AN)).setCell ⟨A5, 7, none⟩ (.int .i64 2)).setCell ⟨A5, 7, none⟩ (.int .i64 1)).setCell ⟨A5, 7, none⟩ (.int .i64 0))) := ⟨vB HB⟩
     (try clear At); (try clear A3); (try clear A6); (try clear Ad); (try clear A4); (try clear Al); (try clear Aq); (try clear HB)
     generalize ((((((((((((BG.setCell ⟨A8, 0, none⟩ (.int .i64 Ay)).setCell ⟨A8, 1, none⟩ (.int .i64 AA)).setCell ⟨A8, 2, none⟩ (.int .i64 Az)).setCell ⟨A9, 0, none⟩ (.int .i64 Am)).setCell ⟨A9, 1, none⟩ (.int .i64 Ao)).setCell ⟨A9, 2, none⟩ (.slice AM An.length AN)).setCell ⟨A5, 0, none⟩ (.int .i64 Am)).setCell ⟨A5, 1, none⟩ (.int .i64 Ao)).setCell ⟨A5, 2, none⟩ (.slice AM An.length AN)).setCell ⟨A5, 7, none⟩ (.int .i64 2)).setCell ⟨A5, 7, none⟩ (.int .i64 1)).setCell ⟨A5, 7, none⟩ (.int .i64 0)) = PD at n0_ n1_ n2_ n3_ n4_ n5_ n6_ n7_ ⊢
     have At := n0_
     have A3 := n1_
     have A6 := n2_
     have Ad := n3_
     have A4 := n4_
     have Al := n5_
     have Aq := n6_
     have HB := n7_
     clear n0_ n1_ n2_ n3_ n4_ n5_ n6_ n7_
     replace At := Z.m (Kd.R_drew At.o)
     replace A3 := Z.m (blk_drew A3.o)
     replace A6 := Z.m (blk_drew A6.o)
     replace Ad := Z.m (blk_drew Ad.o)
     replace A4 := Z.m (blk_drew A4.o)
     replace Al := Z.m (blk_drew Al.o)
     replace Aq := Z.m (blk_drew Aq.o)
     replace HB := Z.m (qd HB.o)
     refine start_ (n := 4) (S := fun w' => w'.cell? ⟨A5, 0, none⟩ = some (.int .i64 Am) ∧ w'.cell? ⟨A5, 1, none⟩ = some (.int .i64 Ao) ∧ w'.cell? ⟨A5, 2, none⟩ = some (.slice AM An.length AN) ∧ w'.cell? ⟨A5, 3, none⟩ = some (.int .i64 a0_3) ∧ w'.cell? ⟨A5, 4, none⟩ = some (.int .i64 a0_4) ∧ w'.cell? ⟨A5, 5, none⟩ = some (.int .i64 Ag) ∧ w'.cell? ⟨A5, 6, none⟩ = some (.int .i64 Ah) ∧ w'.cell? ⟨A5, 7, none⟩ = some (.int .i64 0) ∧ w'.cell? ⟨A8, 0, none⟩ = some (.int .i64 Ay) ∧ w'.cell? ⟨A8, 1, none⟩ = some (.int .i64 AA) ∧ w'.cell? ⟨A8, 2, none⟩ = some (.int .i64 Az)) (ds := []) #[false, false, false, false] (by kernel_rfl) rfl rfl ⟨(ql A4.o 0).trans rfl, (ql A4.o 1).trans rfl, (ql A4.o 2).trans rfl, (ql A4.o 3).trans rfl, (ql A4.o 4).trans rfl, (ql A4.o 5).trans rfl, (ql A4.o 6).trans rfl, (ql A4.o 7).trans rfl, (ql Al.o 0).trans rfl, (ql Al.o 1).trans rfl, (ql Al.o 2).trans rfl⟩ (fun hHeld => ?_)
     generalize PD.drew = B7 at At A3 A6 Ad A4 Al Aq HB hHeld ⊢
     refine take_ (i := 0) (N := some 46) (v := ?_) (a' := ?_) #[true, false, false, false] rfl rfl (by kernel_rfl) (fun _ _ _ h => h) (Or.inl ⟨by rfl, ?_⟩) hHeld ?_ ?_
     rotate_left
     ·rintro w' ⟨s0, s1, s2, s3, s4, s5, s6, s7, s8, s9, s10⟩
      go_simp
      with_reducible rfl
     rotate_left
     ·simp only [Act.put, q1, q2, q3, i64_w, i32_w]
      rfl
     refine take_ (i := 1) (N := some 47) (v := ?_) (a' := ?_) #[true, true, false, false] rfl rfl (by kernel_rfl) (fun _ _ _ h => h) (Or.inl ⟨by rfl, ?_⟩) hHeld ?_ ?_
     rotate_left
     ·rintro w' ⟨s0, s1, s2, s3, s4, s5, s6, s7, s8, s9, s10⟩
      go_simp
      with_reducible rfl
     rotate_left
     ·simp only [Act.put, q1, q2, q3, i64_w, i32_w]
      rfl
     refine one_ (i := 2) (N := none) #[true, true, true, false] rfl rfl (by kernel_rfl) (by decide) (fun K hK => ?_)
     have Pe : B7.cell? ⟨Ax, 0, none⟩ = some (.int .i64 0) := (ql A6.o 0).trans rfl
     have hfs55 := qz A6.o 0
     have Ks := Ai.o
     have Kt := Ab.o
     have Ku := A0.o
     have Kv := A1.o
     have Kw := Ak.o
     have HP := Aj.o
     have HQ := Aa.o
     have HR := Ac.o
     have HS := Ae.o
     have HT := Af.o
     have Pf : B7.cell? ⟨Ax, 1, none⟩ = some (.int .i64 0) := (ql A6.o 1).trans rfl
     have hfs56 := qz A6.o 1
     have Kx := Ai.o
     have Ky := Ab.o
     have Kz := A0.o
     have KA := A1.o
     have KB := Ak.o
     have HU := Aj.o
     have HV := Aa.o
     have HW := Ac.o
     have HX := Ae.o
     have HY := Af.o
     have Pg : B7.cell? ⟨Ax, 2, none⟩ = some (.slice none 0 0) := (ql A6.o 2).trans rfl
     have hfs57 := qz A6.o 2
     have KC := Ai.o
     have KD := Ab.o
     have KE := A0.o
     have KF := A1.o
     have KG := Ak.o
     have HZ := Aj.o
     have J0 := Aa.o
     have J1 := Ac.o
     have J2 := Ae.o
     have J3 := Af.o
     have Ph : B7.cell? ⟨Ax, 3, none⟩ = some (.int .i64 0) := (ql A6.o 3).trans rfl
     have hfs58 := qz A6.o 3
     have KH := Ai.o
     have KI := Ab.o
     have KJ := A0.o
     have KK := A1.o
     have KL := Ak.o
     have J4 := Aj.o
     have J5 := Aa.o
     have J6 := Ac.o
     have J7 := Ae.o
     have J8 := Af.o
     have Pi : B7.cell? ⟨Ax, 4, none⟩ = some (.int .i64 0) := (ql A6.o 4).trans rfl
     have hfs59 := qz A6.o 4
     have KM := Ai.o
     have KN := Ab.o
     have KO := A0.o
     have KP := A1.o
     have KQ := Ak.o
     have J9 := Aj.o
     have Ja := Aa.o
     have Jb := Ac.o
     have Jc := Ae.o
     have Jd := Af.o
     have Pj : B7.cell? ⟨Ax, 5, none⟩ = some (.int .i64 0) := (ql A6.o 5).trans rfl
     have hfs60 := qz A6.o 5
     have KR := Ai.o
     have KS := Ab.o
     have KT := A0.o
     have KU := A1.o
     have KV := Ak.o
     have Je := Aj.o
     have Jf := Aa.o
     have Jg := Ac.o
     have Jh := Ae.o
     have Ji := Af.o
     have Pk : B7.cell? ⟨Ax, 6, none⟩ = some (.int .i64 0) := (ql A6.o 6).trans rfl
     have hfs61 := qz A6.o 6
     have KW := Ai.o
     have KX := Ab.o
     have KY := A0.o
     have KZ := A1.o
     have L0 := Ak.o
     have Jj := Aj.o
     have Jk := Aa.o
     have Jl := Ac.o
     have Jm := Ae.o
     have Jn := Af.o
     have Pl : B7.cell? ⟨Ax, 7, none⟩ = some (.int .i64 0) := (ql A6.o 7).trans rfl
     have hfs62 := qz A6.o 7
     have L1 := Ai.o
     have L2 := Ab.o
     have L3 := A0.o
     have L4 := A1.o
     have L5 := Ak.o
     have Jo := Aj.o
     have Jp := Aa.o
     have Jq := Ac.o
     have Jr := Ae.o
     have Js := Af.o
     refine skip_ (w1 := ?_) ?hwx ?hnx ?_ ?_; (case hwx => rfl); (case hnx => rfl)
     rotate_left
     ·go_simp
      rfl
     refine hK.out _ _ ⟨(cx A0.o ((cx A0.o ((cx A0.o ((cx A0.o ((cx A0.o ((cx A0.o ((cx A0.o ((cx A0.o (hHeld.1)))))))))))))))), (cx A0.o ((cx A0.o ((cx A0.o ((cx A0.o ((cx A0.o ((cx A0.o ((cx A0.o ((cx A0.o (hHeld.2.1)))))))))))))))), (cx A0.o ((cx A0.o ((cx A0.o ((cx A0.o ((cx A0.o ((cx A0.o ((cx A0.o ((cx A0.o (hHeld.2.2.1)))))))))))))))), (cx A0.o ((cx A0.o ((cx A0.o ((cx A0.o ((cx A0.o ((cx A0.o ((cx A0.o ((cx A0.o (hHeld.2.2.2.1)))))))))))))))), (cx A0.o ((cx A0.o ((cx A0.o ((cx A0.o ((cx A0.o ((cx A0.o ((cx A0.o ((cx A0.o (hHeld.2.2.2.2.1)))))))))))))))), (cx A0.o ((cx A0.o ((cx A0.o ((cx A0.o ((cx A0.o ((cx A0.o ((cx A0.o ((cx A0.o (hHeld.2.2.2.2.2.1)))))))))))))))), (cx A0.o ((cx A0.o ((cx A0.o ((cx A0.o ((cx A0.o ((cx A0.o ((cx A0.o ((cx A0.o (hHeld.2.2.2.2.2.2.1)))))))))))))))), (cx A0.o ((cx A0.o ((cx A0.o ((cx A0.o ((cx A0.o ((cx A0.o ((cx A0.o ((cx A0.o (hHeld.2.2.2.2.2.2.2.1)))))))))))))))), (cx A1.o ((cx A1.o ((cx A1.o ((cx A1.o ((cx A1.o ((cx A1.o ((cx A1.o ((cx A1.o (hHeld.2.2.2.2.2.2.2.2.1)))))))))))))))), (cx A1.o ((cx A1.o ((cx A1.o ((cx A1.o ((cx A1.o ((cx A1.o ((cx A1.o ((cx A1.o (hHeld.2.2.2.2.2.2.2.2.2.1)))))))))))))))), (cx A1.o ((cx A1.o ((cx A1.o ((cx A1.o ((cx A1.o ((cx A1.o ((cx A1.o ((cx A1.o (hHeld.2.2.2.2.2.2.2.2.2.2))))))))))))))))⟩ (fun hHeld => ?_)
     clear hK K
     refine one_ (i := 3) (N := none) #[true, true, true, true] rfl rfl (by kernel_rfl) (by decide) (fun K hK => ?_)
     have Pm : B7.cell? ⟨AQ, 0, none⟩ = some (.int .i64 0) := (ql Ad.o 0).trans rfl
     have hfs63 := qz Ad.o 0
     have L6 := Au.o
     have L7 := Aa.o
     have L8 := A2.o
     have L9 := A7.o
     have La := Aw.o
     have Jt := Av.o
     have Ju := Ab.o
     have Jv := Ap.o
     have Jw := Ar.o
     have Jx := As.o
     have Pn : B7.cell? ⟨AQ, 1, none⟩ = some (.int .i64 0) := (ql Ad.o 1).trans rfl
     have hfs64 := qz Ad.o 1
     have Lb := Au.o
     have Lc := Aa.o
     have Ld := A2.o
     have Le := A7.o
     have Lf := Aw.o
     have Jy := Av.o
     have Jz := Ab.o
     have JA := Ap.o
     have JB := Ar.o
     have JC := As.o
     have Po : B7.cell? ⟨AQ, 2, none⟩ = some (.int .i64 0) := (ql Ad.o 2).trans rfl
     have hfs65 := qz Ad.o 2
     have Lg := Au.o
     have Lh := Aa.o
     have Li := A2.o
     have Lj := A7.o
     have Lk := Aw.o
     have JD := Av.o
     have JE := Ab.o
     have JF := Ap.o
     have JG := Ar.o
     have JH := As.o
     refine skip_ (w1 := ?_) ?hwx ?hnx ?_ ?_; (case hwx => rfl); (case hnx => rfl)
     rotate_left
     ·go_simp
      rfl
     refine hK.out _ _ ⟨(cx A2.o ((cx A2.o ((cx A2.o (hHeld.1)))))), (cx A2.o ((cx A2.o ((cx A2.o (hHeld.2.1)))))), (cx A2.o ((cx A2.o ((cx A2.o (hHeld.2.2.1)))))), (cx A2.o ((cx A2.o ((cx A2.o (hHeld.2.2.2.1)))))), (cx A2.o ((cx A2.o ((cx A2.o (hHeld.2.2.2.2.1)))))), (cx A2.o ((cx A2.o ((cx A2.o (hHeld.2.2.2.2.2.1)))))), (cx A2.o ((cx A2.o ((cx A2.o (hHeld.2.2.2.2.2.2.1)))))), (cx A2.o ((cx A2.o ((cx A2.o (hHeld.2.2.2.2.2.2.2.1)))))), (cx A7.o ((cx A7.o ((cx A7.o (hHeld.2.2.2.2.2.2.2.2.1)))))), (cx A7.o ((cx A7.o ((cx A7.o (hHeld.2.2.2.2.2.2.2.2.2.1)))))), (cx A7.o ((cx A7.o ((cx A7.o (hHeld.2.2.2.2.2.2.2.2.2.2))))))⟩ (fun hHeld => ?_)
     clear hK K
     refine done_ (by kernel_rfl) ?_
     try go_wp2
     refine bodyPost_ret (results_cc rfl _ _ Ax AQ 32 52 #[.int .i64 Am, .int .i64 Ao, .slice AM An.length AN, .int .i64 a0_3, .int .i64 a0_4, .int .i64 Ag, .int .i64 Ah, .int .i64 0] #[.int .i64 Ay, .int .i64 AA, .int .i64 Az] (0, 0) (0, 0) _ _ rfl (by refine bK ?_; (iterate 3 refine qF ?_ Aa); apply st8; refine bK ?_; exact A6.o) Try.underlying32 rfl (by kernel_rfl) rfl (by refine bK ?_; apply st3; refine bK ?_; (iterate 8 refine qF ?_ Ab); exact Ad.o) Try.underlying52 rfl (by kernel_rfl)) rfl ?_
     exact ⟨_, by first | rfl | (simp [eN, eS] <;> rfl) | (simp [*, eN, eS] <;> rfl), by refine rK ?_; exact Kd.Rm (rf (rf (rf (rf1 (rf1 (rf1 (rf1 (rf1 (rf1 (rf1 (rf1 (Kd.Ry (Kd.Ry At.o A6.o (by decide)) Ad.o (by decide))))))))))))) (fun _ hk => trivial), vB HB⟩
    ·rw [if_neg c29] at H
     have C9 := decide_eq_false c29
     clear c29
     simp only [Option.some.injEq, Prod.mk.injEq] at H
     obtain ⟨rfl, rfl, rfl, rfl, rfl, rfl, rfl, rfl, rfl, rfl, rfl⟩ := H
     have N5 := Ai.o
     have NJ := Aj.o
     have N6 := Au.o
     have NK := Av.o
     have N7 := AB.o
     have NL := AR.o
     have FX := bc0 A3
     have FY := bc1 A3
     have FZ := bc2 A3
     have G0 := bc3 A3
     have G1 := bc4 A3
     have G2 := bc5 A3
     have G3 := bc6 A3
     have G4 := bc7 A3
     have Hj := qz A3.o 0
     have Hk := qz A3.o 1
     have Hl := qz A3.o 2
     have Hm := qz A3.o 3
     have Hn := qz A3.o 4
     have Ho := qz A3.o 5
     have Hp := qz A3.o 6
     have Hq := qz A3.o 7
     try go_wp2_with (first | ((with_reducible refine gc (f := 57) rfl ?_); refine gA (some 28) _ #[.agg #[.int .i64 a0_0, .int .i64 a0_1, .slice A0_2 l0_2.length c0_2], .int .i64 AW] ?_ Try.func57; (with_reducible refine (spec_flRun.calls kj1 a0_0 a0_1 _ _ l0_2 AW Ay AA Az Am Ao An _ ?side1 ?side2 M4.o).mono ?_); (case side1 => repeat (first | exact (Kd.C_below B3.o HB.o) | (with_reducible refine Kd.C_alloc ?_ _) | (with_reducible refine Kd.C_drewN ?_ _) | (with_reducible refine Kd.C_drew ?_))); (case side2 => exact B2.o); rintro e PI ⟨F3, rfl, BK, hb⟩; refine ⟨_, rfl, ?_⟩; have At := Z.m (Kd.R_lower BK (below_size (vB HB))); replace A3 := kB A3 hb; replace A6 := kB A6 hb; replace Ad := kB Ad hb; replace A4 := kB A4 hb; replace HB := bB HB hb; (try clear hb); (try clear MF); (try clear hk); (try clear hi); (try clear BK)) | ((with_reducible refine gq (N := 6) rfl ?_); refine be (N := 6) (cs := #[.int .i64 0, .int .i64 0, .int .i64 0]) (t := 52) ?_; intro A8 hg PJ hbox hb; have Al := Z.m (hbox); have AX := gW (w := w) HB hg; have BI := AX; have AE := neL A3 hg; have AS := neG A3 hg; have Ae := neL A6 hg; have A1 := neG A6 hg; have Ar := neL Ad hg; have A7 := neG Ad hg; have AG := neL A4 hg; have AI := neG A4 hg; replace At := Z.m (Kd.Rb (vR At) hb); replace A3 := kB A3 hb; replace A6 := kB A6 hb; replace Ad := kB Ad hb; replace A4 := kB A4 hb; replace HB := bB HB hb; clear hb hbox hg) | ((with_reducible refine gq (N := 7) rfl ?_); refine be (N := 7) (cs := #[.int .i64 0, .int .i64 0, .slice none 0 0]) (t := 30) ?_; intro A9 hg BH hbox hb; have Aq := Z.m (hbox); have AY := gW (w := w) HB hg; have BJ := AY; have AF := neL A3 hg; have AT := neG A3 hg; have Af := neL A6 hg; have Ak := neG A6 hg; have As := neL Ad hg; have Aw := neG Ad hg; have AH := neL A4 hg; have AK := neG A4 hg; have AJ := neL Al hg; have AL := neG Al hg; replace At := Z.m (Kd.Rb (vR At) hb); replace A3 := kB A3 hb; replace A6 := kB A6 hb; replace Ad := kB Ad hb; replace A4 := kB A4 hb; replace Al := kB Al hb; replace HB := bB HB hb; clear hb hbox hg; have N8 := AS.o; have NM := AE.o; have N9 := A1.o; have NN := Ae.o; have Na := A7.o; have NO := Ar.o; have Nb := AI.o; have NP := AG.o; have Nc := AJ.o; have NQ := AL.o; have G5 := bc0 Al; have G6 := bc1 Al; have G7 := bc2 Al; have Hr := qz Al.o 0; have Hs := qz Al.o 1; have Ht := qz Al.o 2; have Nd := AT.o; have NR := AF.o; have Nf := Ak.o; have NS := Af.o; have Ng := Aw.o; have NT := As.o; have Nh := AK.o; have NU := AH.o; have G8 := bc0 Aq; have G9 := bc1 Aq; have Ga := bc2 Aq; have Hu := qz Aq.o 0; have Hv := qz Aq.o 1; have Hw := qz Aq.o 2; obtain ⟨AO, AP, M7⟩ := Kd.R_slice At.o; subst M7; have Ni := A0.o; have NV := Ac.o; have Nj := A2.o; have NW := Ap.o; have Gb := bc0 A4; have Gc := bc1 A4; have Gd := bc2 A4; have Ge := bc3 A4; have Gf := bc4 A4; have Gg := bc5 A4; have Gh := bc6 A4; have Gi := bc7 A4; have Hx := qz A4.o 0; have Hy := qz A4.o 1; have Hz := qz A4.o 2; have HC := qz A4.o 3; have HD := qz A4.o 4; have HE := qz A4.o 5; have HF := qz A4.o 6; have HG := qz A4.o 7; have Gj := bc0 A3; have Gk := bc1 A3; have Gl := bc2 A3; have Gm := bc3 A3; have Gn := bc4 A3; have Go := bc5 A3; have Gp := bc6 A3; have Gq := bc7 A3; have HH := qz A3.o 0; have HI := qz A3.o 1; have HJ := qz A3.o 2; have HK := qz A3.o 3; have HL := qz A3.o 4; have HM := qz A3.o 5; have HN := qz A3.o 6; have HO := qz A3.o 7))
     have n0_ : Z (Kd.R k88 88 (((((((((((BH.setCell ⟨A8, 0, none⟩ (.int .i64 Ay)).setCell ⟨A8, 1, none⟩ (.int .i64 AA)).setCell ⟨A8, 2, none⟩ (.int .i64 Az)).setCell ⟨A9, 0, none⟩ (.int .i64 Am)).setCell ⟨A9, 1, none⟩ (.int .i64 Ao)).setCell ⟨A9, 2, none⟩ (.slice AO An.length AP)).setCell ⟨A5, 0, none⟩ (.int .i64 Am)).setCell ⟨A5, 1, none⟩ (.int .i64 Ao)).setCell ⟨A5, 2, none⟩ (.slice AO An.length AP)).setCell ⟨A5, 7, none⟩ (.int .i64 2)).setCell ⟨A5, 7, none⟩ (.int .i64 1)) w.heap.size (fun _ => True) (.slice AO An.length AP) An) := ⟨by refine rK ?_; exact Kd.Rm (rf (rf (rf (rf (rf (rf1 (rf1 (rf1 (rf2 (rf2 (rf2 (Kd.Ry (Kd.Ry (Kd.Ry At.o Al.o (by decide)) Aq.o (by decide)) A4.o (by decide))))))))))))) (fun _ hk => trivial)⟩
     have n1_ : Z ((((((((((((BH.setCell ⟨A8, 0, none⟩ (.int .i64 Ay)).setCell ⟨A8, 1, none⟩ (.int .i64 AA)).setCell ⟨A8, 2, none⟩ (.int .i64 Az)).setCell ⟨A9, 0, none⟩ (.int .i64 Am)).setCell ⟨A9, 1, none⟩ (.int .i64 Ao)).setCell ⟨A9, 2, none⟩ (.slice AO An.length AP)).setCell ⟨A5, 0, none⟩ (.int .i64 Am)).setCell ⟨A5, 1, none⟩ (.int .i64 Ao)).setCell ⟨A5, 2, none⟩ (.slice AO An.length AP)).setCell ⟨A5, 7, none⟩ (.int .i64 2)).setCell ⟨A5, 7, none⟩ (.int .i64 1)).heap[B0]? = some (.cells #[.int .i64 a0_0, .int .i64 a0_1, .slice A0_2 l0_2.length c0_2, .int .i64 a0_3, .int .i64 a0_4, .int .i64 a0_5, .int .i64 a0_6, .int .i64 a0_7] 32 (0, 0))) := ⟨by refine bK ?_; (iterate 5 refine qF ?_ AB); (iterate 3 refine qF ?_ AF); (iterate 3 refine qF ?_ AE); exact A3.o⟩
     have n2_ : Z ((((((((((((BH.setCell ⟨A8, 0, none⟩ (.int .i64 Ay)).setCell ⟨A8, 1, none⟩ (.int .i64 AA)).setCell ⟨A8, 2, none⟩ (.int .i64 Az)).setCell ⟨A9, 0, none⟩ (.int .i64 Am)).setCell ⟨A9, 1, none⟩ (.int .i64 Ao)).setCell ⟨A9, 2, none⟩ (.slice AO An.length AP)).setCell ⟨A5, 0, none⟩ (.int .i64 Am)).setCell ⟨A5, 1, none⟩ (.int .i64 Ao)).setCell ⟨A5, 2, none⟩ (.slice AO An.length AP)).setCell ⟨A5, 7, none⟩ (.int .i64 2)).setCell ⟨A5, 7, none⟩ (.int .i64 1)).heap[Ax]? = some (.cells #[.int .i64 0, .int .i64 0, .slice none 0 0, .int .i64 0, .int .i64 0, .int .i64 0, .int .i64 0, .int .i64 0] 32 (0, 0))) := ⟨by refine bK ?_; (iterate 5 refine qF ?_ Ac); (iterate 3 refine qF ?_ Af); (iterate 3 refine qF ?_ Ae); exact A6.o⟩
     have n3_ : Z ((((((((((((BH.setCell ⟨A8, 0, none⟩ (.int .i64 Ay)).setCell ⟨A8, 1, none⟩ (.int .i64 AA)).setCell ⟨A8, 2, none⟩ (.int .i64 Az)).setCell ⟨A9, 0, none⟩ (.int .i64 Am)).setCell ⟨A9, 1, none⟩ (.int .i64 Ao)).setCell ⟨A9, 2, none⟩ (.slice AO An.length AP)).setCell ⟨A5, 0, none⟩ (.int .i64 Am)).setCell ⟨A5, 1, none⟩ (.int .i64 Ao)).setCell ⟨A5, 2, none⟩ (.slice AO An.length AP)).setCell ⟨A5, 7, none⟩ (.int .i64 2)).setCell ⟨A5, 7, none⟩ (.int .i64 1)).heap[AQ]? = some (.cells #[.int .i64 0, .int .i64 0, .int .i64 0] 52 (0, 0))) := ⟨by refine bK ?_; (iterate 5 refine qF ?_ Ap); (iterate 3 refine qF ?_ As); (iterate 3 refine qF ?_ Ar); exact Ad.o⟩
     have n4_ : Z ((((((((((((BH.setCell ⟨A8, 0, none⟩ (.int .i64 Ay)).setCell ⟨A8, 1, none⟩ (.int .i64 AA)).setCell ⟨A8, 2, none⟩ (.int .i64 Az)).setCell ⟨A9, 0, none⟩ (.int .i64 Am)).setCell ⟨A9, 1, none⟩ (.int .i64 Ao)).setCell ⟨A9, 2, none⟩ (.slice AO An.length AP)).setCell ⟨A5, 0, none⟩ (.int .i64 Am)).setCell ⟨A5, 1, none⟩ (.int .i64 Ao)).setCell ⟨A5, 2, none⟩ (.slice AO An.length AP)).setCell ⟨A5, 7, none⟩ (.int .i64 2)).setCell ⟨A5, 7, none⟩ (.int .i64 1)).heap[A5]? = some (.cells #[.int .i64 Am, .int .i64 Ao, .slice AO An.length AP, .int .i64 a0_3, .int .i64 a0_4, .int .i64 Ag, .int .i64 Ah, .int .i64 1] 32 (0, 0))) := ⟨by refine bK ?_; refine qp (cs := #[iV Am, iV Ao, .slice AO An.length AP, iV a0_3, iV a0_4, iV Ag, iV Ah, iV 2]) ?_ 7 _ rfl; refine bK ?_; refine qp (cs := #[iV Am, iV Ao, .slice AO An.length AP, iV a0_3, iV a0_4, iV Ag, iV Ah, iV a0_7]) ?_ 7 _ rfl; refine bK ?_; refine qp (cs := #[iV Am, iV Ao, .slice A0_2 l0_2.length c0_2, iV a0_3, iV a0_4, iV Ag, iV Ah, iV a0_7]) ?_ 2 _ rfl; refine bK ?_; refine qp (cs := #[iV Am, iV a0_1, .slice A0_2 l0_2.length c0_2, iV a0_3, iV a0_4, iV Ag, iV Ah, iV a0_7]) ?_ 1 _ rfl; refine bK ?_; refine qp (cs := #[iV a0_0, iV a0_1, .slice A0_2 l0_2.length c0_2, iV a0_3, iV a0_4, iV Ag, iV Ah, iV a0_7]) ?_ 0 _ rfl; refine bK ?_; (iterate 3 refine qF ?_ AH); (iterate 3 refine qF ?_ AG); exact A4.o⟩
     have n5_ : Z ((((((((((((BH.setCell ⟨A8, 0, none⟩ (.int .i64 Ay)).setCell ⟨A8, 1, none⟩ (.int .i64 AA)).setCell ⟨A8, 2, none⟩ (.int .i64 Az)).setCell ⟨A9, 0, none⟩ (.int .i64 Am)).setCell ⟨A9, 1, none⟩ (.int .i64 Ao)).setCell ⟨A9, 2, none⟩ (.slice AO An.length AP)).setCell ⟨A5, 0, none⟩ (.int .i64 Am)).setCell ⟨A5, 1, none⟩ (.int .i64 Ao)).setCell ⟨A5, 2, none⟩ (.slice AO An.length AP)).setCell ⟨A5, 7, none⟩ (.int .i64 2)).setCell ⟨A5, 7, none⟩ (.int .i64 1)).heap[A8]? = some (.cells #[.int .i64 Ay, .int .i64 AA, .int .i64 Az] 52 (0, 0))) := ⟨by refine bK ?_; (iterate 5 refine qF ?_ AI); (iterate 3 refine qF ?_ AJ); apply st3; refine bK ?_; exact Al.o⟩
     have n6_ : Z ((((((((((((BH.setCell ⟨A8, 0, none⟩ (.int .i64 Ay)).setCell ⟨A8, 1, none⟩ (.int .i64 AA)).setCell ⟨A8, 2, none⟩ (.int .i64 Az)).setCell ⟨A9, 0, none⟩ (.int .i64 Am)).setCell ⟨A9, 1, none⟩ (.int .i64 Ao)).setCell ⟨A9, 2, none⟩ (.slice AO An.length AP)).setCell ⟨A5, 0, none⟩ (.int .i64 Am)).setCell ⟨A5, 1, none⟩ (.int .i64 Ao)).setCell ⟨A5, 2, none⟩ (.slice AO An.length AP)).setCell ⟨A5, 7, none⟩ (.int .i64 2)).setCell ⟨A5, 7, none⟩ (.int .i64 1)).heap[A9]? = some (.cells #[.int .i64 Am, .int .i64 Ao, .slice AO An.length AP] 30 (0, 0))) := ⟨by refine bK ?_; (iterate 5 refine qF ?_ AK); apply st3; refine bK ?_; (iterate 3 refine qF ?_ AL); exact Aq.o⟩
     have n7_ : Z (Below w.heap.size w (((((((((((BH.setCell ⟨A8, 0, none⟩ (.int .i64 Ay)).setCell ⟨A8, 1, none⟩ (.int .i64 AA)).setCell ⟨A8, 2, none⟩ (.int .i64 Az)).setCell ⟨A9, 0, none⟩ (.int .i64 Am)).setCell ⟨A9, 1, none⟩ (.int .i64 Ao)).setCell ⟨A9, 2, none⟩ (.slice AO An.length AP)).setCell ⟨A5, 0, none⟩ (.int .i64 Am)).setCell ⟨A5, 1, none⟩ (.int .i64 Ao)).setCell ⟨A5, 2, none⟩ (.slice AO An.length AP)).setCell ⟨A5, 7, none⟩ (.int .i64 2)).setCell ⟨A5, 7, none⟩ (.int .i64 1))) := ⟨vB HB⟩
     (try clear At); (try clear A3); (try clear A6); (try clear Ad); (try clear A4); (try clear Al); (try clear Aq); (try clear HB)
     generalize (((((((((((BH.setCell ⟨A8, 0, none⟩ (.int .i64 Ay)).setCell ⟨A8, 1, none⟩ (.int .i64 AA)).setCell ⟨A8, 2, none⟩ (.int .i64 Az)).setCell ⟨A9, 0, none⟩ (.int .i64 Am)).setCell ⟨A9, 1, none⟩ (.int .i64 Ao)).setCell ⟨A9, 2, none⟩ (.slice AO An.length AP)).setCell ⟨A5, 0, none⟩ (.int .i64 Am)).setCell ⟨A5, 1, none⟩ (.int .i64 Ao)).setCell ⟨A5, 2, none⟩ (.slice AO An.length AP)).setCell ⟨A5, 7, none⟩ (.int .i64 2)).setCell ⟨A5, 7, none⟩ (.int .i64 1)) = PE at n0_ n1_ n2_ n3_ n4_ n5_ n6_ n7_ ⊢
     have At := n0_
     have A3 := n1_
     have A6 := n2_
     have Ad := n3_
     have A4 := n4_
     have Al := n5_
     have Aq := n6_
     have HB := n7_
     clear n0_ n1_ n2_ n3_ n4_ n5_ n6_ n7_
     replace At := Z.m (Kd.R_drew At.o)
     replace A3 := Z.m (blk_drew A3.o)
     replace A6 := Z.m (blk_drew A6.o)
     replace Ad := Z.m (blk_drew Ad.o)
     replace A4 := Z.m (blk_drew A4.o)
     replace Al := Z.m (blk_drew Al.o)
     replace Aq := Z.m (blk_drew Aq.o)
     replace HB := Z.m (qd HB.o)
     refine start_ (n := 4) (S := fun w' => w'.cell? ⟨A5, 0, none⟩ = some (.int .i64 Am) ∧ w'.cell? ⟨A5, 1, none⟩ = some (.int .i64 Ao) ∧ w'.cell? ⟨A5, 2, none⟩ = some (.slice AO An.length AP) ∧ w'.cell? ⟨A5, 3, none⟩ = some (.int .i64 a0_3) ∧ w'.cell? ⟨A5, 4, none⟩ = some (.int .i64 a0_4) ∧ w'.cell? ⟨A5, 5, none⟩ = some (.int .i64 Ag) ∧ w'.cell? ⟨A5, 6, none⟩ = some (.int .i64 Ah) ∧ w'.cell? ⟨A5, 7, none⟩ = some (.int .i64 1) ∧ w'.cell? ⟨A8, 0, none⟩ = some (.int .i64 Ay) ∧ w'.cell? ⟨A8, 1, none⟩ = some (.int .i64 AA) ∧ w'.cell? ⟨A8, 2, none⟩ = some (.int .i64 Az)) (ds := []) #[false, false, false, false] (by kernel_rfl) rfl rfl ⟨(ql A4.o 0).trans rfl, (ql A4.o 1).trans rfl, (ql A4.o 2).trans rfl, (ql A4.o 3).trans rfl, (ql A4.o 4).trans rfl, (ql A4.o 5).trans rfl, (ql A4.o 6).trans rfl, (ql A4.o 7).trans rfl, (ql Al.o 0).trans rfl, (ql Al.o 1).trans rfl, (ql Al.o 2).trans rfl⟩ (fun hHeld => ?_)
     generalize PE.drew = B8 at At A3 A6 Ad A4 Al Aq HB hHeld ⊢
     refine take_ (i := 0) (N := some 46) (v := ?_) (a' := ?_) #[true, false, false, false] rfl rfl (by kernel_rfl) (fun _ _ _ h => h) (Or.inl ⟨by rfl, ?_⟩) hHeld ?_ ?_
     rotate_left
     ·rintro w' ⟨s0, s1, s2, s3, s4, s5, s6, s7, s8, s9, s10⟩
      go_simp
      with_reducible rfl
     rotate_left
     ·simp only [Act.put, q1, q2, q3, i64_w, i32_w]
      rfl
     refine take_ (i := 1) (N := some 47) (v := ?_) (a' := ?_) #[true, true, false, false] rfl rfl (by kernel_rfl) (fun _ _ _ h => h) (Or.inl ⟨by rfl, ?_⟩) hHeld ?_ ?_
     rotate_left
     ·rintro w' ⟨s0, s1, s2, s3, s4, s5, s6, s7, s8, s9, s10⟩
      go_simp
      with_reducible rfl
     rotate_left
     ·simp only [Act.put, q1, q2, q3, i64_w, i32_w]
      rfl
     refine one_ (i := 2) (N := none) #[true, true, true, false] rfl rfl (by kernel_rfl) (by decide) (fun K hK => ?_)
     have Pp : B8.cell? ⟨Ax, 0, none⟩ = some (.int .i64 0) := (ql A6.o 0).trans rfl
     have hfs91 := qz A6.o 0
     have Ll := Ai.o
     have Lm := Ab.o
     have Ln := A0.o
     have Lo := A1.o
     have Lp := Ak.o
     have JI := Aj.o
     have JJ := Aa.o
     have JK := Ac.o
     have JL := Ae.o
     have JM := Af.o
     have Pq : B8.cell? ⟨Ax, 1, none⟩ = some (.int .i64 0) := (ql A6.o 1).trans rfl
     have hfs92 := qz A6.o 1
     have Lq := Ai.o
     have Lr := Ab.o
     have Ls := A0.o
     have Lt := A1.o
     have Lu := Ak.o
     have JN := Aj.o
     have JO := Aa.o
     have JP := Ac.o
     have JQ := Ae.o
     have JR := Af.o
     have Pr : B8.cell? ⟨Ax, 2, none⟩ = some (.slice none 0 0) := (ql A6.o 2).trans rfl
     have hfs93 := qz A6.o 2
     have Lv := Ai.o
     have Lw := Ab.o
     have Lx := A0.o
     have Ly := A1.o
     have Lz := Ak.o
     have JS := Aj.o
     have JT := Aa.o
     have JU := Ac.o
     have JV := Ae.o
     have JW := Af.o
     have Ps : B8.cell? ⟨Ax, 3, none⟩ = some (.int .i64 0) := (ql A6.o 3).trans rfl
     have hfs94 := qz A6.o 3
     have LA := Ai.o
     have LB := Ab.o
     have LC := A0.o
     have LD := A1.o
     have LE := Ak.o
     have JX := Aj.o
     have JY := Aa.o
     have JZ := Ac.o
     have K0 := Ae.o
     have K1 := Af.o
     have Pt : B8.cell? ⟨Ax, 4, none⟩ = some (.int .i64 0) := (ql A6.o 4).trans rfl
     have hfs95 := qz A6.o 4
     have LF := Ai.o
     have LG := Ab.o
     have LH := A0.o
     have LI := A1.o
     have LJ := Ak.o
     have K2 := Aj.o
     have K3 := Aa.o
     have K4 := Ac.o
     have K5 := Ae.o
     have K6 := Af.o
     have Pu : B8.cell? ⟨Ax, 5, none⟩ = some (.int .i64 0) := (ql A6.o 5).trans rfl
     have hfs96 := qz A6.o 5
     have LK := Ai.o
     have LL := Ab.o
     have LM := A0.o
     have LN := A1.o
     have LO := Ak.o
     have K7 := Aj.o
     have K8 := Aa.o
     have K9 := Ac.o
     have Ka := Ae.o
     have Kb := Af.o
     have Pv : B8.cell? ⟨Ax, 6, none⟩ = some (.int .i64 0) := (ql A6.o 6).trans rfl
     have hfs97 := qz A6.o 6
     have LP := Ai.o
     have LQ := Ab.o
     have LR := A0.o
     have LS := A1.o
     have LT := Ak.o
     have Kc := Aj.o
     have Ke := Aa.o
     have Kf := Ac.o
     have Kg := Ae.o
     have Kh := Af.o
     have Pw : B8.cell? ⟨Ax, 7, none⟩ = some (.int .i64 0) := (ql A6.o 7).trans rfl
     have hfs98 := qz A6.o 7
     have LU := Ai.o
     have LV := Ab.o
     have LW := A0.o
     have LX := A1.o
     have LY := Ak.o
     have Ki := Aj.o
     have Kj := Aa.o
     have Kk := Ac.o
     have Kl := Ae.o
     have Km := Af.o
     refine skip_ (w1 := ?_) ?hwx ?hnx ?_ ?_; (case hwx => rfl); (case hnx => rfl)
     rotate_left
     ·go_simp
      rfl
     refine hK.out _ _ ⟨(cx A0.o ((cx A0.o ((cx A0.o ((cx A0.o ((cx A0.o ((cx A0.o ((cx A0.o ((cx A0.o (hHeld.1)))))))))))))))), (cx A0.o ((cx A0.o ((cx A0.o ((cx A0.o ((cx A0.o ((cx A0.o ((cx A0.o ((cx A0.o (hHeld.2.1)))))))))))))))), (cx A0.o ((cx A0.o ((cx A0.o ((cx A0.o ((cx A0.o ((cx A0.o ((cx A0.o ((cx A0.o (hHeld.2.2.1)))))))))))))))), (cx A0.o ((cx A0.o ((cx A0.o ((cx A0.o ((cx A0.o ((cx A0.o ((cx A0.o ((cx A0.o (hHeld.2.2.2.1)))))))))))))))), (cx A0.o ((cx A0.o ((cx A0.o ((cx A0.o ((cx A0.o ((cx A0.o ((cx A0.o ((cx A0.o (hHeld.2.2.2.2.1)))))))))))))))), (cx A0.o ((cx A0.o ((cx A0.o ((cx A0.o ((cx A0.o ((cx A0.o ((cx A0.o ((cx A0.o (hHeld.2.2.2.2.2.1)))))))))))))))), (cx A0.o ((cx A0.o ((cx A0.o ((cx A0.o ((cx A0.o ((cx A0.o ((cx A0.o ((cx A0.o (hHeld.2.2.2.2.2.2.1)))))))))))))))), (cx A0.o ((cx A0.o ((cx A0.o ((cx A0.o ((cx A0.o ((cx A0.o ((cx A0.o ((cx A0.o (hHeld.2.2.2.2.2.2.2.1)))))))))))))))), (cx A1.o ((cx A1.o ((cx A1.o ((cx A1.o ((cx A1.o ((cx A1.o ((cx A1.o ((cx A1.o (hHeld.2.2.2.2.2.2.2.2.1)))))))))))))))), (cx A1.o ((cx A1.o ((cx A1.o ((cx A1.o ((cx A1.o ((cx A1.o ((cx A1.o ((cx A1.o (hHeld.2.2.2.2.2.2.2.2.2.1)))))))))))))))), (cx A1.o ((cx A1.o ((cx A1.o ((cx A1.o ((cx A1.o ((cx A1.o ((cx A1.o ((cx A1.o (hHeld.2.2.2.2.2.2.2.2.2.2))))))))))))))))⟩ (fun hHeld => ?_)
     clear hK K
     refine one_ (i := 3) (N := none) #[true, true, true, true] rfl rfl (by kernel_rfl) (by decide) (fun K hK => ?_)
     have Px : B8.cell? ⟨AQ, 0, none⟩ = some (.int .i64 0) := (ql Ad.o 0).trans rfl
     have hfs99 := qz Ad.o 0
     have LZ := Au.o
     have M0 := Aa.o
     have M1 := A2.o
     have M2 := A7.o
     have M3 := Aw.o
     have Kn := Av.o
     have Ko := Ab.o
     have Kp := Ap.o
     have Kq := Ar.o
     have Kr := As.o
     have NX : B8.cell? ⟨AQ, 1, none⟩ = some (.int .i64 0) := (ql Ad.o 1).trans rfl
     have hfs100 := qz Ad.o 1
     have DY := Au.o
     have DZ := Aa.o
     have E0 := A2.o
     have E1 := A7.o
     have E2 := Aw.o
     have CV := Av.o
     have CW := Ab.o
     have CX := Ap.o
     have CY := Ar.o
     have CZ := As.o
     have NY : B8.cell? ⟨AQ, 2, none⟩ = some (.int .i64 0) := (ql Ad.o 2).trans rfl
     have hfs101 := qz Ad.o 2
     have E3 := Au.o
     have E4 := Aa.o
     have E5 := A2.o
     have E6 := A7.o
     have E7 := Aw.o
     have D0 := Av.o
     have D1 := Ab.o
     have D2 := Ap.o
     have D3 := Ar.o
     have D4 := As.o
     refine skip_ (w1 := ?_) ?hwx ?hnx ?_ ?_; (case hwx => rfl); (case hnx => rfl)
     rotate_left
     ·go_simp
      rfl
     refine hK.out _ _ ⟨(cx A2.o ((cx A2.o ((cx A2.o (hHeld.1)))))), (cx A2.o ((cx A2.o ((cx A2.o (hHeld.2.1)))))), (cx A2.o ((cx A2.o ((cx A2.o (hHeld.2.2.1)))))), (cx A2.o ((cx A2.o ((cx A2.o (hHeld.2.2.2.1)))))), (cx A2.o ((cx A2.o ((cx A2.o (hHeld.2.2.2.2.1)))))), (cx A2.o ((cx A2.o ((cx A2.o (hHeld.2.2.2.2.2.1)))))), (cx A2.o ((cx A2.o ((cx A2.o (hHeld.2.2.2.2.2.2.1)))))), (cx A2.o ((cx A2.o ((cx A2.o (hHeld.2.2.2.2.2.2.2.1)))))), (cx A7.o ((cx A7.o ((cx A7.o (hHeld.2.2.2.2.2.2.2.2.1)))))), (cx A7.o ((cx A7.o ((cx A7.o (hHeld.2.2.2.2.2.2.2.2.2.1)))))), (cx A7.o ((cx A7.o ((cx A7.o (hHeld.2.2.2.2.2.2.2.2.2.2))))))⟩ (fun hHeld => ?_)
     clear hK K
     refine done_ (by kernel_rfl) ?_
     try go_wp2
     refine bodyPost_ret (results_cc rfl _ _ Ax AQ 32 52 #[.int .i64 Am, .int .i64 Ao, .slice AO An.length AP, .int .i64 a0_3, .int .i64 a0_4, .int .i64 Ag, .int .i64 Ah, .int .i64 1] #[.int .i64 Ay, .int .i64 AA, .int .i64 Az] (0, 0) (0, 0) _ _ rfl (by refine bK ?_; (iterate 3 refine qF ?_ Aa); apply st8; refine bK ?_; exact A6.o) Try.underlying32 rfl (by kernel_rfl) rfl (by refine bK ?_; apply st3; refine bK ?_; (iterate 8 refine qF ?_ Ab); exact Ad.o) Try.underlying52 rfl (by kernel_rfl)) rfl ?_
     exact ⟨_, by first | rfl | (simp [eN, eS] <;> rfl) | (simp [*, eN, eS] <;> rfl), by refine rK ?_; exact Kd.Rm (rf (rf (rf (rf1 (rf1 (rf1 (rf1 (rf1 (rf1 (rf1 (rf1 (Kd.Ry (Kd.Ry At.o A6.o (by decide)) Ad.o (by decide))))))))))))) (fun _ hk => trivial), vB HB⟩
   ·rw [if_neg c28] at H
    have C7 := beq_eq_false_iff_ne.mpr c28
    have C8 := bne_iff_ne.mpr c28
    simp only [Option.some.injEq, Prod.mk.injEq] at H
    obtain ⟨rfl, rfl, rfl, rfl, rfl, rfl, rfl, rfl, rfl, rfl, rfl⟩ := H
    have M8 := Ai.o
    have Mm := Aj.o
    have M9 := Au.o
    have Mn := Av.o
    have Ma := AB.o
    have Mo := AR.o
    have Cb := bc0 A3
    have Cd := bc1 A3
    have Ce := bc2 A3
    have Cf := bc3 A3
    have Cg := bc4 A3
    have Ch := bc5 A3
    have Ci := bc6 A3
    have Cj := bc7 A3
    have Cz := qz A3.o 0
    have CA := qz A3.o 1
    have CB := qz A3.o 2
    have CC := qz A3.o 3
    have CD := qz A3.o 4
    have CE := qz A3.o 5
    have CF := qz A3.o 6
    have CG := qz A3.o 7
    try go_wp2_with (first | ((with_reducible refine gc (f := 57) rfl ?_); refine gA (some 28) _ #[.agg #[.int .i64 a0_0, .int .i64 a0_1, .slice A0_2 l0_2.length c0_2], .int .i64 AW] ?_ Try.func57; (with_reducible refine (spec_flRun.calls kj1 a0_0 a0_1 _ _ l0_2 AW Ay AA Az Am Ao An _ ?side1 ?side2 M4.o).mono ?_); (case side1 => repeat (first | exact (Kd.C_below B3.o HB.o) | (with_reducible refine Kd.C_alloc ?_ _) | (with_reducible refine Kd.C_drewN ?_ _) | (with_reducible refine Kd.C_drew ?_))); (case side2 => exact B2.o); rintro e PB ⟨F3, rfl, BK, hb⟩; refine ⟨_, rfl, ?_⟩; have At := Z.m (Kd.R_lower BK (below_size (vB HB))); replace A3 := kB A3 hb; replace A6 := kB A6 hb; replace Ad := kB Ad hb; replace A4 := kB A4 hb; replace HB := bB HB hb; (try clear hb); (try clear MF); (try clear hk); (try clear hi); (try clear BK)) | ((with_reducible refine gq (N := 6) rfl ?_); refine be (N := 6) (cs := #[.int .i64 0, .int .i64 0, .int .i64 0]) (t := 52) ?_; intro A8 hg PC hbox hb; have Al := Z.m (hbox); have AX := gW (w := w) HB hg; have BI := AX; have AE := neL A3 hg; have AS := neG A3 hg; have Ae := neL A6 hg; have A1 := neG A6 hg; have Ar := neL Ad hg; have A7 := neG Ad hg; have AG := neL A4 hg; have AI := neG A4 hg; replace At := Z.m (Kd.Rb (vR At) hb); replace A3 := kB A3 hb; replace A6 := kB A6 hb; replace Ad := kB Ad hb; replace A4 := kB A4 hb; replace HB := bB HB hb; clear hb hbox hg) | ((with_reducible refine gq (N := 7) rfl ?_); refine be (N := 7) (cs := #[.int .i64 0, .int .i64 0, .slice none 0 0]) (t := 30) ?_; intro A9 hg AV hbox hb; have Aq := Z.m (hbox); have AY := gW (w := w) HB hg; have BJ := AY; have AF := neL A3 hg; have AT := neG A3 hg; have Af := neL A6 hg; have Ak := neG A6 hg; have As := neL Ad hg; have Aw := neG Ad hg; have AH := neL A4 hg; have AK := neG A4 hg; have AJ := neL Al hg; have AL := neG Al hg; replace At := Z.m (Kd.Rb (vR At) hb); replace A3 := kB A3 hb; replace A6 := kB A6 hb; replace Ad := kB Ad hb; replace A4 := kB A4 hb; replace Al := kB Al hb; replace HB := bB HB hb; clear hb hbox hg; have Mb := AS.o; have Mp := AE.o; have Mc := A1.o; have Mq := Ae.o; have Md := A7.o; have Mr := Ar.o; have Me := AI.o; have Ms := AG.o; have Mf := AJ.o; have Mt := AL.o; have Cl := bc0 Al; have Cm := bc1 Al; have Cn := bc2 Al; have CH := qz Al.o 0; have CI := qz Al.o 1; have CJ := qz Al.o 2; have Mg := AT.o; have Mu := AF.o; have Mh := Ak.o; have Mv := Af.o; have Mi := Aw.o; have Mw := As.o; have Mj := AK.o; have Mx := AH.o; have Co := bc0 Aq; have Cp := bc1 Aq; have Cq := bc2 Aq; have CK := qz Aq.o 0; have CL := qz Aq.o 1; have CM := qz Aq.o 2; obtain ⟨AC, AD, Ca⟩ := Kd.R_slice At.o; subst Ca; have Mk := A0.o; have My := Ac.o; have Ml := A2.o; have Mz := Ap.o; have Cr := bc0 A4; have Cs := bc1 A4; have Ct := bc2 A4; have Cu := bc3 A4; have Cv := bc4 A4; have Cw := bc5 A4; have Cx := bc6 A4; have Cy := bc7 A4; have CN := qz A4.o 0; have CO := qz A4.o 1; have CP := qz A4.o 2; have CQ := qz A4.o 3; have CR := qz A4.o 4; have CS := qz A4.o 5; have CT := qz A4.o 6; have CU := qz A4.o 7))
    have n0_ : Z (Kd.R k88 88 ((((((((((AV.setCell ⟨A8, 0, none⟩ (.int .i64 Ay)).setCell ⟨A8, 1, none⟩ (.int .i64 AA)).setCell ⟨A8, 2, none⟩ (.int .i64 Az)).setCell ⟨A9, 0, none⟩ (.int .i64 Am)).setCell ⟨A9, 1, none⟩ (.int .i64 Ao)).setCell ⟨A9, 2, none⟩ (.slice AC An.length AD)).setCell ⟨A5, 0, none⟩ (.int .i64 Am)).setCell ⟨A5, 1, none⟩ (.int .i64 Ao)).setCell ⟨A5, 2, none⟩ (.slice AC An.length AD)).setCell ⟨A5, 7, none⟩ (.int .i64 2)) w.heap.size (fun _ => True) (.slice AC An.length AD) An) := ⟨by refine rK ?_; exact Kd.Rm (rf (rf (rf (rf (rf1 (rf1 (rf1 (rf2 (rf2 (rf2 (Kd.Ry (Kd.Ry (Kd.Ry At.o Al.o (by decide)) Aq.o (by decide)) A4.o (by decide)))))))))))) (fun _ hk => trivial)⟩
    have n1_ : Z (((((((((((AV.setCell ⟨A8, 0, none⟩ (.int .i64 Ay)).setCell ⟨A8, 1, none⟩ (.int .i64 AA)).setCell ⟨A8, 2, none⟩ (.int .i64 Az)).setCell ⟨A9, 0, none⟩ (.int .i64 Am)).setCell ⟨A9, 1, none⟩ (.int .i64 Ao)).setCell ⟨A9, 2, none⟩ (.slice AC An.length AD)).setCell ⟨A5, 0, none⟩ (.int .i64 Am)).setCell ⟨A5, 1, none⟩ (.int .i64 Ao)).setCell ⟨A5, 2, none⟩ (.slice AC An.length AD)).setCell ⟨A5, 7, none⟩ (.int .i64 2)).heap[B0]? = some (.cells #[.int .i64 a0_0, .int .i64 a0_1, .slice A0_2 l0_2.length c0_2, .int .i64 a0_3, .int .i64 a0_4, .int .i64 a0_5, .int .i64 a0_6, .int .i64 a0_7] 32 (0, 0))) := ⟨by refine bK ?_; (iterate 4 refine qF ?_ AB); (iterate 3 refine qF ?_ AF); (iterate 3 refine qF ?_ AE); exact A3.o⟩
    have n2_ : Z (((((((((((AV.setCell ⟨A8, 0, none⟩ (.int .i64 Ay)).setCell ⟨A8, 1, none⟩ (.int .i64 AA)).setCell ⟨A8, 2, none⟩ (.int .i64 Az)).setCell ⟨A9, 0, none⟩ (.int .i64 Am)).setCell ⟨A9, 1, none⟩ (.int .i64 Ao)).setCell ⟨A9, 2, none⟩ (.slice AC An.length AD)).setCell ⟨A5, 0, none⟩ (.int .i64 Am)).setCell ⟨A5, 1, none⟩ (.int .i64 Ao)).setCell ⟨A5, 2, none⟩ (.slice AC An.length AD)).setCell ⟨A5, 7, none⟩ (.int .i64 2)).heap[Ax]? = some (.cells #[.int .i64 0, .int .i64 0, .slice none 0 0, .int .i64 0, .int .i64 0, .int .i64 0, .int .i64 0, .int .i64 0] 32 (0, 0))) := ⟨by refine bK ?_; (iterate 4 refine qF ?_ Ac); (iterate 3 refine qF ?_ Af); (iterate 3 refine qF ?_ Ae); exact A6.o⟩
    have n3_ : Z (((((((((((AV.setCell ⟨A8, 0, none⟩ (.int .i64 Ay)).setCell ⟨A8, 1, none⟩ (.int .i64 AA)).setCell ⟨A8, 2, none⟩ (.int .i64 Az)).setCell ⟨A9, 0, none⟩ (.int .i64 Am)).setCell ⟨A9, 1, none⟩ (.int .i64 Ao)).setCell ⟨A9, 2, none⟩ (.slice AC An.length AD)).setCell ⟨A5, 0, none⟩ (.int .i64 Am)).setCell ⟨A5, 1, none⟩ (.int .i64 Ao)).setCell ⟨A5, 2, none⟩ (.slice AC An.length AD)).setCell ⟨A5, 7, none⟩ (.int .i64 2)).heap[AQ]? = some (.cells #[.int .i64 0, .int .i64 0, .int .i64 0] 52 (0, 0))) := ⟨by refine bK ?_; (iterate 4 refine qF ?_ Ap); (iterate 3 refine qF ?_ As); (iterate 3 refine qF ?_ Ar); exact Ad.o⟩
    have n4_ : Z (((((((((((AV.setCell ⟨A8, 0, none⟩ (.int .i64 Ay)).setCell ⟨A8, 1, none⟩ (.int .i64 AA)).setCell ⟨A8, 2, none⟩ (.int .i64 Az)).setCell ⟨A9, 0, none⟩ (.int .i64 Am)).setCell ⟨A9, 1, none⟩ (.int .i64 Ao)).setCell ⟨A9, 2, none⟩ (.slice AC An.length AD)).setCell ⟨A5, 0, none⟩ (.int .i64 Am)).setCell ⟨A5, 1, none⟩ (.int .i64 Ao)).setCell ⟨A5, 2, none⟩ (.slice AC An.length AD)).setCell ⟨A5, 7, none⟩ (.int .i64 2)).heap[A5]? = some (.cells #[.int .i64 Am, .int .i64 Ao, .slice AC An.length AD, .int .i64 a0_3, .int .i64 a0_4, .int .i64 Ag, .int .i64 Ah, .int .i64 2] 32 (0, 0))) := ⟨by refine bK ?_; refine qp (cs := #[iV Am, iV Ao, .slice AC An.length AD, iV a0_3, iV a0_4, iV Ag, iV Ah, iV a0_7]) ?_ 7 _ rfl; refine bK ?_; refine qp (cs := #[iV Am, iV Ao, .slice A0_2 l0_2.length c0_2, iV a0_3, iV a0_4, iV Ag, iV Ah, iV a0_7]) ?_ 2 _ rfl; refine bK ?_; refine qp (cs := #[iV Am, iV a0_1, .slice A0_2 l0_2.length c0_2, iV a0_3, iV a0_4, iV Ag, iV Ah, iV a0_7]) ?_ 1 _ rfl; refine bK ?_; refine qp (cs := #[iV a0_0, iV a0_1, .slice A0_2 l0_2.length c0_2, iV a0_3, iV a0_4, iV Ag, iV Ah, iV a0_7]) ?_ 0 _ rfl; refine bK ?_; (iterate 3 refine qF ?_ AH); (iterate 3 refine qF ?_ AG); exact A4.o⟩
    have n5_ : Z (((((((((((AV.setCell ⟨A8, 0, none⟩ (.int .i64 Ay)).setCell ⟨A8, 1, none⟩ (.int .i64 AA)).setCell ⟨A8, 2, none⟩ (.int .i64 Az)).setCell ⟨A9, 0, none⟩ (.int .i64 Am)).setCell ⟨A9, 1, none⟩ (.int .i64 Ao)).setCell ⟨A9, 2, none⟩ (.slice AC An.length AD)).setCell ⟨A5, 0, none⟩ (.int .i64 Am)).setCell ⟨A5, 1, none⟩ (.int .i64 Ao)).setCell ⟨A5, 2, none⟩ (.slice AC An.length AD)).setCell ⟨A5, 7, none⟩ (.int .i64 2)).heap[A8]? = some (.cells #[.int .i64 Ay, .int .i64 AA, .int .i64 Az] 52 (0, 0))) := ⟨by refine bK ?_; (iterate 4 refine qF ?_ AI); (iterate 3 refine qF ?_ AJ); apply st3; refine bK ?_; exact Al.o⟩
    have n6_ : Z (((((((((((AV.setCell ⟨A8, 0, none⟩ (.int .i64 Ay)).setCell ⟨A8, 1, none⟩ (.int .i64 AA)).setCell ⟨A8, 2, none⟩ (.int .i64 Az)).setCell ⟨A9, 0, none⟩ (.int .i64 Am)).setCell ⟨A9, 1, none⟩ (.int .i64 Ao)).setCell ⟨A9, 2, none⟩ (.slice AC An.length AD)).setCell ⟨A5, 0, none⟩ (.int .i64 Am)).setCell ⟨A5, 1, none⟩ (.int .i64 Ao)).setCell ⟨A5, 2, none⟩ (.slice AC An.length AD)).setCell ⟨A5, 7, none⟩ (.int .i64 2)).heap[A9]? = some (.cells #[.int .i64 Am, .int .i64 Ao, .slice AC An.length AD] 30 (0, 0))) := ⟨by refine bK ?_; (iterate 4 refine qF ?_ AK); apply st3; refine bK ?_; (iterate 3 refine qF ?_ AL); exact Aq.o⟩
    have n7_ : Z (Below w.heap.size w ((((((((((AV.setCell ⟨A8, 0, none⟩ (.int .i64 Ay)).setCell ⟨A8, 1, none⟩ (.int .i64 AA)).setCell ⟨A8, 2, none⟩ (.int .i64 Az)).setCell ⟨A9, 0, none⟩ (.int .i64 Am)).setCell ⟨A9, 1, none⟩ (.int .i64 Ao)).setCell ⟨A9, 2, none⟩ (.slice AC An.length AD)).setCell ⟨A5, 0, none⟩ (.int .i64 Am)).setCell ⟨A5, 1, none⟩ (.int .i64 Ao)).setCell ⟨A5, 2, none⟩ (.slice AC An.length AD)).setCell ⟨A5, 7, none⟩ (.int .i64 2))) := ⟨vB HB⟩
    (try clear At); (try clear A3); (try clear A6); (try clear Ad); (try clear A4); (try clear Al); (try clear Aq); (try clear HB)
    generalize ((((((((((AV.setCell ⟨A8, 0, none⟩ (.int .i64 Ay)).setCell ⟨A8, 1, none⟩ (.int .i64 AA)).setCell ⟨A8, 2, none⟩ (.int .i64 Az)).setCell ⟨A9, 0, none⟩ (.int .i64 Am)).setCell ⟨A9, 1, none⟩ (.int .i64 Ao)).setCell ⟨A9, 2, none⟩ (.slice AC An.length AD)).setCell ⟨A5, 0, none⟩ (.int .i64 Am)).setCell ⟨A5, 1, none⟩ (.int .i64 Ao)).setCell ⟨A5, 2, none⟩ (.slice AC An.length AD)).setCell ⟨A5, 7, none⟩ (.int .i64 2)) = MA at n0_ n1_ n2_ n3_ n4_ n5_ n6_ n7_ ⊢
    have At := n0_
    have A3 := n1_
    have A6 := n2_
    have Ad := n3_
    have A4 := n4_
    have Al := n5_
    have Aq := n6_
    have HB := n7_
    clear n0_ n1_ n2_ n3_ n4_ n5_ n6_ n7_
    replace At := Z.m (Kd.R_drew At.o)
    replace A3 := Z.m (blk_drew A3.o)
    replace A6 := Z.m (blk_drew A6.o)
    replace Ad := Z.m (blk_drew Ad.o)
    replace A4 := Z.m (blk_drew A4.o)
    replace Al := Z.m (blk_drew Al.o)
    replace Aq := Z.m (blk_drew Aq.o)
    replace HB := Z.m (qd HB.o)
    refine start_ (n := 4) (S := fun w' => w'.cell? ⟨A5, 0, none⟩ = some (.int .i64 Am) ∧ w'.cell? ⟨A5, 1, none⟩ = some (.int .i64 Ao) ∧ w'.cell? ⟨A5, 2, none⟩ = some (.slice AC An.length AD) ∧ w'.cell? ⟨A5, 3, none⟩ = some (.int .i64 a0_3) ∧ w'.cell? ⟨A5, 4, none⟩ = some (.int .i64 a0_4) ∧ w'.cell? ⟨A5, 5, none⟩ = some (.int .i64 Ag) ∧ w'.cell? ⟨A5, 6, none⟩ = some (.int .i64 Ah) ∧ w'.cell? ⟨A5, 7, none⟩ = some (.int .i64 2) ∧ w'.cell? ⟨A8, 0, none⟩ = some (.int .i64 Ay) ∧ w'.cell? ⟨A8, 1, none⟩ = some (.int .i64 AA) ∧ w'.cell? ⟨A8, 2, none⟩ = some (.int .i64 Az)) (ds := []) #[false, false, false, false] (by kernel_rfl) rfl rfl ⟨(ql A4.o 0).trans rfl, (ql A4.o 1).trans rfl, (ql A4.o 2).trans rfl, (ql A4.o 3).trans rfl, (ql A4.o 4).trans rfl, (ql A4.o 5).trans rfl, (ql A4.o 6).trans rfl, (ql A4.o 7).trans rfl, (ql Al.o 0).trans rfl, (ql Al.o 1).trans rfl, (ql Al.o 2).trans rfl⟩ (fun hHeld => ?_)
    generalize MA.drew = AU at At A3 A6 Ad A4 Al Aq HB hHeld ⊢
    refine take_ (i := 0) (N := some 46) (v := ?_) (a' := ?_) #[true, false, false, false] rfl rfl (by kernel_rfl) (fun _ _ _ h => h) (Or.inl ⟨by rfl, ?_⟩) hHeld ?_ ?_
    rotate_left
    ·rintro w' ⟨s0, s1, s2, s3, s4, s5, s6, s7, s8, s9, s10⟩
     go_simp
     with_reducible rfl
    rotate_left
    ·simp only [Act.put, q1, q2, q3, i64_w, i32_w]
     rfl
    refine take_ (i := 1) (N := some 47) (v := ?_) (a' := ?_) #[true, true, false, false] rfl rfl (by kernel_rfl) (fun _ _ _ h => h) (Or.inl ⟨by rfl, ?_⟩) hHeld ?_ ?_
    rotate_left
    ·rintro w' ⟨s0, s1, s2, s3, s4, s5, s6, s7, s8, s9, s10⟩
     go_simp
     with_reducible rfl
    rotate_left
    ·simp only [Act.put, q1, q2, q3, i64_w, i32_w]
     rfl
    refine one_ (i := 2) (N := none) #[true, true, true, false] rfl rfl (by kernel_rfl) (by decide) (fun K hK => ?_)
    have NZ : AU.cell? ⟨Ax, 0, none⟩ = some (.int .i64 0) := (ql A6.o 0).trans rfl
    have hfs126 := qz A6.o 0
    have E8 := Ai.o
    have E9 := Ab.o
    have Ea := A0.o
    have Eb := A1.o
    have Ec := Ak.o
    have D5 := Aj.o
    have D6 := Aa.o
    have D7 := Ac.o
    have D8 := Ae.o
    have D9 := Af.o
    have P0 : AU.cell? ⟨Ax, 1, none⟩ = some (.int .i64 0) := (ql A6.o 1).trans rfl
    have hfs127 := qz A6.o 1
    have Ed := Ai.o
    have Ee := Ab.o
    have Ef := A0.o
    have Eg := A1.o
    have Eh := Ak.o
    have Da := Aj.o
    have Db := Aa.o
    have Dc := Ac.o
    have Dd := Ae.o
    have De := Af.o
    have P1 : AU.cell? ⟨Ax, 2, none⟩ = some (.slice none 0 0) := (ql A6.o 2).trans rfl
    have hfs128 := qz A6.o 2
    have Ei := Ai.o
    have Ej := Ab.o
    have Ek := A0.o
    have El := A1.o
    have Em := Ak.o
    have Df := Aj.o
    have Dg := Aa.o
    have Dh := Ac.o
    have Di := Ae.o
    have Dj := Af.o
    have P2 : AU.cell? ⟨Ax, 3, none⟩ = some (.int .i64 0) := (ql A6.o 3).trans rfl
    have hfs129 := qz A6.o 3
    have En := Ai.o
    have Eo := Ab.o
    have Ep := A0.o
    have Er := A1.o
    have Es := Ak.o
    have Dk := Aj.o
    have Dl := Aa.o
    have Dm := Ac.o
    have Dn := Ae.o
    have Do := Af.o
    have P3 : AU.cell? ⟨Ax, 4, none⟩ = some (.int .i64 0) := (ql A6.o 4).trans rfl
    have hfs130 := qz A6.o 4
    have Et := Ai.o
    have Eu := Ab.o
    have Ew := A0.o
    have Ex := A1.o
    have Ey := Ak.o
    have Dp := Aj.o
    have Dq := Aa.o
    have Dr := Ac.o
    have Ds := Ae.o
    have Dt := Af.o
    have P4 : AU.cell? ⟨Ax, 5, none⟩ = some (.int .i64 0) := (ql A6.o 5).trans rfl
    have hfs131 := qz A6.o 5
    have Ez := Ai.o
    have EA := Ab.o
    have EB := A0.o
    have EC := A1.o
    have ED := Ak.o
    have Du := Aj.o
    have Dv := Aa.o
    have Dw := Ac.o
    have Dx := Ae.o
    have Dy := Af.o
    have P5 : AU.cell? ⟨Ax, 6, none⟩ = some (.int .i64 0) := (ql A6.o 6).trans rfl
    have hfs132 := qz A6.o 6
    have EE := Ai.o
    have EF := Ab.o
    have EG := A0.o
    have EH := A1.o
    have EI := Ak.o
    have Dz := Aj.o
    have DA := Aa.o
    have DB := Ac.o
    have DC := Ae.o
    have DD := Af.o
    have P6 : AU.cell? ⟨Ax, 7, none⟩ = some (.int .i64 0) := (ql A6.o 7).trans rfl
    have hfs133 := qz A6.o 7
    have EJ := Ai.o
    have EK := Ab.o
    have EL := A0.o
    have EM := A1.o
    have EN := Ak.o
    have DE := Aj.o
    have DF := Aa.o
    have DG := Ac.o
    have DH := Ae.o
    have DI := Af.o
    refine skip_ (w1 := ?_) ?hwx ?hnx ?_ ?_; (case hwx => rfl); (case hnx => rfl)
    rotate_left
    ·go_simp
     rfl
    refine hK.out _ _ ⟨(cx A0.o ((cx A0.o ((cx A0.o ((cx A0.o ((cx A0.o ((cx A0.o ((cx A0.o ((cx A0.o (hHeld.1)))))))))))))))), (cx A0.o ((cx A0.o ((cx A0.o ((cx A0.o ((cx A0.o ((cx A0.o ((cx A0.o ((cx A0.o (hHeld.2.1)))))))))))))))), (cx A0.o ((cx A0.o ((cx A0.o ((cx A0.o ((cx A0.o ((cx A0.o ((cx A0.o ((cx A0.o (hHeld.2.2.1)))))))))))))))), (cx A0.o ((cx A0.o ((cx A0.o ((cx A0.o ((cx A0.o ((cx A0.o ((cx A0.o ((cx A0.o (hHeld.2.2.2.1)))))))))))))))), (cx A0.o ((cx A0.o ((cx A0.o ((cx A0.o ((cx A0.o ((cx A0.o ((cx A0.o ((cx A0.o (hHeld.2.2.2.2.1)))))))))))))))), (cx A0.o ((cx A0.o ((cx A0.o ((cx A0.o ((cx A0.o ((cx A0.o ((cx A0.o ((cx A0.o (hHeld.2.2.2.2.2.1)))))))))))))))), (cx A0.o ((cx A0.o ((cx A0.o ((cx A0.o ((cx A0.o ((cx A0.o ((cx A0.o ((cx A0.o (hHeld.2.2.2.2.2.2.1)))))))))))))))), (cx A0.o ((cx A0.o ((cx A0.o ((cx A0.o ((cx A0.o ((cx A0.o ((cx A0.o ((cx A0.o (hHeld.2.2.2.2.2.2.2.1)))))))))))))))), (cx A1.o ((cx A1.o ((cx A1.o ((cx A1.o ((cx A1.o ((cx A1.o ((cx A1.o ((cx A1.o (hHeld.2.2.2.2.2.2.2.2.1)))))))))))))))), (cx A1.o ((cx A1.o ((cx A1.o ((cx A1.o ((cx A1.o ((cx A1.o ((cx A1.o ((cx A1.o (hHeld.2.2.2.2.2.2.2.2.2.1)))))))))))))))), (cx A1.o ((cx A1.o ((cx A1.o ((cx A1.o ((cx A1.o ((cx A1.o ((cx A1.o ((cx A1.o (hHeld.2.2.2.2.2.2.2.2.2.2))))))))))))))))⟩ (fun hHeld => ?_)
    clear hK K
    refine one_ (i := 3) (N := none) #[true, true, true, true] rfl rfl (by kernel_rfl) (by decide) (fun K hK => ?_)
    have P7 : AU.cell? ⟨AQ, 0, none⟩ = some (.int .i64 0) := (ql Ad.o 0).trans rfl
    have hfs134 := qz Ad.o 0
    have EO := Au.o
    have EP := Aa.o
    have EQ := A2.o
    have ER := A7.o
    have ES := Aw.o
    have DJ := Av.o
    have DK := Ab.o
    have DL := Ap.o
    have DM := Ar.o
    have DN := As.o
    have P8 : AU.cell? ⟨AQ, 1, none⟩ = some (.int .i64 0) := (ql Ad.o 1).trans rfl
    have hfs135 := qz Ad.o 1
    have ET := Au.o
    have EU := Aa.o
    have EV := A2.o
    have EW := A7.o
    have EX := Aw.o
    have DO := Av.o
    have DP := Ab.o
    have DQ := Ap.o
    have DR := Ar.o
    have DS := As.o
    have P9 : AU.cell? ⟨AQ, 2, none⟩ = some (.int .i64 0) := (ql Ad.o 2).trans rfl
    have hfs136 := qz Ad.o 2
    have EY := Au.o
    have EZ := Aa.o
    have F0 := A2.o
    have F1 := A7.o
    have F2 := Aw.o
    have DT := Av.o
    have DU := Ab.o
    have DV := Ap.o
    have DW := Ar.o
    have DX := As.o
    refine skip_ (w1 := ?_) ?hwx ?hnx ?_ ?_; (case hwx => rfl); (case hnx => rfl)
    rotate_left
    ·go_simp
     rfl
    refine hK.out _ _ ⟨(cx A2.o ((cx A2.o ((cx A2.o (hHeld.1)))))), (cx A2.o ((cx A2.o ((cx A2.o (hHeld.2.1)))))), (cx A2.o ((cx A2.o ((cx A2.o (hHeld.2.2.1)))))), (cx A2.o ((cx A2.o ((cx A2.o (hHeld.2.2.2.1)))))), (cx A2.o ((cx A2.o ((cx A2.o (hHeld.2.2.2.2.1)))))), (cx A2.o ((cx A2.o ((cx A2.o (hHeld.2.2.2.2.2.1)))))), (cx A2.o ((cx A2.o ((cx A2.o (hHeld.2.2.2.2.2.2.1)))))), (cx A2.o ((cx A2.o ((cx A2.o (hHeld.2.2.2.2.2.2.2.1)))))), (cx A7.o ((cx A7.o ((cx A7.o (hHeld.2.2.2.2.2.2.2.2.1)))))), (cx A7.o ((cx A7.o ((cx A7.o (hHeld.2.2.2.2.2.2.2.2.2.1)))))), (cx A7.o ((cx A7.o ((cx A7.o (hHeld.2.2.2.2.2.2.2.2.2.2))))))⟩ (fun hHeld => ?_)
    clear hK K
    refine done_ (by kernel_rfl) ?_
    try go_wp2
    refine bodyPost_ret (results_cc rfl _ _ Ax AQ 32 52 #[.int .i64 Am, .int .i64 Ao, .slice AC An.length AD, .int .i64 a0_3, .int .i64 a0_4, .int .i64 Ag, .int .i64 Ah, .int .i64 2] #[.int .i64 Ay, .int .i64 AA, .int .i64 Az] (0, 0) (0, 0) _ _ rfl (by refine bK ?_; (iterate 3 refine qF ?_ Aa); apply st8; refine bK ?_; exact A6.o) Try.underlying32 rfl (by kernel_rfl) rfl (by refine bK ?_; apply st3; refine bK ?_; (iterate 8 refine qF ?_ Ab); exact Ad.o) Try.underlying52 rfl (by kernel_rfl)) rfl ?_
    exact ⟨_, by first | rfl | (simp [eN, eS] <;> rfl) | (simp [*, eN, eS] <;> rfl), by refine rK ?_; exact Kd.Rm (rf (rf (rf (rf1 (rf1 (rf1 (rf1 (rf1 (rf1 (rf1 (rf1 (Kd.Ry (Kd.Ry At.o A6.o (by decide)) Ad.o (by decide))))))))))))) (fun _ hk => trivial), vB HB⟩

end Go.Proofs.Ytjkiolpepchpdaa.PAll
