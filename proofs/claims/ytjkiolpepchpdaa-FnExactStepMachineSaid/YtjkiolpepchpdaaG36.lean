/- Began as a text that print.sh wrote (of the functions named below); turned and shortened by this session. -/
import Derived.Test.YtjkiolpepchpdaaG0
import Derived.Test.YtjkiolpepchpdaaG1
import Derived.Test.YtjkiolpepchpdaaG2
import Derived.Test.YtjkiolpepchpdaaG8
namespace Go.Proofs.Ytjkiolpepchpdaa.PAll
open Go.RowKit Go.Proofs.YtjkiolpepchpdaaW.PrintWords Go.Proofs.YtjkiolpepchpdaaW.PrintLast Go.Proofs.YtjkiolpepchpdaaW.PrintMore
attribute [local go_sem] max2_int min2_int max_two min_two max_three min_three max_four min_four   -- for this text's walks alone
set_option linter.unusedVariables false
set_option linter.unusedSimpArgs false

/-! ### spec_StepMachine: function 30 -/
def spec_StepMachine.f (k : Nat) (a0_0 : Int) (a0_1 : Int) (l0_2 : List (S88)) (a0_3 : Int) (a0_4 : Int) (a0_5 : Int) (a0_6 : Int) (a0_7 : Int) : Option (Int × Int × (List (S88)) × Int × Int × Int × Int × Int × Int × Int × Int × Bool) := (spec_maGood.f k a0_0 a0_1 l0_2 a0_3 a0_4 a0_5 a0_6 a0_7).bind fun t1070 => (if t1070 = true then ((spec_maCan.f a0_0 a0_1 l0_2 a0_3 a0_4 a0_5 a0_6 a0_7).bind fun t1071 => (if t1071 = true then ((spec_maStep.f k a0_0 a0_1 l0_2 a0_3 a0_4 a0_5 a0_6 a0_7).bind fun bt1072 => (some (bt1072.1, bt1072.2.1, bt1072.2.2.1, bt1072.2.2.2.1, bt1072.2.2.2.2.1, bt1072.2.2.2.2.2.1, bt1072.2.2.2.2.2.2.1, bt1072.2.2.2.2.2.2.2.1, bt1072.2.2.2.2.2.2.2.2.1, bt1072.2.2.2.2.2.2.2.2.2.1, bt1072.2.2.2.2.2.2.2.2.2.2, true))) else (some (0, 0, ([] : List (S88)), 0, 0, 0, 0, 0, 0, 0, 0, false)))) else (some (0, 0, ([] : List (S88)), 0, 0, 0, 0, 0, 0, 0, 0, false)))
set_option maxHeartbeats 8000000 in
set_option maxRecDepth 100000 in
theorem spec_StepMachine.calls (k : Nat) (a0_0 : Int) (a0_1 : Int) (A0_2 : Option Addr) (c0_2 : Nat) (l0_2 : List (S88)) (a0_3 : Int) (a0_4 : Int) (a0_5 : Int) (a0_6 : Int) (a0_7 : Int) (r1 : Int) (r2 : Int) (r3 : List (S88)) (r4 : Int) (r5 : Int) (r6 : Int) (r7 : Int) (r8 : Int) (r9 : Int) (r10 : Int) (r11 : Int) (r12 : Bool) (w : World) (hr0_2 : Kd.C k88 w A0_2 l0_2.length l0_2) (hc0_2 : l0_2.length ≤ c0_2) (h : spec_StepMachine.f k a0_0 a0_1 l0_2 a0_3 a0_4 a0_5 a0_6 a0_7 = some (r1, r2, r3, r4, r5, r6, r7, r8, r9, r10, r11, r12)) :
 Calls Try.prog 30 #[.agg #[.int .i64 a0_0, .int .i64 a0_1, .slice A0_2 l0_2.length c0_2, .int .i64 a0_3, .int .i64 a0_4, .int .i64 a0_5, .int .i64 a0_6, .int .i64 a0_7]] w fun e w' => ∃ v2_ : Value, e = .returned (.tuple #[.agg #[.int .i64 r1, .int .i64 r2, v2_, .int .i64 r4, .int .i64 r5, .int .i64 r6, .int .i64 r7, .int .i64 r8], .agg #[.int .i64 r9, .int .i64 r10, .int .i64 r11], .bool r12]) ∧ Kd.R k88 88 w' w.heap.size (fun _ => True) v2_ r3 ∧ Below w.heap.size w w' := by
 have FZ := Try.underlying32
 have G0 := Try.underlying52
 have AN := Z.m hr0_2
 have AM := Z.m hc0_2
 clear hr0_2 hc0_2
 have HB := Z.m (Below.refl w.heap.size w)
 have H : ((spec_maGood.f k a0_0 a0_1 l0_2 a0_3 a0_4 a0_5 a0_6 a0_7).bind fun AR => (if AR = true then ((spec_maCan.f a0_0 a0_1 l0_2 a0_3 a0_4 a0_5 a0_6 a0_7).bind fun AG => (if AG = true then ((spec_maStep.f k a0_0 a0_1 l0_2 a0_3 a0_4 a0_5 a0_6 a0_7).bind fun bt1072 => (some (bt1072.1, bt1072.2.1, bt1072.2.2.1, bt1072.2.2.2.1, bt1072.2.2.2.2.1, bt1072.2.2.2.2.2.1, bt1072.2.2.2.2.2.2.1, bt1072.2.2.2.2.2.2.2.1, bt1072.2.2.2.2.2.2.2.2.1, bt1072.2.2.2.2.2.2.2.2.2.1, bt1072.2.2.2.2.2.2.2.2.2.2, true))) else (some (0, 0, ([] : List (S88)), 0, 0, 0, 0, 0, 0, 0, 0, false)))) else (some (0, 0, ([] : List (S88)), 0, 0, 0, 0, 0, 0, 0, 0, false)))) = some (r1, r2, r3, r4, r5, r6, r7, r8, r9, r10, r11, r12) := h
 clear h
 replace H := Option.bind_eq_some_iff.mp H
 obtain ⟨AR, Fe, H⟩ := H
 replace H : (if AR = true then ((spec_maCan.f a0_0 a0_1 l0_2 a0_3 a0_4 a0_5 a0_6 a0_7).bind fun AG => (if AG = true then ((spec_maStep.f k a0_0 a0_1 l0_2 a0_3 a0_4 a0_5 a0_6 a0_7).bind fun bt1072 => (some (bt1072.1, bt1072.2.1, bt1072.2.2.1, bt1072.2.2.2.1, bt1072.2.2.2.2.1, bt1072.2.2.2.2.2.1, bt1072.2.2.2.2.2.2.1, bt1072.2.2.2.2.2.2.2.1, bt1072.2.2.2.2.2.2.2.2.1, bt1072.2.2.2.2.2.2.2.2.2.1, bt1072.2.2.2.2.2.2.2.2.2.2, true))) else (some (0, 0, ([] : List (S88)), 0, 0, 0, 0, 0, 0, 0, 0, false)))) else (some (0, 0, ([] : List (S88)), 0, 0, 0, 0, 0, 0, 0, 0, false))) = some (r1, r2, r3, r4, r5, r6, r7, r8, r9, r10, r11, r12) := H
 have A2 := Z.m Fe
 clear Fe
 by_cases c3 : AR = true
 ·subst c3
  have H1 : ((spec_maCan.f a0_0 a0_1 l0_2 a0_3 a0_4 a0_5 a0_6 a0_7).bind fun AG => (if AG = true then ((spec_maStep.f k a0_0 a0_1 l0_2 a0_3 a0_4 a0_5 a0_6 a0_7).bind fun bt1072 => (some (bt1072.1, bt1072.2.1, bt1072.2.2.1, bt1072.2.2.2.1, bt1072.2.2.2.2.1, bt1072.2.2.2.2.2.1, bt1072.2.2.2.2.2.2.1, bt1072.2.2.2.2.2.2.2.1, bt1072.2.2.2.2.2.2.2.2.1, bt1072.2.2.2.2.2.2.2.2.2.1, bt1072.2.2.2.2.2.2.2.2.2.2, true))) else (some (0, 0, ([] : List (S88)), 0, 0, 0, 0, 0, 0, 0, 0, false)))) = some (r1, r2, r3, r4, r5, r6, r7, r8, r9, r10, r11, r12) := by rw [if_pos rfl] at H; exact H
  clear H
  have H := H1
  clear H1
  replace H := Option.bind_eq_some_iff.mp H
  obtain ⟨AG, Ff, H⟩ := H
  replace H : (if AG = true then ((spec_maStep.f k a0_0 a0_1 l0_2 a0_3 a0_4 a0_5 a0_6 a0_7).bind fun bt1072 => (some (bt1072.1, bt1072.2.1, bt1072.2.2.1, bt1072.2.2.2.1, bt1072.2.2.2.2.1, bt1072.2.2.2.2.2.1, bt1072.2.2.2.2.2.2.1, bt1072.2.2.2.2.2.2.2.1, bt1072.2.2.2.2.2.2.2.2.1, bt1072.2.2.2.2.2.2.2.2.2.1, bt1072.2.2.2.2.2.2.2.2.2.2, true))) else (some (0, 0, ([] : List (S88)), 0, 0, 0, 0, 0, 0, 0, 0, false))) = some (r1, r2, r3, r4, r5, r6, r7, r8, r9, r10, r11, r12) := H
  have A4 := Z.m Ff
  clear Ff
  by_cases c5 : AG = true
  ·subst c5
   have H1 : ((spec_maStep.f k a0_0 a0_1 l0_2 a0_3 a0_4 a0_5 a0_6 a0_7).bind fun bt1072 => (some (bt1072.1, bt1072.2.1, bt1072.2.2.1, bt1072.2.2.2.1, bt1072.2.2.2.2.1, bt1072.2.2.2.2.2.1, bt1072.2.2.2.2.2.2.1, bt1072.2.2.2.2.2.2.2.1, bt1072.2.2.2.2.2.2.2.2.1, bt1072.2.2.2.2.2.2.2.2.2.1, bt1072.2.2.2.2.2.2.2.2.2.2, true))) = some (r1, r2, r3, r4, r5, r6, r7, r8, r9, r10, r11, r12) := by rw [if_pos rfl] at H; exact H
   clear H
   have H := H1
   clear H1
   replace H := Option.bind_eq_some_iff.mp H
   obtain ⟨⟨Ar, As, Aq, At, Au, Av, Aw, Ax, Ay, Az, AA⟩, Fg, H⟩ := H
   replace H : (some (Ar, As, Aq, At, Au, Av, Aw, Ax, Ay, Az, AA, true)) = some (r1, r2, r3, r4, r5, r6, r7, r8, r9, r10, r11, r12) := H
   have A6 := Z.m Fg
   clear Fg
   simp only [Option.some.injEq, Prod.mk.injEq] at H
   obtain ⟨rfl, rfl, rfl, rfl, rfl, rfl, rfl, rfl, rfl, rfl, rfl, rfl⟩ := H
   go_enter Try.func30, Try.ntmps30
   try go_wp2_with (first | ((with_reducible refine gq (N := 1) rfl ?_); refine be (N := 1) (cs := #[.int .i64 a0_0, .int .i64 a0_1, .slice A0_2 l0_2.length c0_2, .int .i64 a0_3, .int .i64 a0_4, .int .i64 a0_5, .int .i64 a0_6, .int .i64 a0_7]) (t := 32) ?_; intro AQ hg w7 hbox hb; have A1 := Z.m (hbox); have AJ := gW (w := w) HB hg; have AS := AJ; replace HB := bB HB hb; clear hb hbox hg) | ((with_reducible refine gq (N := 2) rfl ?_); refine be (N := 2) (cs := #[.int .i64 0, .int .i64 0, .slice none 0 0, .int .i64 0, .int .i64 0, .int .i64 0, .int .i64 0, .int .i64 0]) (t := 32) ?_; intro Am hg w8 hbox hb; have A3 := Z.m (hbox); have AK := gW (w := w) HB hg; have AT := AK; have Ad := neL A1 hg; have Ae := neG A1 hg; replace A1 := kB A1 hb; replace HB := bB HB hb; clear hb hbox hg) | ((with_reducible refine gq (N := 3) rfl ?_); refine be (N := 3) (cs := #[.int .i64 0, .int .i64 0, .int .i64 0]) (t := 52) ?_; intro AB hg w9 hbox hb; have A9 := Z.m (hbox); have AL := gW (w := w) HB hg; have AU := AL; have Aj := neL A1 hg; have Ak := neG A1 hg; have Aa := neL A3 hg; have Ab := neG A3 hg; replace A1 := kB A1 hb; replace A3 := kB A3 hb; replace HB := bB HB hb; clear hb hbox hg; have Fh := Ad.o; have Fw := Ae.o; have Fi := Aj.o; have Fx := Ak.o; have B0 := bc0 A1; have B2 := bc1 A1; have B3 := bc2 A1; have B7 := bc3 A1; have B8 := bc4 A1; have Ba := bc5 A1; have Bb := bc6 A1; have Bc := bc7 A1; have Cq := qz A1.o 0; have Cr := qz A1.o 1; have Cs := qz A1.o 2; have Ct := qz A1.o 3; have Cu := qz A1.o 4; have Cv := qz A1.o 5; have Cw := qz A1.o 6; have Cx := qz A1.o 7) | ((with_reducible refine gc (f := 34) rfl ?_); refine gA (some 8) _ #[.agg #[.int .i64 a0_0, .int .i64 a0_1, .slice A0_2 l0_2.length c0_2, .int .i64 a0_3, .int .i64 a0_4, .int .i64 a0_5, .int .i64 a0_6, .int .i64 a0_7]] ?_ Try.func34; (with_reducible refine (spec_maGood.calls k a0_0 a0_1 _ _ l0_2 a0_3 a0_4 a0_5 a0_6 a0_7 true _ ?side1 ?side2 A2.o).mono ?_); (case side1 => repeat (first | exact (Kd.C_below AN.o HB.o) | (with_reducible refine Kd.C_alloc ?_ _) | (with_reducible refine Kd.C_drewN ?_ _) | (with_reducible refine Kd.C_drew ?_))); (case side2 => exact AM.o); rintro e G2 ⟨rfl, hb⟩; refine ⟨_, rfl, ?_⟩; replace A1 := kB A1 hb; replace A3 := kB A3 hb; replace A9 := kB A9 hb; replace HB := bB HB hb; (try clear hb); (try clear AZ); (try clear hk); (try clear hi); have Bd := bc0 A1; have Be := bc1 A1; have Bf := bc2 A1; have Bg := bc3 A1; have Bh := bc4 A1; have Bi := bc5 A1; have Bj := bc6 A1; have Bk := bc7 A1; have Cy := qz A1.o 0; have Cz := qz A1.o 1; have CA := qz A1.o 2; have CB := qz A1.o 3; have CC := qz A1.o 4; have CD := qz A1.o 5; have CE := qz A1.o 6; have CF := qz A1.o 7) | (go_at_call 43; (with_reducible refine (spec_maCan.calls a0_0 a0_1 _ _ l0_2 a0_3 a0_4 a0_5 a0_6 a0_7 true _ ?side1 ?side2 A4.o).mono ?_); (case side1 => repeat (first | exact (Kd.C_below AN.o HB.o) | (with_reducible refine Kd.C_alloc ?_ _) | (with_reducible refine Kd.C_drewN ?_ _) | (with_reducible refine Kd.C_drew ?_))); (case side2 => exact AM.o); rintro e G3 ⟨rfl, hb⟩; replace A1 := kB A1 hb; replace A3 := kB A3 hb; replace A9 := kB A9 hb; replace HB := bB HB hb; (try clear hb); (try clear AZ); (try clear hk); (try clear hi); have Bl := bc0 A1; have Bm := bc1 A1; have Bn := bc2 A1; have Bo := bc3 A1; have Bp := bc4 A1; have Bq := bc5 A1; have Br := bc6 A1; have Bs := bc7 A1; have CG := qz A1.o 0; have CH := qz A1.o 1; have CI := qz A1.o 2; have CJ := qz A1.o 3; have CK := qz A1.o 4; have CL := qz A1.o 5; have CM := qz A1.o 6; have CN := qz A1.o 7) | ((with_reducible refine gc (f := 44) rfl ?_); refine gA (some 19) _ #[.agg #[.int .i64 a0_0, .int .i64 a0_1, .slice A0_2 l0_2.length c0_2, .int .i64 a0_3, .int .i64 a0_4, .int .i64 a0_5, .int .i64 a0_6, .int .i64 a0_7]] ?_ Try.func44; (with_reducible refine (spec_maStep.calls k a0_0 a0_1 _ _ l0_2 a0_3 a0_4 a0_5 a0_6 a0_7 Ar As Aq At Au Av Aw Ax Ay Az AA _ ?side1 ?side2 A6.o).mono ?_); (case side1 => repeat (first | exact (Kd.C_below AN.o HB.o) | (with_reducible refine Kd.C_alloc ?_ _) | (with_reducible refine Kd.C_drewN ?_ _) | (with_reducible refine Kd.C_drew ?_))); (case side2 => exact AM.o); rintro e G4 ⟨FN, rfl, FM, hb⟩; refine ⟨_, rfl, ?_⟩; have Ap := Z.m (Kd.R_lower FM (below_size (vB HB))); replace A1 := kB A1 hb; replace A3 := kB A3 hb; replace A9 := kB A9 hb; replace HB := bB HB hb; (try clear hb); (try clear AZ); (try clear hk); (try clear hi); (try clear FM)) | ((with_reducible refine gq (N := 5) rfl ?_); refine be (N := 5) (cs := #[.int .i64 0, .int .i64 0, .slice none 0 0, .int .i64 0, .int .i64 0, .int .i64 0, .int .i64 0, .int .i64 0]) (t := 32) ?_; intro A7 hg G5 hbox hb; have Ac := Z.m (hbox); have AX := gW (w := w) HB hg; have Fb := AX; have AC := neL A1 hg; have AO := neG A1 hg; have Ah := neL A3 hg; have A0 := neG A3 hg; have An := neL A9 hg; have A8 := neG A9 hg; replace Ap := Z.m (Kd.Rb (vR Ap) hb); replace A1 := kB A1 hb; replace A3 := kB A3 hb; replace A9 := kB A9 hb; replace HB := bB HB hb; clear hb hbox hg) | ((with_reducible refine gq (N := 6) rfl ?_); refine be (N := 6) (cs := #[.int .i64 0, .int .i64 0, .int .i64 0]) (t := 52) ?_; intro Ag hg AW hbox hb; have Al := Z.m (hbox); have AY := gW (w := w) HB hg; have Fc := AY; have AD := neL A1 hg; have AP := neG A1 hg; have Ai := neL A3 hg; have A5 := neG A3 hg; have Ao := neL A9 hg; have Af := neG A9 hg; have AE := neL Ac hg; have AF := neG Ac hg; replace Ap := Z.m (Kd.Rb (vR Ap) hb); replace A1 := kB A1 hb; replace A3 := kB A3 hb; replace A9 := kB A9 hb; replace Ac := kB Ac hb; replace HB := bB HB hb; clear hb hbox hg; have Fj := AO.o; have Fy := AC.o; have Fk := A0.o; have Fz := Ah.o; have Fl := A8.o; have FA := An.o; have Fm := AE.o; have FB := AF.o; have Bt := bc0 Ac; have Bu := bc1 Ac; have Bv := bc2 Ac; have Bw := bc3 Ac; have Bx := bc4 Ac; have By := bc5 Ac; have Bz := bc6 Ac; have BA := bc7 Ac; have CO := qz Ac.o 0; have CP := qz Ac.o 1; have CQ := qz Ac.o 2; have CR := qz Ac.o 3; have CS := qz Ac.o 4; have CT := qz Ac.o 5; have CU := qz Ac.o 6; have CV := qz Ac.o 7; obtain ⟨AH, AI, Fd⟩ := Kd.R_slice Ap.o; subst Fd; have Fn := AP.o; have FC := AD.o; have Fo := A5.o; have FD := Ai.o; have Fp := Af.o; have FE := Ao.o; have BB := bc0 Al; have BC := bc1 Al; have BD := bc2 Al; have CW := qz Al.o 0; have CX := qz Al.o 1; have CY := qz Al.o 2))
   have n0_ : Z (Kd.R k88 88 (((((((((((AW.setCell ⟨A7, 0, none⟩ (.int .i64 Ar)).setCell ⟨A7, 1, none⟩ (.int .i64 As)).setCell ⟨A7, 2, none⟩ (.slice AH Aq.length AI)).setCell ⟨A7, 3, none⟩ (.int .i64 At)).setCell ⟨A7, 4, none⟩ (.int .i64 Au)).setCell ⟨A7, 5, none⟩ (.int .i64 Av)).setCell ⟨A7, 6, none⟩ (.int .i64 Aw)).setCell ⟨A7, 7, none⟩ (.int .i64 Ax)).setCell ⟨Ag, 0, none⟩ (.int .i64 Ay)).setCell ⟨Ag, 1, none⟩ (.int .i64 Az)).setCell ⟨Ag, 2, none⟩ (.int .i64 AA)) w.heap.size (fun _ => True) (.slice AH Aq.length AI) Aq) := ⟨by refine rK ?_; exact Kd.Rm (rf (rf (rf (rf1 (rf1 (rf1 (rf1 (rf1 (rf1 (rf1 (rf1 (Kd.Ry (Kd.Ry Ap.o Ac.o (by decide)) Al.o (by decide))))))))))))) (fun _ hk => trivial)⟩
   have n1_ : Z ((((((((((((AW.setCell ⟨A7, 0, none⟩ (.int .i64 Ar)).setCell ⟨A7, 1, none⟩ (.int .i64 As)).setCell ⟨A7, 2, none⟩ (.slice AH Aq.length AI)).setCell ⟨A7, 3, none⟩ (.int .i64 At)).setCell ⟨A7, 4, none⟩ (.int .i64 Au)).setCell ⟨A7, 5, none⟩ (.int .i64 Av)).setCell ⟨A7, 6, none⟩ (.int .i64 Aw)).setCell ⟨A7, 7, none⟩ (.int .i64 Ax)).setCell ⟨Ag, 0, none⟩ (.int .i64 Ay)).setCell ⟨Ag, 1, none⟩ (.int .i64 Az)).setCell ⟨Ag, 2, none⟩ (.int .i64 AA)).heap[AQ]? = some (.cells #[.int .i64 a0_0, .int .i64 a0_1, .slice A0_2 l0_2.length c0_2, .int .i64 a0_3, .int .i64 a0_4, .int .i64 a0_5, .int .i64 a0_6, .int .i64 a0_7] 32 (0, 0))) := ⟨by refine bK ?_; (iterate 3 refine qF ?_ AD); (iterate 8 refine qF ?_ AC); exact A1.o⟩
   have n2_ : Z ((((((((((((AW.setCell ⟨A7, 0, none⟩ (.int .i64 Ar)).setCell ⟨A7, 1, none⟩ (.int .i64 As)).setCell ⟨A7, 2, none⟩ (.slice AH Aq.length AI)).setCell ⟨A7, 3, none⟩ (.int .i64 At)).setCell ⟨A7, 4, none⟩ (.int .i64 Au)).setCell ⟨A7, 5, none⟩ (.int .i64 Av)).setCell ⟨A7, 6, none⟩ (.int .i64 Aw)).setCell ⟨A7, 7, none⟩ (.int .i64 Ax)).setCell ⟨Ag, 0, none⟩ (.int .i64 Ay)).setCell ⟨Ag, 1, none⟩ (.int .i64 Az)).setCell ⟨Ag, 2, none⟩ (.int .i64 AA)).heap[Am]? = some (.cells #[.int .i64 0, .int .i64 0, .slice none 0 0, .int .i64 0, .int .i64 0, .int .i64 0, .int .i64 0, .int .i64 0] 32 (0, 0))) := ⟨by refine bK ?_; (iterate 3 refine qF ?_ Ai); (iterate 8 refine qF ?_ Ah); exact A3.o⟩
   have n3_ : Z ((((((((((((AW.setCell ⟨A7, 0, none⟩ (.int .i64 Ar)).setCell ⟨A7, 1, none⟩ (.int .i64 As)).setCell ⟨A7, 2, none⟩ (.slice AH Aq.length AI)).setCell ⟨A7, 3, none⟩ (.int .i64 At)).setCell ⟨A7, 4, none⟩ (.int .i64 Au)).setCell ⟨A7, 5, none⟩ (.int .i64 Av)).setCell ⟨A7, 6, none⟩ (.int .i64 Aw)).setCell ⟨A7, 7, none⟩ (.int .i64 Ax)).setCell ⟨Ag, 0, none⟩ (.int .i64 Ay)).setCell ⟨Ag, 1, none⟩ (.int .i64 Az)).setCell ⟨Ag, 2, none⟩ (.int .i64 AA)).heap[AB]? = some (.cells #[.int .i64 0, .int .i64 0, .int .i64 0] 52 (0, 0))) := ⟨by refine bK ?_; (iterate 3 refine qF ?_ Ao); (iterate 8 refine qF ?_ An); exact A9.o⟩
   have n4_ : Z ((((((((((((AW.setCell ⟨A7, 0, none⟩ (.int .i64 Ar)).setCell ⟨A7, 1, none⟩ (.int .i64 As)).setCell ⟨A7, 2, none⟩ (.slice AH Aq.length AI)).setCell ⟨A7, 3, none⟩ (.int .i64 At)).setCell ⟨A7, 4, none⟩ (.int .i64 Au)).setCell ⟨A7, 5, none⟩ (.int .i64 Av)).setCell ⟨A7, 6, none⟩ (.int .i64 Aw)).setCell ⟨A7, 7, none⟩ (.int .i64 Ax)).setCell ⟨Ag, 0, none⟩ (.int .i64 Ay)).setCell ⟨Ag, 1, none⟩ (.int .i64 Az)).setCell ⟨Ag, 2, none⟩ (.int .i64 AA)).heap[A7]? = some (.cells #[.int .i64 Ar, .int .i64 As, .slice AH Aq.length AI, .int .i64 At, .int .i64 Au, .int .i64 Av, .int .i64 Aw, .int .i64 Ax] 32 (0, 0))) := ⟨by refine bK ?_; (iterate 3 refine qF ?_ AE); apply st8; refine bK ?_; exact Ac.o⟩
   have n5_ : Z ((((((((((((AW.setCell ⟨A7, 0, none⟩ (.int .i64 Ar)).setCell ⟨A7, 1, none⟩ (.int .i64 As)).setCell ⟨A7, 2, none⟩ (.slice AH Aq.length AI)).setCell ⟨A7, 3, none⟩ (.int .i64 At)).setCell ⟨A7, 4, none⟩ (.int .i64 Au)).setCell ⟨A7, 5, none⟩ (.int .i64 Av)).setCell ⟨A7, 6, none⟩ (.int .i64 Aw)).setCell ⟨A7, 7, none⟩ (.int .i64 Ax)).setCell ⟨Ag, 0, none⟩ (.int .i64 Ay)).setCell ⟨Ag, 1, none⟩ (.int .i64 Az)).setCell ⟨Ag, 2, none⟩ (.int .i64 AA)).heap[Ag]? = some (.cells #[.int .i64 Ay, .int .i64 Az, .int .i64 AA] 52 (0, 0))) := ⟨by refine bK ?_; apply st3; refine bK ?_; (iterate 8 refine qF ?_ AF); exact Al.o⟩
   have n6_ : Z (Below w.heap.size w (((((((((((AW.setCell ⟨A7, 0, none⟩ (.int .i64 Ar)).setCell ⟨A7, 1, none⟩ (.int .i64 As)).setCell ⟨A7, 2, none⟩ (.slice AH Aq.length AI)).setCell ⟨A7, 3, none⟩ (.int .i64 At)).setCell ⟨A7, 4, none⟩ (.int .i64 Au)).setCell ⟨A7, 5, none⟩ (.int .i64 Av)).setCell ⟨A7, 6, none⟩ (.int .i64 Aw)).setCell ⟨A7, 7, none⟩ (.int .i64 Ax)).setCell ⟨Ag, 0, none⟩ (.int .i64 Ay)).setCell ⟨Ag, 1, none⟩ (.int .i64 Az)).setCell ⟨Ag, 2, none⟩ (.int .i64 AA))) := ⟨vB HB⟩
   (try clear Ap); (try clear A1); (try clear A3); (try clear A9); (try clear Ac); (try clear Al); (try clear HB)
   generalize (((((((((((AW.setCell ⟨A7, 0, none⟩ (.int .i64 Ar)).setCell ⟨A7, 1, none⟩ (.int .i64 As)).setCell ⟨A7, 2, none⟩ (.slice AH Aq.length AI)).setCell ⟨A7, 3, none⟩ (.int .i64 At)).setCell ⟨A7, 4, none⟩ (.int .i64 Au)).setCell ⟨A7, 5, none⟩ (.int .i64 Av)).setCell ⟨A7, 6, none⟩ (.int .i64 Aw)).setCell ⟨A7, 7, none⟩ (.int .i64 Ax)).setCell ⟨Ag, 0, none⟩ (.int .i64 Ay)).setCell ⟨Ag, 1, none⟩ (.int .i64 Az)).setCell ⟨Ag, 2, none⟩ (.int .i64 AA)) = G1 at n0_ n1_ n2_ n3_ n4_ n5_ n6_ ⊢
   have Ap := n0_
   have A1 := n1_
   have A3 := n2_
   have A9 := n3_
   have Ac := n4_
   have Al := n5_
   have HB := n6_
   clear n0_ n1_ n2_ n3_ n4_ n5_ n6_
   replace Ap := Z.m (Kd.R_drew Ap.o)
   replace A1 := Z.m (blk_drew A1.o)
   replace A3 := Z.m (blk_drew A3.o)
   replace A9 := Z.m (blk_drew A9.o)
   replace Ac := Z.m (blk_drew Ac.o)
   replace Al := Z.m (blk_drew Al.o)
   replace HB := Z.m (qd HB.o)
   refine start_ (n := 5) (S := fun w' => w'.cell? ⟨A7, 0, none⟩ = some (.int .i64 Ar) ∧ w'.cell? ⟨A7, 1, none⟩ = some (.int .i64 As) ∧ w'.cell? ⟨A7, 2, none⟩ = some (.slice AH Aq.length AI) ∧ w'.cell? ⟨A7, 3, none⟩ = some (.int .i64 At) ∧ w'.cell? ⟨A7, 4, none⟩ = some (.int .i64 Au) ∧ w'.cell? ⟨A7, 5, none⟩ = some (.int .i64 Av) ∧ w'.cell? ⟨A7, 6, none⟩ = some (.int .i64 Aw) ∧ w'.cell? ⟨A7, 7, none⟩ = some (.int .i64 Ax) ∧ w'.cell? ⟨Ag, 0, none⟩ = some (.int .i64 Ay) ∧ w'.cell? ⟨Ag, 1, none⟩ = some (.int .i64 Az) ∧ w'.cell? ⟨Ag, 2, none⟩ = some (.int .i64 AA)) (ds := []) #[false, false, false, false, false] (by kernel_rfl) rfl rfl ⟨(ql Ac.o 0).trans rfl, (ql Ac.o 1).trans rfl, (ql Ac.o 2).trans rfl, (ql Ac.o 3).trans rfl, (ql Ac.o 4).trans rfl, (ql Ac.o 5).trans rfl, (ql Ac.o 6).trans rfl, (ql Ac.o 7).trans rfl, (ql Al.o 0).trans rfl, (ql Al.o 1).trans rfl, (ql Al.o 2).trans rfl⟩ (fun hHeld => ?_)
   generalize G1.drew = AV at Ap A1 A3 A9 Ac Al HB hHeld ⊢
   refine take_ (i := 0) (N := some 22) (v := ?_) (a' := ?_) #[true, false, false, false, false] rfl rfl (by kernel_rfl) (fun _ _ _ h => h) (Or.inl ⟨by rfl, ?_⟩) hHeld ?_ ?_
   rotate_left
   ·rintro w' ⟨s0, s1, s2, s3, s4, s5, s6, s7, s8, s9, s10⟩
    go_simp
    with_reducible rfl
   rotate_left
   ·simp only [Act.put, q1, q2, q3, i64_w, i32_w]
    rfl
   refine take_ (i := 1) (N := some 23) (v := ?_) (a' := ?_) #[true, true, false, false, false] rfl rfl (by kernel_rfl) (fun _ _ _ h => h) (Or.inl ⟨by rfl, ?_⟩) hHeld ?_ ?_
   rotate_left
   ·rintro w' ⟨s0, s1, s2, s3, s4, s5, s6, s7, s8, s9, s10⟩
    go_simp
    with_reducible rfl
   rotate_left
   ·simp only [Act.put, q1, q2, q3, i64_w, i32_w]
    rfl
   refine one_ (i := 2) (N := none) #[true, true, true, false, false] rfl rfl (by kernel_rfl) (by decide) (fun K hK => ?_)
   have FO : AV.cell? ⟨Am, 0, none⟩ = some (.int .i64 0) := (ql A3.o 0).trans rfl
   have hfs32 := qz A3.o 0
   have Es := Ad.o
   have Et := Ab.o
   have Eu := A0.o
   have Ew := A5.o
   have DJ := Ae.o
   have DK := Aa.o
   have DL := Ah.o
   have DM := Ai.o
   have FP : AV.cell? ⟨Am, 1, none⟩ = some (.int .i64 0) := (ql A3.o 1).trans rfl
   have hfs33 := qz A3.o 1
   have Ex := Ad.o
   have Ey := Ab.o
   have Ez := A0.o
   have EA := A5.o
   have DN := Ae.o
   have DO := Aa.o
   have DP := Ah.o
   have DQ := Ai.o
   have FQ : AV.cell? ⟨Am, 2, none⟩ = some (.slice none 0 0) := (ql A3.o 2).trans rfl
   have hfs34 := qz A3.o 2
   have EB := Ad.o
   have EC := Ab.o
   have ED := A0.o
   have EE := A5.o
   have DR := Ae.o
   have DS := Aa.o
   have DT := Ah.o
   have DU := Ai.o
   have FR : AV.cell? ⟨Am, 3, none⟩ = some (.int .i64 0) := (ql A3.o 3).trans rfl
   have hfs35 := qz A3.o 3
   have EF := Ad.o
   have EG := Ab.o
   have EH := A0.o
   have EI := A5.o
   have DV := Ae.o
   have DW := Aa.o
   have DX := Ah.o
   have DY := Ai.o
   have FS : AV.cell? ⟨Am, 4, none⟩ = some (.int .i64 0) := (ql A3.o 4).trans rfl
   have hfs36 := qz A3.o 4
   have EJ := Ad.o
   have EK := Ab.o
   have EL := A0.o
   have EM := A5.o
   have DZ := Ae.o
   have E0 := Aa.o
   have E1 := Ah.o
   have E2 := Ai.o
   have FT : AV.cell? ⟨Am, 5, none⟩ = some (.int .i64 0) := (ql A3.o 5).trans rfl
   have hfs37 := qz A3.o 5
   have EN := Ad.o
   have EO := Ab.o
   have EP := A0.o
   have EQ := A5.o
   have E3 := Ae.o
   have E4 := Aa.o
   have E5 := Ah.o
   have E6 := Ai.o
   have FU : AV.cell? ⟨Am, 6, none⟩ = some (.int .i64 0) := (ql A3.o 6).trans rfl
   have hfs38 := qz A3.o 6
   have ER := Ad.o
   have ES := Ab.o
   have ET := A0.o
   have EU := A5.o
   have E7 := Ae.o
   have E8 := Aa.o
   have E9 := Ah.o
   have Ea := Ai.o
   have FV : AV.cell? ⟨Am, 7, none⟩ = some (.int .i64 0) := (ql A3.o 7).trans rfl
   have hfs39 := qz A3.o 7
   have EV := Ad.o
   have EW := Ab.o
   have EX := A0.o
   have EY := A5.o
   have Eb := Ae.o
   have Ec := Aa.o
   have Ed := Ah.o
   have Ee := Ai.o
   refine skip_ (w1 := ?_) ?hwx ?hnx ?_ ?_; (case hwx => rfl); (case hnx => rfl)
   rotate_left
   ·go_simp
    rfl
   refine hK.out _ _ ⟨(cx A0.o ((cx A0.o ((cx A0.o ((cx A0.o ((cx A0.o ((cx A0.o ((cx A0.o ((cx A0.o (hHeld.1)))))))))))))))), (cx A0.o ((cx A0.o ((cx A0.o ((cx A0.o ((cx A0.o ((cx A0.o ((cx A0.o ((cx A0.o (hHeld.2.1)))))))))))))))), (cx A0.o ((cx A0.o ((cx A0.o ((cx A0.o ((cx A0.o ((cx A0.o ((cx A0.o ((cx A0.o (hHeld.2.2.1)))))))))))))))), (cx A0.o ((cx A0.o ((cx A0.o ((cx A0.o ((cx A0.o ((cx A0.o ((cx A0.o ((cx A0.o (hHeld.2.2.2.1)))))))))))))))), (cx A0.o ((cx A0.o ((cx A0.o ((cx A0.o ((cx A0.o ((cx A0.o ((cx A0.o ((cx A0.o (hHeld.2.2.2.2.1)))))))))))))))), (cx A0.o ((cx A0.o ((cx A0.o ((cx A0.o ((cx A0.o ((cx A0.o ((cx A0.o ((cx A0.o (hHeld.2.2.2.2.2.1)))))))))))))))), (cx A0.o ((cx A0.o ((cx A0.o ((cx A0.o ((cx A0.o ((cx A0.o ((cx A0.o ((cx A0.o (hHeld.2.2.2.2.2.2.1)))))))))))))))), (cx A0.o ((cx A0.o ((cx A0.o ((cx A0.o ((cx A0.o ((cx A0.o ((cx A0.o ((cx A0.o (hHeld.2.2.2.2.2.2.2.1)))))))))))))))), (cx A5.o ((cx A5.o ((cx A5.o ((cx A5.o ((cx A5.o ((cx A5.o ((cx A5.o ((cx A5.o (hHeld.2.2.2.2.2.2.2.2.1)))))))))))))))), (cx A5.o ((cx A5.o ((cx A5.o ((cx A5.o ((cx A5.o ((cx A5.o ((cx A5.o ((cx A5.o (hHeld.2.2.2.2.2.2.2.2.2.1)))))))))))))))), (cx A5.o ((cx A5.o ((cx A5.o ((cx A5.o ((cx A5.o ((cx A5.o ((cx A5.o ((cx A5.o (hHeld.2.2.2.2.2.2.2.2.2.2))))))))))))))))⟩ (fun hHeld => ?_)
   clear hK K
   refine one_ (i := 3) (N := none) #[true, true, true, true, false] rfl rfl (by kernel_rfl) (by decide) (fun K hK => ?_)
   have FW : AV.cell? ⟨AB, 0, none⟩ = some (.int .i64 0) := (ql A9.o 0).trans rfl
   have hfs40 := qz A9.o 0
   have EZ := Aj.o
   have F0 := Aa.o
   have F1 := A8.o
   have F2 := Af.o
   have Ef := Ak.o
   have Eg := Ab.o
   have Eh := An.o
   have Ei := Ao.o
   have FX : AV.cell? ⟨AB, 1, none⟩ = some (.int .i64 0) := (ql A9.o 1).trans rfl
   have hfs41 := qz A9.o 1
   have F3 := Aj.o
   have F4 := Aa.o
   have F5 := A8.o
   have F6 := Af.o
   have Ej := Ak.o
   have Ek := Ab.o
   have El := An.o
   have Em := Ao.o
   have FY : AV.cell? ⟨AB, 2, none⟩ = some (.int .i64 0) := (ql A9.o 2).trans rfl
   have hfs42 := qz A9.o 2
   have F7 := Aj.o
   have F8 := Aa.o
   have F9 := A8.o
   have Fa := Af.o
   have En := Ak.o
   have Eo := Ab.o
   have Ep := An.o
   have Er := Ao.o
   refine skip_ (w1 := ?_) ?hwx ?hnx ?_ ?_; (case hwx => rfl); (case hnx => rfl)
   rotate_left
   ·go_simp
    rfl
   refine hK.out _ _ ⟨(cx A8.o ((cx A8.o ((cx A8.o (hHeld.1)))))), (cx A8.o ((cx A8.o ((cx A8.o (hHeld.2.1)))))), (cx A8.o ((cx A8.o ((cx A8.o (hHeld.2.2.1)))))), (cx A8.o ((cx A8.o ((cx A8.o (hHeld.2.2.2.1)))))), (cx A8.o ((cx A8.o ((cx A8.o (hHeld.2.2.2.2.1)))))), (cx A8.o ((cx A8.o ((cx A8.o (hHeld.2.2.2.2.2.1)))))), (cx A8.o ((cx A8.o ((cx A8.o (hHeld.2.2.2.2.2.2.1)))))), (cx A8.o ((cx A8.o ((cx A8.o (hHeld.2.2.2.2.2.2.2.1)))))), (cx Af.o ((cx Af.o ((cx Af.o (hHeld.2.2.2.2.2.2.2.2.1)))))), (cx Af.o ((cx Af.o ((cx Af.o (hHeld.2.2.2.2.2.2.2.2.2.1)))))), (cx Af.o ((cx Af.o ((cx Af.o (hHeld.2.2.2.2.2.2.2.2.2.2))))))⟩ (fun hHeld => ?_)
   clear hK K
   refine pure_ (i := 4) (N := some 4) (v := ?_) (a' := ?_) #[true, true, true, true, true] rfl rfl (by kernel_rfl) (fun _ _ _ h => h) (Or.inl ⟨by rfl, ?_⟩) ?_ ?_
   rotate_left
   ·intro w'
    go_simp
    with_reducible rfl
   rotate_left
   ·simp only [Act.put, q1, q2, q3, i64_w, i32_w]
    rfl
   refine done_ (by kernel_rfl) ?_
   try go_wp2
   refine bodyPost_ret (rl (rs := [.cell 2 32, .cell 3 52, .tmp 4]) rfl (by simp) (.cell Am 32 #[.int .i64 Ar, .int .i64 As, .slice AH Aq.length AI, .int .i64 At, .int .i64 Au, .int .i64 Av, .int .i64 Aw, .int .i64 Ax] (0, 0) _ rfl (by refine bK ?_; (iterate 3 refine qF ?_ Aa); apply st8; refine bK ?_; exact A3.o) Try.underlying32 rfl (by kernel_rfl) (.cell AB 52 #[.int .i64 Ay, .int .i64 Az, .int .i64 AA] (0, 0) _ rfl (by refine bK ?_; apply st3; refine bK ?_; (iterate 8 refine qF ?_ Ab); exact A9.o) Try.underlying52 rfl (by kernel_rfl) (.tmp .nil)))) rfl ?_
   exact ⟨_, by first | rfl | (simp [eN, eS] <;> rfl) | (simp [*, eN, eS] <;> rfl), by refine rK ?_; exact Kd.Rm (rf (rf (rf (rf1 (rf1 (rf1 (rf1 (rf1 (rf1 (rf1 (rf1 (Kd.Ry (Kd.Ry Ap.o A3.o (by decide)) A9.o (by decide))))))))))))) (fun _ hk => trivial), vB HB⟩
  ·replace c5 := Bool.eq_false_iff.mpr c5
   subst c5
   have H1 : (some (0, 0, ([] : List (S88)), 0, 0, 0, 0, 0, 0, 0, 0, false)) = some (r1, r2, r3, r4, r5, r6, r7, r8, r9, r10, r11, r12) := by rw [if_neg (show ¬ (false = true) by decide)] at H; exact H
   clear H
   have H := H1
   clear H1
   simp only [Option.some.injEq, Prod.mk.injEq] at H
   obtain ⟨rfl, rfl, rfl, rfl, rfl, rfl, rfl, rfl, rfl, rfl, rfl, rfl⟩ := H
   go_enter Try.func30, Try.ntmps30
   go_wp2_with (first | ((with_reducible refine gq (N := 1) rfl ?_); refine be (N := 1) (cs := #[.int .i64 a0_0, .int .i64 a0_1, .slice A0_2 l0_2.length c0_2, .int .i64 a0_3, .int .i64 a0_4, .int .i64 a0_5, .int .i64 a0_6, .int .i64 a0_7]) (t := 32) ?_; intro AQ hg G6 hbox hb; have A1 := Z.m (hbox); have AJ := gW (w := w) HB hg; have AS := AJ; replace HB := bB HB hb; clear hb hbox hg) | ((with_reducible refine gq (N := 2) rfl ?_); refine be (N := 2) (cs := #[.int .i64 0, .int .i64 0, .slice none 0 0, .int .i64 0, .int .i64 0, .int .i64 0, .int .i64 0, .int .i64 0]) (t := 32) ?_; intro Am hg G7 hbox hb; have A3 := Z.m (hbox); have AK := gW (w := w) HB hg; have AT := AK; have Ad := neL A1 hg; have Ae := neG A1 hg; replace A1 := kB A1 hb; replace HB := bB HB hb; clear hb hbox hg) | ((with_reducible refine gq (N := 3) rfl ?_); refine be (N := 3) (cs := #[.int .i64 0, .int .i64 0, .int .i64 0]) (t := 52) ?_; intro AB hg G8 hbox hb; have A9 := Z.m (hbox); have AL := gW (w := w) HB hg; have AU := AL; have Aj := neL A1 hg; have Ak := neG A1 hg; have Aa := neL A3 hg; have Ab := neG A3 hg; replace A1 := kB A1 hb; replace A3 := kB A3 hb; replace HB := bB HB hb; clear hb hbox hg; have Fq := Ad.o; have FF := Ae.o; have Fr := Aj.o; have FG := Ak.o; have BE := bc0 A1; have BF := bc1 A1; have BG := bc2 A1; have BH := bc3 A1; have BI := bc4 A1; have BJ := bc5 A1; have BK := bc6 A1; have BL := bc7 A1; have CZ := qz A1.o 0; have D0 := qz A1.o 1; have D1 := qz A1.o 2; have D2 := qz A1.o 3; have D3 := qz A1.o 4; have D4 := qz A1.o 5; have D5 := qz A1.o 6; have D6 := qz A1.o 7) | ((with_reducible refine gc (f := 34) rfl ?_); refine gA (some 8) _ #[.agg #[.int .i64 a0_0, .int .i64 a0_1, .slice A0_2 l0_2.length c0_2, .int .i64 a0_3, .int .i64 a0_4, .int .i64 a0_5, .int .i64 a0_6, .int .i64 a0_7]] ?_ Try.func34; (with_reducible refine (spec_maGood.calls k a0_0 a0_1 _ _ l0_2 a0_3 a0_4 a0_5 a0_6 a0_7 true _ ?side1 ?side2 A2.o).mono ?_); (case side1 => repeat (first | exact (Kd.C_below AN.o HB.o) | (with_reducible refine Kd.C_alloc ?_ _) | (with_reducible refine Kd.C_drewN ?_ _) | (with_reducible refine Kd.C_drew ?_))); (case side2 => exact AM.o); rintro e G9 ⟨rfl, hb⟩; refine ⟨_, rfl, ?_⟩; replace A1 := kB A1 hb; replace A3 := kB A3 hb; replace A9 := kB A9 hb; replace HB := bB HB hb; (try clear hb); (try clear AZ); (try clear hk); (try clear hi); have BM := bc0 A1; have BN := bc1 A1; have BO := bc2 A1; have BP := bc3 A1; have BQ := bc4 A1; have BR := bc5 A1; have BS := bc6 A1; have BT := bc7 A1; have D7 := qz A1.o 0; have D8 := qz A1.o 1; have D9 := qz A1.o 2; have Da := qz A1.o 3; have Db := qz A1.o 4; have Dc := qz A1.o 5; have Dd := qz A1.o 6; have De := qz A1.o 7) | (go_at_call 43; (with_reducible refine (spec_maCan.calls a0_0 a0_1 _ _ l0_2 a0_3 a0_4 a0_5 a0_6 a0_7 false _ ?side1 ?side2 A4.o).mono ?_); (case side1 => repeat (first | exact (Kd.C_below AN.o HB.o) | (with_reducible refine Kd.C_alloc ?_ _) | (with_reducible refine Kd.C_drewN ?_ _) | (with_reducible refine Kd.C_drew ?_))); (case side2 => exact AM.o); rintro e Ga ⟨rfl, hb⟩; replace A1 := kB A1 hb; replace A3 := kB A3 hb; replace A9 := kB A9 hb; replace HB := bB HB hb; (try clear hb); (try clear AZ); (try clear hk); (try clear hi); have Fs := Aa.o; have FH := Ab.o; have BU := bc0 A3; have BV := bc1 A3; have BW := bc2 A3; have BX := bc3 A3; have BY := bc4 A3; have BZ := bc5 A3; have C0 := bc6 A3; have C1 := bc7 A3; have Df := qz A3.o 0; have Dg := qz A3.o 1; have Dh := qz A3.o 2; have Di := qz A3.o 3; have Dj := qz A3.o 4; have Dk := qz A3.o 5; have Dl := qz A3.o 6; have Dm := qz A3.o 7; have C2 := bc0 A9; have C3 := bc1 A9; have C4 := bc2 A9; have Dn := qz A9.o 0; have Do := qz A9.o 1; have Dp := qz A9.o 2))
   refine bodyPost_ret (rl (rs := [.cell 2 32, .cell 3 52, .tmp 4]) rfl (by simp) (.cell Am 32 #[.int .i64 0, .int .i64 0, .slice none 0 0, .int .i64 0, .int .i64 0, .int .i64 0, .int .i64 0, .int .i64 0] (0, 0) _ rfl (by refine bK ?_; (iterate 3 refine qF ?_ Aa); apply st8; refine bK ?_; exact A3.o) Try.underlying32 rfl (by kernel_rfl) (.cell AB 52 #[.int .i64 0, .int .i64 0, .int .i64 0] (0, 0) _ rfl (by refine bK ?_; apply st3; refine bK ?_; (iterate 8 refine qF ?_ Ab); exact A9.o) Try.underlying52 rfl (by kernel_rfl) (.tmp .nil)))) rfl ?_
   exact ⟨_, by first | rfl | (simp [eN, eS] <;> rfl) | (simp [*, eN, eS] <;> rfl), by first | exact Kd.R_nil _ _ _ _ _ | exact Kd.N_nil _ _ _ _ _ | exact Kd.V_nil _ _ _ _ _ | exact Kd.Q_nil _ _ _ _ _ | exact Kd.S_nil _ _ _ _ _, vB HB⟩
 ·replace c3 := Bool.eq_false_iff.mpr c3
  subst c3
  have H1 : (some (0, 0, ([] : List (S88)), 0, 0, 0, 0, 0, 0, 0, 0, false)) = some (r1, r2, r3, r4, r5, r6, r7, r8, r9, r10, r11, r12) := by rw [if_neg (show ¬ (false = true) by decide)] at H; exact H
  clear H
  have H := H1
  clear H1
  simp only [Option.some.injEq, Prod.mk.injEq] at H
  obtain ⟨rfl, rfl, rfl, rfl, rfl, rfl, rfl, rfl, rfl, rfl, rfl, rfl⟩ := H
  go_enter Try.func30, Try.ntmps30
  go_wp2_with (first | ((with_reducible refine gq (N := 1) rfl ?_); refine be (N := 1) (cs := #[.int .i64 a0_0, .int .i64 a0_1, .slice A0_2 l0_2.length c0_2, .int .i64 a0_3, .int .i64 a0_4, .int .i64 a0_5, .int .i64 a0_6, .int .i64 a0_7]) (t := 32) ?_; intro AQ hg Gb hbox hb; have A1 := Z.m (hbox); have AJ := gW (w := w) HB hg; have AS := AJ; replace HB := bB HB hb; clear hb hbox hg) | ((with_reducible refine gq (N := 2) rfl ?_); refine be (N := 2) (cs := #[.int .i64 0, .int .i64 0, .slice none 0 0, .int .i64 0, .int .i64 0, .int .i64 0, .int .i64 0, .int .i64 0]) (t := 32) ?_; intro Am hg Gc hbox hb; have A3 := Z.m (hbox); have AK := gW (w := w) HB hg; have AT := AK; have Ad := neL A1 hg; have Ae := neG A1 hg; replace A1 := kB A1 hb; replace HB := bB HB hb; clear hb hbox hg) | ((with_reducible refine gq (N := 3) rfl ?_); refine be (N := 3) (cs := #[.int .i64 0, .int .i64 0, .int .i64 0]) (t := 52) ?_; intro AB hg Gd hbox hb; have A9 := Z.m (hbox); have AL := gW (w := w) HB hg; have AU := AL; have Aj := neL A1 hg; have Ak := neG A1 hg; have Aa := neL A3 hg; have Ab := neG A3 hg; replace A1 := kB A1 hb; replace A3 := kB A3 hb; replace HB := bB HB hb; clear hb hbox hg; have Ft := Ad.o; have FI := Ae.o; have Fu := Aj.o; have FJ := Ak.o; have C5 := bc0 A1; have C6 := bc1 A1; have C7 := bc2 A1; have C8 := bc3 A1; have C9 := bc4 A1; have Ca := bc5 A1; have Cb := bc6 A1; have Cd := bc7 A1; have Dq := qz A1.o 0; have Dr := qz A1.o 1; have Ds := qz A1.o 2; have Dt := qz A1.o 3; have Du := qz A1.o 4; have Dv := qz A1.o 5; have Dw := qz A1.o 6; have Dx := qz A1.o 7) | ((with_reducible refine gc (f := 34) rfl ?_); refine gA (some 8) _ #[.agg #[.int .i64 a0_0, .int .i64 a0_1, .slice A0_2 l0_2.length c0_2, .int .i64 a0_3, .int .i64 a0_4, .int .i64 a0_5, .int .i64 a0_6, .int .i64 a0_7]] ?_ Try.func34; (with_reducible refine (spec_maGood.calls k a0_0 a0_1 _ _ l0_2 a0_3 a0_4 a0_5 a0_6 a0_7 false _ ?side1 ?side2 A2.o).mono ?_); (case side1 => repeat (first | exact (Kd.C_below AN.o HB.o) | (with_reducible refine Kd.C_alloc ?_ _) | (with_reducible refine Kd.C_drewN ?_ _) | (with_reducible refine Kd.C_drew ?_))); (case side2 => exact AM.o); rintro e Ge ⟨rfl, hb⟩; refine ⟨_, rfl, ?_⟩; replace A1 := kB A1 hb; replace A3 := kB A3 hb; replace A9 := kB A9 hb; replace HB := bB HB hb; (try clear hb); (try clear AZ); (try clear hk); (try clear hi); have Fv := Aa.o; have FL := Ab.o; have Ce := bc0 A3; have Cf := bc1 A3; have Cg := bc2 A3; have Ch := bc3 A3; have Ci := bc4 A3; have Cj := bc5 A3; have Cl := bc6 A3; have Cm := bc7 A3; have Dy := qz A3.o 0; have Dz := qz A3.o 1; have DA := qz A3.o 2; have DB := qz A3.o 3; have DC := qz A3.o 4; have DD := qz A3.o 5; have DE := qz A3.o 6; have DF := qz A3.o 7; have Cn := bc0 A9; have Co := bc1 A9; have Cp := bc2 A9; have DG := qz A9.o 0; have DH := qz A9.o 1; have DI := qz A9.o 2))
  refine bodyPost_ret (rl (rs := [.cell 2 32, .cell 3 52, .tmp 4]) rfl (by simp) (.cell Am 32 #[.int .i64 0, .int .i64 0, .slice none 0 0, .int .i64 0, .int .i64 0, .int .i64 0, .int .i64 0, .int .i64 0] (0, 0) _ rfl (by refine bK ?_; (iterate 3 refine qF ?_ Aa); apply st8; refine bK ?_; exact A3.o) Try.underlying32 rfl (by kernel_rfl) (.cell AB 52 #[.int .i64 0, .int .i64 0, .int .i64 0] (0, 0) _ rfl (by refine bK ?_; apply st3; refine bK ?_; (iterate 8 refine qF ?_ Ab); exact A9.o) Try.underlying52 rfl (by kernel_rfl) (.tmp .nil)))) rfl ?_
  exact ⟨_, by first | rfl | (simp [eN, eS] <;> rfl) | (simp [*, eN, eS] <;> rfl), by first | exact Kd.R_nil _ _ _ _ _ | exact Kd.N_nil _ _ _ _ _ | exact Kd.V_nil _ _ _ _ _ | exact Kd.Q_nil _ _ _ _ _ | exact Kd.S_nil _ _ _ _ _, vB HB⟩

end Go.Proofs.Ytjkiolpepchpdaa.PAll
