/- Began as a text that print.sh wrote (of the functions named below); turned and shortened by this session. -/
import Derived.Test.YtjkiolpepchpdaaG0
import Derived.Test.YtjkiolpepchpdaaG12
import Derived.Test.YtjkiolpepchpdaaG16
import Derived.Test.YtjkiolpepchpdaaG18
namespace Go.Proofs.Ytjkiolpepchpdaa.PAll
open Go.RowKit Go.Proofs.YtjkiolpepchpdaaW.PrintWords Go.Proofs.YtjkiolpepchpdaaW.PrintLast Go.Proofs.YtjkiolpepchpdaaW.PrintMore
attribute [local go_sem] max2_int min2_int max_two min_two max_three min_three max_four min_four   -- for this text's walks alone
set_option linter.unusedVariables false
set_option linter.unusedSimpArgs false

/-! ### impl_StepMachine: function 31 -/
def impl_StepMachine.j0 : Nat → Bool → Int → Int → List (S88) → Int → Int → Int → Int → Int → Option (Int × Int × (List (S88)) × Int × Int × Int × Int × Int × Int × Int × Int × Bool)
 | 0, _, _, _, _, _, _, _, _, _ => none
 | k + 1, x14, x1088000, x1088001, x1088002, x1088003, x1088004, x1088005, x1088006, x1088007 => if x14 = true then (some (0, 0, ([] : List (S88)), 0, 0, 0, 0, 0, 0, 0, 0, false)) else ((impl_copyMachine.f x1088000 x1088001 x1088002 x1088003 x1088004 x1088005 x1088006 x1088007).bind fun bt1092 => ((impl_groupNumbers.f k x1088000 x1088001 x1088002).bind fun t1103 => ((impl_stepOn.f k bt1092.1 bt1092.2.1 bt1092.2.2.1 bt1092.2.2.2.1 bt1092.2.2.2.2.1 bt1092.2.2.2.2.2.1 bt1092.2.2.2.2.2.2.1 bt1092.2.2.2.2.2.2.2 t1103).bind fun bt1106 => (some (bt1092.1, bt1092.2.1, bt1106.2.2.2.2.2.2, bt1092.2.2.2.1, bt1092.2.2.2.2.1, bt1106.2.2.2.1, bt1106.2.2.2.2.1, bt1106.2.2.2.2.2.1, bt1106.1, bt1106.2.1, bt1106.2.2.1, true)))))
def impl_StepMachine.f (k : Nat) (a0_0 : Int) (a0_1 : Int) (l0_2 : List (S88)) (a0_3 : Int) (a0_4 : Int) (a0_5 : Int) (a0_6 : Int) (a0_7 : Int) : Option (Int × Int × (List (S88)) × Int × Int × Int × Int × Int × Int × Int × Int × Bool) := (impl_IsMachine.f k a0_0 a0_1 l0_2 a0_3 a0_4 a0_5 a0_6 a0_7).bind fun t1090 => (if t1090 = true then ((impl_canStep.f a0_0 a0_1 l0_2 a0_3 a0_4 a0_5 a0_6 a0_7).bind fun t1091 => (impl_StepMachine.j0 k (!t1091) a0_0 a0_1 l0_2 a0_3 a0_4 a0_5 a0_6 a0_7)) else (impl_StepMachine.j0 k true a0_0 a0_1 l0_2 a0_3 a0_4 a0_5 a0_6 a0_7))
set_option maxHeartbeats 8000000 in
set_option maxRecDepth 100000 in
theorem impl_StepMachine.calls (k : Nat) (a0_0 : Int) (a0_1 : Int) (A0_2 : Option Addr) (c0_2 : Nat) (l0_2 : List (S88)) (a0_3 : Int) (a0_4 : Int) (a0_5 : Int) (a0_6 : Int) (a0_7 : Int) (r1 : Int) (r2 : Int) (r3 : List (S88)) (r4 : Int) (r5 : Int) (r6 : Int) (r7 : Int) (r8 : Int) (r9 : Int) (r10 : Int) (r11 : Int) (r12 : Bool) (w : World) (hr0_2 : Kd.C k88 w A0_2 l0_2.length l0_2) (hc0_2 : l0_2.length ≤ c0_2) (h : impl_StepMachine.f k a0_0 a0_1 l0_2 a0_3 a0_4 a0_5 a0_6 a0_7 = some (r1, r2, r3, r4, r5, r6, r7, r8, r9, r10, r11, r12)) :
 Calls Try.prog 31 #[.agg #[.int .i64 a0_0, .int .i64 a0_1, .slice A0_2 l0_2.length c0_2, .int .i64 a0_3, .int .i64 a0_4, .int .i64 a0_5, .int .i64 a0_6, .int .i64 a0_7]] w fun e w' => ∃ v2_ : Value, e = .returned (.tuple #[.agg #[.int .i64 r1, .int .i64 r2, v2_, .int .i64 r4, .int .i64 r5, .int .i64 r6, .int .i64 r7, .int .i64 r8], .agg #[.int .i64 r9, .int .i64 r10, .int .i64 r11], .bool r12]) ∧ Kd.R k88 88 w' w.heap.size (fun _ => True) v2_ r3 ∧ Below w.heap.size w w' := by
 have Gd := Try.underlying32
 have Ge := Try.underlying52
 have Gc := Try.underlying30
 have AL := Z.m hr0_2
 have AK := Z.m hc0_2
 clear hr0_2 hc0_2
 have HB := Z.m (Below.refl w.heap.size w)
 have H : ((impl_IsMachine.f k a0_0 a0_1 l0_2 a0_3 a0_4 a0_5 a0_6 a0_7).bind fun AS => (if AS = true then ((impl_canStep.f a0_0 a0_1 l0_2 a0_3 a0_4 a0_5 a0_6 a0_7).bind fun AC => (impl_StepMachine.j0 k (!AC) a0_0 a0_1 l0_2 a0_3 a0_4 a0_5 a0_6 a0_7)) else (impl_StepMachine.j0 k true a0_0 a0_1 l0_2 a0_3 a0_4 a0_5 a0_6 a0_7))) = some (r1, r2, r3, r4, r5, r6, r7, r8, r9, r10, r11, r12) := h
 clear h
 have Fj := Z.m H
 clear H
 go_enter Try.func31, Try.ntmps31
 go_upto_region 1 with (first | ((with_reducible refine gq (N := 1) rfl ?_); refine be (N := 1) (cs := #[.int .i64 a0_0, .int .i64 a0_1, .slice A0_2 l0_2.length c0_2, .int .i64 a0_3, .int .i64 a0_4, .int .i64 a0_5, .int .i64 a0_6, .int .i64 a0_7]) (t := 32) ?_; intro AA hg w3 hbox hb; have A1 := Z.m (hbox); have B2 := gW (w := w) HB hg; have AY := B2; replace HB := bB HB hb; clear hb hbox hg) | ((with_reducible refine gq (N := 2) rfl ?_); refine be (N := 2) (cs := #[.int .i64 0, .int .i64 0, .slice none 0 0, .int .i64 0, .int .i64 0, .int .i64 0, .int .i64 0, .int .i64 0]) (t := 32) ?_; intro Ai hg w4 hbox hb; have A4 := Z.m (hbox); have B3 := gW (w := w) HB hg; have AZ := B3; have Ad := neL A1 hg; have Ae := neG A1 hg; replace A1 := kB A1 hb; replace HB := bB HB hb; clear hb hbox hg) | ((with_reducible refine gq (N := 3) rfl ?_); refine be (N := 3) (cs := #[.int .i64 0, .int .i64 0, .int .i64 0]) (t := 52) ?_; intro Ap hg w5 hbox hb; have A7 := Z.m (hbox); have B7 := gW (w := w) HB hg; have B0 := B7; have Ak := neL A1 hg; have Al := neG A1 hg; have Aa := neL A4 hg; have Ab := neG A4 hg; replace A1 := kB A1 hb; replace A4 := kB A4 hb; replace HB := bB HB hb; clear hb hbox hg))
 (try simp only [Act.put, q1, q2, q3])
 go_cut [14] (fun v14 wc => ∃ (kq : Nat) (AT : Bool), v14 = .bool AT ∧ Z (impl_StepMachine.j0 kq AT a0_0 a0_1 l0_2 a0_3 a0_4 a0_5 a0_6 a0_7 = some (r1, r2, r3, r4, r5, r6, r7, r8, r9, r10, r11, r12)) ∧ Z (kq ≤ k) ∧ Z (wc.heap[AA]? = some (.cells #[.int .i64 a0_0, .int .i64 a0_1, (.slice A0_2 l0_2.length c0_2), .int .i64 a0_3, .int .i64 a0_4, .int .i64 a0_5, .int .i64 a0_6, .int .i64 a0_7] 32 (0, 0))) ∧ Z (wc.heap[Ai]? = some (.cells #[.int .i64 0, .int .i64 0, (.slice none 0 0), .int .i64 0, .int .i64 0, .int .i64 0, .int .i64 0, .int .i64 0] 32 (0, 0))) ∧ Z (wc.heap[Ap]? = some (.cells #[.int .i64 0, .int .i64 0, .int .i64 0] 52 (0, 0))) ∧ Z (Below w.heap.size w wc))
 case first =>
  have H := Fj.o
  clear Fj
  replace H := Option.bind_eq_some_iff.mp H
  obtain ⟨AS, Fm, H⟩ := H
  replace H : (if AS = true then ((impl_canStep.f a0_0 a0_1 l0_2 a0_3 a0_4 a0_5 a0_6 a0_7).bind fun AC => (impl_StepMachine.j0 k (!AC) a0_0 a0_1 l0_2 a0_3 a0_4 a0_5 a0_6 a0_7)) else (impl_StepMachine.j0 k true a0_0 a0_1 l0_2 a0_3 a0_4 a0_5 a0_6 a0_7)) = some (r1, r2, r3, r4, r5, r6, r7, r8, r9, r10, r11, r12) := H
  have A6 := Z.m Fm
  clear Fm
  by_cases c7 : AS = true
  ·subst c7
   have H1 : ((impl_canStep.f a0_0 a0_1 l0_2 a0_3 a0_4 a0_5 a0_6 a0_7).bind fun AC => (impl_StepMachine.j0 k (!AC) a0_0 a0_1 l0_2 a0_3 a0_4 a0_5 a0_6 a0_7)) = some (r1, r2, r3, r4, r5, r6, r7, r8, r9, r10, r11, r12) := by rw [if_pos rfl] at H; exact H
   clear H
   have H := H1
   clear H1
   replace H := Option.bind_eq_some_iff.mp H
   obtain ⟨AC, Fn, H⟩ := H
   replace H : (impl_StepMachine.j0 k (!AC) a0_0 a0_1 l0_2 a0_3 a0_4 a0_5 a0_6 a0_7) = some (r1, r2, r3, r4, r5, r6, r7, r8, r9, r10, r11, r12) := H
   have A8 := Z.m Fn
   clear Fn
   have H' := Z.m H
   clear H
   have FZ := Ad.o
   have G0 := Ae.o
   have Fo := Ak.o
   have FD := Al.o
   have Bi := bc0 A1
   have Bj := bc1 A1
   have Bk := bc2 A1
   have Bl := bc3 A1
   have Bm := bc4 A1
   have Bn := bc5 A1
   have Bo := bc6 A1
   have Bp := bc7 A1
   have CA := qz A1.o 0
   have CB := qz A1.o 1
   have CC := qz A1.o 2
   have CD := qz A1.o 3
   have CE := qz A1.o 4
   have CF := qz A1.o 5
   have CG := qz A1.o 6
   have CH := qz A1.o 7
   go_wp2_with (first | ((with_reducible refine gc (f := 38) rfl ?_); refine gA (some 8) _ #[.agg #[.int .i64 a0_0, .int .i64 a0_1, .slice A0_2 l0_2.length c0_2, .int .i64 a0_3, .int .i64 a0_4, .int .i64 a0_5, .int .i64 a0_6, .int .i64 a0_7]] ?_ Try.func38; (with_reducible refine (impl_IsMachine.calls k a0_0 a0_1 _ _ l0_2 a0_3 a0_4 a0_5 a0_6 a0_7 true _ ?side1 ?side2 A6.o).mono ?_); (case side1 => repeat (first | exact (Kd.C_below AL.o HB.o) | (with_reducible refine Kd.C_alloc ?_ _) | (with_reducible refine Kd.C_drewN ?_ _) | (with_reducible refine Kd.C_drew ?_))); (case side2 => exact AK.o); rintro e Gh ⟨rfl, hb⟩; refine ⟨_, rfl, ?_⟩; replace A1 := kB A1 hb; replace A4 := kB A4 hb; replace A7 := kB A7 hb; replace HB := bB HB hb; (try clear hb); (try clear Bh); (try clear hk); (try clear hi); have Bq := bc0 A1; have Br := bc1 A1; have Bs := bc2 A1; have Bt := bc3 A1; have Bu := bc4 A1; have Bv := bc5 A1; have Bw := bc6 A1; have Bx := bc7 A1; have CI := qz A1.o 0; have CJ := qz A1.o 1; have CK := qz A1.o 2; have CL := qz A1.o 3; have CM := qz A1.o 4; have CN := qz A1.o 5; have CO := qz A1.o 6; have CP := qz A1.o 7) | (go_at_call 45; (with_reducible refine (impl_canStep.calls a0_0 a0_1 _ _ l0_2 a0_3 a0_4 a0_5 a0_6 a0_7 AC _ ?side1 ?side2 A8.o).mono ?_); (case side1 => repeat (first | exact (Kd.C_below AL.o HB.o) | (with_reducible refine Kd.C_alloc ?_ _) | (with_reducible refine Kd.C_drewN ?_ _) | (with_reducible refine Kd.C_drew ?_))); (case side2 => exact AK.o); rintro e Gi ⟨rfl, hb⟩; replace A1 := kB A1 hb; replace A4 := kB A4 hb; replace A7 := kB A7 hb; replace HB := bB HB hb; (try clear hb); (try clear Bh); (try clear hk); (try clear hi)))
   go_meet
   case rel => exact ⟨_, (!AC), (by first | rfl | (simp; done) | (simp [*]; done)), H', ⟨by first | omega | exact Nat.le_refl _⟩, ⟨vK A1⟩, ⟨vK A4⟩, ⟨vK A7⟩, ⟨vB HB⟩⟩
  ·replace c7 := Bool.eq_false_iff.mpr c7
   subst c7
   have H1 : (impl_StepMachine.j0 k true a0_0 a0_1 l0_2 a0_3 a0_4 a0_5 a0_6 a0_7) = some (r1, r2, r3, r4, r5, r6, r7, r8, r9, r10, r11, r12) := by rw [if_neg (show ¬ (false = true) by decide)] at H; exact H
   clear H
   have H := H1
   clear H1
   have H' := Z.m H
   clear H
   have Fp := Ad.o
   have FE := Ae.o
   have Fq := Ak.o
   have FF := Al.o
   have By := bc0 A1
   have Bz := bc1 A1
   have BA := bc2 A1
   have BB := bc3 A1
   have BC := bc4 A1
   have BD := bc5 A1
   have BE := bc6 A1
   have BF := bc7 A1
   have CQ := qz A1.o 0
   have CR := qz A1.o 1
   have CS := qz A1.o 2
   have CT := qz A1.o 3
   have CU := qz A1.o 4
   have CV := qz A1.o 5
   have CW := qz A1.o 6
   have CX := qz A1.o 7
   go_wp2_with (first | ((with_reducible refine gc (f := 38) rfl ?_); refine gA (some 8) _ #[.agg #[.int .i64 a0_0, .int .i64 a0_1, .slice A0_2 l0_2.length c0_2, .int .i64 a0_3, .int .i64 a0_4, .int .i64 a0_5, .int .i64 a0_6, .int .i64 a0_7]] ?_ Try.func38; (with_reducible refine (impl_IsMachine.calls k a0_0 a0_1 _ _ l0_2 a0_3 a0_4 a0_5 a0_6 a0_7 false _ ?side1 ?side2 A6.o).mono ?_); (case side1 => repeat (first | exact (Kd.C_below AL.o HB.o) | (with_reducible refine Kd.C_alloc ?_ _) | (with_reducible refine Kd.C_drewN ?_ _) | (with_reducible refine Kd.C_drew ?_))); (case side2 => exact AK.o); rintro e Gj ⟨rfl, hb⟩; refine ⟨_, rfl, ?_⟩; replace A1 := kB A1 hb; replace A4 := kB A4 hb; replace A7 := kB A7 hb; replace HB := bB HB hb; (try clear hb); (try clear Bh); (try clear hk); (try clear hi)))
   go_meet
   case rel => exact ⟨_, (true), (by first | rfl | (simp; done) | (simp [*]; done)), H', ⟨by first | omega | exact Nat.le_refl _⟩, ⟨vK A1⟩, ⟨vK A4⟩, ⟨vK A7⟩, ⟨vB HB⟩⟩
 case rest =>
  clear Fj
  obtain ⟨kq, AT, rfl, HA, Gg, A1, A4, A7, HB⟩ := hcut
  cases kq with
  | zero => exact absurd HA.o (by simp [impl_StepMachine.j0])
  | succ kj1 =>
   have H := HA.o
   clear HA
   simp only [impl_StepMachine.j0] at H
   by_cases c19 : AT = true
   ·subst c19
    have H1 : (some (0, 0, ([] : List (S88)), 0, 0, 0, 0, 0, 0, 0, 0, false)) = some (r1, r2, r3, r4, r5, r6, r7, r8, r9, r10, r11, r12) := by rw [if_pos rfl] at H; exact H
    clear H
    have H := H1
    clear H1
    simp only [Option.some.injEq, Prod.mk.injEq] at H
    obtain ⟨rfl, rfl, rfl, rfl, rfl, rfl, rfl, rfl, rfl, rfl, rfl, rfl⟩ := H
    have Fr := Ae.o
    have FG := Ad.o
    have Fs := Aa.o
    have FH := Ab.o
    have BG := bc0 A4
    have BH := bc1 A4
    have BI := bc2 A4
    have BJ := bc3 A4
    have BK := bc4 A4
    have BL := bc5 A4
    have BM := bc6 A4
    have BN := bc7 A4
    have CY := qz A4.o 0
    have CZ := qz A4.o 1
    have D0 := qz A4.o 2
    have D1 := qz A4.o 3
    have D2 := qz A4.o 4
    have D3 := qz A4.o 5
    have D4 := qz A4.o 6
    have D5 := qz A4.o 7
    have Ft := Al.o
    have FI := Ak.o
    have BO := bc0 A7
    have BP := bc1 A7
    have BQ := bc2 A7
    have D6 := qz A7.o 0
    have D7 := qz A7.o 1
    have D8 := qz A7.o 2
    go_wp2
    refine bodyPost_ret (rl (rs := [.cell 2 32, .cell 3 52, .tmp 4]) rfl (by simp) (.cell Ai 32 #[.int .i64 0, .int .i64 0, .slice none 0 0, .int .i64 0, .int .i64 0, .int .i64 0, .int .i64 0, .int .i64 0] (0, 0) _ rfl (by refine bK ?_; (iterate 3 refine qF ?_ Aa); apply st8; refine bK ?_; exact A4.o) Try.underlying32 rfl (by kernel_rfl) (.cell Ap 52 #[.int .i64 0, .int .i64 0, .int .i64 0] (0, 0) _ rfl (by refine bK ?_; apply st3; refine bK ?_; (iterate 8 refine qF ?_ Ab); exact A7.o) Try.underlying52 rfl (by kernel_rfl) (.tmp .nil)))) rfl ?_
    exact ⟨_, by first | rfl | (simp [eN, eS] <;> rfl) | (simp [*, eN, eS] <;> rfl), by first | exact Kd.R_nil _ _ _ _ _ | exact Kd.N_nil _ _ _ _ _ | exact Kd.V_nil _ _ _ _ _ | exact Kd.Q_nil _ _ _ _ _ | exact Kd.S_nil _ _ _ _ _, vB HB⟩
   ·replace c19 := Bool.eq_false_iff.mpr c19
    subst c19
    have H1 : ((impl_copyMachine.f a0_0 a0_1 l0_2 a0_3 a0_4 a0_5 a0_6 a0_7).bind fun bt1092 => ((impl_groupNumbers.f kj1 a0_0 a0_1 l0_2).bind fun AB => ((impl_stepOn.f kj1 bt1092.1 bt1092.2.1 bt1092.2.2.1 bt1092.2.2.2.1 bt1092.2.2.2.2.1 bt1092.2.2.2.2.2.1 bt1092.2.2.2.2.2.2.1 bt1092.2.2.2.2.2.2.2 AB).bind fun bt1106 => (some (bt1092.1, bt1092.2.1, bt1106.2.2.2.2.2.2, bt1092.2.2.2.1, bt1092.2.2.2.2.1, bt1106.2.2.2.1, bt1106.2.2.2.2.1, bt1106.2.2.2.2.2.1, bt1106.1, bt1106.2.1, bt1106.2.2.1, true))))) = some (r1, r2, r3, r4, r5, r6, r7, r8, r9, r10, r11, r12) := by rw [if_neg (show ¬ (false = true) by decide)] at H; exact H
    clear H
    have H := H1
    clear H1
    replace H := Option.bind_eq_some_iff.mp H
    obtain ⟨⟨Ar, As, At, Au, Av, AP, AQ, AR⟩, Bb, H⟩ := H
    replace H : ((impl_groupNumbers.f kj1 a0_0 a0_1 l0_2).bind fun AB => ((impl_stepOn.f kj1 Ar As At Au Av AP AQ AR AB).bind fun bt1106 => (some (Ar, As, bt1106.2.2.2.2.2.2, Au, Av, bt1106.2.2.2.1, bt1106.2.2.2.2.1, bt1106.2.2.2.2.2.1, bt1106.1, bt1106.2.1, bt1106.2.2.1, true)))) = some (r1, r2, r3, r4, r5, r6, r7, r8, r9, r10, r11, r12) := H
    have FW := Z.m Bb
    clear Bb
    replace H := Option.bind_eq_some_iff.mp H
    obtain ⟨AB, Bc, H⟩ := H
    replace H : ((impl_stepOn.f kj1 Ar As At Au Av AP AQ AR AB).bind fun bt1106 => (some (Ar, As, bt1106.2.2.2.2.2.2, Au, Av, bt1106.2.2.2.1, bt1106.2.2.2.2.1, bt1106.2.2.2.2.2.1, bt1106.1, bt1106.2.1, bt1106.2.2.1, true))) = some (r1, r2, r3, r4, r5, r6, r7, r8, r9, r10, r11, r12) := H
    have FX := Z.m Bc
    clear Bc
    replace H := Option.bind_eq_some_iff.mp H
    obtain ⟨⟨Aw, Ax, Ay, AF, AG, AH, AV⟩, Bd, H⟩ := H
    replace H : (some (Ar, As, AV, Au, Av, AF, AG, AH, Aw, Ax, Ay, true)) = some (r1, r2, r3, r4, r5, r6, r7, r8, r9, r10, r11, r12) := H
    have FY := Z.m Bd
    clear Bd
    simp only [Option.some.injEq, Prod.mk.injEq] at H
    obtain ⟨rfl, rfl, rfl, rfl, rfl, rfl, rfl, rfl, rfl, rfl, rfl, rfl⟩ := H
    have Fu := Ad.o
    have FJ := Ae.o
    have Fv := Ak.o
    have FL := Al.o
    have BR := bc0 A1
    have BS := bc1 A1
    have BT := bc2 A1
    have BU := bc3 A1
    have BV := bc4 A1
    have BW := bc5 A1
    have BX := bc6 A1
    have BY := bc7 A1
    have D9 := qz A1.o 0
    have Da := qz A1.o 1
    have Db := qz A1.o 2
    have Dc := qz A1.o 3
    have Dd := qz A1.o 4
    have De := qz A1.o 5
    have Df := qz A1.o 6
    have Dg := qz A1.o 7
    try go_wp2_with (first | ((with_reducible refine gc (f := 46) rfl ?_); refine gA (some 18) _ #[.agg #[.int .i64 a0_0, .int .i64 a0_1, .slice A0_2 l0_2.length c0_2, .int .i64 a0_3, .int .i64 a0_4, .int .i64 a0_5, .int .i64 a0_6, .int .i64 a0_7]] ?_ Try.func46; (with_reducible refine (impl_copyMachine.calls a0_0 a0_1 _ _ l0_2 a0_3 a0_4 a0_5 a0_6 a0_7 Ar As At Au Av AP AQ AR _ ?side1 ?side2 FW.o).mono ?_); (case side1 => repeat (first | exact (Kd.C_below AL.o HB.o) | (with_reducible refine Kd.C_alloc ?_ _) | (with_reducible refine Kd.C_drewN ?_ _) | (with_reducible refine Kd.C_drew ?_))); (case side2 => exact AK.o); rintro e Gk ⟨FU, rfl, Bg, hb⟩; refine ⟨_, rfl, ?_⟩; have Ah := Z.m (Kd.R_lower Bg (below_size (vB HB))); replace A1 := kB A1 hb; replace A4 := kB A4 hb; replace A7 := kB A7 hb; replace HB := bB HB hb; (try clear hb); (try clear Bh); (try clear hk); (try clear hi); (try clear Bg)) | ((with_reducible refine gq (N := 5) rfl ?_); refine be (N := 5) (cs := #[.int .i64 0, .int .i64 0, .slice none 0 0, .int .i64 0, .int .i64 0, .int .i64 0, .int .i64 0, .int .i64 0]) (t := 32) ?_; intro Am hg Gl hbox hb; have A3 := Z.m (hbox); have B8 := gW (w := w) HB hg; have AU := B8; have Az := neL A1 hg; have AM := neG A1 hg; have Af := neL A4 hg; have A0 := neG A4 hg; have An := neL A7 hg; have A5 := neG A7 hg; replace Ah := Z.m (Kd.Rb (vR Ah) hb); replace A1 := kB A1 hb; replace A4 := kB A4 hb; replace A7 := kB A7 hb; replace HB := bB HB hb; clear hb hbox hg; have Fw := AM.o; have FM := Az.o; have Fx := A0.o; have FN := Af.o; have Fy := A5.o; have FO := An.o; have BZ := bc0 A3; have C0 := bc1 A3; have C1 := bc2 A3; have C2 := bc3 A3; have C3 := bc4 A3; have C4 := bc5 A3; have C5 := bc6 A3; have C6 := bc7 A3; have Dh := qz A3.o 0; have Di := qz A3.o 1; have Dj := qz A3.o 2; have Dk := qz A3.o 3; have Dl := qz A3.o 4; have Dm := qz A3.o 5; have Dn := qz A3.o 6; have Do := qz A3.o 7; obtain ⟨AI, AJ, Fk⟩ := Kd.R_slice Ah.o; subst Fk; have C7 := bc0 A1; have C8 := bc1 A1; have C9 := bc2 A1; have Ca := bc3 A1; have Cb := bc4 A1; have Cd := bc5 A1; have Ce := bc6 A1; have Cf := bc7 A1; have Dp := qz A1.o 0; have Dq := qz A1.o 1; have Dr := qz A1.o 2; have Ds := qz A1.o 3; have Dt := qz A1.o 4; have Du := qz A1.o 5; have Dv := qz A1.o 6; have Dw := qz A1.o 7) | ((with_reducible refine gc (f := 48) rfl ?_); refine gA (some 21) _ #[.agg #[.int .i64 a0_0, .int .i64 a0_1, .slice A0_2 l0_2.length c0_2]] ?_ Try.func48; (with_reducible refine (impl_groupNumbers.calls kj1 a0_0 a0_1 _ _ l0_2 AB _ ?side1 ?side2 FX.o).mono ?_); (case side1 => exact Kd.C_below AL.o (vB HB)); (case side2 => exact AK.o); rintro e Gm ⟨FV, rfl, Bg, hb⟩; refine ⟨_, rfl, ?_⟩; have Ao := Z.m (Kd.R_lower Bg (below_size (vB HB))); replace Ah := Z.m (Kd.Rb (by refine rK ?_; exact (Kd.Rm (rf (rf (rf (rf (rf (rf (rf (rf (Kd.Ry Ah.o A3.o (by decide)))))))))) (fun _ h_ => h_.1))) hb); replace A1 := Z.m (qb (g := AA) (o := .cells #[.int .i64 a0_0, .int .i64 a0_1, .slice A0_2 l0_2.length c0_2, .int .i64 a0_3, .int .i64 a0_4, .int .i64 a0_5, .int .i64 a0_6, .int .i64 a0_7] 32 (0, 0)) (by refine bK ?_; (iterate 8 refine qF ?_ Az); exact A1.o) hb); replace A4 := Z.m (qb (g := Ai) (o := .cells #[.int .i64 0, .int .i64 0, .slice none 0 0, .int .i64 0, .int .i64 0, .int .i64 0, .int .i64 0, .int .i64 0] 32 (0, 0)) (by refine bK ?_; (iterate 8 refine qF ?_ Af); exact A4.o) hb); replace A7 := Z.m (qb (g := Ap) (o := .cells #[.int .i64 0, .int .i64 0, .int .i64 0] 52 (0, 0)) (by refine bK ?_; (iterate 8 refine qF ?_ An); exact A7.o) hb); replace A3 := Z.m (qb (g := Am) (o := .cells #[.int .i64 Ar, .int .i64 As, .slice AI At.length AJ, .int .i64 Au, .int .i64 Av, .int .i64 AP, .int .i64 AQ, .int .i64 AR] 32 (0, 0)) (by refine bK ?_; apply st8; refine bK ?_; exact A3.o) hb); replace HB := bB HB hb; (try clear hb); (try clear Bh); (try clear hk); (try clear hi); (try clear Bg); have Cg := bc0 A3; have Ch := bc1 A3; have Ci := bc2 A3; have Cj := bc3 A3; have Cl := bc4 A3; have Cm := bc5 A3; have Cn := bc6 A3; have Co := bc7 A3; have Dx := qz A3.o 0; have Dy := qz A3.o 1; have Dz := qz A3.o 2; have DA := qz A3.o 3; have DB := qz A3.o 4; have DC := qz A3.o 5; have DD := qz A3.o 6; have DE := qz A3.o 7; obtain ⟨Be, Bf, Fl⟩ := Kd.R_slice Ao.o; subst Fl) | ((with_reducible refine gc (f := 47) rfl ?_); refine gA (some 22) _ #[.pointer (some ⟨Am, 0, none⟩), .slice Be AB.length Bf] ?_ Try.func47; (with_reducible refine (impl_stepOn.calls kj1 Am Ar As (fun k_ => some k_ = (.slice AI At.length AJ : Value).ownBlock) (.slice AI At.length AJ) At Au Av AP AQ AR _ _ AB Aw Ax Ay AF AG AH AV w _ ?side1 ?side5 ?side6 ?side2 ?side3 ?side4 FY.o).mono ?_); (case side5 => exact vK A3); (case side6 => exact AU.o); (case side1 => repeat (first | (with_reducible first | exact HB.o | apply qa | apply qn | apply qd | refine qx ?_ AY.o | refine qx ?_ AZ.o | refine qx ?_ B0.o | refine qx ?_ AU.o) | exact HB.o)); (case side2 => exact Kd.Rg rfl Ah.o); (case side3 => exact Kd.Ck (Kd.Ry (Kd.Ra Ao.o (Kd.Rt Ah.o) (by decide)) A3.o (by decide)) (fun k_ hk_ hs_ => Or.elim hs_ hk_.1.2 hk_.2)); (case side4 => exact (Kd.RrZ Ao.o).2.1); rintro e Gn ⟨rfl, hbx_, FT, hb, hkp⟩; refine ⟨_, rfl, ?_⟩; replace A1 := Z.m (qk (vK A1) hkp (fun hs_ => Or.elim hs_ (fun e_ => (Kd.R_ne Ah.o A1.o (by decide)) e_) (fun e_ => Az.o e_))); replace A4 := Z.m (qk (vK A4) hkp (fun hs_ => Or.elim hs_ (fun e_ => (Kd.R_ne Ah.o A4.o (by decide)) e_) (fun e_ => Af.o e_))); replace A7 := Z.m (qk (vK A7) hkp (fun hs_ => Or.elim hs_ (fun e_ => (Kd.R_ne Ah.o A7.o (by decide)) e_) (fun e_ => An.o e_))); replace Ao := Z.m (Kd.Rm (ok' := fun k_ => True) (Kd.Rk (Kd.Ry (Kd.Ra Ao.o (Kd.Rt Ah.o) (by decide)) A3.o (by decide)) hkp (fun k_ hk_ hs_ => Or.elim hs_ hk_.1.2 hk_.2)) (fun k_ hk_ => trivial)); replace Ah := Z.m (Kd.Re rfl FT (fun k_ e_ => Ah.o.1 k_ e_)); replace A3 := Z.m hbx_; replace HB := Z.m (hb); (try clear hbx_); (try clear hb); (try clear hkp); (try clear FT); have Cp := bc0 A3; have Cq := bc1 A3; have Cr := bc2 A3; have Cs := bc3 A3; have Ct := bc4 A3; have Cu := bc5 A3; have Cv := bc6 A3; have Cw := bc7 A3; have DF := qz A3.o 0; have DG := qz A3.o 1; have DH := qz A3.o 2; have DI := qz A3.o 3; have DJ := qz A3.o 4; have DK := qz A3.o 5; have DL := qz A3.o 6; have DM := qz A3.o 7) | ((with_reducible refine gq (N := 6) rfl ?_); refine be (N := 6) (cs := #[.int .i64 0, .int .i64 0, .int .i64 0]) (t := 52) ?_; intro A9 hg AX hbox hb; have Aj := Z.m (hbox); have Ba := gW (w := w) HB hg; have Fi := Ba; have AD := Z.m ((by rw [hg]; exact Nat.ne_of_lt (qt (g := AA) (o := .cells #[.int .i64 a0_0, .int .i64 a0_1, .slice A0_2 l0_2.length c0_2, .int .i64 a0_3, .int .i64 a0_4, .int .i64 a0_5, .int .i64 a0_6, .int .i64 a0_7] 32 (0, 0)) (by refine bK ?_; exact A1.o)) : AA ≠ A9)); have AN := Z.m ((by rw [hg]; exact Nat.ne_of_gt (qt (g := AA) (o := .cells #[.int .i64 a0_0, .int .i64 a0_1, .slice A0_2 l0_2.length c0_2, .int .i64 a0_3, .int .i64 a0_4, .int .i64 a0_5, .int .i64 a0_6, .int .i64 a0_7] 32 (0, 0)) (by refine bK ?_; exact A1.o)) : A9 ≠ AA)); have Ag := Z.m ((by rw [hg]; exact Nat.ne_of_lt (qt (g := Ai) (o := .cells #[.int .i64 0, .int .i64 0, .slice none 0 0, .int .i64 0, .int .i64 0, .int .i64 0, .int .i64 0, .int .i64 0] 32 (0, 0)) (by refine bK ?_; exact A4.o)) : Ai ≠ A9)); have A2 := Z.m ((by rw [hg]; exact Nat.ne_of_gt (qt (g := Ai) (o := .cells #[.int .i64 0, .int .i64 0, .slice none 0 0, .int .i64 0, .int .i64 0, .int .i64 0, .int .i64 0, .int .i64 0] 32 (0, 0)) (by refine bK ?_; exact A4.o)) : A9 ≠ Ai)); have Aq := Z.m ((by rw [hg]; exact Nat.ne_of_lt (qt (g := Ap) (o := .cells #[.int .i64 0, .int .i64 0, .int .i64 0] 52 (0, 0)) (by refine bK ?_; exact A7.o)) : Ap ≠ A9)); have Ac := Z.m ((by rw [hg]; exact Nat.ne_of_gt (qt (g := Ap) (o := .cells #[.int .i64 0, .int .i64 0, .int .i64 0] 52 (0, 0)) (by refine bK ?_; exact A7.o)) : A9 ≠ Ap)); have AE := Z.m ((by rw [hg]; exact Nat.ne_of_lt (qt (g := Am) (o := .cells #[.int .i64 Ar, .int .i64 As, .slice AI At.length AJ, .int .i64 Au, .int .i64 Av, .int .i64 AF, .int .i64 AG, .int .i64 AH] 32 (0, 0)) (by refine bK ?_; exact A3.o)) : Am ≠ A9)); have AO := Z.m ((by rw [hg]; exact Nat.ne_of_gt (qt (g := Am) (o := .cells #[.int .i64 Ar, .int .i64 As, .slice AI At.length AJ, .int .i64 Au, .int .i64 Av, .int .i64 AF, .int .i64 AG, .int .i64 AH] 32 (0, 0)) (by refine bK ?_; exact A3.o)) : A9 ≠ Am)); replace Ah := Z.m (Kd.Rb (by refine rK ?_; exact Ah.o) hb); replace Ao := Z.m (Kd.Rb (by refine rK ?_; exact Ao.o) hb); replace A1 := Z.m (qb (g := AA) (o := .cells #[.int .i64 a0_0, .int .i64 a0_1, .slice A0_2 l0_2.length c0_2, .int .i64 a0_3, .int .i64 a0_4, .int .i64 a0_5, .int .i64 a0_6, .int .i64 a0_7] 32 (0, 0)) (by refine bK ?_; exact A1.o) hb); replace A4 := Z.m (qb (g := Ai) (o := .cells #[.int .i64 0, .int .i64 0, .slice none 0 0, .int .i64 0, .int .i64 0, .int .i64 0, .int .i64 0, .int .i64 0] 32 (0, 0)) (by refine bK ?_; exact A4.o) hb); replace A7 := Z.m (qb (g := Ap) (o := .cells #[.int .i64 0, .int .i64 0, .int .i64 0] 52 (0, 0)) (by refine bK ?_; exact A7.o) hb); replace A3 := Z.m (qb (g := Am) (o := .cells #[.int .i64 Ar, .int .i64 As, .slice AI At.length AJ, .int .i64 Au, .int .i64 Av, .int .i64 AF, .int .i64 AG, .int .i64 AH] 32 (0, 0)) (by refine bK ?_; exact A3.o) hb); replace HB := bB HB hb; clear hb hbox hg; have Fz := AN.o; have FP := AD.o; have FA := A2.o; have FQ := Ag.o; have FB := Ac.o; have FR := Aq.o; have FC := AO.o; have FS := AE.o; have Cx := bc0 Aj; have Cy := bc1 Aj; have Cz := bc2 Aj; have DN := qz Aj.o 0; have DO := qz Aj.o 1; have DP := qz Aj.o 2))
    have n0_ : Z (Kd.R k88 88 (((AX.setCell ⟨A9, 0, none⟩ (.int .i64 Aw)).setCell ⟨A9, 1, none⟩ (.int .i64 Ax)).setCell ⟨A9, 2, none⟩ (.int .i64 Ay)) w.heap.size (fun _ => True) (.slice AI At.length AJ) AV) := ⟨by refine rK ?_; exact Kd.Rm (rf (rf (rf (Kd.Ry Ah.o Aj.o (by decide))))) (fun _ hk => trivial)⟩
    have n1_ : Z (Kd.R (Kd.int .i64) 3 (((AX.setCell ⟨A9, 0, none⟩ (.int .i64 Aw)).setCell ⟨A9, 1, none⟩ (.int .i64 Ax)).setCell ⟨A9, 2, none⟩ (.int .i64 Ay)) w.heap.size (fun _ => True) (.slice Be AB.length Bf) AB) := ⟨by refine rK ?_; exact Kd.Rm (rf (rf (rf (Kd.Ry Ao.o Aj.o (by decide))))) (fun _ hk => trivial)⟩
    have n2_ : Z ((((AX.setCell ⟨A9, 0, none⟩ (.int .i64 Aw)).setCell ⟨A9, 1, none⟩ (.int .i64 Ax)).setCell ⟨A9, 2, none⟩ (.int .i64 Ay)).heap[AA]? = some (.cells #[.int .i64 a0_0, .int .i64 a0_1, .slice A0_2 l0_2.length c0_2, .int .i64 a0_3, .int .i64 a0_4, .int .i64 a0_5, .int .i64 a0_6, .int .i64 a0_7] 32 (0, 0))) := ⟨by refine bK ?_; (iterate 3 refine qF ?_ AD); exact A1.o⟩
    have n3_ : Z ((((AX.setCell ⟨A9, 0, none⟩ (.int .i64 Aw)).setCell ⟨A9, 1, none⟩ (.int .i64 Ax)).setCell ⟨A9, 2, none⟩ (.int .i64 Ay)).heap[Ai]? = some (.cells #[.int .i64 0, .int .i64 0, .slice none 0 0, .int .i64 0, .int .i64 0, .int .i64 0, .int .i64 0, .int .i64 0] 32 (0, 0))) := ⟨by refine bK ?_; (iterate 3 refine qF ?_ Ag); exact A4.o⟩
    have n4_ : Z ((((AX.setCell ⟨A9, 0, none⟩ (.int .i64 Aw)).setCell ⟨A9, 1, none⟩ (.int .i64 Ax)).setCell ⟨A9, 2, none⟩ (.int .i64 Ay)).heap[Ap]? = some (.cells #[.int .i64 0, .int .i64 0, .int .i64 0] 52 (0, 0))) := ⟨by refine bK ?_; (iterate 3 refine qF ?_ Aq); exact A7.o⟩
    have n5_ : Z ((((AX.setCell ⟨A9, 0, none⟩ (.int .i64 Aw)).setCell ⟨A9, 1, none⟩ (.int .i64 Ax)).setCell ⟨A9, 2, none⟩ (.int .i64 Ay)).heap[Am]? = some (.cells #[.int .i64 Ar, .int .i64 As, .slice AI At.length AJ, .int .i64 Au, .int .i64 Av, .int .i64 AF, .int .i64 AG, .int .i64 AH] 32 (0, 0))) := ⟨by refine bK ?_; (iterate 3 refine qF ?_ AE); exact A3.o⟩
    have n6_ : Z ((((AX.setCell ⟨A9, 0, none⟩ (.int .i64 Aw)).setCell ⟨A9, 1, none⟩ (.int .i64 Ax)).setCell ⟨A9, 2, none⟩ (.int .i64 Ay)).heap[A9]? = some (.cells #[.int .i64 Aw, .int .i64 Ax, .int .i64 Ay] 52 (0, 0))) := ⟨by refine bK ?_; apply st3; refine bK ?_; exact Aj.o⟩
    have n7_ : Z (Below w.heap.size w (((AX.setCell ⟨A9, 0, none⟩ (.int .i64 Aw)).setCell ⟨A9, 1, none⟩ (.int .i64 Ax)).setCell ⟨A9, 2, none⟩ (.int .i64 Ay))) := ⟨vB HB⟩
    (try clear Ah); (try clear Ao); (try clear A1); (try clear A4); (try clear A7); (try clear A3); (try clear Aj); (try clear HB)
    generalize (((AX.setCell ⟨A9, 0, none⟩ (.int .i64 Aw)).setCell ⟨A9, 1, none⟩ (.int .i64 Ax)).setCell ⟨A9, 2, none⟩ (.int .i64 Ay)) = Gf at n0_ n1_ n2_ n3_ n4_ n5_ n6_ n7_ ⊢
    have Ah := n0_
    have Ao := n1_
    have A1 := n2_
    have A4 := n3_
    have A7 := n4_
    have A3 := n5_
    have Aj := n6_
    have HB := n7_
    clear n0_ n1_ n2_ n3_ n4_ n5_ n6_ n7_
    replace Ah := Z.m (Kd.R_drew Ah.o)
    replace Ao := Z.m (Kd.R_drew Ao.o)
    replace A1 := Z.m (blk_drew A1.o)
    replace A4 := Z.m (blk_drew A4.o)
    replace A7 := Z.m (blk_drew A7.o)
    replace A3 := Z.m (blk_drew A3.o)
    replace Aj := Z.m (blk_drew Aj.o)
    replace HB := Z.m (qd HB.o)
    refine start_ (n := 5) (S := fun w' => w'.cell? ⟨Am, 0, none⟩ = some (.int .i64 Ar) ∧ w'.cell? ⟨Am, 1, none⟩ = some (.int .i64 As) ∧ w'.cell? ⟨Am, 2, none⟩ = some (.slice AI At.length AJ) ∧ w'.cell? ⟨Am, 3, none⟩ = some (.int .i64 Au) ∧ w'.cell? ⟨Am, 4, none⟩ = some (.int .i64 Av) ∧ w'.cell? ⟨Am, 5, none⟩ = some (.int .i64 AF) ∧ w'.cell? ⟨Am, 6, none⟩ = some (.int .i64 AG) ∧ w'.cell? ⟨Am, 7, none⟩ = some (.int .i64 AH) ∧ w'.cell? ⟨A9, 0, none⟩ = some (.int .i64 Aw) ∧ w'.cell? ⟨A9, 1, none⟩ = some (.int .i64 Ax) ∧ w'.cell? ⟨A9, 2, none⟩ = some (.int .i64 Ay)) (ds := []) #[false, false, false, false, false] (by kernel_rfl) rfl rfl ⟨(ql A3.o 0).trans rfl, (ql A3.o 1).trans rfl, (ql A3.o 2).trans rfl, (ql A3.o 3).trans rfl, (ql A3.o 4).trans rfl, (ql A3.o 5).trans rfl, (ql A3.o 6).trans rfl, (ql A3.o 7).trans rfl, (ql Aj.o 0).trans rfl, (ql Aj.o 1).trans rfl, (ql Aj.o 2).trans rfl⟩ (fun hHeld => ?_)
    generalize Gf.drew = AW at Ah Ao A1 A4 A7 A3 Aj HB hHeld ⊢
    refine take_ (i := 0) (N := some 23) (v := ?_) (a' := ?_) #[true, false, false, false, false] rfl rfl (by kernel_rfl) (fun _ _ _ h => h) (Or.inl ⟨by rfl, ?_⟩) hHeld ?_ ?_
    rotate_left
    ·rintro w' ⟨s0, s1, s2, s3, s4, s5, s6, s7, s8, s9, s10⟩
     go_simp
     with_reducible rfl
    rotate_left
    ·simp only [Act.put, q1, q2, q3, i64_w, i32_w]
     rfl
    refine take_ (i := 1) (N := some 24) (v := ?_) (a' := ?_) #[true, true, false, false, false] rfl rfl (by kernel_rfl) (fun _ _ _ h => h) (Or.inl ⟨by rfl, ?_⟩) hHeld ?_ ?_
    rotate_left
    ·rintro w' ⟨s0, s1, s2, s3, s4, s5, s6, s7, s8, s9, s10⟩
     go_simp
     with_reducible rfl
    rotate_left
    ·simp only [Act.put, q1, q2, q3, i64_w, i32_w]
     rfl
    refine one_ (i := 2) (N := none) #[true, true, true, false, false] rfl rfl (by kernel_rfl) (by decide) (fun K hK => ?_)
    have G1 : AW.cell? ⟨Ai, 0, none⟩ = some (.int .i64 0) := (ql A4.o 0).trans rfl
    have hfs52 := qz A4.o 0
    have EA := Ad.o
    have EB := Ab.o
    have EC := A0.o
    have ED := A2.o
    have DQ := Ae.o
    have DR := Aa.o
    have DS := Af.o
    have DT := Ag.o
    have G2 : AW.cell? ⟨Ai, 1, none⟩ = some (.int .i64 0) := (ql A4.o 1).trans rfl
    have hfs53 := qz A4.o 1
    have EE := Ad.o
    have EF := Ab.o
    have EG := A0.o
    have EH := A2.o
    have DU := Ae.o
    have DV := Aa.o
    have DW := Af.o
    have DX := Ag.o
    have G3 : AW.cell? ⟨Ai, 2, none⟩ = some (.slice none 0 0) := (ql A4.o 2).trans rfl
    have hfs54 := qz A4.o 2
    have EI := Ad.o
    have EJ := Ab.o
    have EK := A0.o
    have EL := A2.o
    have DY := Ae.o
    have DZ := Aa.o
    have E0 := Af.o
    have E1 := Ag.o
    have G4 : AW.cell? ⟨Ai, 3, none⟩ = some (.int .i64 0) := (ql A4.o 3).trans rfl
    have hfs55 := qz A4.o 3
    have EM := Ad.o
    have EN := Ab.o
    have EO := A0.o
    have EP := A2.o
    have E2 := Ae.o
    have E3 := Aa.o
    have E4 := Af.o
    have E5 := Ag.o
    have G5 : AW.cell? ⟨Ai, 4, none⟩ = some (.int .i64 0) := (ql A4.o 4).trans rfl
    have hfs56 := qz A4.o 4
    have EQ := Ad.o
    have ER := Ab.o
    have ES := A0.o
    have ET := A2.o
    have E6 := Ae.o
    have E7 := Aa.o
    have E8 := Af.o
    have E9 := Ag.o
    have G6 : AW.cell? ⟨Ai, 5, none⟩ = some (.int .i64 0) := (ql A4.o 5).trans rfl
    have hfs57 := qz A4.o 5
    have EU := Ad.o
    have EV := Ab.o
    have EW := A0.o
    have EX := A2.o
    have Ea := Ae.o
    have Eb := Aa.o
    have Ec := Af.o
    have Ed := Ag.o
    have G7 : AW.cell? ⟨Ai, 6, none⟩ = some (.int .i64 0) := (ql A4.o 6).trans rfl
    have hfs58 := qz A4.o 6
    have EY := Ad.o
    have EZ := Ab.o
    have F0 := A0.o
    have F1 := A2.o
    have Ee := Ae.o
    have Ef := Aa.o
    have Eg := Af.o
    have Eh := Ag.o
    have G8 : AW.cell? ⟨Ai, 7, none⟩ = some (.int .i64 0) := (ql A4.o 7).trans rfl
    have hfs59 := qz A4.o 7
    have F2 := Ad.o
    have F3 := Ab.o
    have F4 := A0.o
    have F5 := A2.o
    have Ei := Ae.o
    have Ej := Aa.o
    have Ek := Af.o
    have El := Ag.o
    refine skip_ (w1 := ?_) ?hwx ?hnx ?_ ?_; (case hwx => rfl); (case hnx => rfl)
    rotate_left
    ·go_simp
     rfl
    refine hK.out _ _ ⟨(cx A0.o ((cx A0.o ((cx A0.o ((cx A0.o ((cx A0.o ((cx A0.o ((cx A0.o ((cx A0.o (hHeld.1)))))))))))))))), (cx A0.o ((cx A0.o ((cx A0.o ((cx A0.o ((cx A0.o ((cx A0.o ((cx A0.o ((cx A0.o (hHeld.2.1)))))))))))))))), (cx A0.o ((cx A0.o ((cx A0.o ((cx A0.o ((cx A0.o ((cx A0.o ((cx A0.o ((cx A0.o (hHeld.2.2.1)))))))))))))))), (cx A0.o ((cx A0.o ((cx A0.o ((cx A0.o ((cx A0.o ((cx A0.o ((cx A0.o ((cx A0.o (hHeld.2.2.2.1)))))))))))))))), (cx A0.o ((cx A0.o ((cx A0.o ((cx A0.o ((cx A0.o ((cx A0.o ((cx A0.o ((cx A0.o (hHeld.2.2.2.2.1)))))))))))))))), (cx A0.o ((cx A0.o ((cx A0.o ((cx A0.o ((cx A0.o ((cx A0.o ((cx A0.o ((cx A0.o (hHeld.2.2.2.2.2.1)))))))))))))))), (cx A0.o ((cx A0.o ((cx A0.o ((cx A0.o ((cx A0.o ((cx A0.o ((cx A0.o ((cx A0.o (hHeld.2.2.2.2.2.2.1)))))))))))))))), (cx A0.o ((cx A0.o ((cx A0.o ((cx A0.o ((cx A0.o ((cx A0.o ((cx A0.o ((cx A0.o (hHeld.2.2.2.2.2.2.2.1)))))))))))))))), (cx A2.o ((cx A2.o ((cx A2.o ((cx A2.o ((cx A2.o ((cx A2.o ((cx A2.o ((cx A2.o (hHeld.2.2.2.2.2.2.2.2.1)))))))))))))))), (cx A2.o ((cx A2.o ((cx A2.o ((cx A2.o ((cx A2.o ((cx A2.o ((cx A2.o ((cx A2.o (hHeld.2.2.2.2.2.2.2.2.2.1)))))))))))))))), (cx A2.o ((cx A2.o ((cx A2.o ((cx A2.o ((cx A2.o ((cx A2.o ((cx A2.o ((cx A2.o (hHeld.2.2.2.2.2.2.2.2.2.2))))))))))))))))⟩ (fun hHeld => ?_)
    clear hK K
    refine one_ (i := 3) (N := none) #[true, true, true, true, false] rfl rfl (by kernel_rfl) (by decide) (fun K hK => ?_)
    have G9 : AW.cell? ⟨Ap, 0, none⟩ = some (.int .i64 0) := (ql A7.o 0).trans rfl
    have hfs60 := qz A7.o 0
    have F6 := Ak.o
    have F7 := Aa.o
    have F8 := A5.o
    have F9 := Ac.o
    have Em := Al.o
    have En := Ab.o
    have Eo := An.o
    have Ep := Aq.o
    have Ga : AW.cell? ⟨Ap, 1, none⟩ = some (.int .i64 0) := (ql A7.o 1).trans rfl
    have hfs61 := qz A7.o 1
    have Fa := Ak.o
    have Fb := Aa.o
    have Fc := A5.o
    have Fd := Ac.o
    have Er := Al.o
    have Es := Ab.o
    have Et := An.o
    have Eu := Aq.o
    have Gb : AW.cell? ⟨Ap, 2, none⟩ = some (.int .i64 0) := (ql A7.o 2).trans rfl
    have hfs62 := qz A7.o 2
    have Fe := Ak.o
    have Ff := Aa.o
    have Fg := A5.o
    have Fh := Ac.o
    have Ew := Al.o
    have Ex := Ab.o
    have Ey := An.o
    have Ez := Aq.o
    refine skip_ (w1 := ?_) ?hwx ?hnx ?_ ?_; (case hwx => rfl); (case hnx => rfl)
    rotate_left
    ·go_simp
     rfl
    refine hK.out _ _ ⟨(cx A5.o ((cx A5.o ((cx A5.o (hHeld.1)))))), (cx A5.o ((cx A5.o ((cx A5.o (hHeld.2.1)))))), (cx A5.o ((cx A5.o ((cx A5.o (hHeld.2.2.1)))))), (cx A5.o ((cx A5.o ((cx A5.o (hHeld.2.2.2.1)))))), (cx A5.o ((cx A5.o ((cx A5.o (hHeld.2.2.2.2.1)))))), (cx A5.o ((cx A5.o ((cx A5.o (hHeld.2.2.2.2.2.1)))))), (cx A5.o ((cx A5.o ((cx A5.o (hHeld.2.2.2.2.2.2.1)))))), (cx A5.o ((cx A5.o ((cx A5.o (hHeld.2.2.2.2.2.2.2.1)))))), (cx Ac.o ((cx Ac.o ((cx Ac.o (hHeld.2.2.2.2.2.2.2.2.1)))))), (cx Ac.o ((cx Ac.o ((cx Ac.o (hHeld.2.2.2.2.2.2.2.2.2.1)))))), (cx Ac.o ((cx Ac.o ((cx Ac.o (hHeld.2.2.2.2.2.2.2.2.2.2))))))⟩ (fun hHeld => ?_)
    clear hK K
    refine pure_ (i := 4) (N := some 4) (v := ?_) (a' := ?_) #[true, true, true, true, true] rfl rfl (by kernel_rfl) (fun _ _ _ h => h) (Or.inl ⟨by rfl, ?_⟩) ?_ ?_
    rotate_left
    ·intro w'
     go_simp
     with_reducible rfl
    rotate_left
    ·simp only [Act.put, q1, q2, q3, i64_w, i32_w]
     rfl
    refine done_ (by kernel_rfl) ?_
    try go_wp2
    refine bodyPost_ret (rl (rs := [.cell 2 32, .cell 3 52, .tmp 4]) rfl (by simp) (.cell Ai 32 #[.int .i64 Ar, .int .i64 As, .slice AI At.length AJ, .int .i64 Au, .int .i64 Av, .int .i64 AF, .int .i64 AG, .int .i64 AH] (0, 0) _ rfl (by refine bK ?_; (iterate 3 refine qF ?_ Aa); apply st8; refine bK ?_; exact A4.o) Try.underlying32 rfl (by kernel_rfl) (.cell Ap 52 #[.int .i64 Aw, .int .i64 Ax, .int .i64 Ay] (0, 0) _ rfl (by refine bK ?_; apply st3; refine bK ?_; (iterate 8 refine qF ?_ Ab); exact A7.o) Try.underlying52 rfl (by kernel_rfl) (.tmp .nil)))) rfl ?_
    exact ⟨_, by first | rfl | (simp [eN, eS] <;> rfl) | (simp [*, eN, eS] <;> rfl), by refine rK ?_; exact Kd.Rm (rf (rf (rf (rf1 (rf1 (rf1 (rf1 (rf1 (rf1 (rf1 (rf1 (Kd.Ry (Kd.Ry Ah.o A4.o (by decide)) A7.o (by decide))))))))))))) (fun _ hk => trivial), vB HB⟩

/-! ### laws_eqFall: function 32 -/
def laws_eqFall.f (a0_0 : Int) (a0_1 : Int) (a0_2 : Int) (a1_0 : Int) (a1_1 : Int) (a1_2 : Int) : Option (Bool) := if a0_0 = a1_0 then (if a0_1 = a1_1 then (if a0_2 = a1_2 then (some true) else (some false)) else (some false)) else (some false)
set_option maxHeartbeats 8000000 in
set_option maxRecDepth 100000 in
theorem laws_eqFall.calls (a0_0 : Int) (a0_1 : Int) (a0_2 : Int) (a1_0 : Int) (a1_1 : Int) (a1_2 : Int) (r : Bool) (w : World) (h : laws_eqFall.f a0_0 a0_1 a0_2 a1_0 a1_1 a1_2 = some r) :
 Calls Try.prog 32 #[.agg #[.int .i64 a0_0, .int .i64 a0_1, .int .i64 a0_2], .agg #[.int .i64 a1_0, .int .i64 a1_1, .int .i64 a1_2]] w fun e w' => e = .returned (.bool r) ∧ Below w.heap.size w w' := by
 have Bf := Try.underlying52
 have HB := Z.m (Below.refl w.heap.size w)
 have H : (if a0_0 = a1_0 then (if a0_1 = a1_1 then (if a0_2 = a1_2 then (some true) else (some false)) else (some false)) else (some false)) = some r := h
 clear h
 by_cases c3 : a0_0 = a1_0
 ·rw [if_pos c3] at H
  have AQ := beq_iff_eq.mpr c3
  have AR := bne_eq_false_iff_eq.mpr c3
  clear c3
  by_cases c4 : a0_1 = a1_1
  ·rw [if_pos c4] at H
   have AS := beq_iff_eq.mpr c4
   have AT := bne_eq_false_iff_eq.mpr c4
   clear c4
   by_cases c5 : a0_2 = a1_2
   ·rw [if_pos c5] at H
    have AU := beq_iff_eq.mpr c5
    have AV := bne_eq_false_iff_eq.mpr c5
    clear c5
    obtain rfl := Option.some.inj H
    go_enter Try.func32, Try.ntmps32
    go_wp2_with (first | ((with_reducible refine gq (N := 2) rfl ?_); refine be (N := 2) (cs := #[.int .i64 a0_0, .int .i64 a0_1, .int .i64 a0_2]) (t := 52) ?_; intro A8 hg w6 hbox hb; have A0 := Z.m (hbox); have A4 := gW (w := w) HB hg; have A6 := A4; replace HB := bB HB hb; clear hb hbox hg) | ((with_reducible refine gq (N := 3) rfl ?_); refine be (N := 3) (cs := #[.int .i64 a1_0, .int .i64 a1_1, .int .i64 a1_2]) (t := 52) ?_; intro A9 hg w7 hbox hb; have A1 := Z.m (hbox); have A5 := gW (w := w) HB hg; have A7 := A5; have A2 := neL A0 hg; have A3 := neG A0 hg; replace A0 := kB A0 hb; replace HB := bB HB hb; clear hb hbox hg; have Bd := A2.o; have Be := A3.o; have AW := bc0 A0; have AX := bc1 A0; have AY := bc2 A0; have AZ := qz A0.o 0; have B0 := qz A0.o 1; have B2 := qz A0.o 2; have Aa := bc0 A1; have Ab := bc1 A1; have Ac := bc2 A1; have Av := qz A1.o 0; have Aw := qz A1.o 1; have Ax := qz A1.o 2))
    go_ret
    exact ⟨by first | rfl | (simp [eN, eS] <;> rfl) | (simp [*, eN, eS] <;> rfl), vB HB⟩
   ·rw [if_neg c5] at H
    have AU := beq_eq_false_iff_ne.mpr c5
    have AV := bne_iff_ne.mpr c5
    obtain rfl := Option.some.inj H
    go_enter Try.func32, Try.ntmps32
    go_wp2_with (first | ((with_reducible refine gq (N := 2) rfl ?_); refine be (N := 2) (cs := #[.int .i64 a0_0, .int .i64 a0_1, .int .i64 a0_2]) (t := 52) ?_; intro A8 hg Bg hbox hb; have A0 := Z.m (hbox); have A4 := gW (w := w) HB hg; have A6 := A4; replace HB := bB HB hb; clear hb hbox hg) | ((with_reducible refine gq (N := 3) rfl ?_); refine be (N := 3) (cs := #[.int .i64 a1_0, .int .i64 a1_1, .int .i64 a1_2]) (t := 52) ?_; intro A9 hg Bh hbox hb; have A1 := Z.m (hbox); have A5 := gW (w := w) HB hg; have A7 := A5; have A2 := neL A0 hg; have A3 := neG A0 hg; replace A0 := kB A0 hb; replace HB := bB HB hb; clear hb hbox hg; have B3 := A2.o; have Ba := A3.o; have Ad := bc0 A0; have Ae := bc1 A0; have Af := bc2 A0; have Ay := qz A0.o 0; have Az := qz A0.o 1; have AA := qz A0.o 2; have Ag := bc0 A1; have Ah := bc1 A1; have Ai := bc2 A1; have AB := qz A1.o 0; have AC := qz A1.o 1; have AD := qz A1.o 2))
    go_ret
    exact ⟨by first | rfl | (simp [eN, eS] <;> rfl) | (simp [*, eN, eS] <;> rfl), vB HB⟩
  ·rw [if_neg c4] at H
   have AS := beq_eq_false_iff_ne.mpr c4
   have AT := bne_iff_ne.mpr c4
   obtain rfl := Option.some.inj H
   go_enter Try.func32, Try.ntmps32
   go_wp2_with (first | ((with_reducible refine gq (N := 2) rfl ?_); refine be (N := 2) (cs := #[.int .i64 a0_0, .int .i64 a0_1, .int .i64 a0_2]) (t := 52) ?_; intro A8 hg Bi hbox hb; have A0 := Z.m (hbox); have A4 := gW (w := w) HB hg; have A6 := A4; replace HB := bB HB hb; clear hb hbox hg) | ((with_reducible refine gq (N := 3) rfl ?_); refine be (N := 3) (cs := #[.int .i64 a1_0, .int .i64 a1_1, .int .i64 a1_2]) (t := 52) ?_; intro A9 hg Bj hbox hb; have A1 := Z.m (hbox); have A5 := gW (w := w) HB hg; have A7 := A5; have A2 := neL A0 hg; have A3 := neG A0 hg; replace A0 := kB A0 hb; replace HB := bB HB hb; clear hb hbox hg; have B7 := A2.o; have Bb := A3.o; have Aj := bc0 A0; have Ak := bc1 A0; have Al := bc2 A0; have AE := qz A0.o 0; have AF := qz A0.o 1; have AG := qz A0.o 2; have Am := bc0 A1; have An := bc1 A1; have Ao := bc2 A1; have AH := qz A1.o 0; have AI := qz A1.o 1; have AJ := qz A1.o 2))
   go_ret
   exact ⟨by first | rfl | (simp [eN, eS] <;> rfl) | (simp [*, eN, eS] <;> rfl), vB HB⟩
 ·rw [if_neg c3] at H
  have AQ := beq_eq_false_iff_ne.mpr c3
  have AR := bne_iff_ne.mpr c3
  obtain rfl := Option.some.inj H
  go_enter Try.func32, Try.ntmps32
  go_wp2_with (first | ((with_reducible refine gq (N := 2) rfl ?_); refine be (N := 2) (cs := #[.int .i64 a0_0, .int .i64 a0_1, .int .i64 a0_2]) (t := 52) ?_; intro A8 hg Bk hbox hb; have A0 := Z.m (hbox); have A4 := gW (w := w) HB hg; have A6 := A4; replace HB := bB HB hb; clear hb hbox hg) | ((with_reducible refine gq (N := 3) rfl ?_); refine be (N := 3) (cs := #[.int .i64 a1_0, .int .i64 a1_1, .int .i64 a1_2]) (t := 52) ?_; intro A9 hg Bl hbox hb; have A1 := Z.m (hbox); have A5 := gW (w := w) HB hg; have A7 := A5; have A2 := neL A0 hg; have A3 := neG A0 hg; replace A0 := kB A0 hb; replace HB := bB HB hb; clear hb hbox hg; have B8 := A2.o; have Bc := A3.o; have Ap := bc0 A0; have Aq := bc1 A0; have Ar := bc2 A0; have AK := qz A0.o 0; have AL := qz A0.o 1; have AM := qz A0.o 2; have As := bc0 A1; have At := bc1 A1; have Au := bc2 A1; have AN := qz A1.o 0; have AO := qz A1.o 1; have AP := qz A1.o 2))
  go_ret
  exact ⟨by first | rfl | (simp [eN, eS] <;> rfl) | (simp [*, eN, eS] <;> rfl), vB HB⟩

end Go.Proofs.Ytjkiolpepchpdaa.PAll
