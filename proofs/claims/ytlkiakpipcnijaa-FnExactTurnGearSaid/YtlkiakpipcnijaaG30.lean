/- Began as a text that print.sh wrote (of the functions named below); turned and shortened by this session. -/
import Derived.Test.YtlkiakpipcnijaaG0
import Derived.Test.YtlkiakpipcnijaaG6
import Derived.Test.YtlkiakpipcnijaaG28
import Derived.Test.YtlkiakpipcnijaaG29
namespace Go.Proofs.Ytlkiakpipcnijaa.PAll
open Go.RowKit Go.Proofs.YtlkiakpipcnijaaW.PrintWords Go.Proofs.YtlkiakpipcnijaaW.PrintLast Go.Proofs.YtlkiakpipcnijaaW.PrintMore
attribute [local go_sem] max2_int min2_int max_two min_two max_three min_three max_four min_four   -- for this text's walks alone
set_option linter.unusedVariables false
set_option linter.unusedSimpArgs false

theorem val_ {P : Program} {Q : Exit → Act → World → Prop} {oi : Oper} {N : Option Tmp} {a : Act} {w : World} {v : Value} {K : Act → World → Prop} {ops : Array Oper} (hw : Region.wanted oi (yielded ops a.tmps) = true) (hN : oi.dst = N) (hrun : (execOp a.eval oi).run P w = .ok (.value v) w)
 (h : K (a.put N v) w) : if Region.wanted oi (yielded ops a.tmps) = true then Oper.wp P oi a w K Q else K (a.put N undef) w := by
 rw [if_pos hw]
 unfold Oper.wp
 rw [hrun]
 show K (a.put oi.dst v) w
 rw [hN]
 exact h
theorem field71_0 (a b : Int) (w : World) : (Instr.field 71 (.agg #[.int .i64 a, .int .i64 b]) 0).run Try.prog w = .ok (.int .i64 a) w := by kernel_rfl
attribute [local go_sem] field71_0
/-! ### spec_TurnGear: function 32 -/
def spec_TurnGear.j0 : Nat → Int → Int → Bool → Int → Int → List (S71) → Option (Int × Int × (List (S71)) × Bool)
 | 0, _, _, _, _, _, _ => none
 | k + 1, x1, x2, x20, x737000, x737001, x737002 => if x20 = true then (some (0, 0, ([] : List (S71)), false)) else ((spec_ggGroups.f k x737000 x737001 x737002).bind fun t741 => (if 0 ≤ (wrap64 ((wrap64 (x1 * x737001)) + x2)) then (if (wrap64 ((wrap64 (x1 * x737001)) + x2)) < (t741.length : Int) then ((spec_ggTurn.f k x737000 x737001 x737002 (rd t741 (wrap64 ((wrap64 (x1 * x737001)) + x2)))).bind fun bt745 => (some (bt745.1, bt745.2.1, bt745.2.2, true))) else (none)) else (none)))
def spec_TurnGear.f (k : Nat) (a0_0 : Int) (a0_1 : Int) (l0_2 : List (S71)) (a1 : Int) (a2 : Int) : Option (Int × Int × (List (S71)) × Bool) := (spec_boHas.f k a0_0 a0_1 l0_2 a1 a2).bind fun t738 => (if t738 = true then ((spec_boAt.f a0_0 a0_1 l0_2 a1 a2).bind fun bt739 => (spec_TurnGear.j0 k a1 a2 (bt739.1 != 6) a0_0 a0_1 l0_2)) else (spec_TurnGear.j0 k a1 a2 true a0_0 a0_1 l0_2))
def spec_TurnGear.T3 : Bool × List (List Nat × List Nat) := (true, [([], []), ([], []), ([1], [1]), ([], []), ([], []), ([4], [4]), ([3, 5], [3, 5]), ([], []), ([6, 7], [6, 7]), ([2, 8], [2, 8]), ([9], [9]), ([0, 10, 2], [0, 10]), ([11, 11, 0, 1, 2, 3, 4, 5, 6, 7, 8, 9, 10, 11], [11]), ([12, 0, 1, 2, 3, 4, 5, 6, 7, 8, 9, 10, 11, 12], [])])
def spec_TurnGear.B3 : List Nat := [0, 0, 2, 0, 0, 16, 56, 0, 248, 510, 1022, 2047, 4095, 8191]
theorem spec_TurnGear.tab3 : rtab .any (opsOf Try.f32 3) = spec_TurnGear.T3 := by kernel_rfl
theorem spec_TurnGear.bits3 : waitsOk spec_TurnGear.T3.2 spec_TurnGear.B3 = true := by kernel_rfl
set_option maxHeartbeats 8000000 in
set_option maxRecDepth 100000 in
theorem spec_TurnGear.calls (k : Nat) (a0_0 : Int) (a0_1 : Int) (A0_2 : Option Addr) (c0_2 : Nat) (l0_2 : List (S71)) (a1 : Int) (a2 : Int) (r1 : Int) (r2 : Int) (r3 : List (S71)) (r4 : Bool) (w : World) (hr0_2 : Kd.C k71 w A0_2 l0_2.length l0_2) (hc0_2 : l0_2.length ≤ c0_2) (h : spec_TurnGear.f k a0_0 a0_1 l0_2 a1 a2 = some (r1, r2, r3, r4)) :
 Calls Try.prog 32 #[.agg #[.int .i64 a0_0, .int .i64 a0_1, .slice A0_2 l0_2.length c0_2], .int .i64 a1, .int .i64 a2] w fun e w' => ∃ v2_ : Value, e = .returned (.tuple #[.agg #[.int .i64 r1, .int .i64 r2, v2_], .bool r4]) ∧ Kd.R k71 71 w' w.heap.size (fun _ => True) v2_ r3 ∧ Below w.heap.size w w' := by
 have Bu := Try.underlying30
 have Bv := Try.underlying71
 have Ab := Z.m hr0_2
 have Aa := Z.m hc0_2
 clear hr0_2 hc0_2
 have HB := Z.m (Below.refl w.heap.size w)
 have H : ((spec_boHas.f k a0_0 a0_1 l0_2 a1 a2).bind fun Af => (if Af = true then ((spec_boAt.f a0_0 a0_1 l0_2 a1 a2).bind fun bt739 => (spec_TurnGear.j0 k a1 a2 (bt739.1 != 6) a0_0 a0_1 l0_2)) else (spec_TurnGear.j0 k a1 a2 true a0_0 a0_1 l0_2))) = some (r1, r2, r3, r4) := h
 clear h
 have AY := Z.m H
 clear H
 go_enter Try.func32, Try.ntmps32
 go_upto_region 1 with (first | ((with_reducible refine gq (N := 3) rfl ?_); refine be (N := 3) (cs := #[.int .i64 a0_0, .int .i64 a0_1, .slice A0_2 l0_2.length c0_2]) (t := 30) ?_; intro Ad hg w5 hbox hb; have A0 := Z.m (hbox); have An := gW (w := w) HB hg; have Bc := An; replace HB := bB HB hb; clear hb hbox hg) | ((with_reducible refine gq (N := 6) rfl ?_); refine be (N := 6) (cs := #[.int .i64 0, .int .i64 0, .slice none 0 0]) (t := 30) ?_; intro A6 hg w6 hbox hb; have A2 := Z.m (hbox); have Ao := gW (w := w) HB hg; have Bd := Ao; have A1 := neL A0 hg; have A3 := neG A0 hg; replace A0 := kB A0 hb; replace HB := bB HB hb; clear hb hbox hg))
 (try simp only [Act.put, q1, q2, q3])
 go_cut [20] (fun v20 wc => ∃ (kq : Nat) (Ae : Bool), v20 = .bool Ae ∧ Z (spec_TurnGear.j0 kq a1 a2 Ae a0_0 a0_1 l0_2 = some (r1, r2, r3, r4)) ∧ Z (kq ≤ k) ∧ Z (wc.heap[Ad]? = some (.cells #[.int .i64 a0_0, .int .i64 a0_1, (.slice A0_2 l0_2.length c0_2)] 30 (0, 0))) ∧ Z (wc.heap[A6]? = some (.cells #[.int .i64 0, .int .i64 0, (.slice none 0 0)] 30 (0, 0))) ∧ Z (Below w.heap.size w wc))
 case first =>
  have H := AY.o
  clear AY
  replace H := Option.bind_eq_some_iff.mp H
  obtain ⟨Af, Ba, H⟩ := H
  replace H : (if Af = true then ((spec_boAt.f a0_0 a0_1 l0_2 a1 a2).bind fun bt739 => (spec_TurnGear.j0 k a1 a2 (bt739.1 != 6) a0_0 a0_1 l0_2)) else (spec_TurnGear.j0 k a1 a2 true a0_0 a0_1 l0_2)) = some (r1, r2, r3, r4) := H
  have A7 := Z.m Ba
  clear Ba
  by_cases c8 : Af = true
  ·subst c8
   have H1 : ((spec_boAt.f a0_0 a0_1 l0_2 a1 a2).bind fun bt739 => (spec_TurnGear.j0 k a1 a2 (bt739.1 != 6) a0_0 a0_1 l0_2)) = some (r1, r2, r3, r4) := by rw [if_pos rfl] at H; exact H
   clear H
   have H := H1
   clear H1
   replace H := Option.bind_eq_some_iff.mp H
   obtain ⟨⟨Ah, B0⟩, Bb, H⟩ := H
   replace H : (spec_TurnGear.j0 k a1 a2 (Ah != 6) a0_0 a0_1 l0_2) = some (r1, r2, r3, r4) := H
   have A9 := Z.m Bb
   clear Bb
   have H' := Z.m H
   clear H
   have Bi := A1.o
   have Bl := A3.o
   have As := bc0 A0
   have At := bc1 A0
   have Au := bc2 A0
   have AE := qz A0.o 0
   have AF := qz A0.o 1
   have AG := qz A0.o 2
   go_wp2_with (first | ((with_reducible refine gc (f := 69) rfl ?_); refine gA (some 11) _ #[.agg #[.int .i64 a0_0, .int .i64 a0_1, .slice A0_2 l0_2.length c0_2], .int .i64 a1, .int .i64 a2] ?_ Try.func69; (with_reducible refine (spec_boHas.calls k a0_0 a0_1 _ _ l0_2 a1 a2 true _ ?side1 ?side2 A7.o).mono ?_); (case side1 => repeat (first | exact (Kd.C_below Ab.o HB.o) | (with_reducible refine Kd.C_alloc ?_ _) | (with_reducible refine Kd.C_drewN ?_ _) | (with_reducible refine Kd.C_drew ?_))); (case side2 => exact Aa.o); rintro e Bz ⟨rfl, hb⟩; refine ⟨_, rfl, ?_⟩; replace A0 := kB A0 hb; replace A2 := kB A2 hb; replace HB := bB HB hb; (try clear hb); (try clear Bh); (try clear hk); (try clear hi); have Av := bc0 A0; have Aw := bc1 A0; have Ax := bc2 A0; have AH := qz A0.o 0; have AI := qz A0.o 1; have AJ := qz A0.o 2) | (go_at_call 70; (with_reducible refine (spec_boAt.calls a0_0 a0_1 _ _ l0_2 a1 a2 Ah B0 _ ?side1 ?side2 A9.o).mono ?_); (case side1 => repeat (first | exact (Kd.C_below Ab.o HB.o) | (with_reducible refine Kd.C_alloc ?_ _) | (with_reducible refine Kd.C_drewN ?_ _) | (with_reducible refine Kd.C_drew ?_))); (case side2 => exact Aa.o); rintro e BA ⟨rfl, hb⟩; replace A0 := kB A0 hb; replace A2 := kB A2 hb; replace HB := bB HB hb; (try clear hb); (try clear Bh); (try clear hk); (try clear hi)))
   go_meet
   case rel => exact ⟨_, ((Ah != 6)), (by first | rfl | (simp; done) | (simp [*]; done)), H', ⟨by first | omega | exact Nat.le_refl _⟩, ⟨vK A0⟩, ⟨vK A2⟩, ⟨vB HB⟩⟩
  ·replace c8 := Bool.eq_false_iff.mpr c8
   subst c8
   have H1 : (spec_TurnGear.j0 k a1 a2 true a0_0 a0_1 l0_2) = some (r1, r2, r3, r4) := by rw [if_neg (show ¬ (false = true) by decide)] at H; exact H
   clear H
   have H := H1
   clear H1
   have H' := Z.m H
   clear H
   have Bj := A1.o
   have Bm := A3.o
   have Ay := bc0 A0
   have Az := bc1 A0
   have AA := bc2 A0
   have AK := qz A0.o 0
   have AL := qz A0.o 1
   have AM := qz A0.o 2
   go_wp2_with (first | ((with_reducible refine gc (f := 69) rfl ?_); refine gA (some 11) _ #[.agg #[.int .i64 a0_0, .int .i64 a0_1, .slice A0_2 l0_2.length c0_2], .int .i64 a1, .int .i64 a2] ?_ Try.func69; (with_reducible refine (spec_boHas.calls k a0_0 a0_1 _ _ l0_2 a1 a2 false _ ?side1 ?side2 A7.o).mono ?_); (case side1 => repeat (first | exact (Kd.C_below Ab.o HB.o) | (with_reducible refine Kd.C_alloc ?_ _) | (with_reducible refine Kd.C_drewN ?_ _) | (with_reducible refine Kd.C_drew ?_))); (case side2 => exact Aa.o); rintro e BB ⟨rfl, hb⟩; refine ⟨_, rfl, ?_⟩; replace A0 := kB A0 hb; replace A2 := kB A2 hb; replace HB := bB HB hb; (try clear hb); (try clear Bh); (try clear hk); (try clear hi)))
   go_meet
   case rel => exact ⟨_, (true), (by first | rfl | (simp; done) | (simp [*]; done)), H', ⟨by first | omega | exact Nat.le_refl _⟩, ⟨vK A0⟩, ⟨vK A2⟩, ⟨vB HB⟩⟩
 case rest =>
  clear AY
  obtain ⟨kq, Ae, rfl, HA, By, A0, A2, HB⟩ := hcut
  cases kq with
  | zero => exact absurd HA.o (by simp [spec_TurnGear.j0])
  | succ kj3 =>
   have H := HA.o
   clear HA
   simp only [spec_TurnGear.j0] at H
   by_cases c18 : Ae = true
   ·subst c18
    have H1 : (some (0, 0, ([] : List (S71)), false)) = some (r1, r2, r3, r4) := by rw [if_pos rfl] at H; exact H
    clear H
    have H := H1
    clear H1
    simp only [Option.some.injEq, Prod.mk.injEq] at H
    obtain ⟨rfl, rfl, rfl, rfl⟩ := H
    have Bk := A3.o
    have Bn := A1.o
    have AB := bc0 A2
    have AC := bc1 A2
    have AD := bc2 A2
    have AN := qz A2.o 0
    have AO := qz A2.o 1
    have AP := qz A2.o 2
    go_wp2
    refine bodyPost_ret (results_ct rfl _ _ A6 30 #[.int .i64 0, .int .i64 0, .slice none 0 0] (0, 0) _ rfl (by refine bK ?_; apply st3; refine bK ?_; exact A2.o) Try.underlying30 rfl (by kernel_rfl)) rfl ?_
    exact ⟨_, by first | rfl | (simp [eN, eS] <;> rfl) | (simp [*, eN, eS] <;> rfl), by first | exact Kd.R_nil _ _ _ _ _ | exact Kd.N_nil _ _ _ _ _ | exact Kd.V_nil _ _ _ _ _ | exact Kd.Q_nil _ _ _ _ _ | exact Kd.S_nil _ _ _ _ _, vB HB⟩
   ·replace c18 := Bool.eq_false_iff.mpr c18
    subst c18
    have H1 : ((spec_ggGroups.f kj3 a0_0 a0_1 l0_2).bind fun A4 => (if 0 ≤ (wrap64 ((wrap64 (a1 * a0_1)) + a2)) then (if (wrap64 ((wrap64 (a1 * a0_1)) + a2)) < (A4.length : Int) then ((spec_ggTurn.f kj3 a0_0 a0_1 l0_2 (rd A4 (wrap64 ((wrap64 (a1 * a0_1)) + a2)))).bind fun bt745 => (some (bt745.1, bt745.2.1, bt745.2.2, true))) else (none)) else (none))) = some (r1, r2, r3, r4) := by rw [if_neg (show ¬ (false = true) by decide)] at H; exact H
    clear H
    have H := H1
    clear H1
    replace H := Option.bind_eq_some_iff.mp H
    obtain ⟨A4, Al, H⟩ := H
    replace H : (if 0 ≤ (wrap64 ((wrap64 (a1 * a0_1)) + a2)) then (if (wrap64 ((wrap64 (a1 * a0_1)) + a2)) < (A4.length : Int) then ((spec_ggTurn.f kj3 a0_0 a0_1 l0_2 (rd A4 (wrap64 ((wrap64 (a1 * a0_1)) + a2)))).bind fun bt745 => (some (bt745.1, bt745.2.1, bt745.2.2, true))) else (none)) else (none)) = some (r1, r2, r3, r4) := H
    have B7 := Z.m Al
    clear Al
    obtain ⟨A5, A8⟩ : ∃ j_ : Int, (wrap64 ((wrap64 (a1 * a0_1)) + a2)) = j_ := ⟨_, rfl⟩
    replace H : (if 0 ≤ (A5) then (if (A5) < (A4.length : Int) then ((spec_ggTurn.f kj3 a0_0 a0_1 l0_2 (rd A4 (A5))).bind fun bt745 => (some (bt745.1, bt745.2.1, bt745.2.2, true))) else (none)) else (none)) = some (r1, r2, r3, r4) := by first | (rw [A8] at H; exact H) | (simp only [A8] at H ⊢; exact H)
    (try rw [A8] at B7)
    have hji22w : (IntKind.i64.wrap ((wrap64 (a1 * a0_1)) + a2)) = A5 := (i64_w _).trans A8
    by_cases c23 : 0 ≤ (A5)
    ·rw [if_pos c23] at H
     have Bf := decide_eq_true c23
     clear c23
     by_cases c24 : (A5) < (A4.length : Int)
     ·rw [if_pos c24] at H
      have Bg := decide_eq_true c24
      clear c24
      replace H := Option.bind_eq_some_iff.mp H
      obtain ⟨⟨Ai, Aj, Ak⟩, Am, H⟩ := H
      replace H : (some (Ai, Aj, Ak, true)) = some (r1, r2, r3, r4) := H
      have Bo := Z.m Am
      clear Am
      simp only [Option.some.injEq, Prod.mk.injEq] at H
      obtain ⟨rfl, rfl, rfl, rfl⟩ := H
      try go_wp2
      replace A0 := Z.m (blk_drew A0.o)
      replace A2 := Z.m (blk_drew A2.o)
      replace HB := Z.m (qd HB.o)
      refine start_ (n := 14) (S := fun w' => w'.cell? ⟨Ad, 0, none⟩ = some (.int .i64 a0_0) ∧ w'.cell? ⟨Ad, 1, none⟩ = some (.int .i64 a0_1) ∧ w'.cell? ⟨Ad, 2, none⟩ = some (.slice A0_2 l0_2.length c0_2)) (ds := []) #[false, false, false, false, false, false, false, false, false, false, false, false, false, false] (by kernel_rfl) rfl rfl ⟨(ql A0.o 0).trans rfl, (ql A0.o 1).trans rfl, (ql A0.o 2).trans rfl⟩ (fun hHeld => ?_); refine with_tabW spec_TurnGear.tab3 spec_TurnGear.bits3 (fun HT_ HW_ => ?_)
      generalize wc.drew = BC at A0 A2 HB hHeld ⊢
      refine pure_ (i := 3) (N := some 25) (v := ?_) (a' := ?_) #[false, false, false, true, false, false, false, false, false, false, false, false, false, false] rfl rfl (any_of HT_.o (by kernel_rfl)) (fun _ _ _ h => h) (Or.inl ⟨by rfl, ?_⟩) ?_ ?_
      rotate_left
      ·intro w'
       go_simp
       with_reducible rfl
      rotate_left
      ·simp only [Act.put, q1, q2, q3, i64_w, i32_w]
       rfl
      refine pure_ (i := 4) (N := some 26) (v := ?_) (a' := ?_) #[false, false, false, true, true, false, false, false, false, false, false, false, false, false] rfl rfl (any_of HT_.o (by kernel_rfl)) (fun _ _ _ h => h) (Or.inl ⟨by rfl, ?_⟩) ?_ ?_
      rotate_left
      ·intro w'
       go_simp
       with_reducible rfl
      rotate_left
      ·simp only [Act.put, q1, q2, q3, i64_w, i32_w]
       rfl
      refine pure_ (i := 7) (N := some 29) (v := ?_) (a' := ?_) #[false, false, false, true, true, false, false, true, false, false, false, false, false, false] rfl rfl (any_of HT_.o (by kernel_rfl)) (fun _ _ _ h => h) (Or.inl ⟨by rfl, ?_⟩) ?_ ?_
      rotate_left
      ·intro w'
       go_simp
       with_reducible rfl
      rotate_left
      ·simp only [Act.put, q1, q2, q3, i64_w, i32_w]
       rfl
      refine take_ (i := 0) (N := some 22) (v := ?_) (a' := ?_) #[true, false, false, true, true, false, false, true, false, false, false, false, false, false] rfl rfl (take_ofW HT_.o HW_.o (by kernel_rfl)) (fun _ _ _ h => h) (Or.inl ⟨by rfl, ?_⟩) hHeld ?_ ?_
      rotate_left
      ·rintro w' ⟨s0, s1, s2⟩
       go_simp
       with_reducible rfl
      rotate_left
      ·simp only [Act.put, q1, q2, q3, i64_w, i32_w]
       rfl
      refine take_ (i := 1) (N := some 23) (v := ?_) (a' := ?_) #[true, true, false, true, true, false, false, true, false, false, false, false, false, false] rfl rfl (take_ofW HT_.o HW_.o (by kernel_rfl)) (fun _ _ _ h => h) (Or.inl ⟨by rfl, ?_⟩) hHeld ?_ ?_
      rotate_left
      ·rintro w' ⟨s0, s1, s2⟩
       go_simp
       with_reducible rfl
      rotate_left
      ·simp only [Act.put, q1, q2, q3, i64_w, i32_w]
       rfl
      refine take_ (i := 5) (N := some 27) (v := ?_) (a' := ?_) #[true, true, false, true, true, true, false, true, false, false, false, false, false, false] rfl rfl (take_ofW HT_.o HW_.o (by kernel_rfl)) (fun _ _ _ h => h) (Or.inl ⟨by rfl, ?_⟩) hHeld ?_ ?_
      rotate_left
      ·rintro w' ⟨s0, s1, s2⟩
       go_simp
       with_reducible rfl
      rotate_left
      ·simp only [Act.put, q1, q2, q3, i64_w, i32_w]
       rfl
      refine pure_ (i := 6) (N := some 28) (v := ?_) (a' := ?_) #[true, true, false, true, true, true, true, true, false, false, false, false, false, false] rfl rfl (any_of HT_.o (by kernel_rfl)) (fun _ _ _ h => h) (Or.inl ⟨by rfl, ?_⟩) ?_ ?_
      rotate_left
      ·intro w'
       go_simp
       with_reducible rfl
      rotate_left
      ·simp only [Act.put, q1, q2, q3, i64_w, i32_w]
       rfl
      refine pure_ (i := 8) (N := some 30) (v := ?_) (a' := ?_) #[true, true, false, true, true, true, true, true, true, false, false, false, false, false] rfl rfl (any_of HT_.o (by kernel_rfl)) (fun _ _ _ h => h) (Or.inl ⟨by rfl, ?_⟩) ?_ ?_
      rotate_left
      ·intro w'
       go_simp
       with_reducible rfl
      rotate_left
      ·simp only [Act.put, q1, q2, q3, i64_w, i32_w]
       rfl
      refine one_ (i := 2) (N := some 24) #[true, true, true, true, true, true, true, true, true, false, false, false, false, false] rfl rfl (one_of HT_.o (by kernel_rfl)) (by decide) (fun K hK => ?_)
      refine goes_ Try.func54 (by kernel_rfl) rfl #[.agg #[.int .i64 a0_0, .int .i64 a0_1, .slice A0_2 l0_2.length c0_2]] (by rfl) rfl rfl (by (try simp only [List.map_toArray, List.map_cons, List.map_nil]); first | done | rfl | (simp only [List.length_drop, List.length_take]; rfl)) ?_
      with_reducible refine (spec_ggGroups.calls kj3 a0_0 a0_1 _ _ l0_2 A4 _ ?side1 ?side2 B7.o).mono ?_
      (case side1 => repeat (first | exact (Kd.C_below Ab.o HB.o) | (with_reducible refine Kd.C_alloc ?_ _) | (with_reducible refine Kd.C_drewN ?_ _) | (with_reducible refine Kd.C_drew ?_)))
      (case side2 => exact Aa.o)
      rintro e BD ⟨Bw, rfl, Ar, hb⟩
      refine ⟨_, rfl, ?_⟩
      have Ac := Z.m (Kd.R_lower Ar (below_size (vB HB)))
      replace A0 := kB A0 hb
      replace A2 := kB A2 hb
      replace HB := bB HB hb
      (try clear hb); (try clear Ar)
      obtain ⟨Bp, Bq, Ap⟩ := Kd.R_slice Ac.o
      (first | subst Ap | (injection Ap with f1_ f2_ f3_; have f4_ := f1_.symm; have f5_ := f3_.symm; clear f1_ f2_ f3_; subst f4_; subst f5_))
      have p744 : 0 ≤ ((A5) : Int) := ofD
      have q744 : (A5) < (A4.length : Int) := ofD
      obtain ⟨Be, e744, AW⟩ := Kd.at_int (Kd.RrZ Ac.o).2.2 (A5) p744 q744
      cases e744
      replace p744 := eq_true p744
      replace q744 := eq_true q744
      refine hK.out _ _ ⟨(ql A0.o 0).trans rfl, (ql A0.o 1).trans rfl, (ql A0.o 2).trans rfl⟩ (fun hHeld => ?_)
      clear hK K
      refine norm_ (a' := ?_) ?_ ?_
      rotate_left
      ·show Act.put _ (some 24) _ = _
       simp only [Act.put, q1, q2, q3, i64_w, i32_w]
       rfl
      refine pure_ (i := 9) (N := some 31) (v := ?_) (a' := ?_) #[true, true, true, true, true, true, true, true, true, true, false, false, false, false] rfl rfl (any_of HT_.o (by kernel_rfl)) (fun _ _ _ h => h) (Or.inl ⟨by rfl, ?_⟩) ?_ ?_
      rotate_left
      ·intro w'
       go_simp
       with_reducible rfl
      rotate_left
      ·simp only [Act.put, q1, q2, q3, i64_w, i32_w]
       rfl
      refine one_ (i := 10) (N := some 32) #[true, true, true, true, true, true, true, true, true, true, true, false, false, false] rfl rfl (one_of HT_.o (by kernel_rfl)) (by decide) (fun K hK => ?_)
      refine val_ (v := .int .i64 (rd A4 (A5))) ?hwx ?hnx ?hrx ?_; (case hwx => rfl); (case hnx => rfl); (case hrx => go_simp; done)
      refine hK.out _ _ ⟨(ql A0.o 0).trans rfl, (ql A0.o 1).trans rfl, (ql A0.o 2).trans rfl⟩ (fun hHeld => ?_)
      clear hK K
      refine norm_ (a' := ?_) ?_ ?_
      rotate_left
      ·show Act.put _ (some 32) _ = _
       simp only [Act.put, q1, q2, q3, i64_w, i32_w]
       rfl
      refine one_ (i := 11) (N := some 33) #[true, true, true, true, true, true, true, true, true, true, true, true, false, false] rfl rfl (one_of HT_.o (by kernel_rfl)) (by decide) (fun K hK => ?_)
      refine goes_ Try.func71 (by kernel_rfl) rfl #[.agg #[.int .i64 a0_0, .int .i64 a0_1, .slice A0_2 l0_2.length c0_2], .int .i64 (rd A4 (A5))] (by rfl) rfl rfl (by (try simp only [List.map_toArray, List.map_cons, List.map_nil]); first | done | (simp only [A8]; rfl) | rfl | (simp only [List.length_drop, List.length_take]; rfl)) ?_
      with_reducible refine (spec_ggTurn.calls kj3 a0_0 a0_1 _ _ l0_2 (rd A4 (A5)) Ai Aj Ak _ ?side1 ?side2 Bo.o).mono ?_
      (case side1 => repeat (first | exact (Kd.C_below Ab.o HB.o) | (with_reducible refine Kd.C_alloc ?_ _) | (with_reducible refine Kd.C_drewN ?_ _) | (with_reducible refine Kd.C_drew ?_)))
      (case side2 => exact Aa.o)
      rintro e B2 ⟨Bx, rfl, Ar, hb⟩
      refine ⟨_, rfl, ?_⟩
      have Ag := Z.m (Kd.R_lower Ar (below_size (vB HB)))
      replace Ac := Z.m (Kd.Rb (vR Ac) hb)
      replace A0 := kB A0 hb
      replace A2 := kB A2 hb
      replace HB := bB HB hb
      (try clear hb); (try clear Ar)
      obtain ⟨AX, AZ, Aq⟩ := Kd.R_slice Ag.o
      (first | subst Aq | (injection Aq with f1_ f2_ f3_; have f4_ := f1_.symm; have f5_ := f3_.symm; clear f1_ f2_ f3_; subst f4_; subst f5_))
      refine hK.out _ _ ⟨(ql A0.o 0).trans rfl, (ql A0.o 1).trans rfl, (ql A0.o 2).trans rfl⟩ (fun hHeld => ?_)
      clear hK K
      refine norm_ (a' := ?_) ?_ ?_
      rotate_left
      ·show Act.put _ (some 33) _ = _
       simp only [Act.put, q1, q2, q3, i64_w, i32_w]
       rfl
      refine one_ (i := 12) (N := none) #[true, true, true, true, true, true, true, true, true, true, true, true, true, false] rfl rfl (one_of HT_.o (by kernel_rfl)) (by decide) (fun K hK => ?_)
      have Br : B2.cell? ⟨A6, 0, none⟩ = some (.int .i64 0) := (ql A2.o 0).trans rfl
      have hfs30 := qz A2.o 0
      have AT := A1.o
      have AQ := A3.o
      have Bs : B2.cell? ⟨A6, 1, none⟩ = some (.int .i64 0) := (ql A2.o 1).trans rfl
      have hfs31 := qz A2.o 1
      have AU := A1.o
      have AR := A3.o
      have Bt : B2.cell? ⟨A6, 2, none⟩ = some (.slice none 0 0) := (ql A2.o 2).trans rfl
      have hfs33 := qz A2.o 2
      have AV := A1.o
      have AS := A3.o
      refine skip_ (w1 := ?_) ?hwx ?hnx ?_ ?_; (case hwx => rfl); (case hnx => rfl)
      rotate_left
      ·go_simp
       rfl
      refine hK.out _ _ ⟨(cx A1.o ((cx A1.o ((cx A1.o (hHeld.1)))))), (cx A1.o ((cx A1.o ((cx A1.o (hHeld.2.1)))))), (cx A1.o ((cx A1.o ((cx A1.o (hHeld.2.2))))))⟩ (fun hHeld => ?_)
      clear hK K
      refine pure_ (i := 13) (N := some 7) (v := ?_) (a' := ?_) #[true, true, true, true, true, true, true, true, true, true, true, true, true, true] rfl rfl (any_of HT_.o (by kernel_rfl)) (fun _ _ _ h => h) (Or.inl ⟨by rfl, ?_⟩) ?_ ?_
      rotate_left
      ·intro w'
       go_simp
       with_reducible rfl
      rotate_left
      ·simp only [Act.put, q1, q2, q3, i64_w, i32_w]
       rfl
      refine done_ (done_of HT_.o (by kernel_rfl)) ?_
      try go_wp2
      refine bodyPost_ret (results_ct rfl _ _ A6 30 #[.int .i64 Ai, .int .i64 Aj, .slice AX Ak.length AZ] (0, 0) _ rfl (by refine bK ?_; apply st3; refine bK ?_; exact A2.o) Try.underlying30 rfl (by kernel_rfl)) rfl ?_
      exact ⟨_, by first | rfl | (simp [eN, eS] <;> rfl) | (simp only [← A8]; first | rfl | (simp [eN, eS] <;> rfl)) | (simp [*, eN, eS] <;> rfl), by refine rK ?_; exact Kd.Rm (rf (rf (rf (Kd.Ry Ag.o A2.o (by decide))))) (fun _ hk => trivial), vB HB⟩
     ·rw [if_neg c24] at H
      exact absurd H (by simp)
    ·rw [if_neg c23] at H
     exact absurd H (by simp)

end Go.Proofs.Ytlkiakpipcnijaa.PAll
