/- Began as a text that print.sh wrote (of the functions named below); turned and shortened by this session. -/
import Derived.Test.YtjkiolpepchpdaaG0
namespace Go.Proofs.Ytjkiolpepchpdaa.PAll
open Go.RowKit Go.Proofs.YtjkiolpepchpdaaW.PrintWords Go.Proofs.YtjkiolpepchpdaaW.PrintLast Go.Proofs.YtjkiolpepchpdaaW.PrintMore
attribute [local go_sem] max2_int min2_int max_two min_two max_three min_three max_four min_four   -- for this text's walks alone
set_option linter.unusedVariables false
set_option linter.unusedSimpArgs false

/-! ### laws_heldCellS: function 56 -/
def laws_heldCellS.l0 : Nat → List (S88) → Int → Int → Option (Int)
 | 0, _, _, _ => none
 | k + 1, x0, x1, x5 => if x5 < (x0.length : Int) then (if 0 ≤ x5 then (if ((rd_T88 x0 x5).f0) = x1 then (if ((rd_T88 x0 x5).f1) = (wrap64 (x1 + 1)) then (laws_heldCellS.l0 k x0 (wrap64 ((wrap64 (x1 + 1)) + 1)) (wrap64 (x5 + 1))) else (some (-1))) else (some (-1))) else (none)) else (some x1)
def laws_heldCellS.f (k : Nat) (l0 : List (S88)) (a1 : Int) : Option (Int) := laws_heldCellS.l0 k l0 a1 0
set_option maxHeartbeats 8000000 in
set_option maxRecDepth 100000 in
theorem laws_heldCellS.calls (k : Nat) (A0 : Option Addr) (c0 : Nat) (l0 : List (S88)) (a1 : Int) (r : Int) (w : World) (hr0 : Kd.C k88 w A0 l0.length l0) (hc0 : l0.length ≤ c0) (h : laws_heldCellS.f k l0 a1 = some r) :
 Calls Try.prog 56 #[.slice A0 l0.length c0, .int .i64 a1] w fun e w' => e = .returned (.int .i64 r) ∧ Drawn0 w w' := by
 have A9 := Z.m hr0
 have Ah := Z.m hc0
 clear hr0 hc0
 have H : (laws_heldCellS.l0 k l0 a1 0) = some r := h
 clear h
 have H' := Z.m H
 clear H
 go_enter Try.func56, Try.ntmps56
 go_wp2
 go_loopg [1, 5] k (fun kq v1 v5 w' => ∃ (A5 : Int) (A1 : Int), v1 = .int .i64 A5 ∧ v5 = .int .i64 A1 ∧ Z (laws_heldCellS.l0 kq l0 A5 A1 = some r) ∧ Z (kq ≤ k) ∧ Drawn0 w w')
 case atStart => exact ⟨(a1), (0), (by first | rfl | (simp; done) | (simp [*]; done)), (by first | rfl | (simp; done) | (simp [*]; done)), H', ⟨Nat.le_refl _⟩, by repeat (first | exact Drawn0.refl _ | apply Drawn0.step)⟩
 case round =>
  clear H'
  obtain ⟨A5, A1, rfl, rfl, HA, Af, ⟨m1, rfl⟩⟩ := hrel
  cases gk with
  | zero => exact absurd HA.o (by simp [laws_heldCellS.l0])
  | succ k1 =>
   have H := HA.o
   clear HA
   simp only [laws_heldCellS.l0] at H
   by_cases c3 : A1 < (l0.length : Int)
   ·rw [if_pos c3] at H
    have Aa := decide_eq_true c3
    clear c3
    by_cases c4 : 0 ≤ A1
    ·rw [if_pos c4] at H
     have Ag := decide_eq_true c4
     clear c4
     by_cases c5 : ((rd_T88 l0 A1).f0) = A5
     ·rw [if_pos c5] at H
      have Ab := beq_iff_eq.mpr c5
      have Ac := bne_eq_false_iff_eq.mpr c5
      clear c5
      by_cases c6 : ((rd_T88 l0 A1).f1) = (wrap64 (A5 + 1))
      ·rw [if_pos c6] at H
       have Ad := beq_iff_eq.mpr c6
       have Ae := bne_eq_false_iff_eq.mpr c6
       clear c6
       have H' := Z.m H
       clear H
       have p496 : 0 ≤ (A1 : Int) := ofD
       have q496 : A1 < (l0.length : Int) := ofD
       obtain ⟨A2, e496, A3, A4⟩ := at_T88 A9.o A1 p496 q496
       cases e496
       replace p496 := eq_true p496
       replace q496 := eq_true q496
       have p497 : 0 ≤ (A1 : Int) := ofD
       have q497 : A1 < (l0.length : Int) := ofD
       obtain ⟨A6, e497, A7, A8⟩ := at_T88 A9.o A1 p497 q497
       obtain rfl : A2 = A6 := (by injection e497)
       replace p497 := eq_true p497
       replace q497 := eq_true q497
       go_wp2
       go_roundg k1
       case measure => have := Af.o; omega
       case rel => exact ⟨(wrap64 ((wrap64 (A5 + 1)) + 1)), (wrap64 (A1 + 1)), (by first | rfl | (simp; done) | (simp [*]; done)), (by first | rfl | (simp; done) | (simp [*]; done)), H', ⟨by have := Af.o; omega⟩, by repeat (first | exact Drawn0.refl _ | apply Drawn0.step)⟩
      ·rw [if_neg c6] at H
       have Ad := beq_eq_false_iff_ne.mpr c6
       have Ae := bne_iff_ne.mpr c6
       obtain rfl := Option.some.inj H
       have p496 : 0 ≤ (A1 : Int) := ofD
       have q496 : A1 < (l0.length : Int) := ofD
       obtain ⟨A2, e496, A3, A4⟩ := at_T88 A9.o A1 p496 q496
       cases e496
       replace p496 := eq_true p496
       replace q496 := eq_true q496
       have p497 : 0 ≤ (A1 : Int) := ofD
       have q497 : A1 < (l0.length : Int) := ofD
       obtain ⟨A6, e497, A7, A8⟩ := at_T88 A9.o A1 p497 q497
       obtain rfl : A2 = A6 := (by injection e497)
       replace p497 := eq_true p497
       replace q497 := eq_true q497
       go_wp2
       go_ret
       exact ⟨by first | rfl | (simp; done) | (simp [*]; done), by repeat (first | exact Drawn0.refl _ | apply Drawn0.step)⟩
     ·rw [if_neg c5] at H
      have Ab := beq_eq_false_iff_ne.mpr c5
      have Ac := bne_iff_ne.mpr c5
      obtain rfl := Option.some.inj H
      have p496 : 0 ≤ (A1 : Int) := ofD
      have q496 : A1 < (l0.length : Int) := ofD
      obtain ⟨A2, e496, A3, A4⟩ := at_T88 A9.o A1 p496 q496
      cases e496
      replace p496 := eq_true p496
      replace q496 := eq_true q496
      go_wp2
      go_ret
      exact ⟨by first | rfl | (simp; done) | (simp [*]; done), by repeat (first | exact Drawn0.refl _ | apply Drawn0.step)⟩
    ·rw [if_neg c4] at H
     exact absurd H (by simp)
   ·rw [if_neg c3] at H
    have Aa := decide_eq_false c3
    clear c3
    obtain rfl := Option.some.inj H
    go_wp2
    go_ret
    exact ⟨by first | rfl | (simp; done) | (simp [*]; done), by repeat (first | exact Drawn0.refl _ | apply Drawn0.step)⟩

/-! ### laws_heldBoard: function 42 -/
def laws_heldBoard.f (k : Nat) (a0_0 : Int) (a0_1 : Int) (l0_2 : List (S88)) (a1 : Int) : Option (Int) := (laws_heldCellS.f k l0_2 a1).bind fun t499 => (if t499 < 0 then (some (-1)) else (some t499))
set_option maxHeartbeats 8000000 in
set_option maxRecDepth 100000 in
theorem laws_heldBoard.calls (k : Nat) (a0_0 : Int) (a0_1 : Int) (A0_2 : Option Addr) (c0_2 : Nat) (l0_2 : List (S88)) (a1 : Int) (r : Int) (w : World) (hr0_2 : Kd.C k88 w A0_2 l0_2.length l0_2) (hc0_2 : l0_2.length ≤ c0_2) (h : laws_heldBoard.f k a0_0 a0_1 l0_2 a1 = some r) :
 Calls Try.prog 42 #[.agg #[.int .i64 a0_0, .int .i64 a0_1, .slice A0_2 l0_2.length c0_2], .int .i64 a1] w fun e w' => e = .returned (.int .i64 r) ∧ Below w.heap.size w w' := by
 have Am := Try.underlying30
 have A5 := Z.m hr0_2
 have A4 := Z.m hc0_2
 clear hr0_2 hc0_2
 have HB := Z.m (Below.refl w.heap.size w)
 have H : ((laws_heldCellS.f k l0_2 a1).bind fun A1 => (if A1 < 0 then (some (-1)) else (some A1))) = some r := h
 clear h
 replace H := Option.bind_eq_some_iff.mp H
 obtain ⟨A1, Al, H⟩ := H
 replace H : (if A1 < 0 then (some (-1)) else (some A1)) = some r := H
 have A3 := Z.m Al
 clear Al
 by_cases c4 : A1 < 0
 ·rw [if_pos c4] at H
  have A8 := decide_eq_true c4
  clear c4
  obtain rfl := Option.some.inj H
  go_enter Try.func42, Try.ntmps42
  go_wp2_with (first | ((with_reducible refine gq (N := 2) rfl ?_); refine be (N := 2) (cs := #[.int .i64 a0_0, .int .i64 a0_1, .slice A0_2 l0_2.length c0_2]) (t := 30) ?_; intro A7 hg w5 hbox hb; have A0 := Z.m (hbox); have A2 := gW (w := w) HB hg; have A6 := A2; replace HB := bB HB hb; clear hb hbox hg; have A9 := bc0 A0; have Aa := bc1 A0; have Ab := bc2 A0; have Af := qz A0.o 0; have Ag := qz A0.o 1; have Ah := qz A0.o 2) | ((with_reducible refine gc (f := 56) rfl ?_); refine gA (some 8) _ #[.slice A0_2 l0_2.length c0_2, .int .i64 a1] ?_ Try.func56; (with_reducible refine (laws_heldCellS.calls k _ _ l0_2 a1 A1 _ ?side1 ?side2 A3.o).mono ?_); (case side1 => repeat (first | exact (Kd.C_below A5.o HB.o) | (with_reducible refine Kd.C_alloc ?_ _) | (with_reducible refine Kd.C_drewN ?_ _) | (with_reducible refine Kd.C_drew ?_))); (case side2 => exact A4.o); rintro e w' ⟨rfl, ⟨nd, rfl⟩⟩; refine ⟨_, rfl, ?_⟩))
  go_ret
  exact ⟨by first | rfl | (simp [eN, eS] <;> rfl) | (simp [*, eN, eS] <;> rfl), vB HB⟩
 ·rw [if_neg c4] at H
  have A8 := decide_eq_false c4
  clear c4
  obtain rfl := Option.some.inj H
  go_enter Try.func42, Try.ntmps42
  go_wp2_with (first | ((with_reducible refine gq (N := 2) rfl ?_); refine be (N := 2) (cs := #[.int .i64 a0_0, .int .i64 a0_1, .slice A0_2 l0_2.length c0_2]) (t := 30) ?_; intro A7 hg w7 hbox hb; have A0 := Z.m (hbox); have A2 := gW (w := w) HB hg; have A6 := A2; replace HB := bB HB hb; clear hb hbox hg; have Ac := bc0 A0; have Ad := bc1 A0; have Ae := bc2 A0; have Ai := qz A0.o 0; have Aj := qz A0.o 1; have Ak := qz A0.o 2) | ((with_reducible refine gc (f := 56) rfl ?_); refine gA (some 8) _ #[.slice A0_2 l0_2.length c0_2, .int .i64 a1] ?_ Try.func56; (with_reducible refine (laws_heldCellS.calls k _ _ l0_2 a1 A1 _ ?side1 ?side2 A3.o).mono ?_); (case side1 => repeat (first | exact (Kd.C_below A5.o HB.o) | (with_reducible refine Kd.C_alloc ?_ _) | (with_reducible refine Kd.C_drewN ?_ _) | (with_reducible refine Kd.C_drew ?_))); (case side2 => exact A4.o); rintro e w' ⟨rfl, ⟨nd, rfl⟩⟩; refine ⟨_, rfl, ?_⟩))
  go_ret
  exact ⟨by first | rfl | (simp [eN, eS] <;> rfl) | (simp [*, eN, eS] <;> rfl), vB HB⟩

/-! ### laws_heldMachine: function 16 -/
def laws_heldMachine.f (k : Nat) (a0_0 : Int) (a0_1 : Int) (l0_2 : List (S88)) (a0_3 : Int) (a0_4 : Int) (a0_5 : Int) (a0_6 : Int) (a0_7 : Int) (a1 : Int) : Option (Int) := (laws_heldBoard.f k a0_0 a0_1 l0_2 a1).bind fun t501 => (if t501 < 0 then (some (-1)) else (some t501))
set_option maxHeartbeats 8000000 in
set_option maxRecDepth 100000 in
theorem laws_heldMachine.calls (k : Nat) (a0_0 : Int) (a0_1 : Int) (A0_2 : Option Addr) (c0_2 : Nat) (l0_2 : List (S88)) (a0_3 : Int) (a0_4 : Int) (a0_5 : Int) (a0_6 : Int) (a0_7 : Int) (a1 : Int) (r : Int) (w : World) (hr0_2 : Kd.C k88 w A0_2 l0_2.length l0_2) (hc0_2 : l0_2.length ≤ c0_2) (h : laws_heldMachine.f k a0_0 a0_1 l0_2 a0_3 a0_4 a0_5 a0_6 a0_7 a1 = some r) :
 Calls Try.prog 16 #[.agg #[.int .i64 a0_0, .int .i64 a0_1, .slice A0_2 l0_2.length c0_2, .int .i64 a0_3, .int .i64 a0_4, .int .i64 a0_5, .int .i64 a0_6, .int .i64 a0_7], .int .i64 a1] w fun e w' => e = .returned (.int .i64 r) ∧ Below w.heap.size w w' := by
 have AI := Try.underlying32
 have AH := Try.underlying30
 have A5 := Z.m hr0_2
 have A4 := Z.m hc0_2
 clear hr0_2 hc0_2
 have HB := Z.m (Below.refl w.heap.size w)
 have H : ((laws_heldBoard.f k a0_0 a0_1 l0_2 a1).bind fun A1 => (if A1 < 0 then (some (-1)) else (some A1))) = some r := h
 clear h
 replace H := Option.bind_eq_some_iff.mp H
 obtain ⟨A1, AF, H⟩ := H
 replace H : (if A1 < 0 then (some (-1)) else (some A1)) = some r := H
 have A3 := Z.m AF
 clear AF
 by_cases c4 : A1 < 0
 ·rw [if_pos c4] at H
  have A8 := decide_eq_true c4
  clear c4
  obtain rfl := Option.some.inj H
  go_enter Try.func16, Try.ntmps16
  go_wp2_with (first | ((with_reducible refine gq (N := 2) rfl ?_); refine be (N := 2) (cs := #[.int .i64 a0_0, .int .i64 a0_1, .slice A0_2 l0_2.length c0_2, .int .i64 a0_3, .int .i64 a0_4, .int .i64 a0_5, .int .i64 a0_6, .int .i64 a0_7]) (t := 32) ?_; intro A7 hg w5 hbox hb; have A0 := Z.m (hbox); have A2 := gW (w := w) HB hg; have A6 := A2; replace HB := bB HB hb; clear hb hbox hg; have A9 := bc0 A0; have Aa := bc1 A0; have Ab := bc2 A0; have Ac := bc3 A0; have Ad := bc4 A0; have Ae := bc5 A0; have Af := bc6 A0; have Ag := bc7 A0; have Ap := qz A0.o 0; have Aq := qz A0.o 1; have Ar := qz A0.o 2; have As := qz A0.o 3; have At := qz A0.o 4; have Au := qz A0.o 5; have Av := qz A0.o 6; have Aw := qz A0.o 7) | ((with_reducible refine gc (f := 42) rfl ?_); refine gA (some 8) _ #[.agg #[.int .i64 a0_0, .int .i64 a0_1, .slice A0_2 l0_2.length c0_2], .int .i64 a1] ?_ Try.func42; (with_reducible refine (laws_heldBoard.calls k a0_0 a0_1 _ _ l0_2 a1 A1 _ ?side1 ?side2 A3.o).mono ?_); (case side1 => repeat (first | exact (Kd.C_below A5.o HB.o) | (with_reducible refine Kd.C_alloc ?_ _) | (with_reducible refine Kd.C_drewN ?_ _) | (with_reducible refine Kd.C_drew ?_))); (case side2 => exact A4.o); rintro e w7 ⟨rfl, hb⟩; refine ⟨_, rfl, ?_⟩; replace A0 := kB A0 hb; replace HB := bB HB hb; (try clear hb); (try clear AG); (try clear hk); (try clear hi)))
  go_ret
  exact ⟨by first | rfl | (simp [eN, eS] <;> rfl) | (simp [*, eN, eS] <;> rfl), vB HB⟩
 ·rw [if_neg c4] at H
  have A8 := decide_eq_false c4
  clear c4
  obtain rfl := Option.some.inj H
  go_enter Try.func16, Try.ntmps16
  go_wp2_with (first | ((with_reducible refine gq (N := 2) rfl ?_); refine be (N := 2) (cs := #[.int .i64 a0_0, .int .i64 a0_1, .slice A0_2 l0_2.length c0_2, .int .i64 a0_3, .int .i64 a0_4, .int .i64 a0_5, .int .i64 a0_6, .int .i64 a0_7]) (t := 32) ?_; intro A7 hg w8 hbox hb; have A0 := Z.m (hbox); have A2 := gW (w := w) HB hg; have A6 := A2; replace HB := bB HB hb; clear hb hbox hg; have Ah := bc0 A0; have Ai := bc1 A0; have Aj := bc2 A0; have Ak := bc3 A0; have Al := bc4 A0; have Am := bc5 A0; have An := bc6 A0; have Ao := bc7 A0; have Ax := qz A0.o 0; have Ay := qz A0.o 1; have Az := qz A0.o 2; have AA := qz A0.o 3; have AB := qz A0.o 4; have AC := qz A0.o 5; have AD := qz A0.o 6; have AE := qz A0.o 7) | ((with_reducible refine gc (f := 42) rfl ?_); refine gA (some 8) _ #[.agg #[.int .i64 a0_0, .int .i64 a0_1, .slice A0_2 l0_2.length c0_2], .int .i64 a1] ?_ Try.func42; (with_reducible refine (laws_heldBoard.calls k a0_0 a0_1 _ _ l0_2 a1 A1 _ ?side1 ?side2 A3.o).mono ?_); (case side1 => repeat (first | exact (Kd.C_below A5.o HB.o) | (with_reducible refine Kd.C_alloc ?_ _) | (with_reducible refine Kd.C_drewN ?_ _) | (with_reducible refine Kd.C_drew ?_))); (case side2 => exact A4.o); rintro e AJ ⟨rfl, hb⟩; refine ⟨_, rfl, ?_⟩; replace A0 := kB A0 hb; replace HB := bB HB hb; (try clear hb); (try clear AG); (try clear hk); (try clear hi)))
  go_ret
  exact ⟨by first | rfl | (simp [eN, eS] <;> rfl) | (simp [*, eN, eS] <;> rfl), vB HB⟩

end Go.Proofs.Ytjkiolpepchpdaa.PAll
