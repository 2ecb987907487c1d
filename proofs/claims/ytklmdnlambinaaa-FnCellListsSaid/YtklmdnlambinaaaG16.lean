/- Began as a text that print.sh wrote (of the functions named below); turned and shortened by this session. -/
import Derived.Test.YtklmdnlambinaaaG0
import Derived.Test.YtklmdnlambinaaaG1
namespace Go.Proofs.Ytklmdnlambinaaa.PAll
open Go.RowKit Go.Proofs.YtklmdnlambinaaaW.PrintWords Go.Proofs.YtklmdnlambinaaaW.PrintLast Go.Proofs.YtklmdnlambinaaaW.PrintMore
attribute [local go_sem] max2_int min2_int max_two min_two max_three min_three max_four min_four   -- for this text's walks alone
set_option linter.unusedVariables false
set_option linter.unusedSimpArgs false

attribute [local go_sem high] eqA25
/-! ### laws_pSameCells: function 31 -/
def laws_pSameCells.l0 : Nat → List (S25) → List (S25) → Int → Int → Option (Bool)
 | 0, _, _, _, _ => none
 | k + 1, x0, x1, x12, x13 => if x13 < x12 then (if 0 ≤ x13 then (if x13 < (x0.length : Int) then (if x13 < (x1.length : Int) then (if (!(((rd_T25 x0 x13).f0) == ((rd_T25 x1 x13).f0)) || (!(((rd_T25 x0 x13).f1) == ((rd_T25 x1 x13).f1)))) = true then (some false) else (laws_pSameCells.l0 k x0 x1 x12 (wrap64 (x13 + 1)))) else (none)) else (none)) else (none)) else (some true)
def laws_pSameCells.f (k : Nat) (l0 : List (S25)) (l1 : List (S25)) : Option (Bool) := if (l0.length : Int) = (l1.length : Int) then (laws_pSameCells.l0 k l0 l1 (l0.length : Int) 0) else (some false)
set_option maxHeartbeats 8000000 in
set_option maxRecDepth 100000 in
theorem laws_pSameCells.calls (k : Nat) (A0 : Option Addr) (c0 : Nat) (l0 : List (S25)) (A1 : Option Addr) (c1 : Nat) (l1 : List (S25)) (r : Bool) (w : World) (hr0 : Kd.C k25 w A0 l0.length l0) (hc0 : l0.length ≤ c0) (hr1 : Kd.C k25 w A1 l1.length l1) (hc1 : l1.length ≤ c1) (h : laws_pSameCells.f k l0 l1 = some r) :
 Calls Try.prog 31 #[.slice A0 l0.length c0, .slice A1 l1.length c1] w fun e w' => e = .returned (.bool r) ∧ Drawn0 w w' := by
 have Ak := Try.underlying25
 have Af := Z.m hr0
 have Al := Z.m hc0
 clear hr0 hc0
 have Ag := Z.m hr1
 have Am := Z.m hc1
 clear hr1 hc1
 have H : (if (l0.length : Int) = (l1.length : Int) then (laws_pSameCells.l0 k l0 l1 (l0.length : Int) 0) else (some false)) = some r := h
 clear h
 by_cases c3 : (l0.length : Int) = (l1.length : Int)
 ·rw [if_pos c3] at H
  have A9 := beq_iff_eq.mpr c3
  have Aa := bne_eq_false_iff_eq.mpr c3
  have Ab : (l0.length == l1.length) = true := by first | simpa using c3 | (simp at c3 ⊢; omega)
  clear c3
  have H' := Z.m H
  clear H
  go_enter Try.func31, Try.ntmps31
  go_wp2
  repeat (go_quiet (fail); try go_wp2)
  go_loopg [13] k (fun kq v13 w' => ∃ (A2 : Int), v13 = .int .i64 A2 ∧ Z (laws_pSameCells.l0 kq l0 l1 (l0.length : Int) A2 = some r) ∧ Z (kq ≤ k) ∧ Drawn0 w w')
  case atStart => exact ⟨(0), (by first | rfl | (simp; done) | (simp [*]; done)), H', ⟨Nat.le_refl _⟩, by repeat (first | exact Drawn0.refl _ | apply Drawn0.step)⟩
  case round =>
   clear H'
   (try clear A9); (try clear Aa); (try clear Ab)
   obtain ⟨A2, rfl, HA, Ae, ⟨m1, rfl⟩⟩ := hrel
   cases gk with
   | zero => exact absurd HA.o (by simp [laws_pSameCells.l0])
   | succ k1 =>
    have H := HA.o
    clear HA
    simp only [laws_pSameCells.l0] at H
    by_cases c4 : A2 < (l0.length : Int)
    ·rw [if_pos c4] at H
     have Ac := decide_eq_true c4
     clear c4
     by_cases c5 : 0 ≤ A2
     ·rw [if_pos c5] at H
      have Ah := decide_eq_true c5
      clear c5
      by_cases c6 : A2 < (l0.length : Int)
      ·rw [if_pos c6] at H
       have Ai := decide_eq_true c6
       clear c6
       by_cases c7 : A2 < (l1.length : Int)
       ·rw [if_pos c7] at H
        have Aj := decide_eq_true c7
        clear c7
        by_cases c8 : (!(((rd_T25 l0 A2).f0) == ((rd_T25 l1 A2).f0)) || (!(((rd_T25 l0 A2).f1) == ((rd_T25 l1 A2).f1)))) = true
        ·rw [if_pos c8] at H
         have Ad : (!(((rd_T25 l0 A2).f0) == ((rd_T25 l1 A2).f0)) || (!(((rd_T25 l0 A2).f1) == ((rd_T25 l1 A2).f1)))) = true := c8
         clear c8
         obtain rfl := Option.some.inj H
         have p435 : 0 ≤ (A2 : Int) := ofD
         have q435 : A2 < (l0.length : Int) := ofD
         obtain ⟨A7, e435, A3, A4⟩ := at_T25 Af.o A2 p435 q435
         cases e435
         replace p435 := eq_true p435
         replace q435 := eq_true q435
         have p436 : 0 ≤ (A2 : Int) := ofD
         have q436 : A2 < (l1.length : Int) := ofD
         obtain ⟨A8, e436, A5, A6⟩ := at_T25 Ag.o A2 p436 q436
         cases e436
         replace p436 := eq_true p436
         replace q436 := eq_true q436
         go_wp2
         repeat (go_quiet (fail); try go_wp2)
         go_ret
         exact ⟨by first | rfl | (simp; done) | (simp [*]; done), by repeat (first | exact Drawn0.refl _ | apply Drawn0.step)⟩
        ·rw [if_neg c8] at H
         have Ad : (!(((rd_T25 l0 A2).f0) == ((rd_T25 l1 A2).f0)) || (!(((rd_T25 l0 A2).f1) == ((rd_T25 l1 A2).f1)))) = false := by simpa using c8
         clear c8
         have H' := Z.m H
         clear H
         have p435 : 0 ≤ (A2 : Int) := ofD
         have q435 : A2 < (l0.length : Int) := ofD
         obtain ⟨A7, e435, A3, A4⟩ := at_T25 Af.o A2 p435 q435
         cases e435
         replace p435 := eq_true p435
         replace q435 := eq_true q435
         have p436 : 0 ≤ (A2 : Int) := ofD
         have q436 : A2 < (l1.length : Int) := ofD
         obtain ⟨A8, e436, A5, A6⟩ := at_T25 Ag.o A2 p436 q436
         cases e436
         replace p436 := eq_true p436
         replace q436 := eq_true q436
         go_wp2
         repeat (go_quiet (fail); try go_wp2)
         go_roundg k1
         case measure => have := Ae.o; omega
         case rel => exact ⟨(wrap64 (A2 + 1)), (by first | rfl | (simp; done) | (simp [*]; done)), H', ⟨by have := Ae.o; omega⟩, by repeat (first | exact Drawn0.refl _ | apply Drawn0.step)⟩
       ·rw [if_neg c7] at H
        exact absurd H (by simp)
      ·rw [if_neg c6] at H
       exact absurd H (by simp)
     ·rw [if_neg c5] at H
      exact absurd H (by simp)
    ·rw [if_neg c4] at H
     have Ac := decide_eq_false c4
     clear c4
     obtain rfl := Option.some.inj H
     go_wp2
     repeat (go_quiet (fail); try go_wp2)
     go_ret
     exact ⟨by first | rfl | (simp; done) | (simp [*]; done), by repeat (first | exact Drawn0.refl _ | apply Drawn0.step)⟩
 ·rw [if_neg c3] at H
  have A9 := beq_eq_false_iff_ne.mpr c3
  have Aa := bne_iff_ne.mpr c3
  have Ab : (l0.length == l1.length) = false := by first | simpa using c3 | (simp at c3 ⊢; omega)
  obtain rfl := Option.some.inj H
  go_enter Try.func31, Try.ntmps31
  go_wp2
  repeat (go_quiet (fail); try go_wp2)
  go_ret
  exact ⟨by first | rfl | (simp; done) | (simp [*]; done), by repeat (first | exact Drawn0.refl _ | apply Drawn0.step)⟩

end Go.Proofs.Ytklmdnlambinaaa.PAll
