/- Began as a text that print.sh wrote (of the functions named below); turned and shortened by this session. -/
import Derived.Test.YtoklfgjemfojgaaG0
namespace Go.Proofs.Ytoklfgjemfojgaa.PAll
open Go.RowKit Go.Proofs.YtoklfgjemfojgaaW.PrintWords Go.Proofs.YtoklfgjemfojgaaW.PrintLast Go.Proofs.YtoklfgjemfojgaaW.PrintMore
attribute [local go_sem] max2_int min2_int max_two min_two max_three min_three max_four min_four   -- for this text's walks alone
set_option linter.unusedVariables false
set_option linter.unusedSimpArgs false

/-! ### laws_eqIntS: function 27 -/
def laws_eqIntS.l0 : Nat → List Int → List Int → Int → Option (Bool)
 | 0, _, _, _ => none
 | k + 1, x0, x1, x5 => if x5 < (x0.length : Int) then (if 0 ≤ x5 then (if x5 < (x1.length : Int) then (if (rd x0 x5) = (rd x1 x5) then (laws_eqIntS.l0 k x0 x1 (wrap64 (x5 + 1))) else (some false)) else (none)) else (none)) else (some true)
def laws_eqIntS.f (k : Nat) (l0 : List Int) (l1 : List Int) : Option (Bool) := if (l0.length : Int) = (l1.length : Int) then (laws_eqIntS.l0 k l0 l1 0) else (some false)
set_option maxHeartbeats 8000000 in
set_option maxRecDepth 100000 in
theorem laws_eqIntS.calls (k : Nat) (A0 : Option Addr) (c0 : Nat) (l0 : List Int) (A1 : Option Addr) (c1 : Nat) (l1 : List Int) (r : Bool) (w : World) (hr0 : Kd.C (Kd.int .i64) w A0 l0.length l0) (hc0 : l0.length ≤ c0) (hr1 : Kd.C (Kd.int .i64) w A1 l1.length l1) (hc1 : l1.length ≤ c1) (h : laws_eqIntS.f k l0 l1 = some r) :
 Calls Try.prog 27 #[.slice A0 l0.length c0, .slice A1 l1.length c1] w fun e w' => e = .returned (.bool r) ∧ Drawn0 w w' := by
 have Ae := Z.m hr0
 have Ai := Z.m hc0
 clear hr0 hc0
 have Af := Z.m hr1
 have Aj := Z.m hc1
 clear hr1 hc1
 have H : (if (l0.length : Int) = (l1.length : Int) then (laws_eqIntS.l0 k l0 l1 0) else (some false)) = some r := h
 clear h
 by_cases c3 : (l0.length : Int) = (l1.length : Int)
 ·rw [if_pos c3] at H
  have A7 := beq_iff_eq.mpr c3
  have A8 := bne_eq_false_iff_eq.mpr c3
  have A9 : (l0.length == l1.length) = true := by first | simpa using c3 | (simp at c3 ⊢; omega)
  clear c3
  have H' := Z.m H
  clear H
  go_enter Try.func27, Try.ntmps27
  go_wp2
  repeat (go_quiet (fail); try go_wp2)
  go_loopg [5] k (fun kq v5 w' => ∃ (A2 : Int), v5 = .int .i64 A2 ∧ Z (laws_eqIntS.l0 kq l0 l1 A2 = some r) ∧ Z (kq ≤ k) ∧ Drawn0 w w')
  case atStart => exact ⟨(0), (by first | rfl | (simp; done) | (simp [*]; done)), H', ⟨Nat.le_refl _⟩, by repeat (first | exact Drawn0.refl _ | apply Drawn0.step)⟩
  case round =>
   clear H'
   (try clear A7); (try clear A8); (try clear A9)
   obtain ⟨A2, rfl, HA, Ad, ⟨m1, rfl⟩⟩ := hrel
   cases gk with
   | zero => exact absurd HA.o (by simp [laws_eqIntS.l0])
   | succ k1 =>
    have H := HA.o
    clear HA
    simp only [laws_eqIntS.l0] at H
    by_cases c4 : A2 < (l0.length : Int)
    ·rw [if_pos c4] at H
     have Aa := decide_eq_true c4
     clear c4
     by_cases c5 : 0 ≤ A2
     ·rw [if_pos c5] at H
      have Ag := decide_eq_true c5
      clear c5
      by_cases c6 : A2 < (l1.length : Int)
      ·rw [if_pos c6] at H
       have Ah := decide_eq_true c6
       clear c6
       by_cases c7 : (rd l0 A2) = (rd l1 A2)
       ·rw [if_pos c7] at H
        have Ab := beq_iff_eq.mpr c7
        have Ac := bne_eq_false_iff_eq.mpr c7
        clear c7
        have H' := Z.m H
        clear H
        have p467 : 0 ≤ (A2 : Int) := ofD
        have q467 : A2 < (l0.length : Int) := ofD
        obtain ⟨A5, e467, A3⟩ := Kd.at_int Ae.o A2 p467 q467
        cases e467
        replace p467 := eq_true p467
        replace q467 := eq_true q467
        have p468 : 0 ≤ (A2 : Int) := ofD
        have q468 : A2 < (l1.length : Int) := ofD
        obtain ⟨A6, e468, A4⟩ := Kd.at_int Af.o A2 p468 q468
        cases e468
        replace p468 := eq_true p468
        replace q468 := eq_true q468
        go_wp2
        repeat (go_quiet (fail); try go_wp2)
        go_roundg k1
        case measure => have := Ad.o; omega
        case rel => exact ⟨(wrap64 (A2 + 1)), (by first | rfl | (simp; done) | (simp [*]; done)), H', ⟨by have := Ad.o; omega⟩, by repeat (first | exact Drawn0.refl _ | apply Drawn0.step)⟩
       ·rw [if_neg c7] at H
        have Ab := beq_eq_false_iff_ne.mpr c7
        have Ac := bne_iff_ne.mpr c7
        obtain rfl := Option.some.inj H
        have p467 : 0 ≤ (A2 : Int) := ofD
        have q467 : A2 < (l0.length : Int) := ofD
        obtain ⟨A5, e467, A3⟩ := Kd.at_int Ae.o A2 p467 q467
        cases e467
        replace p467 := eq_true p467
        replace q467 := eq_true q467
        have p468 : 0 ≤ (A2 : Int) := ofD
        have q468 : A2 < (l1.length : Int) := ofD
        obtain ⟨A6, e468, A4⟩ := Kd.at_int Af.o A2 p468 q468
        cases e468
        replace p468 := eq_true p468
        replace q468 := eq_true q468
        go_wp2
        repeat (go_quiet (fail); try go_wp2)
        go_ret
        exact ⟨by first | rfl | (simp; done) | (simp [*]; done), by repeat (first | exact Drawn0.refl _ | apply Drawn0.step)⟩
      ·rw [if_neg c6] at H
       exact absurd H (by simp)
     ·rw [if_neg c5] at H
      exact absurd H (by simp)
    ·rw [if_neg c4] at H
     have Aa := decide_eq_false c4
     clear c4
     obtain rfl := Option.some.inj H
     go_wp2
     repeat (go_quiet (fail); try go_wp2)
     go_ret
     exact ⟨by first | rfl | (simp; done) | (simp [*]; done), by repeat (first | exact Drawn0.refl _ | apply Drawn0.step)⟩
 ·rw [if_neg c3] at H
  have A7 := beq_eq_false_iff_ne.mpr c3
  have A8 := bne_iff_ne.mpr c3
  have A9 : (l0.length == l1.length) = false := by first | simpa using c3 | (simp at c3 ⊢; omega)
  obtain rfl := Option.some.inj H
  go_enter Try.func27, Try.ntmps27
  go_wp2
  repeat (go_quiet (fail); try go_wp2)
  go_ret
  exact ⟨by first | rfl | (simp; done) | (simp [*]; done), by repeat (first | exact Drawn0.refl _ | apply Drawn0.step)⟩

end Go.Proofs.Ytoklfgjemfojgaa.PAll
