/- Began as a text that print.sh wrote (of the functions named below); turned and shortened by this session. -/
import Derived.Test.YtoklfgjemfojgaaG0
namespace Go.Proofs.Ytoklfgjemfojgaa.PAll
open Go.RowKit Go.Proofs.YtoklfgjemfojgaaW.PrintWords Go.Proofs.YtoklfgjemfojgaaW.PrintLast Go.Proofs.YtoklfgjemfojgaaW.PrintMore
attribute [local go_sem] max2_int min2_int max_two min_two max_three min_three max_four min_four   -- for this text's walks alone
set_option linter.unusedVariables false
set_option linter.unusedSimpArgs false

/-! ### laws_eqIntS: function 27 -/
def laws_eqIntS.l0 : Nat → List Int → List Int → Int → Option (Bool)
 | 0, _, _, _ => none
 | k + 1, x0, x1, x5 => if x5 < (x0.length : Int) then (if 0 ≤ x5 then (if x5 < (x1.length : Int) then (if (rd x0 x5) = (rd x1 x5) then (laws_eqIntS.l0 k x0 x1 (wrap64 (x5 + 1))) else (some false)) else (none)) else (none)) else (some true)
def laws_eqIntS.f (k : Nat) (l0 : List Int) (l1 : List Int) : Option (Bool) := if (l0.length : Int) = (l1.length : Int) then (laws_eqIntS.l0 k l0 l1 0) else (some false)
set_option maxHeartbeats 8000000 in
set_option maxRecDepth 100000 in
theorem laws_eqIntS.calls (k : Nat) (A0 : Option Addr) (c0 : Nat) (l0 : List Int) (A1 : Option Addr) (c1 : Nat) (l1 : List Int) (r : Bool) (w : World) (hr0 : Kd.C (Kd.int .i64) w A0 l0.length l0) (hc0 : l0.length ≤ c0) (hr1 : Kd.C (Kd.int .i64) w A1 l1.length l1) (hc1 : l1.length ≤ c1) (h : laws_eqIntS.f k l0 l1 = some r) :
 Calls Try.prog 27 #[.slice A0 l0.length c0, .slice A1 l1.length c1] w fun e w' => e = .returned (.bool r) ∧ Drawn0 w w' := by
 have Ae := Z.m hr0
 have Ai := Z.m hc0
 clear hr0 hc0
 have Af := Z.m hr1
 have Aj := Z.m hc1
 clear hr1 hc1
 have H : (if (l0.length : Int) = (l1.length : Int) then (laws_eqIntS.l0 k l0 l1 0) else (some false)) = some r := h
 clear h
 by_cases c3 : (l0.length : Int) = (l1.length : Int)
 ·rw [if_pos c3] at H
  have A7 := beq_iff_eq.mpr c3
  have A8 := bne_eq_false_iff_eq.mpr c3
  have A9 : (l0.length == l1.length) = true := by first | simpa using c3 | (simp at c3 ⊢; omega)
  clear c3
  have H' := Z.m H
  clear H
  go_enter Try.func27, Try.ntmps27
  go_wp2
  repeat (go_quiet (fail); try go_wp2)
  go_loopg [5] k (fun kq v5 w' => ∃ (A2 : Int), v5 = .int .i64 A2 ∧ Z (laws_eqIntS.l0 kq l0 l1 A2 = some r) ∧ Z (kq ≤ k) ∧ Drawn0 w w')
  case atStart => exact ⟨(0), (by first | rfl | (simp; done) | (simp [*]; done)), H', ⟨Nat.le_refl _⟩, by repeat (first | exact Drawn0.refl _ | apply Drawn0.step)⟩
  case round =>
   clear H'
   (try clear A7); (try clear A8); (try clear A9)
   obtain ⟨A2, rfl, HA, Ad, ⟨m1, rfl⟩⟩ := hrel
   cases gk with
   | zero => exact absurd HA.o (by simp [laws_eqIntS.l0])
   | succ k1 =>
    have H := HA.o
    clear HA
    simp only [laws_eqIntS.l0] at H
    by_cases c4 : A2 < (l0.length : Int)
    ·rw [if_pos c4] at H
     have Aa := decide_eq_true c4
     clear c4
     by_cases c5 : 0 ≤ A2
     ·rw [if_pos c5] at H
      have Ag := decide_eq_true c5
      clear c5
      by_cases c6 : A2 < (l1.length : Int)
      ·rw [if_pos c6] at H
       have Ah := decide_eq_true c6
       clear c6
       by_cases c7 : (rd l0 A2) = (rd l1 A2)
       ·rw [if_pos c7] at H
        have Ab := beq_iff_eq.mpr c7
        have Ac := bne_eq_false_iff_eq.mpr c7
        clear c7
        have H' := Z.m H
        clear H
        have p367 : 0 ≤ (A2 : Int) := ofD
        have q367 : A2 < (l0.length : Int) := ofD
        obtain ⟨A5, e367, A3⟩ := Kd.at_int Ae.o A2 p367 q367
        cases e367
        replace p367 := eq_true p367
        replace q367 := eq_true q367
        have p368 : 0 ≤ (A2 : Int) := ofD
        have q368 : A2 < (l1.length : Int) := ofD
        obtain ⟨A6, e368, A4⟩ := Kd.at_int Af.o A2 p368 q368
        cases e368
        replace p368 := eq_true p368
        replace q368 := eq_true q368
        go_wp2
        repeat (go_quiet (fail); try go_wp2)
        go_roundg k1
        case measure => have := Ad.o; omega
        case rel => exact ⟨(wrap64 (A2 + 1)), (by first | rfl | (simp; done) | (simp [*]; done)), H', ⟨by have := Ad.o; omega⟩, by repeat (first | exact Drawn0.refl _ | apply Drawn0.step)⟩
       ·rw [if_neg c7] at H
        have Ab := beq_eq_false_iff_ne.mpr c7
        have Ac := bne_iff_ne.mpr c7
        obtain rfl := Option.some.inj H
        have p367 : 0 ≤ (A2 : Int) := ofD
        have q367 : A2 < (l0.length : Int) := ofD
        obtain ⟨A5, e367, A3⟩ := Kd.at_int Ae.o A2 p367 q367
        cases e367
        replace p367 := eq_true p367
        replace q367 := eq_true q367
        have p368 : 0 ≤ (A2 : Int) := ofD
        have q368 : A2 < (l1.length : Int) := ofD
        obtain ⟨A6, e368, A4⟩ := Kd.at_int Af.o A2 p368 q368
        cases e368
        replace p368 := eq_true p368
        replace q368 := eq_true q368
        go_wp2
        repeat (go_quiet (fail); try go_wp2)
        go_ret
        exact ⟨by first | rfl | (simp; done) | (simp [*]; done), by repeat (first | exact Drawn0.refl _ | apply Drawn0.step)⟩
      ·rw [if_neg c6] at H
       exact absurd H (by simp)
     ·rw [if_neg c5] at H
      exact absurd H (by simp)
    ·rw [if_neg c4] at H
     have Aa := decide_eq_false c4
     clear c4
     obtain rfl := Option.some.inj H
     go_wp2
     repeat (go_quiet (fail); try go_wp2)
     go_ret
     exact ⟨by first | rfl | (simp; done) | (simp [*]; done), by repeat (first | exact Drawn0.refl _ | apply Drawn0.step)⟩
 ·rw [if_neg c3] at H
  have A7 := beq_eq_false_iff_ne.mpr c3
  have A8 := bne_iff_ne.mpr c3
  have A9 : (l0.length == l1.length) = false := by first | simpa using c3 | (simp at c3 ⊢; omega)
  obtain rfl := Option.some.inj H
  go_enter Try.func27, Try.ntmps27
  go_wp2
  repeat (go_quiet (fail); try go_wp2)
  go_ret
  exact ⟨by first | rfl | (simp; done) | (simp [*]; done), by repeat (first | exact Drawn0.refl _ | apply Drawn0.step)⟩

/-! ### laws_eqIntSS: function 37 -/
def laws_eqIntSS.l0 : Nat → List (List Int) → List (List Int) → Int → Option (Bool)
 | 0, _, _, _ => none
 | k + 1, x0, x1, x5 => if x5 < (x0.length : Int) then (if 0 ≤ x5 then (if x5 < (x1.length : Int) then ((laws_eqIntS.f k (rd_L3 x0 x5) (rd_L3 x1 x5)).bind fun t371 => (if t371 = true then (laws_eqIntSS.l0 k x0 x1 (wrap64 (x5 + 1))) else (some false))) else (none)) else (none)) else (some true)
def laws_eqIntSS.f (k : Nat) (l0 : List (List Int)) (l1 : List (List Int)) : Option (Bool) := if (l0.length : Int) = (l1.length : Int) then (laws_eqIntSS.l0 k l0 l1 0) else (some false)
set_option maxHeartbeats 8000000 in
set_option maxRecDepth 100000 in
theorem laws_eqIntSS.calls (k : Nat) (A0 : Option Addr) (c0 : Nat) (l0 : List (List Int)) (A1 : Option Addr) (c1 : Nat) (l1 : List (List Int)) (r : Bool) (w : World) (hr0 : Kd.C (Kd.slice 3 (Kd.int .i64)) w A0 l0.length l0) (hc0 : l0.length ≤ c0) (hr1 : Kd.C (Kd.slice 3 (Kd.int .i64)) w A1 l1.length l1) (hc1 : l1.length ≤ c1) (h : laws_eqIntSS.f k l0 l1 = some r) :
 Calls Try.prog 37 #[.slice A0 l0.length c0, .slice A1 l1.length c1] w fun e w' => e = .returned (.bool r) ∧ Drawn0 w w' := by
 have An := Z.m hr0
 have Ar := Z.m hc0
 clear hr0 hc0
 have Ao := Z.m hr1
 have As := Z.m hc1
 clear hr1 hc1
 have H : (if (l0.length : Int) = (l1.length : Int) then (laws_eqIntSS.l0 k l0 l1 0) else (some false)) = some r := h
 clear h
 by_cases c3 : (l0.length : Int) = (l1.length : Int)
 ·rw [if_pos c3] at H
  have Ag := beq_iff_eq.mpr c3
  have Ah := bne_eq_false_iff_eq.mpr c3
  have Ai : (l0.length == l1.length) = true := by first | simpa using c3 | (simp at c3 ⊢; omega)
  clear c3
  have H' := Z.m H
  clear H
  go_enter Try.func37, Try.ntmps37
  go_wp2
  repeat (go_quiet (fail); try go_wp2)
  go_loopg [5] k (fun kq v5 w' => ∃ (A2 : Int), v5 = .int .i64 A2 ∧ Z (laws_eqIntSS.l0 kq l0 l1 A2 = some r) ∧ Z (kq ≤ k) ∧ Drawn0 w w')
  case atStart => exact ⟨(0), (by first | rfl | (simp; done) | (simp [*]; done)), H', ⟨Nat.le_refl _⟩, by repeat (first | exact Drawn0.refl _ | apply Drawn0.step)⟩
  case round =>
   clear H'
   (try clear Ag); (try clear Ah); (try clear Ai)
   obtain ⟨A2, rfl, HA, Am, ⟨m1, rfl⟩⟩ := hrel
   cases gk with
   | zero => exact absurd HA.o (by simp [laws_eqIntSS.l0])
   | succ k1 =>
    have H := HA.o
    clear HA
    simp only [laws_eqIntSS.l0] at H
    by_cases c4 : A2 < (l0.length : Int)
    ·rw [if_pos c4] at H
     have Ak := decide_eq_true c4
     clear c4
     by_cases c5 : 0 ≤ A2
     ·rw [if_pos c5] at H
      have Ap := decide_eq_true c5
      clear c5
      by_cases c6 : A2 < (l1.length : Int)
      ·rw [if_pos c6] at H
       have Aq := decide_eq_true c6
       clear c6
       replace H := Option.bind_eq_some_iff.mp H
       obtain ⟨Aj, Al, H⟩ := H
       replace H : (if Aj = true then (laws_eqIntSS.l0 k1 l0 l1 (wrap64 (A2 + 1))) else (some false)) = some r := H
       have A7 := Z.m Al
       clear Al
       by_cases c8 : Aj = true
       ·subst c8
        have H1 : (laws_eqIntSS.l0 k1 l0 l1 (wrap64 (A2 + 1))) = some r := by rw [if_pos rfl] at H; exact H
        clear H
        have H := H1
        clear H1
        have H' := Z.m H
        clear H
        have p369 : 0 ≤ (A2 : Int) := ofD
        have q369 : A2 < (l0.length : Int) := ofD
        obtain ⟨Ae, Ac, c369_0, e369, Aa, A8, hi369_0⟩ := at_L3 An.o A2 p369 q369
        cases e369
        have A5 := Z.m hi369_0
        have A3 := Z.m A8
        clear hi369_0 A8
        replace p369 := eq_true p369
        replace q369 := eq_true q369
        have p370 : 0 ≤ (A2 : Int) := ofD
        have q370 : A2 < (l1.length : Int) := ofD
        obtain ⟨Af, Ad, c370_0, e370, Ab, A9, hi370_0⟩ := at_L3 Ao.o A2 p370 q370
        cases e370
        have A6 := Z.m hi370_0
        have A4 := Z.m A9
        clear hi370_0 A9
        replace p370 := eq_true p370
        replace q370 := eq_true q370
        go_wp2_with (first | (go_at_call 27; (with_reducible refine (laws_eqIntS.calls k1 _ _ (rd_L3 l0 A2) _ _ (rd_L3 l1 A2) true _ ?side1 ?side2 ?side3 ?side4 A7.o).mono ?_); (case side1 => repeat (first | exact A5.o | (with_reducible refine Kd.C_alloc ?_ _) | (with_reducible refine Kd.C_drewN ?_ _) | (with_reducible refine Kd.C_drew ?_))); (case side2 => exact A3.o); (case side3 => repeat (first | exact A6.o | (with_reducible refine Kd.C_alloc ?_ _) | (with_reducible refine Kd.C_drewN ?_ _) | (with_reducible refine Kd.C_drew ?_))); (case side4 => exact A4.o); rintro e w' ⟨rfl, ⟨nd, rfl⟩⟩; (try first | exact ⟨rfl, _, World.drewN_drewN _ _ _⟩ | exact ⟨rfl, _, Eq.trans (World.drewN_drewN _ _ _) (congrArg (World.drewN _) (Nat.add_assoc _ _ _))⟩)))
        repeat (go_quiet (first | (go_at_call 27; (with_reducible refine (laws_eqIntS.calls k1 _ _ (rd_L3 l0 A2) _ _ (rd_L3 l1 A2) true _ ?side1 ?side2 ?side3 ?side4 A7.o).mono ?_); (case side1 => repeat (first | exact A5.o | (with_reducible refine Kd.C_alloc ?_ _) | (with_reducible refine Kd.C_drewN ?_ _) | (with_reducible refine Kd.C_drew ?_))); (case side2 => exact A3.o); (case side3 => repeat (first | exact A6.o | (with_reducible refine Kd.C_alloc ?_ _) | (with_reducible refine Kd.C_drewN ?_ _) | (with_reducible refine Kd.C_drew ?_))); (case side4 => exact A4.o); rintro e w' ⟨rfl, ⟨nd, rfl⟩⟩; (try first | exact ⟨rfl, _, World.drewN_drewN _ _ _⟩ | exact ⟨rfl, _, Eq.trans (World.drewN_drewN _ _ _) (congrArg (World.drewN _) (Nat.add_assoc _ _ _))⟩))); try go_wp2_with (first | (go_at_call 27; (with_reducible refine (laws_eqIntS.calls k1 _ _ (rd_L3 l0 A2) _ _ (rd_L3 l1 A2) true _ ?side1 ?side2 ?side3 ?side4 A7.o).mono ?_); (case side1 => repeat (first | exact A5.o | (with_reducible refine Kd.C_alloc ?_ _) | (with_reducible refine Kd.C_drewN ?_ _) | (with_reducible refine Kd.C_drew ?_))); (case side2 => exact A3.o); (case side3 => repeat (first | exact A6.o | (with_reducible refine Kd.C_alloc ?_ _) | (with_reducible refine Kd.C_drewN ?_ _) | (with_reducible refine Kd.C_drew ?_))); (case side4 => exact A4.o); rintro e w' ⟨rfl, ⟨nd, rfl⟩⟩; (try first | exact ⟨rfl, _, World.drewN_drewN _ _ _⟩ | exact ⟨rfl, _, Eq.trans (World.drewN_drewN _ _ _) (congrArg (World.drewN _) (Nat.add_assoc _ _ _))⟩))))
        go_roundg k1
        case measure => have := Am.o; omega
        case rel => exact ⟨(wrap64 (A2 + 1)), (by first | rfl | (simp; done) | (simp [*]; done)), H', ⟨by have := Am.o; omega⟩, by repeat (first | exact Drawn0.refl _ | apply Drawn0.step)⟩
       ·replace c8 := Bool.eq_false_iff.mpr c8
        subst c8
        have H1 : (some false) = some r := by rw [if_neg (show ¬ (false = true) by decide)] at H; exact H
        clear H
        have H := H1
        clear H1
        obtain rfl := Option.some.inj H
        have p369 : 0 ≤ (A2 : Int) := ofD
        have q369 : A2 < (l0.length : Int) := ofD
        obtain ⟨Ae, Ac, c369_0, e369, Aa, A8, hi369_0⟩ := at_L3 An.o A2 p369 q369
        cases e369
        have A5 := Z.m hi369_0
        have A3 := Z.m A8
        clear hi369_0 A8
        replace p369 := eq_true p369
        replace q369 := eq_true q369
        have p370 : 0 ≤ (A2 : Int) := ofD
        have q370 : A2 < (l1.length : Int) := ofD
        obtain ⟨Af, Ad, c370_0, e370, Ab, A9, hi370_0⟩ := at_L3 Ao.o A2 p370 q370
        cases e370
        have A6 := Z.m hi370_0
        have A4 := Z.m A9
        clear hi370_0 A9
        replace p370 := eq_true p370
        replace q370 := eq_true q370
        go_wp2_with (first | (go_at_call 27; (with_reducible refine (laws_eqIntS.calls k1 _ _ (rd_L3 l0 A2) _ _ (rd_L3 l1 A2) false _ ?side1 ?side2 ?side3 ?side4 A7.o).mono ?_); (case side1 => repeat (first | exact A5.o | (with_reducible refine Kd.C_alloc ?_ _) | (with_reducible refine Kd.C_drewN ?_ _) | (with_reducible refine Kd.C_drew ?_))); (case side2 => exact A3.o); (case side3 => repeat (first | exact A6.o | (with_reducible refine Kd.C_alloc ?_ _) | (with_reducible refine Kd.C_drewN ?_ _) | (with_reducible refine Kd.C_drew ?_))); (case side4 => exact A4.o); rintro e w' ⟨rfl, ⟨nd, rfl⟩⟩; (try first | exact ⟨rfl, _, World.drewN_drewN _ _ _⟩ | exact ⟨rfl, _, Eq.trans (World.drewN_drewN _ _ _) (congrArg (World.drewN _) (Nat.add_assoc _ _ _))⟩)))
        repeat (go_quiet (first | (go_at_call 27; (with_reducible refine (laws_eqIntS.calls k1 _ _ (rd_L3 l0 A2) _ _ (rd_L3 l1 A2) false _ ?side1 ?side2 ?side3 ?side4 A7.o).mono ?_); (case side1 => repeat (first | exact A5.o | (with_reducible refine Kd.C_alloc ?_ _) | (with_reducible refine Kd.C_drewN ?_ _) | (with_reducible refine Kd.C_drew ?_))); (case side2 => exact A3.o); (case side3 => repeat (first | exact A6.o | (with_reducible refine Kd.C_alloc ?_ _) | (with_reducible refine Kd.C_drewN ?_ _) | (with_reducible refine Kd.C_drew ?_))); (case side4 => exact A4.o); rintro e w' ⟨rfl, ⟨nd, rfl⟩⟩; (try first | exact ⟨rfl, _, World.drewN_drewN _ _ _⟩ | exact ⟨rfl, _, Eq.trans (World.drewN_drewN _ _ _) (congrArg (World.drewN _) (Nat.add_assoc _ _ _))⟩))); try go_wp2_with (first | (go_at_call 27; (with_reducible refine (laws_eqIntS.calls k1 _ _ (rd_L3 l0 A2) _ _ (rd_L3 l1 A2) false _ ?side1 ?side2 ?side3 ?side4 A7.o).mono ?_); (case side1 => repeat (first | exact A5.o | (with_reducible refine Kd.C_alloc ?_ _) | (with_reducible refine Kd.C_drewN ?_ _) | (with_reducible refine Kd.C_drew ?_))); (case side2 => exact A3.o); (case side3 => repeat (first | exact A6.o | (with_reducible refine Kd.C_alloc ?_ _) | (with_reducible refine Kd.C_drewN ?_ _) | (with_reducible refine Kd.C_drew ?_))); (case side4 => exact A4.o); rintro e w' ⟨rfl, ⟨nd, rfl⟩⟩; (try first | exact ⟨rfl, _, World.drewN_drewN _ _ _⟩ | exact ⟨rfl, _, Eq.trans (World.drewN_drewN _ _ _) (congrArg (World.drewN _) (Nat.add_assoc _ _ _))⟩))))
        go_ret
        exact ⟨by first | rfl | (simp; done) | (simp [*]; done), by repeat (first | exact Drawn0.refl _ | apply Drawn0.step)⟩
      ·rw [if_neg c6] at H
       exact absurd H (by simp)
     ·rw [if_neg c5] at H
      exact absurd H (by simp)
    ·rw [if_neg c4] at H
     have Ak := decide_eq_false c4
     clear c4
     obtain rfl := Option.some.inj H
     go_wp2
     repeat (go_quiet (fail); try go_wp2)
     go_ret
     exact ⟨by first | rfl | (simp; done) | (simp [*]; done), by repeat (first | exact Drawn0.refl _ | apply Drawn0.step)⟩
 ·rw [if_neg c3] at H
  have Ag := beq_eq_false_iff_ne.mpr c3
  have Ah := bne_iff_ne.mpr c3
  have Ai : (l0.length == l1.length) = false := by first | simpa using c3 | (simp at c3 ⊢; omega)
  obtain rfl := Option.some.inj H
  go_enter Try.func37, Try.ntmps37
  go_wp2
  repeat (go_quiet (fail); try go_wp2)
  go_ret
  exact ⟨by first | rfl | (simp; done) | (simp [*]; done), by repeat (first | exact Drawn0.refl _ | apply Drawn0.step)⟩

/-! ### laws_markIntS: function 28 -/
def laws_markIntS.l0 : Nat → List Int → Int → Int → Option (Int × List Int)
 | 0, _, _, _ => none
 | k + 1, x0, x1, x5 => if x5 < (x0.length : Int) then (if 0 ≤ x5 then (laws_markIntS.l0 k (x0.set (x5 : Int).toNat x1) (wrap64 (x1 + 1)) (wrap64 (x5 + 1))) else (none)) else (some (x1, x0))
def laws_markIntS.f (k : Nat) (l0 : List Int) (a1 : Int) : Option (Int × List Int) := laws_markIntS.l0 k l0 a1 0
set_option maxHeartbeats 8000000 in
set_option maxRecDepth 100000 in
theorem laws_markIntS.calls (k : Nat) (P0_ : Nat → Prop) (u9000_ : Value) (l0 : List Int) (a1 : Int) (r1 : Int) (r2 : List Int) (w0 w : World) (hB : Below w0.heap.size w0 w) (ho0 : Kd.R (Kd.int .i64) 3 w w0.heap.size P0_ u9000_ l0) (h : laws_markIntS.f k l0 a1 = some (r1, r2)) :
 Calls Try.prog 28 #[u9000_, .int .i64 a1] w fun e w' => e = .returned (.int .i64 r1) ∧ Kd.R (Kd.int .i64) 3 w' w0.heap.size (fun k_ => (P0_ k_ ∨ w.heap.size ≤ k_)) u9000_ r2 ∧ Below w0.heap.size w0 w' ∧ Kept w w' (fun k_ => P0_ k_) := by
 have Ai := Z.m (show Kd.R (Kd.int .i64) 3 w w0.heap.size (fun k_ => (P0_ k_ ∨ w.heap.size ≤ k_)) u9000_ l0 from Kd.Rm ho0 (fun k_ hk => (.inl hk)))
 have HK := Z.m (Kept.refl w (fun k_ => P0_ k_))
 have HW0 := Z.m hB.size
 have HB := Z.m hB
 clear hB
 have H : (laws_markIntS.l0 k l0 a1 0) = some (r1, r2) := h
 clear h
 have H' := Z.m H
 clear H
 go_enter Try.func28, Try.ntmps28
 go_wp2
 go_loopg [1, 5] k (fun kq v1 v5 w' => ∃ (A4 : List Int) (A3 : Int) (A0 : Int), v1 = .int .i64 A3 ∧ v5 = .int .i64 A0 ∧ Z (laws_markIntS.l0 kq A4 A3 A0 = some (r1, r2)) ∧ Z (kq ≤ k) ∧ Z (Kd.R (Kd.int .i64) 3 w' w0.heap.size (fun k_ => (P0_ k_ ∨ w.heap.size ≤ k_)) u9000_ A4) ∧ Z (Kept w w' (fun k_ => P0_ k_)) ∧ Z (Below w0.heap.size w0 w'))
 case atStart => exact ⟨(l0), (a1), (0), (by first | rfl | (simp; done) | (simp [*]; done)), (by first | rfl | (simp; done) | (simp [*]; done)), H', ⟨Nat.le_refl _⟩, ⟨vR Ai⟩, ⟨vT HK⟩, ⟨vB HB⟩⟩
 case round =>
  clear H'
  obtain ⟨A4, A3, A0, rfl, rfl, HA, Ab, A1, HK, HB⟩ := hrel
  cases gk with
  | zero => exact absurd HA.o (by simp [laws_markIntS.l0])
  | succ k1 =>
   have H := HA.o
   clear HA
   simp only [laws_markIntS.l0] at H
   by_cases c3 : A0 < (A4.length : Int)
   ·rw [if_pos c3] at H
    have A9 := decide_eq_true c3
    clear c3
    by_cases c4 : 0 ≤ A0
    ·rw [if_pos c4] at H
     have Aj := decide_eq_true c4
     clear c4
     obtain ⟨A5, A2⟩ : ∃ y_ : List Int, y_ = (A4.set (A0 : Int).toNat A3) := ⟨_, rfl⟩
     replace H : (laws_markIntS.l0 k1 A5 (wrap64 (A3 + 1)) (wrap64 (A0 + 1))) = some (r1, r2) := by first | (rw [A2]; with_reducible exact H) | (have H2_ := (Option.bind_some _ _).symm.trans H; rw [A2]; with_reducible exact H2_) | (have H2_ := (Option.bind_some _ _).symm.trans H; with_reducible exact H2_) | with_reducible exact H | (rw [A2]; exact H) | exact H
     have A6 := Z.m A2
     clear A2
     have H' := Z.m H
     clear H
     obtain ⟨An, Ak, Al⟩ := Kd.R_slice A1.o
     subst Al
     have p5 : 0 ≤ (A0 : Int) := ofD
     have q5 : (A0 : Int) < ((A4.length : Int) : Int) := ofD
     obtain ⟨A7, Aq, Ad, Ae, gl5, cl5, Aa⟩ := Kd.R_form A1.o (by omega)
     (first | cases Ad | (injection Ad with ea_ en_ ec_; (first | subst ea_ | (injection ea_ with ea_; subst ea_)); subst ec_; clear en_))
     have Ah := Z.m Ae
     have Ap := Z.m Aa
     clear Ae gl5 Aa
     have Ac := Z.m (show (P0_ A7 ∨ w.heap.size ≤ A7) from (A1.o.1 _ rfl))
     obtain ⟨Ag, Af⟩ := Kd.R_celln 0 A1.o (A0 : Int) p5 q5
     replace p5 := eq_true p5
     replace q5 := eq_true q5
     have A8 := Kd.R_putg A1.o (A0 : Int) A3
     go_wp2_with (first | ((with_reducible refine gt (t := 3) (p := 15) rfl ?_); refine store_event (t := 3) (p := 15) (v := ?vo_w8) (w1 := (wr.setCell ⟨A7, (A0 : Int).toNat, none⟩ (.int .i64 A3))) ?hg ?ho ?hn ?hr ?_; (case ho => rfl); (case hg => rfl); (case hn => rfl); (case hr => first | (go_simp; done) | (go_simp; rfl)); intro w8 hw; have hg : wr.grownBy w8 (some A7) := (by rw [hw]; exact A8.2); have hp_ : Kd.R (Kd.int .i64) 3 w8 w0.heap.size (fun k_ => (P0_ k_ ∨ w.heap.size ≤ k_)) (.slice (some ⟨A7, 0, none⟩) A4.length Ak) A5 := (by rw [hw, A6.o]; exact A8.1); clear A8; replace HB := Z.m ((by rw [hw]; exact qx (HB.o) Ah.o : Below w0.heap.size w0 w8)); replace HK := Z.m (Kept.of_grown (S := (fun k_ => P0_ k_)) hg (vT HK) (fun k_ e_ => (A1.o.1 k_ e_))); replace A1 := Z.m (hp_); clear hg hw hp_))
     go_roundg k1
     case measure => have := Ab.o; omega
     case rel => exact ⟨(A5), (wrap64 (A3 + 1)), (wrap64 (A0 + 1)), (by first | rfl | (simp; done) | (simp [*]; done)), (by first | rfl | (simp; done) | (simp [*]; done)), H', ⟨by have := Ab.o; omega⟩, ⟨vR A1⟩, ⟨vT HK⟩, ⟨vB HB⟩⟩
    ·rw [if_neg c4] at H
     exact absurd H (by simp)
   ·rw [if_neg c3] at H
    have A9 := decide_eq_false c3
    clear c3
    simp only [Option.some.injEq, Prod.mk.injEq] at H
    obtain ⟨rfl, rfl⟩ := H
    obtain ⟨Ao, Ar, Am⟩ := Kd.R_slice A1.o
    subst Am
    go_wp2
    go_ret
    exact ⟨by first | rfl | (simp [eN, eS] <;> rfl) | (simp [*, eN, eS] <;> rfl), vR A1, vB HB, vT HK⟩

/-! ### laws_markIntSS: function 38 -/
def laws_markIntSS.l0 : Nat → List (List Int) → Int → Int → Option (Int × (List (List Int)))
 | 0, _, _, _ => none
 | k + 1, x0, x1, x5 => if x5 < (x0.length : Int) then (if 0 ≤ x5 then ((laws_markIntS.f k (x0.getD (x5 : Int).toNat ([] : List Int)) x1).bind fun bt371 => (laws_markIntSS.l0 k (x0.set (x5 : Int).toNat bt371.2) bt371.1 (wrap64 (x5 + 1)))) else (none)) else (some (x1, x0))
def laws_markIntSS.f (k : Nat) (l0 : List (List Int)) (a1 : Int) : Option (Int × (List (List Int))) := laws_markIntSS.l0 k l0 a1 0
set_option maxHeartbeats 8000000 in
set_option maxRecDepth 100000 in
theorem laws_markIntSS.calls (k : Nat) (P0_ : Nat → Prop) (u9000_ : Value) (l0 : List (List Int)) (a1 : Int) (r1 : Int) (r2 : List (List Int)) (w0 w : World) (hB : Below w0.heap.size w0 w) (ho0 : Kd.S (Kd.slice 3 (Kd.int .i64)) 43 w w0.heap.size P0_ u9000_ l0) (h : laws_markIntSS.f k l0 a1 = some (r1, r2)) :
 Calls Try.prog 38 #[u9000_, .int .i64 a1] w fun e w' => e = .returned (.int .i64 r1) ∧ Kd.S (Kd.slice 3 (Kd.int .i64)) 43 w' w0.heap.size (fun k_ => (P0_ k_ ∨ w.heap.size ≤ k_)) u9000_ r2 ∧ Below w0.heap.size w0 w' ∧ Kept w w' (fun k_ => P0_ k_) := by
 have Am := Z.m (show Kd.S (Kd.slice 3 (Kd.int .i64)) 43 w w0.heap.size (fun k_ => (P0_ k_ ∨ w.heap.size ≤ k_)) u9000_ l0 from Kd.S_mono ho0 (fun k_ hk => (.inl hk)))
 have HK := Z.m (Kept.refl w (fun k_ => P0_ k_))
 have HW0 := Z.m hB.size
 have HB := Z.m hB
 clear hB
 have H : (laws_markIntSS.l0 k l0 a1 0) = some (r1, r2) := h
 clear h
 have H' := Z.m H
 clear H
 go_enter Try.func38, Try.ntmps38
 go_wp2
 go_loopg [1, 5] k (fun kq v1 v5 w' => ∃ (A1 : List (List Int)) (A6 : Int) (A0 : Int), v1 = .int .i64 A6 ∧ v5 = .int .i64 A0 ∧ Z (laws_markIntSS.l0 kq A1 A6 A0 = some (r1, r2)) ∧ Z (kq ≤ k) ∧ Z (Kd.S (Kd.slice 3 (Kd.int .i64)) 43 w' w0.heap.size (fun k_ => (P0_ k_ ∨ w.heap.size ≤ k_)) u9000_ A1) ∧ Z (Kept w w' (fun k_ => P0_ k_)) ∧ Z (Below w0.heap.size w0 w'))
 case atStart => exact ⟨(l0), (a1), (0), (by first | rfl | (simp; done) | (simp [*]; done)), (by first | rfl | (simp; done) | (simp [*]; done)), H', ⟨Nat.le_refl _⟩, ⟨vS Am⟩, ⟨vT HK⟩, ⟨vB HB⟩⟩
 case round =>
  clear H'
  obtain ⟨A1, A6, A0, rfl, rfl, HA, Ag, A2, HK, HB⟩ := hrel
  cases gk with
  | zero => exact absurd HA.o (by simp [laws_markIntSS.l0])
  | succ k1 =>
   have H := HA.o
   clear HA
   simp only [laws_markIntSS.l0] at H
   by_cases c3 : A0 < (A1.length : Int)
   ·rw [if_pos c3] at H
    have Ac := decide_eq_true c3
    clear c3
    by_cases c4 : 0 ≤ A0
    ·rw [if_pos c4] at H
     have An := decide_eq_true c4
     clear c4
     obtain ⟨A8, A3⟩ : ∃ y_ : List Int, y_ = (A1.getD (A0 : Int).toNat ([] : List Int)) := ⟨_, rfl⟩
     rw [← A3] at H
     have A9 := Z.m A3
     clear A3
     replace H := Option.bind_eq_some_iff.mp H
     obtain ⟨⟨A7, A4⟩, Ae, H⟩ := H
     replace H : (laws_markIntSS.l0 k1 (A1.set (A0 : Int).toNat A4) A7 (wrap64 (A0 + 1))) = some (r1, r2) := H
     have A5 := Z.m Ae
     clear Ae
     have H' := Z.m H
     clear H
     obtain ⟨As, Ao, Ap⟩ := Kd.S_slice A2.o
     subst Ap
     have p5 : 0 ≤ (A0 : Int) := ofD
     have q5 : (A0 : Int) < ((A1.length : Int) : Int) := ofD
     obtain ⟨Ar, Ax, Ai, Aj, gl5, cl5, Af⟩ := Kd.S_form A2.o (by omega)
     (first | cases Ai | (injection Ai with ea_ en_ ec_; (first | subst ea_ | (injection ea_ with ea_; subst ea_)); subst ec_; clear en_))
     have Au := Z.m Aj
     have Av := Z.m Af
     clear Aj gl5 Af
     obtain ⟨oki5, Aw, Ad, Ak, Aa, hoki5, hH5⟩ := Kd.S_lend A2.o ([] : List Int) (A0 : Int) p5 q5
     rw [← A9.o] at Ak
     obtain ⟨ve5_0, rfl, hR5⟩ := Ak
     have Ab := Aa 0 _ rfl
     (try simp only [show ((Kd.slice 3 (Kd.int .i64))).sz = 1 from rfl, Nat.mul_one, Nat.add_zero] at Ab)
     obtain ⟨Ai5, ci5, ei5⟩ := Kd.R_slice hR5
     subst ei5
     have Ah := Z.m hR5
     have HH5 := Z.m (Kd.H_widen hH5)
     have HOK5 := Z.m hoki5
     clear Ad Aa hR5 hH5 hoki5
     replace p5 := eq_true p5
     replace q5 := eq_true q5
     go_wp2_with (first | ((with_reducible refine gc (f := 28) rfl ?_); refine gA (some 17) _ #[.slice Ai5 A8.length ci5, .int .i64 A6] ?_ Try.func28; (with_reducible refine (laws_markIntS.calls k1 oki5 (.slice Ai5 A8.length ci5) A8 A6 A7 A4 w0 _ ?side1 ?side2 A5.o).mono ?_); (case side1 => exact HB.o); (case side2 => exact Ah.o); rintro e w8 ⟨rfl, Al, hb, hkp⟩; refine ⟨_, rfl, ?_⟩; replace A2 := Z.m (show Kd.S (Kd.slice 3 (Kd.int .i64)) 43 w8 w0.heap.size (fun k_ => (P0_ k_ ∨ w.heap.size ≤ k_)) (.slice (some ⟨Ar, 0, none⟩) A1.length Ao) (A1.set (A0 : Int).toNat A4) from Kd.H_back (Kd.H_kept HH5.o hkp (fun k_ _ hn_ hs_ => hn_ (.inl hs_))) (x' := A4) ⟨_, rfl, Al⟩ (fun k_ hk_ => hk_.elim (fun h_ => .inl h_) (fun h_ => .inr ⟨.inr (Nat.le_trans HK.o.1 h_), h_⟩))); replace HB := Z.m (hb); replace HK := Z.m (Kept.then_ HK.o hkp (fun k_ hs_ => (HOK5.o k_ hs_).1)); clear Ah HH5 HOK5; clear hb hkp Al))
     go_roundg k1
     case measure => have := Ag.o; omega
     case rel => exact ⟨(A1.set (A0 : Int).toNat A4), (A7), (wrap64 (A0 + 1)), (by first | rfl | (simp; done) | (simp [*]; done)), (by first | rfl | (simp; done) | (simp [*]; done)), H', ⟨by have := Ag.o; omega⟩, ⟨vS A2⟩, ⟨vT HK⟩, ⟨vB HB⟩⟩
    ·rw [if_neg c4] at H
     exact absurd H (by simp)
   ·rw [if_neg c3] at H
    have Ac := decide_eq_false c3
    clear c3
    simp only [Option.some.injEq, Prod.mk.injEq] at H
    obtain ⟨rfl, rfl⟩ := H
    obtain ⟨At, Ay, Aq⟩ := Kd.S_slice A2.o
    subst Aq
    go_wp2
    go_ret
    exact ⟨by first | rfl | (simp [eN, eS] <;> rfl) | (simp [*, eN, eS] <;> rfl), vS A2, vB HB, vT HK⟩

/-! ### laws_heldIntS: function 29 -/
def laws_heldIntS.l0 : Nat → List Int → Int → Int → Option (Int)
 | 0, _, _, _ => none
 | k + 1, x0, x1, x5 => if x5 < (x0.length : Int) then (if 0 ≤ x5 then (if (rd x0 x5) = x1 then (laws_heldIntS.l0 k x0 (wrap64 (x1 + 1)) (wrap64 (x5 + 1))) else (some (-1))) else (none)) else (some x1)
def laws_heldIntS.f (k : Nat) (l0 : List Int) (a1 : Int) : Option (Int) := laws_heldIntS.l0 k l0 a1 0
set_option maxHeartbeats 8000000 in
set_option maxRecDepth 100000 in
theorem laws_heldIntS.calls (k : Nat) (A0 : Option Addr) (c0 : Nat) (l0 : List Int) (a1 : Int) (r : Int) (w : World) (hr0 : Kd.C (Kd.int .i64) w A0 l0.length l0) (hc0 : l0.length ≤ c0) (h : laws_heldIntS.f k l0 a1 = some r) :
 Calls Try.prog 29 #[.slice A0 l0.length c0, .int .i64 a1] w fun e w' => e = .returned (.int .i64 r) ∧ Drawn0 w w' := by
 have A9 := Z.m hr0
 have Ab := Z.m hc0
 clear hr0 hc0
 have H : (laws_heldIntS.l0 k l0 a1 0) = some r := h
 clear h
 have H' := Z.m H
 clear H
 go_enter Try.func29, Try.ntmps29
 go_wp2
 go_loopg [1, 5] k (fun kq v1 v5 w' => ∃ (A2 : Int) (A1 : Int), v1 = .int .i64 A2 ∧ v5 = .int .i64 A1 ∧ Z (laws_heldIntS.l0 kq l0 A2 A1 = some r) ∧ Z (kq ≤ k) ∧ Drawn0 w w')
 case atStart => exact ⟨(a1), (0), (by first | rfl | (simp; done) | (simp [*]; done)), (by first | rfl | (simp; done) | (simp [*]; done)), H', ⟨Nat.le_refl _⟩, by repeat (first | exact Drawn0.refl _ | apply Drawn0.step)⟩
 case round =>
  clear H'
  obtain ⟨A2, A1, rfl, rfl, HA, A8, ⟨m1, rfl⟩⟩ := hrel
  cases gk with
  | zero => exact absurd HA.o (by simp [laws_heldIntS.l0])
  | succ k1 =>
   have H := HA.o
   clear HA
   simp only [laws_heldIntS.l0] at H
   by_cases c3 : A1 < (l0.length : Int)
   ·rw [if_pos c3] at H
    have A5 := decide_eq_true c3
    clear c3
    by_cases c4 : 0 ≤ A1
    ·rw [if_pos c4] at H
     have Aa := decide_eq_true c4
     clear c4
     by_cases c5 : (rd l0 A1) = A2
     ·rw [if_pos c5] at H
      have A6 := beq_iff_eq.mpr c5
      have A7 := bne_eq_false_iff_eq.mpr c5
      clear c5
      have H' := Z.m H
      clear H
      have p374 : 0 ≤ (A1 : Int) := ofD
      have q374 : A1 < (l0.length : Int) := ofD
      obtain ⟨A4, e374, A3⟩ := Kd.at_int A9.o A1 p374 q374
      cases e374
      replace p374 := eq_true p374
      replace q374 := eq_true q374
      go_wp2
      go_roundg k1
      case measure => have := A8.o; omega
      case rel => exact ⟨(wrap64 (A2 + 1)), (wrap64 (A1 + 1)), (by first | rfl | (simp; done) | (simp [*]; done)), (by first | rfl | (simp; done) | (simp [*]; done)), H', ⟨by have := A8.o; omega⟩, by repeat (first | exact Drawn0.refl _ | apply Drawn0.step)⟩
     ·rw [if_neg c5] at H
      have A6 := beq_eq_false_iff_ne.mpr c5
      have A7 := bne_iff_ne.mpr c5
      obtain rfl := Option.some.inj H
      have p374 : 0 ≤ (A1 : Int) := ofD
      have q374 : A1 < (l0.length : Int) := ofD
      obtain ⟨A4, e374, A3⟩ := Kd.at_int A9.o A1 p374 q374
      cases e374
      replace p374 := eq_true p374
      replace q374 := eq_true q374
      go_wp2
      go_ret
      exact ⟨by first | rfl | (simp; done) | (simp [*]; done), by repeat (first | exact Drawn0.refl _ | apply Drawn0.step)⟩
    ·rw [if_neg c4] at H
     exact absurd H (by simp)
   ·rw [if_neg c3] at H
    have A5 := decide_eq_false c3
    clear c3
    obtain rfl := Option.some.inj H
    go_wp2
    go_ret
    exact ⟨by first | rfl | (simp; done) | (simp [*]; done), by repeat (first | exact Drawn0.refl _ | apply Drawn0.step)⟩

/-! ### laws_heldIntSS: function 39 -/
def laws_heldIntSS.l0 : Nat → List (List Int) → Int → Int → Option (Int)
 | 0, _, _, _ => none
 | k + 1, x0, x1, x5 => if x5 < (x0.length : Int) then (if 0 ≤ x5 then ((laws_heldIntS.f k (rd_L3 x0 x5) x1).bind fun t376 => (if t376 < 0 then (some (-1)) else (laws_heldIntSS.l0 k x0 t376 (wrap64 (x5 + 1))))) else (none)) else (some x1)
def laws_heldIntSS.f (k : Nat) (l0 : List (List Int)) (a1 : Int) : Option (Int) := laws_heldIntSS.l0 k l0 a1 0
set_option maxHeartbeats 8000000 in
set_option maxRecDepth 100000 in
theorem laws_heldIntSS.calls (k : Nat) (A0 : Option Addr) (c0 : Nat) (l0 : List (List Int)) (a1 : Int) (r : Int) (w : World) (hr0 : Kd.C (Kd.slice 3 (Kd.int .i64)) w A0 l0.length l0) (hc0 : l0.length ≤ c0) (h : laws_heldIntSS.f k l0 a1 = some r) :
 Calls Try.prog 39 #[.slice A0 l0.length c0, .int .i64 a1] w fun e w' => e = .returned (.int .i64 r) ∧ Drawn0 w w' := by
 have Af := Z.m hr0
 have Ah := Z.m hc0
 clear hr0 hc0
 have H : (laws_heldIntSS.l0 k l0 a1 0) = some r := h
 clear h
 have H' := Z.m H
 clear H
 go_enter Try.func39, Try.ntmps39
 go_wp2
 go_loopg [1, 5] k (fun kq v1 v5 w' => ∃ (A7 : Int) (A1 : Int), v1 = .int .i64 A7 ∧ v5 = .int .i64 A1 ∧ Z (laws_heldIntSS.l0 kq l0 A7 A1 = some r) ∧ Z (kq ≤ k) ∧ Drawn0 w w')
 case atStart => exact ⟨(a1), (0), (by first | rfl | (simp; done) | (simp [*]; done)), (by first | rfl | (simp; done) | (simp [*]; done)), H', ⟨Nat.le_refl _⟩, by repeat (first | exact Drawn0.refl _ | apply Drawn0.step)⟩
 case round =>
  clear H'
  obtain ⟨A7, A1, rfl, rfl, HA, Ae, ⟨m1, rfl⟩⟩ := hrel
  cases gk with
  | zero => exact absurd HA.o (by simp [laws_heldIntSS.l0])
  | succ k1 =>
   have H := HA.o
   clear HA
   simp only [laws_heldIntSS.l0] at H
   by_cases c3 : A1 < (l0.length : Int)
   ·rw [if_pos c3] at H
    have Ab := decide_eq_true c3
    clear c3
    by_cases c4 : 0 ≤ A1
    ·rw [if_pos c4] at H
     have Ag := decide_eq_true c4
     clear c4
     replace H := Option.bind_eq_some_iff.mp H
     obtain ⟨A8, Ad, H⟩ := H
     replace H : (if A8 < 0 then (some (-1)) else (laws_heldIntSS.l0 k1 l0 A8 (wrap64 (A1 + 1)))) = some r := H
     have A5 := Z.m Ad
     clear Ad
     by_cases c6 : A8 < 0
     ·rw [if_pos c6] at H
      have Ac := decide_eq_true c6
      clear c6
      obtain rfl := Option.some.inj H
      have p375 : 0 ≤ (A1 : Int) := ofD
      have q375 : A1 < (l0.length : Int) := ofD
      obtain ⟨Aa, A6, c375_0, e375, A9, A2, hi375_0⟩ := at_L3 Af.o A1 p375 q375
      cases e375
      have A4 := Z.m hi375_0
      have A3 := Z.m A2
      clear hi375_0 A2
      replace p375 := eq_true p375
      replace q375 := eq_true q375
      go_wp2_with (first | ((with_reducible refine gc (f := 29) rfl ?_); refine gA (some 17) _ #[.slice A6 (rd_L3 l0 A1).length c375_0, .int .i64 A7] ?_ Try.func29; (with_reducible refine (laws_heldIntS.calls k1 _ _ (rd_L3 l0 A1) A7 A8 _ ?side1 ?side2 A5.o).mono ?_); (case side1 => repeat (first | exact A4.o | (with_reducible refine Kd.C_alloc ?_ _) | (with_reducible refine Kd.C_drewN ?_ _) | (with_reducible refine Kd.C_drew ?_))); (case side2 => exact A3.o); rintro e w' ⟨rfl, ⟨nd, rfl⟩⟩; refine ⟨_, rfl, ?_⟩))
      go_ret
      exact ⟨by first | rfl | (simp; done) | (simp [*]; done), by repeat (first | exact Drawn0.refl _ | apply Drawn0.step)⟩
     ·rw [if_neg c6] at H
      have Ac := decide_eq_false c6
      clear c6
      have H' := Z.m H
      clear H
      have p375 : 0 ≤ (A1 : Int) := ofD
      have q375 : A1 < (l0.length : Int) := ofD
      obtain ⟨Aa, A6, c375_0, e375, A9, A2, hi375_0⟩ := at_L3 Af.o A1 p375 q375
      cases e375
      have A4 := Z.m hi375_0
      have A3 := Z.m A2
      clear hi375_0 A2
      replace p375 := eq_true p375
      replace q375 := eq_true q375
      go_wp2_with (first | ((with_reducible refine gc (f := 29) rfl ?_); refine gA (some 17) _ #[.slice A6 (rd_L3 l0 A1).length c375_0, .int .i64 A7] ?_ Try.func29; (with_reducible refine (laws_heldIntS.calls k1 _ _ (rd_L3 l0 A1) A7 A8 _ ?side1 ?side2 A5.o).mono ?_); (case side1 => repeat (first | exact A4.o | (with_reducible refine Kd.C_alloc ?_ _) | (with_reducible refine Kd.C_drewN ?_ _) | (with_reducible refine Kd.C_drew ?_))); (case side2 => exact A3.o); rintro e w' ⟨rfl, ⟨nd, rfl⟩⟩; refine ⟨_, rfl, ?_⟩))
      go_roundg k1
      case measure => have := Ae.o; omega
      case rel => exact ⟨(A8), (wrap64 (A1 + 1)), (by first | rfl | (simp; done) | (simp [*]; done)), (by first | rfl | (simp; done) | (simp [*]; done)), H', ⟨by have := Ae.o; omega⟩, by repeat (first | exact Drawn0.refl _ | apply Drawn0.step)⟩
    ·rw [if_neg c4] at H
     exact absurd H (by simp)
   ·rw [if_neg c3] at H
    have Ab := decide_eq_false c3
    clear c3
    obtain rfl := Option.some.inj H
    go_wp2
    go_ret
    exact ⟨by first | rfl | (simp; done) | (simp [*]; done), by repeat (first | exact Drawn0.refl _ | apply Drawn0.step)⟩

end Go.Proofs.Ytoklfgjemfojgaa.PAll
