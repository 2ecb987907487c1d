/- Began as a text that print.sh wrote (of the functions named below); turned and shortened by this session. -/
import Derived.Test.YtklmdnlambinaaaG0
namespace Go.Proofs.Ytklmdnlambinaaa.PAll
open Go.RowKit Go.Proofs.YtklmdnlambinaaaW.PrintWords Go.Proofs.YtklmdnlambinaaaW.PrintLast Go.Proofs.YtklmdnlambinaaaW.PrintMore
attribute [local go_sem] max2_int min2_int max_two min_two max_three min_three max_four min_four   -- for this text's walks alone
set_option linter.unusedVariables false
set_option linter.unusedSimpArgs false

/-! ### laws_pSum: function 32 -/
def laws_pSum.l0 : Nat → Int → List Int → Int → Int → Option (Int)
 | 0, _, _, _, _ => none
 | k + 1, x3, x6, x7, x8 => if x8 < x7 then (if 0 ≤ x8 then (if x8 < (x6.length : Int) then (laws_pSum.l0 k (wrap64 (x3 + (rd x6 x8))) x6 x7 (wrap64 (x8 + 1))) else (none)) else (none)) else (some x3)
def laws_pSum.f (k : Nat) (l0 : List Int) : Option (Int) := laws_pSum.l0 k 0 l0 (l0.length : Int) 0
set_option maxHeartbeats 8000000 in
set_option maxRecDepth 100000 in
theorem laws_pSum.calls (k : Nat) (A0 : Option Addr) (c0 : Nat) (l0 : List Int) (r : Int) (w : World) (hr0 : Kd.C (Kd.int .i64) w A0 l0.length l0) (hc0 : l0.length ≤ c0) (h : laws_pSum.f k l0 = some r) :
 Calls Try.prog 32 #[.slice A0 l0.length c0] w fun e w' => e = .returned (.int .i64 r) ∧ Drawn0 w w' := by
 have A7 := Z.m hr0
 have Aa := Z.m hc0
 clear hr0 hc0
 have H : (laws_pSum.l0 k 0 l0 (l0.length : Int) 0) = some r := h
 clear h
 have H' := Z.m H
 clear H
 go_enter Try.func32, Try.ntmps32
 go_wp2
 go_loopg [3, 8] k (fun kq v3 v8 w' => ∃ (A2 : Int) (A1 : Int), v3 = .int .i64 A2 ∧ v8 = .int .i64 A1 ∧ Z (laws_pSum.l0 kq A2 l0 (l0.length : Int) A1 = some r) ∧ Z (kq ≤ k) ∧ Drawn0 w w')
 case atStart => exact ⟨(0), (0), (by first | rfl | (simp; done) | (simp [*]; done)), (by first | rfl | (simp; done) | (simp [*]; done)), H', ⟨Nat.le_refl _⟩, by repeat (first | exact Drawn0.refl _ | apply Drawn0.step)⟩
 case round =>
  clear H'
  obtain ⟨A2, A1, rfl, rfl, HA, A5, ⟨m1, rfl⟩⟩ := hrel
  cases gk with
  | zero => exact absurd HA.o (by simp [laws_pSum.l0])
  | succ k1 =>
   have H := HA.o
   clear HA
   simp only [laws_pSum.l0] at H
   by_cases c2 : A1 < (l0.length : Int)
   ·rw [if_pos c2] at H
    have A4 := decide_eq_true c2
    clear c2
    by_cases c3 : 0 ≤ A1
    ·rw [if_pos c3] at H
     have A8 := decide_eq_true c3
     clear c3
     by_cases c4 : A1 < (l0.length : Int)
     ·rw [if_pos c4] at H
      have A9 := decide_eq_true c4
      clear c4
      have H' := Z.m H
      clear H
      have p437 : 0 ≤ (A1 : Int) := ofD
      have q437 : A1 < (l0.length : Int) := ofD
      obtain ⟨A6, e437, A3⟩ := Kd.at_int A7.o A1 p437 q437
      cases e437
      replace p437 := eq_true p437
      replace q437 := eq_true q437
      go_wp2
      go_roundg k1
      case measure => have := A5.o; omega
      case rel => exact ⟨(wrap64 (A2 + (rd l0 A1))), (wrap64 (A1 + 1)), (by first | rfl | (simp; done) | (simp [*]; done)), (by first | rfl | (simp; done) | (simp [*]; done)), H', ⟨by have := A5.o; omega⟩, by repeat (first | exact Drawn0.refl _ | apply Drawn0.step)⟩
     ·rw [if_neg c4] at H
      exact absurd H (by simp)
    ·rw [if_neg c3] at H
     exact absurd H (by simp)
   ·rw [if_neg c2] at H
    have A4 := decide_eq_false c2
    clear c2
    obtain rfl := Option.some.inj H
    go_wp2
    go_ret
    exact ⟨by first | rfl | (simp; done) | (simp [*]; done), by repeat (first | exact Drawn0.refl _ | apply Drawn0.step)⟩

end Go.Proofs.Ytklmdnlambinaaa.PAll
