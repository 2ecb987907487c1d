/- For all arguments the program's MirrorCell answers as the reference's does (the plain law, over the printed functions). Conditions: none. -/
import Derived.Test.YthgnjnofdpfccaaPFnExactMirrorCellx1
set_option linter.unusedVariables false
set_option linter.unusedSimpArgs false
namespace Go.Proofs.Ythgnjnofdpfccaa.Pure
open Go.RowKit Go.Proofs.Ythgnjnofdpfccaa.PFnExactMirrorCell Go.Proofs.YthgnjnofdpfccaaW.PrintWords Go.Proofs.YthgnjnofdpfccaaW.PrintLast Go.Proofs.YthgnjnofdpfccaaW.PrintMore

theorem wrap_id {x : Int} (h0 : -9223372036854775808 ≤ x) (h1 : x < 9223372036854775808) : wrap64 x = x := by unfold wrap64; omega
theorem wrap_succ {i n : Nat} (h : i < n) (hn : n ≤ 4611686018427387904) : wrap64 ((i : Int) + 1) = ((i + 1 : Nat) : Int) := by unfold wrap64; omega
theorem wrap_m1 : wrap64 (-1) = -1 := by decide +kernel
theorem wrap_0 : wrap64 0 = 0 := by decide +kernel
theorem wrap_1 : wrap64 1 = 1 := by decide +kernel
theorem wrap_2 : wrap64 2 = 2 := by decide +kernel
/-- The answer comes in this round. -/
theorem ev_done {α : Type} {g : Nat → Option α} {r : α} (K : Nat) (h : ∀ k, K ≤ k → g (k + 1) = some r) : Ev g r := by
  refine ⟨K + 1, fun k hk => ?_⟩
  obtain ⟨m, rfl⟩ : ∃ m, k = m + 1 := ⟨k - 1, by omega⟩
  exact h m (by omega)
/-- The answer comes in a later round. -/
theorem ev_next {α : Type} {g f : Nat → Option α} {r : α} (K : Nat) (hf : Ev f r) (h : ∀ k, K ≤ k → g (k + 1) = f k) : Ev g r := by
  obtain ⟨K', hf⟩ := hf
  refine ⟨K + K' + 1, fun k hk => ?_⟩
  obtain ⟨m, rfl⟩ : ∃ m, k = m + 1 := ⟨k - 1, by omega⟩
  rw [h m (by omega)]
  exact hf m (by omega)
theorem ev_get {α : Type} {g : Nat → Option α} {r : α} (h : Ev g r) : ∃ K, ∀ k, K ≤ k → g k = some r := h
theorem ev_now {α : Type} {g : Nat → Option α} {r : α} (h : ∀ k, g k = some r) : Ev g r := ⟨0, fun k _ => h k⟩
theorem ev_same {α : Type} {g f : Nat → Option α} {r : α} (K : Nat) (hf : Ev f r) (h : ∀ k, K ≤ k → g k = f k) : Ev g r := by
  obtain ⟨K', hf⟩ := hf
  exact ⟨K + K', fun k hk => (h k (by omega)).trans (hf k (by omega))⟩
theorem bindE {α β : Type} {o : Option α} {v : α} {f : α → Option β} (h : o = some v) : o.bind f = f v := by rw [h]; rfl
theorem ite_bneB {β : Type} (x : Bool) (a b : β) : (if (x != x) = true then a else b) = b := by simp
theorem ite_bneI {β : Type} (x : Int) (a b : β) : (if (x != x) = true then a else b) = b := by simp
theorem ite_true' {β : Type} (a b : β) : (if true = true then a else b) = a := rfl
theorem drop_cons {α : Type} (l : List α) (z : α) {i : Nat} (h : i < l.length) : l.drop i = l.getD i z :: l.drop (i + 1) := by
  rw [List.drop_eq_getElem_cons h, List.getD_eq_getElem?_getD, List.getElem?_eq_getElem h]; rfl
theorem take_set {α : Type} (l : List α) (v : α) {i : Nat} (h : i < l.length) : (l.set i v).take (i + 1) = l.take i ++ [v] := by
  rw [List.take_succ_eq_append_getElem (by simpa using h)]
  simp [List.take_set_of_le]
theorem rdT_nat {α : Type} (l : List α) (i : Nat) (z : α) : l.getD ((i : Int).toNat) z = l.getD i z := by rw [Int.toNat_natCast]

def goodB (a b : Int) : Bool := decide ((0 ≤ a ∧ a ≤ 7) ∧ (b = 0 ∨ b = 1 ∧ (a = 3 ∨ a = 6)))
theorem good_cases {a b : Int} (h : goodB a b = true) : (a = 0 ∧ b = 0) ∨ (a = 1 ∧ b = 0) ∨ (a = 2 ∧ b = 0) ∨ (a = 3 ∧ b = 0) ∨ (a = 3 ∧ b = 1) ∨ (a = 4 ∧ b = 0) ∨ (a = 5 ∧ b = 0) ∨ (a = 6 ∧ b = 0) ∨ (a = 6 ∧ b = 1) ∨ (a = 7 ∧ b = 0) := by
  simp only [goodB, decide_eq_true_eq] at h
  obtain ⟨⟨h0, h7⟩, hb⟩ := h
  have ha : a = 0 ∨ a = 1 ∨ a = 2 ∨ a = 3 ∨ a = 4 ∨ a = 5 ∨ a = 6 ∨ a = 7 := by
    clear hb
    omega
  rcases ha with rfl | rfl | rfl | rfl | rfl | rfl | rfl | rfl <;> simp_all

theorem IsCell_eq (a b : Int) : impl_IsCell.f a b = some (goodB a b) := by
  unfold impl_IsCell.f goodB
  by_cases h0 : a < 0
  · rw [if_pos h0]; simp; omega
  rw [if_neg h0]
  by_cases h1 : a > 7
  · rw [if_pos h1]; simp; omega
  rw [if_neg h1]
  by_cases h2 : b < 0
  · rw [if_pos h2]; simp; omega
  rw [if_neg h2]
  by_cases h3 : b > 1
  · rw [if_pos h3]; simp; omega
  rw [if_neg h3]
  by_cases h4 : b = 0
  · rw [if_pos h4]; simp; omega
  rw [if_neg h4]
  by_cases h5 : a = 3
  · rw [if_pos h5]; simp; omega
  rw [if_neg h5]
  by_cases h6 : a = 6
  · simp [h6]; omega
  · simp [h5, h6, h4]

def turnB (a : Int) : Bool := decide (a = 3 ∨ a = 6)
theorem paTurning_eq (a b : Int) : spec_paTurning.f a b = some (turnB a) := by
  unfold spec_paTurning.f turnB
  by_cases h : a = 3
  · simp [h]
  · rw [if_neg h]
    by_cases h6 : a = 6 <;> simp [h, h6]

def mirOf (a b : Int) : Int × Int := if a = 1 then (2, 0) else if a = 2 then (1, 0) else if a = 3 ∨ a = 6 then (a, 1 - b) else (a, b)
theorem MirrorCell_eq (a b : Int) : impl_MirrorCell.f a b = some (if goodB a b = true then ((mirOf a b).1, (mirOf a b).2, true) else (0, 0, false)) := by
  unfold impl_MirrorCell.f
  rw [IsCell_eq, Option.bind_some]
  by_cases h : goodB a b = true
  · rw [if_pos h, if_pos h]
    rcases good_cases h with ⟨rfl, rfl⟩ | ⟨rfl, rfl⟩ | ⟨rfl, rfl⟩ | ⟨rfl, rfl⟩ | ⟨rfl, rfl⟩ | ⟨rfl, rfl⟩ | ⟨rfl, rfl⟩ | ⟨rfl, rfl⟩ | ⟨rfl, rfl⟩ | ⟨rfl, rfl⟩ <;> decide +kernel
  · rw [if_neg h, if_neg h]

theorem paMirror_eq (a b : Int) (h : goodB a b = true) : spec_paMirror.f a b = some (mirOf a b) := by
  rcases good_cases h with ⟨rfl, rfl⟩ | ⟨rfl, rfl⟩ | ⟨rfl, rfl⟩ | ⟨rfl, rfl⟩ | ⟨rfl, rfl⟩ | ⟨rfl, rfl⟩ | ⟨rfl, rfl⟩ | ⟨rfl, rfl⟩ | ⟨rfl, rfl⟩ | ⟨rfl, rfl⟩ <;> decide +kernel

theorem l1In_eq (a lo hi : Int) : spec_l1In.f a lo hi = some (decide (lo ≤ a ∧ a ≤ hi)) := by
  unfold spec_l1In.f
  by_cases h : a ≥ lo
  · rw [if_pos h]
    simp [show lo ≤ a from h]
  · rw [if_neg h]
    simp [show ¬ lo ≤ a from h]

theorem paGood_eq (a b : Int) : spec_paGood.f a b = some (goodB a b) := by
  unfold spec_paGood.f
  rw [l1In_eq, Option.bind_some]
  by_cases h : 0 ≤ a ∧ a ≤ 7
  · rw [decide_eq_true h, if_pos rfl]
    by_cases h0 : b = 0
    · rw [if_pos h0]
      simp [goodB, h, h0]
    · rw [if_neg h0]
      by_cases h1 : b = 1
      · rw [if_pos h1, paTurning_eq, Option.bind_some]
        simp [goodB, turnB, h, h1]
      · rw [if_neg h1]
        simp [goodB, h0, h1]
  · rw [decide_eq_false h, if_neg (by simp)]
    simp [goodB, h]

theorem FnExactMirrorCell (a b : Int) : laws_FnExactMirrorCell.f a b = some true := by
  unfold laws_FnExactMirrorCell.f spec_MirrorCell.f
  simp only [laws_toCell.f, Option.bind_some, paGood_eq, MirrorCell_eq]
  by_cases h : goodB a b = true
  · simp [h, paMirror_eq a b h, laws_eqCell.f]
  · simp [h, laws_eqCell.f]

end Go.Proofs.Ythgnjnofdpfccaa.Pure
