/- For all arguments the program's CellsText answers as the reference's does (the plain law, over the printed functions). Conditions: none. -/
import Derived.Test.YthgnjnofdpfccaaPFnExactCellsTextx3
set_option linter.unusedVariables false
set_option linter.unusedSimpArgs false
namespace Go.Proofs.Ythgnjnofdpfccaa.Pure
open Go.RowKit Go.Proofs.Ythgnjnofdpfccaa.PFnExactCellsText Go.Proofs.YthgnjnofdpfccaaW.PrintWords Go.Proofs.YthgnjnofdpfccaaW.PrintLast Go.Proofs.YthgnjnofdpfccaaW.PrintMore

theorem wrap_id {x : Int} (h0 : -9223372036854775808 ≤ x) (h1 : x < 9223372036854775808) : wrap64 x = x := by unfold wrap64; omega
theorem wrap_succ {i n : Nat} (h : i < n) (hn : n ≤ 4611686018427387904) : wrap64 ((i : Int) + 1) = ((i + 1 : Nat) : Int) := by unfold wrap64; omega
theorem wrap_m1 : wrap64 (-1) = -1 := by decide +kernel
theorem wrap_0 : wrap64 0 = 0 := by decide +kernel
theorem wrap_1 : wrap64 1 = 1 := by decide +kernel
theorem wrap_2 : wrap64 2 = 2 := by decide +kernel
/-- The answer comes in this round. -/
theorem ev_done {α : Type} {g : Nat → Option α} {r : α} (K : Nat) (h : ∀ k, K ≤ k → g (k + 1) = some r) : Ev g r := by
  refine ⟨K + 1, fun k hk => ?_⟩
  obtain ⟨m, rfl⟩ : ∃ m, k = m + 1 := ⟨k - 1, by omega⟩
  exact h m (by omega)
/-- The answer comes in a later round. -/
theorem ev_next {α : Type} {g f : Nat → Option α} {r : α} (K : Nat) (hf : Ev f r) (h : ∀ k, K ≤ k → g (k + 1) = f k) : Ev g r := by
  obtain ⟨K', hf⟩ := hf
  refine ⟨K + K' + 1, fun k hk => ?_⟩
  obtain ⟨m, rfl⟩ : ∃ m, k = m + 1 := ⟨k - 1, by omega⟩
  rw [h m (by omega)]
  exact hf m (by omega)
theorem ev_get {α : Type} {g : Nat → Option α} {r : α} (h : Ev g r) : ∃ K, ∀ k, K ≤ k → g k = some r := h
theorem ev_now {α : Type} {g : Nat → Option α} {r : α} (h : ∀ k, g k = some r) : Ev g r := ⟨0, fun k _ => h k⟩
theorem ev_same {α : Type} {g f : Nat → Option α} {r : α} (K : Nat) (hf : Ev f r) (h : ∀ k, K ≤ k → g k = f k) : Ev g r := by
  obtain ⟨K', hf⟩ := hf
  exact ⟨K + K', fun k hk => (h k (by omega)).trans (hf k (by omega))⟩
theorem bindE {α β : Type} {o : Option α} {v : α} {f : α → Option β} (h : o = some v) : o.bind f = f v := by rw [h]; rfl
theorem ite_bneB {β : Type} (x : Bool) (a b : β) : (if (x != x) = true then a else b) = b := by simp
theorem ite_bneI {β : Type} (x : Int) (a b : β) : (if (x != x) = true then a else b) = b := by simp
theorem ite_true' {β : Type} (a b : β) : (if true = true then a else b) = a := rfl
theorem drop_cons {α : Type} (l : List α) (z : α) {i : Nat} (h : i < l.length) : l.drop i = l.getD i z :: l.drop (i + 1) := by
  rw [List.drop_eq_getElem_cons h, List.getD_eq_getElem?_getD, List.getElem?_eq_getElem h]; rfl
theorem take_set {α : Type} (l : List α) (v : α) {i : Nat} (h : i < l.length) : (l.set i v).take (i + 1) = l.take i ++ [v] := by
  rw [List.take_succ_eq_append_getElem (by simpa using h)]
  simp [List.take_set_of_le]
theorem rdT_nat {α : Type} (l : List α) (i : Nat) (z : α) : l.getD ((i : Int).toNat) z = l.getD i z := by rw [Int.toNat_natCast]

def conv (x : S27) : S29 := ⟨x.f0, x.f1⟩
theorem toCellS_l0 (a : List S27) (hn : a.length ≤ 1048576) : ∀ (d i : Nat) (x : List S29), a.length - i = d → i ≤ a.length → x.length = a.length →
    Ev (fun k => laws_toCellS.l0 k a x (i : Int)) (x.take i ++ (a.drop i).map conv) := by
  intro d
  induction d with
  | zero =>
    intro i x hd hi hx
    obtain rfl : i = a.length := by omega
    refine ev_done 0 fun k _ => ?_
    simp only [laws_toCellS.l0]
    rw [if_neg (by omega)]
    simp [← hx]
  | succ d ih =>
    intro i x hd hi hx
    have hlt : i < a.length := by omega
    refine ev_next 0 (f := fun k => laws_toCellS.l0 k a (x.set i (conv (a.getD i z27))) ((i + 1 : Nat) : Int)) ?_ fun k _ => ?_
    · have h := ih (i + 1) (x.set i (conv (a.getD i z27))) (by omega) (by omega) (by simpa using hx)
      rwa [take_set x _ (by omega), List.append_assoc, List.singleton_append, ← List.map_cons, ← drop_cons a z27 hlt] at h
    · simp only [laws_toCellS.l0]
      rw [if_pos (by omega), if_pos (by omega)]
      simp only [laws_toCell.f, Option.bind_some]
      rw [if_pos (by omega), wrap_succ hlt (by omega), Int.toNat_natCast]
      simp only [rd_T27, Int.toNat_natCast]
      rfl
theorem toCellS_ev (a : List S27) (hn : a.length ≤ 1048576) : Ev (fun k => laws_toCellS.f k a) (a.map conv) := by
  refine ev_same 0 (f := fun k => laws_toCellS.l0 k a (List.replicate a.length z29) ((0 : Nat) : Int)) ?_ fun k _ => ?_
  · have h := toCellS_l0 a hn a.length 0 (List.replicate a.length z29) (by omega) (by omega) (by simp)
    simpa using h
  · simp only [laws_toCellS.f]
    rw [if_pos (by omega), if_pos (by omega)]
    simp

theorem szCellS_eq (a : List S27) (left : Int) (h0 : 0 ≤ left) (h1 : left ≤ 1048576) (hn : a.length ≤ 9223372036854775807) :
    laws_szCellS.f a left = some (if (a.length : Int) ≤ left then left - a.length else -1) := by
  unfold laws_szCellS.f
  rw [wrap_id (by omega) (by omega)]
  by_cases h : (a.length : Int) ≤ left
  · rw [if_neg (by omega), if_pos h]
  · rw [if_pos (by omega), if_neg h]

theorem eqCellS_l0 (a : List S29) (hn : a.length ≤ 1048576) : ∀ (d i : Nat), a.length - i = d → i ≤ a.length → Ev (fun k => laws_eqCellS.l0 k a a (i : Int)) true := by
  intro d
  induction d with
  | zero =>
    intro i hd hi
    refine ev_done 0 fun k _ => ?_
    simp only [laws_eqCellS.l0]
    rw [if_neg (by omega)]
  | succ d ih =>
    intro i hd hi
    have hlt : i < a.length := by omega
    refine ev_next 0 (ih (i + 1) (by omega) (by omega)) fun k _ => ?_
    simp only [laws_eqCellS.l0]
    rw [if_pos (by omega), if_pos (by omega), if_pos (by omega), wrap_succ hlt (by omega)]
    simp [laws_eqCell.f]
theorem eqCellS_ev (a : List S29) (hn : a.length ≤ 1048576) : Ev (fun k => laws_eqCellS.f k a a) true := by
  refine ev_same 0 (eqCellS_l0 a hn a.length 0 (by omega) (by omega)) fun k _ => ?_
  simp only [laws_eqCellS.f, if_true]
  rfl

def goodB (a b : Int) : Bool := decide ((0 ≤ a ∧ a ≤ 7) ∧ (b = 0 ∨ b = 1 ∧ (a = 3 ∨ a = 6)))
theorem good_cases {a b : Int} (h : goodB a b = true) : (a = 0 ∧ b = 0) ∨ (a = 1 ∧ b = 0) ∨ (a = 2 ∧ b = 0) ∨ (a = 3 ∧ b = 0) ∨ (a = 3 ∧ b = 1) ∨ (a = 4 ∧ b = 0) ∨ (a = 5 ∧ b = 0) ∨ (a = 6 ∧ b = 0) ∨ (a = 6 ∧ b = 1) ∨ (a = 7 ∧ b = 0) := by
  simp only [goodB, decide_eq_true_eq] at h
  obtain ⟨⟨h0, h7⟩, hb⟩ := h
  have ha : a = 0 ∨ a = 1 ∨ a = 2 ∨ a = 3 ∨ a = 4 ∨ a = 5 ∨ a = 6 ∨ a = 7 := by
    clear hb
    omega
  rcases ha with rfl | rfl | rfl | rfl | rfl | rfl | rfl | rfl <;> simp_all

theorem rdD_nat (l : List S29) (i : Nat) : rd_T29 l (i : Int) = l.getD i z29 := by rw [rd_T29, Int.toNat_natCast]
def goodC (x : S29) : Bool := goodB x.f0 x.f1

theorem l1In_eq (a lo hi : Int) : spec_l1In.f a lo hi = some (decide (lo ≤ a ∧ a ≤ hi)) := by
  unfold spec_l1In.f
  by_cases h : a ≥ lo
  · rw [if_pos h]
    simp [show lo ≤ a from h]
  · rw [if_neg h]
    simp [show ¬ lo ≤ a from h]

def turnB (a : Int) : Bool := decide (a = 3 ∨ a = 6)
theorem paTurning_eq (a b : Int) : spec_paTurning.f a b = some (turnB a) := by
  unfold spec_paTurning.f turnB
  by_cases h : a = 3
  · simp [h]
  · rw [if_neg h]
    by_cases h6 : a = 6 <;> simp [h, h6]

theorem paGood_eq (a b : Int) : spec_paGood.f a b = some (goodB a b) := by
  unfold spec_paGood.f
  rw [l1In_eq, Option.bind_some]
  by_cases h : 0 ≤ a ∧ a ≤ 7
  · rw [decide_eq_true h, if_pos rfl]
    by_cases h0 : b = 0
    · rw [if_pos h0]
      simp [goodB, h, h0]
    · rw [if_neg h0]
      by_cases h1 : b = 1
      · rw [if_pos h1, paTurning_eq, Option.bind_some]
        simp [goodB, turnB, h, h1]
      · rw [if_neg h1]
        simp [goodB, h0, h1]
  · rw [decide_eq_false h, if_neg (by simp)]
    simp [goodB, h]

theorem paGoodC_eq (x : S29) : spec_paGood.f x.f0 x.f1 = some (goodC x) := paGood_eq _ _
theorem paList_l0 (a : List S29) (hn : a.length ≤ 1048576) : ∀ (d i : Nat), a.length - i = d → i ≤ a.length →
    Ev (fun k => spec_paList.l0 k a a (a.length : Int) (i : Int)) ((a.drop i).all goodC && decide (a.length ≤ 90)) := by
  intro d
  induction d with
  | zero =>
    intro i hd hi
    refine ev_done 0 fun k _ => ?_
    simp only [spec_paList.l0]
    rw [if_neg (by omega), List.drop_of_length_le (by omega)]
    simp
    omega
  | succ d ih =>
    intro i hd hi
    have hlt : i < a.length := by omega
    have h := ih (i + 1) (by omega) (by omega)
    rw [drop_cons a z29 hlt, List.all_cons]
    by_cases hg : goodC (a.getD i z29) = true
    · rw [hg, Bool.true_and]
      refine ev_next 0 h fun k _ => ?_
      simp only [spec_paList.l0, rd_T29, Int.toNat_natCast, paGoodC_eq, Option.bind_some]
      rw [if_pos (by omega), if_pos (by omega), if_pos (by omega), if_pos hg, wrap_succ hlt (by omega)]
    · rw [Bool.eq_false_iff.2 hg, Bool.false_and, Bool.false_and]
      refine ev_done 0 fun k _ => ?_
      simp only [spec_paList.l0, rd_T29, Int.toNat_natCast, paGoodC_eq, Option.bind_some]
      rw [if_pos (by omega), if_pos (by omega), if_pos (by omega), if_neg hg]
theorem paList_ev (a : List S29) (hn : a.length ≤ 1048576) : Ev (fun k => spec_paList.f k a) (a.all goodC && decide (a.length ≤ 90)) :=
  paList_l0 a hn a.length 0 (by omega) (by omega)

def letterOf (a b : Int) : ByteArray := if b = 1 then (if a = 3 then ⟨#[70]⟩ else ⟨#[71]⟩) else ⟨#[[46, 108, 114, 102, 120, 111, 103, 99].getD a.toNat 46]⟩
theorem letterOf_size (a b : Int) : (letterOf a b).size = 1 := by
  unfold letterOf
  split
  · split <;> rfl
  · rfl

def textOf (l : List S29) : List UInt8 := l.flatMap fun x => (letterOf x.f0 x.f1).data.toList
theorem textOf_length : ∀ l : List S29, (textOf l).length = l.length
  | [] => rfl
  | x :: l => by
    have h := textOf_length l
    have h1 : (letterOf x.f0 x.f1).data.toList.length = 1 := letterOf_size x.f0 x.f1
    simp only [textOf, List.flatMap_cons, List.length_append, List.length_cons] at h ⊢
    omega
theorem getD_good {l : List S29} (hl : l.all goodC = true) {i : Nat} (h : i < l.length) : goodC (l.getD i z29) = true := by
  rw [List.getD_eq_getElem?_getD, List.getElem?_eq_getElem h]
  exact List.all_eq_true.1 hl _ (List.getElem_mem h)
theorem bytes_append (a b : List UInt8) : (⟨a.toArray⟩ : ByteArray) ++ (⟨b.toArray⟩ : ByteArray) = ⟨(a ++ b).toArray⟩ := by
  apply ByteArray.ext
  simp
theorem strOf_bytes (b : List UInt8) : strOfNums (b.map fun x => (x.toNat : Int)) = ⟨b.toArray⟩ := by
  unfold strOfNums
  rw [List.map_map]
  congr 2
  induction b with
  | nil => rfl
  | cons x l ih => simp [ih]

theorem paLetter_eq (a b : Int) (h : goodB a b = true) : spec_paLetter.f a b = some (letterOf a b) := by
  rcases good_cases h with ⟨rfl, rfl⟩ | ⟨rfl, rfl⟩ | ⟨rfl, rfl⟩ | ⟨rfl, rfl⟩ | ⟨rfl, rfl⟩ | ⟨rfl, rfl⟩ | ⟨rfl, rfl⟩ | ⟨rfl, rfl⟩ | ⟨rfl, rfl⟩ | ⟨rfl, rfl⟩ <;> decide +kernel

theorem paText_l0 (l : List S29) (hl : l.all goodC = true) (hn : l.length ≤ 1048576) : ∀ (d i : Nat) (b : List UInt8), l.length - i = d → i ≤ l.length → b.length ≤ 1048576 + i →
    Ev (fun k => spec_paText.l0 k ⟨b.toArray⟩ l (l.length : Int) (i : Int)) ⟨(b ++ textOf (l.drop i)).toArray⟩ := by
  intro d
  induction d with
  | zero =>
    intro i b hd hi hb
    refine ev_done 0 fun k _ => ?_
    simp only [spec_paText.l0]
    rw [if_neg (by omega), List.drop_of_length_le (by omega)]
    simp [textOf]
  | succ d ih =>
    intro i b hd hi hb
    have hlt : i < l.length := by omega
    have hp := paLetter_eq _ _ (getD_good hl hlt)
    have hs := letterOf_size (l.getD i z29).f0 (l.getD i z29).f1
    rw [drop_cons l z29 hlt, textOf, List.flatMap_cons, ← List.append_assoc]
    generalize hq : letterOf (l.getD i z29).f0 (l.getD i z29).f1 = q at hp hs ⊢
    have hq2 : q = ⟨q.data.toList.toArray⟩ := by simp
    refine ev_next 0 (ih (i + 1) (b ++ q.data.toList) (by omega) (by omega) ?_) fun k _ => ?_
    · have : q.data.toList.length = 1 := hs
      rw [List.length_append]
      omega
    · simp only [spec_paText.l0, rd_T29, Int.toNat_natCast, hp, Option.bind_some]
      rw [if_pos (by omega), if_pos (by omega), if_pos (by omega), if_pos (by rw [hs]; show b.length + 1 ≤ _; omega), wrap_succ hlt (by omega), ← bytes_append]
theorem paText_ev (l : List S29) (hl : l.all goodC = true) (hn : l.length ≤ 1048576) : Ev (fun k => spec_paText.f k l) ⟨(textOf l).toArray⟩ := by
  have h := paText_l0 l hl hn l.length 0 [] (by omega) (by omega) (by simp)
  exact h

theorem IsCell_eq (a b : Int) : impl_IsCell.f a b = some (goodB a b) := by
  unfold impl_IsCell.f goodB
  by_cases h0 : a < 0
  · rw [if_pos h0]; simp; omega
  rw [if_neg h0]
  by_cases h1 : a > 7
  · rw [if_pos h1]; simp; omega
  rw [if_neg h1]
  by_cases h2 : b < 0
  · rw [if_pos h2]; simp; omega
  rw [if_neg h2]
  by_cases h3 : b > 1
  · rw [if_pos h3]; simp; omega
  rw [if_neg h3]
  by_cases h4 : b = 0
  · rw [if_pos h4]; simp; omega
  rw [if_neg h4]
  by_cases h5 : a = 3
  · rw [if_pos h5]; simp; omega
  rw [if_neg h5]
  by_cases h6 : a = 6
  · simp [h6]; omega
  · simp [h5, h6, h4]

theorem CellLetter_eq (a b : Int) : impl_CellLetter.f a b = some (if goodB a b = true then (letterOf a b, true) else (⟨#[]⟩, false)) := by
  unfold impl_CellLetter.f
  rw [IsCell_eq, Option.bind_some]
  by_cases h : goodB a b = true
  · rw [if_pos h, if_pos h]
    rcases good_cases h with ⟨rfl, rfl⟩ | ⟨rfl, rfl⟩ | ⟨rfl, rfl⟩ | ⟨rfl, rfl⟩ | ⟨rfl, rfl⟩ | ⟨rfl, rfl⟩ | ⟨rfl, rfl⟩ | ⟨rfl, rfl⟩ | ⟨rfl, rfl⟩ | ⟨rfl, rfl⟩ <;> decide +kernel
  · rw [if_neg h, if_neg h]

theorem IsCellC_eq (x : S29) : impl_IsCell.f x.f0 x.f1 = some (goodC x) := IsCell_eq _ _
theorem validCells_l0 (a : List S29) (hn : a.length ≤ 1048576) : ∀ (d i : Nat), a.length - i = d → i ≤ a.length →
    Ev (fun k => impl_validCells.l0 k a (a.length : Int) (i : Int)) ((a.drop i).all goodC) := by
  intro d
  induction d with
  | zero =>
    intro i hd hi
    refine ev_done 0 fun k _ => ?_
    simp only [impl_validCells.l0]
    rw [if_neg (by omega), List.drop_of_length_le (by omega)]
    simp
  | succ d ih =>
    intro i hd hi
    have hlt : i < a.length := by omega
    have h := ih (i + 1) (by omega) (by omega)
    rw [drop_cons a z29 hlt, List.all_cons]
    by_cases hg : goodC (a.getD i z29) = true
    · rw [hg, Bool.true_and]
      refine ev_next 0 h fun k _ => ?_
      simp only [impl_validCells.l0, rd_T29, Int.toNat_natCast, IsCellC_eq, Option.bind_some]
      rw [if_pos (by omega), if_pos (by omega), if_pos (by omega), if_pos hg, wrap_succ hlt (by omega)]
    · rw [Bool.eq_false_iff.2 hg, Bool.false_and]
      refine ev_done 0 fun k _ => ?_
      simp only [impl_validCells.l0, rd_T29, Int.toNat_natCast, IsCellC_eq, Option.bind_some]
      rw [if_pos (by omega), if_pos (by omega), if_pos (by omega), if_neg hg]
theorem validCells_ev (a : List S29) (hn : a.length ≤ 1048576) : Ev (fun k => impl_validCells.f k a) (a.all goodC && decide (a.length ≤ 90)) := by
  by_cases h : a.length ≤ 90
  · rw [decide_eq_true h, Bool.and_true]
    refine ev_same 0 (validCells_l0 a hn a.length 0 (by omega) (by omega)) fun k _ => ?_
    simp only [impl_validCells.f]
    rw [if_neg (by omega)]
    rfl
  · rw [decide_eq_false h, Bool.and_false]
    refine ev_now fun k => ?_
    simp only [impl_validCells.f]
    rw [if_pos (by omega)]

theorem CellsText_l0 (l : List S29) (hl : l.all goodC = true) (hn : l.length ≤ 1048576) : ∀ (d i : Nat) (b : List UInt8), l.length - i = d → i ≤ l.length → b.length ≤ 1048576 + i →
    Ev (fun k => impl_CellsText.l0 k (b.map fun x => (x.toNat : Int)) l (l.length : Int) (i : Int)) (⟨(b ++ textOf (l.drop i)).toArray⟩, true) := by
  intro d
  induction d with
  | zero =>
    intro i b hd hi hb
    refine ev_done 0 fun k _ => ?_
    simp only [impl_CellsText.l0]
    rw [if_neg (by omega), List.drop_of_length_le (by omega), strOf_bytes]
    simp [textOf]
  | succ d ih =>
    intro i b hd hi hb
    have hlt : i < l.length := by omega
    have hg := getD_good hl hlt
    have hp := CellLetter_eq (l.getD i z29).f0 (l.getD i z29).f1
    rw [if_pos (show goodB (l.getD i z29).f0 (l.getD i z29).f1 = true from hg)] at hp
    have hs := letterOf_size (l.getD i z29).f0 (l.getD i z29).f1
    rw [drop_cons l z29 hlt, textOf, List.flatMap_cons, ← List.append_assoc]
    generalize letterOf (l.getD i z29).f0 (l.getD i z29).f1 = q at hp hs ⊢
    refine ev_next 0 (ih (i + 1) (b ++ q.data.toList) (by omega) (by omega) ?_) fun k _ => ?_
    · have : q.data.toList.length = 1 := hs
      rw [List.length_append]
      omega
    · simp only [impl_CellsText.l0, rd_T29, Int.toNat_natCast, hp, Option.bind_some]
      rw [if_pos (by omega), if_pos (by omega), if_pos (by omega), if_pos (by rw [hs, List.length_map]; omega), wrap_succ hlt (by omega), List.map_append]
      rfl
theorem CellsText_ev (l : List S29) (hn : l.length ≤ 1048576) : Ev (fun k => impl_CellsText.f k l) (if (l.all goodC && decide (l.length ≤ 90)) = true then (⟨(textOf l).toArray⟩, true) else (⟨#[]⟩, false)) := by
  obtain ⟨K, hK⟩ := ev_get (validCells_ev l hn)
  by_cases h : (l.all goodC && decide (l.length ≤ 90)) = true
  · rw [if_pos h]
    refine ev_same K (CellsText_l0 l (by simp only [Bool.and_eq_true] at h; exact h.1) hn l.length 0 [] (by omega) (by omega) (by simp)) fun k hk => ?_
    simp only [impl_CellsText.f]
    rw [hK k hk, Option.bind_some, if_pos h]
    rfl
  · rw [if_neg h]
    refine ⟨K, fun k hk => ?_⟩
    simp only [impl_CellsText.f]
    rw [hK k hk, Option.bind_some, if_neg h]

theorem specCellsText_ev (l : List S29) (hn : l.length ≤ 1048576) : Ev (fun k => spec_CellsText.f k l) (if (l.all goodC && decide (l.length ≤ 90)) = true then (⟨(textOf l).toArray⟩, true) else (⟨#[]⟩, false)) := by
  obtain ⟨K, hK⟩ := ev_get (paList_ev l hn)
  by_cases h : (l.all goodC && decide (l.length ≤ 90)) = true
  · rw [if_pos h]
    obtain ⟨K2, hK2⟩ := ev_get (paText_ev l (by simp only [Bool.and_eq_true] at h; exact h.1) hn)
    refine ⟨K + K2, fun k hk => ?_⟩
    simp only [spec_CellsText.f]
    rw [hK k (by omega), Option.bind_some, if_pos h, hK2 k (by omega), Option.bind_some]
  · rw [if_neg h]
    refine ⟨K, fun k hk => ?_⟩
    simp only [spec_CellsText.f]
    rw [hK k hk, Option.bind_some, if_neg h]
theorem FnExactCellsText (a : List S27) (hn : a.length ≤ 9223372036854775807) : ∃ k, laws_FnExactCellsText.f k a = some true := by
  unfold laws_FnExactCellsText.f
  rw [szCellS_eq a 1048576 (by omega) (by omega) hn]
  by_cases hs : (a.length : Int) ≤ 1048576
  · have hl : (a.map conv).length ≤ 1048576 := by rw [List.length_map]; omega
    obtain ⟨K1, h1⟩ := ev_get (toCellS_ev a (by omega))
    obtain ⟨K2, h2⟩ := ev_get (CellsText_ev (a.map conv) hl)
    obtain ⟨K3, h3⟩ := ev_get (specCellsText_ev (a.map conv) hl)
    obtain ⟨K4, h4⟩ := ev_get (eqCellS_ev (a.map conv) hl)
    refine ⟨K1 + K2 + K3 + K4 + 1, ?_⟩
    rw [if_pos hs, Option.bind_some, if_neg (by omega)]
    simp (disch := omega) only [h1, h2, h3, h4, Option.bind_some, if_true, bne_self_eq_false, laws_FnExactCellsText.j0, Bool.false_eq_true, if_false]
  · refine ⟨0, ?_⟩
    rw [if_neg hs]
    rfl

end Go.Proofs.Ythgnjnofdpfccaa.Pure
