/- For all arguments the program's ReadCells answers as the reference's does (the plain law, over the printed functions). Conditions: none. -/
import Derived.Test.YthgnjnofdpfccaaPFnExactReadCellsx3
set_option linter.unusedVariables false
set_option linter.unusedSimpArgs false
namespace Go.Proofs.Ythgnjnofdpfccaa.Pure
open Go.RowKit Go.Proofs.Ythgnjnofdpfccaa.PFnExactReadCells Go.Proofs.YthgnjnofdpfccaaW.PrintWords Go.Proofs.YthgnjnofdpfccaaW.PrintLast Go.Proofs.YthgnjnofdpfccaaW.PrintMore

theorem wrap_id {x : Int} (h0 : -9223372036854775808 ≤ x) (h1 : x < 9223372036854775808) : wrap64 x = x := by unfold wrap64; omega
theorem wrap_succ {i n : Nat} (h : i < n) (hn : n ≤ 4611686018427387904) : wrap64 ((i : Int) + 1) = ((i + 1 : Nat) : Int) := by unfold wrap64; omega
theorem wrap_m1 : wrap64 (-1) = -1 := by decide +kernel
theorem wrap_0 : wrap64 0 = 0 := by decide +kernel
theorem wrap_1 : wrap64 1 = 1 := by decide +kernel
theorem wrap_2 : wrap64 2 = 2 := by decide +kernel
/-- The answer comes in this round. -/
theorem ev_done {α : Type} {g : Nat → Option α} {r : α} (K : Nat) (h : ∀ k, K ≤ k → g (k + 1) = some r) : Ev g r := by
  refine ⟨K + 1, fun k hk => ?_⟩
  obtain ⟨m, rfl⟩ : ∃ m, k = m + 1 := ⟨k - 1, by omega⟩
  exact h m (by omega)
/-- The answer comes in a later round. -/
theorem ev_next {α : Type} {g f : Nat → Option α} {r : α} (K : Nat) (hf : Ev f r) (h : ∀ k, K ≤ k → g (k + 1) = f k) : Ev g r := by
  obtain ⟨K', hf⟩ := hf
  refine ⟨K + K' + 1, fun k hk => ?_⟩
  obtain ⟨m, rfl⟩ : ∃ m, k = m + 1 := ⟨k - 1, by omega⟩
  rw [h m (by omega)]
  exact hf m (by omega)
theorem ev_get {α : Type} {g : Nat → Option α} {r : α} (h : Ev g r) : ∃ K, ∀ k, K ≤ k → g k = some r := h
theorem ev_now {α : Type} {g : Nat → Option α} {r : α} (h : ∀ k, g k = some r) : Ev g r := ⟨0, fun k _ => h k⟩
theorem ev_same {α : Type} {g f : Nat → Option α} {r : α} (K : Nat) (hf : Ev f r) (h : ∀ k, K ≤ k → g k = f k) : Ev g r := by
  obtain ⟨K', hf⟩ := hf
  exact ⟨K + K', fun k hk => (h k (by omega)).trans (hf k (by omega))⟩
theorem bindE {α β : Type} {o : Option α} {v : α} {f : α → Option β} (h : o = some v) : o.bind f = f v := by rw [h]; rfl
theorem ite_bneB {β : Type} (x : Bool) (a b : β) : (if (x != x) = true then a else b) = b := by simp
theorem ite_bneI {β : Type} (x : Int) (a b : β) : (if (x != x) = true then a else b) = b := by simp
theorem ite_true' {β : Type} (a b : β) : (if true = true then a else b) = a := rfl
theorem drop_cons {α : Type} (l : List α) (z : α) {i : Nat} (h : i < l.length) : l.drop i = l.getD i z :: l.drop (i + 1) := by
  rw [List.drop_eq_getElem_cons h, List.getD_eq_getElem?_getD, List.getElem?_eq_getElem h]; rfl
theorem take_set {α : Type} (l : List α) (v : α) {i : Nat} (h : i < l.length) : (l.set i v).take (i + 1) = l.take i ++ [v] := by
  rw [List.take_succ_eq_append_getElem (by simpa using h)]
  simp [List.take_set_of_le]
theorem rdT_nat {α : Type} (l : List α) (i : Nat) (z : α) : l.getD ((i : Int).toNat) z = l.getD i z := by rw [Int.toNat_natCast]

def goodB (a b : Int) : Bool := decide ((0 ≤ a ∧ a ≤ 7) ∧ (b = 0 ∨ b = 1 ∧ (a = 3 ∨ a = 6)))
theorem good_cases {a b : Int} (h : goodB a b = true) : (a = 0 ∧ b = 0) ∨ (a = 1 ∧ b = 0) ∨ (a = 2 ∧ b = 0) ∨ (a = 3 ∧ b = 0) ∨ (a = 3 ∧ b = 1) ∨ (a = 4 ∧ b = 0) ∨ (a = 5 ∧ b = 0) ∨ (a = 6 ∧ b = 0) ∨ (a = 6 ∧ b = 1) ∨ (a = 7 ∧ b = 0) := by
  simp only [goodB, decide_eq_true_eq] at h
  obtain ⟨⟨h0, h7⟩, hb⟩ := h
  have ha : a = 0 ∨ a = 1 ∨ a = 2 ∨ a = 3 ∨ a = 4 ∨ a = 5 ∨ a = 6 ∨ a = 7 := by
    clear hb
    omega
  rcases ha with rfl | rfl | rfl | rfl | rfl | rfl | rfl | rfl <;> simp_all

def letterOf (a b : Int) : ByteArray := if b = 1 then (if a = 3 then ⟨#[70]⟩ else ⟨#[71]⟩) else ⟨#[[46, 108, 114, 102, 120, 111, 103, 99].getD a.toNat 46]⟩
theorem letterOf_size (a b : Int) : (letterOf a b).size = 1 := by
  unfold letterOf
  split
  · split <;> rfl
  · rfl

def turnB (a : Int) : Bool := decide (a = 3 ∨ a = 6)
theorem paTurning_eq (a b : Int) : spec_paTurning.f a b = some (turnB a) := by
  unfold spec_paTurning.f turnB
  by_cases h : a = 3
  · simp [h]
  · rw [if_neg h]
    by_cases h6 : a = 6 <;> simp [h, h6]

def hitB (a b : Int) (s : ByteArray) : Bool := goodB a b && decide ((letterOf a b).toList = s.toList)
def readFrom : Nat → Int → ByteArray → Int × Int × Bool
  | 0, _, _ => (0, 0, false)
  | n + 1, a, s => if hitB a 0 s = true then (a, 0, true) else if hitB a 1 s = true then (a, 1, true) else readFrom n (a + 1) s
def readOf (s : ByteArray) : Int × Int × Bool := readFrom 8 0 s
theorem good_zero {a : Int} (h0 : 0 ≤ a) (h7 : a ≤ 7) : goodB a 0 = true := by simp [goodB, h0, h7]
theorem good_one {a : Int} (h0 : 0 ≤ a) (h7 : a ≤ 7) : goodB a 1 = turnB a := by simp [goodB, turnB, h0, h7]

def readAll (s : ByteArray) : Nat → Nat → List S29 → List S29 × Bool
  | 0, _, acc => (acc, true)
  | d + 1, i, acc => if (readOf (s.extract i (i + 1))).2.2 = true then readAll s d (i + 1) (acc ++ [(⟨(readOf (s.extract i (i + 1))).1, (readOf (s.extract i (i + 1))).2.1⟩ : S29)]) else ([], false)
theorem readAll_length (s : ByteArray) : ∀ (d i : Nat) (acc : List S29), (readAll s d i acc).1.length ≤ acc.length + d
  | 0, _, _ => by simp [readAll]
  | d + 1, i, acc => by
    unfold readAll
    split
    · have h := readAll_length s d (i + 1) (acc ++ [(⟨(readOf (s.extract i (i + 1))).1, (readOf (s.extract i (i + 1))).2.1⟩ : S29)])
      simp at h
      omega
    · simp

theorem IsCell_eq (a b : Int) : impl_IsCell.f a b = some (goodB a b) := by
  unfold impl_IsCell.f goodB
  by_cases h0 : a < 0
  · rw [if_pos h0]; simp; omega
  rw [if_neg h0]
  by_cases h1 : a > 7
  · rw [if_pos h1]; simp; omega
  rw [if_neg h1]
  by_cases h2 : b < 0
  · rw [if_pos h2]; simp; omega
  rw [if_neg h2]
  by_cases h3 : b > 1
  · rw [if_pos h3]; simp; omega
  rw [if_neg h3]
  by_cases h4 : b = 0
  · rw [if_pos h4]; simp; omega
  rw [if_neg h4]
  by_cases h5 : a = 3
  · rw [if_pos h5]; simp; omega
  rw [if_neg h5]
  by_cases h6 : a = 6
  · simp [h6]; omega
  · simp [h5, h6, h4]

theorem CellLetter_eq (a b : Int) : impl_CellLetter.f a b = some (if goodB a b = true then (letterOf a b, true) else (⟨#[]⟩, false)) := by
  unfold impl_CellLetter.f
  rw [IsCell_eq, Option.bind_some]
  by_cases h : goodB a b = true
  · rw [if_pos h, if_pos h]
    rcases good_cases h with ⟨rfl, rfl⟩ | ⟨rfl, rfl⟩ | ⟨rfl, rfl⟩ | ⟨rfl, rfl⟩ | ⟨rfl, rfl⟩ | ⟨rfl, rfl⟩ | ⟨rfl, rfl⟩ | ⟨rfl, rfl⟩ | ⟨rfl, rfl⟩ | ⟨rfl, rfl⟩ <;> decide +kernel
  · rw [if_neg h, if_neg h]

theorem ReadCell_l1 (k : Nat) (s : ByteArray) (a b : Int) (h : b < 2) : impl_ReadCell.l1 (k + 1) s a b = if hitB a b s = true then some (a, b, true) else impl_ReadCell.l1 k s a (wrap64 (b + 1)) := by
  simp only [impl_ReadCell.l1]
  rw [if_pos h, CellLetter_eq, Option.bind_some]
  by_cases hg : goodB a b = true
  · by_cases hl : (letterOf a b).toList = s.toList
    · simp [hitB, hg, hl]
    · simp [hitB, hg, hl]
  · simp [hitB, hg]
theorem ReadCell_l0 (s : ByteArray) : ∀ (n : Nat) (a : Int), 0 ≤ a → a + n = 8 → Ev (fun k => impl_ReadCell.l0 k s a) (readFrom n a s) := by
  intro n
  induction n with
  | zero =>
    intro a h0 h8
    refine ev_done 0 fun k _ => ?_
    simp only [impl_ReadCell.l0]
    rw [if_neg (by omega)]
    rfl
  | succ n ih =>
    intro a h0 h8
    have e0 : ∀ k, impl_ReadCell.l0 (k + 1) s a = impl_ReadCell.l1 k s a 0 := fun k => by
      simp only [impl_ReadCell.l0]
      rw [if_pos (by omega)]
    by_cases h1 : hitB a 0 s = true
    · refine ev_done 1 fun k hk => ?_
      obtain ⟨k, rfl⟩ : ∃ m, k = m + 1 := ⟨k - 1, by omega⟩
      simp only [readFrom]
      rw [e0, ReadCell_l1 _ _ _ _ (by omega), if_pos h1, if_pos h1]
    by_cases h2 : hitB a 1 s = true
    · refine ev_done 2 fun k hk => ?_
      obtain ⟨k, rfl⟩ : ∃ m, k = m + 1 + 1 := ⟨k - 2, by omega⟩
      simp only [readFrom]
      rw [e0, ReadCell_l1 _ _ _ _ (by omega), if_neg h1, if_neg h1, show wrap64 (0 + 1) = 1 from wrap_1, ReadCell_l1 _ _ _ _ (by omega), if_pos h2, if_pos h2]
    · have h := ih (a + 1) (by omega) (by omega)
      simp only [readFrom, if_neg h1, if_neg h2]
      obtain ⟨K, hK⟩ := ev_get (h)
      refine ⟨K + 4, fun k hk => ?_⟩
      obtain ⟨k, rfl⟩ : ∃ m, k = m + 1 + 1 + 1 + 1 := ⟨k - 4, by omega⟩
      simp only []
      rw [e0, ReadCell_l1 _ _ _ _ (by omega), if_neg h1, show wrap64 (0 + 1) = 1 from wrap_1, ReadCell_l1 _ _ _ _ (by omega), if_neg h2, show wrap64 (1 + 1) = 2 from wrap_2]
      simp only [impl_ReadCell.l1]
      rw [if_neg (by omega), wrap_id (by omega) (by omega)]
      exact hK k (by omega)
theorem ReadCell_ev (s : ByteArray) : Ev (fun k => impl_ReadCell.f k s) (readOf s) := ReadCell_l0 s 8 0 (by omega) (by omega)

theorem ReadCells_l0 (s : ByteArray) (hn : s.size ≤ 1048576) : ∀ (d i : Nat) (acc : List S29), s.size - i = d → i ≤ s.size → acc.length ≤ i →
    Ev (fun k => impl_ReadCells.l0 k s acc (i : Int)) (readAll s d i acc) := by
  intro d
  induction d with
  | zero =>
    intro i acc hd hi ha
    refine ev_done 0 fun k _ => ?_
    simp only [impl_ReadCells.l0]
    rw [if_neg (by omega)]
    rfl
  | succ d ih =>
    intro i acc hd hi ha
    have hlt : i < s.size := by omega
    obtain ⟨K, hK⟩ := ev_get (ReadCell_ev (s.extract i (i + 1)))
    rw [readAll]
    by_cases hr : (readOf (s.extract i (i + 1))).2.2 = true
    · rw [if_pos hr]
      refine ev_next K (ih (i + 1) (acc ++ [(⟨(readOf (s.extract i (i + 1))).1, (readOf (s.extract i (i + 1))).2.1⟩ : S29)]) (by omega) (by omega) (by simp; omega)) fun k hk => ?_
      simp only [impl_ReadCells.l0, wrap_succ hlt (show s.size ≤ 4611686018427387904 by omega), Int.toNat_natCast]
      rw [if_pos (by omega), if_pos (by omega), if_pos (by omega), if_pos (by omega), hK k hk, Option.bind_some, if_pos hr, if_pos (by omega)]
    · rw [if_neg hr]
      refine ev_done K fun k hk => ?_
      simp only [impl_ReadCells.l0, wrap_succ hlt (show s.size ≤ 4611686018427387904 by omega), Int.toNat_natCast]
      rw [if_pos (by omega), if_pos (by omega), if_pos (by omega), if_pos (by omega), hK k hk, Option.bind_some, if_neg hr]
theorem ReadCells_ev (s : ByteArray) : Ev (fun k => impl_ReadCells.f k s) (if s.size > 90 then ([], false) else readAll s s.size 0 []) := by
  by_cases h : s.size > 90
  · rw [if_pos h]
    refine ev_now fun k => ?_
    simp only [impl_ReadCells.f]
    rw [if_pos (by omega)]
  · rw [if_neg h]
    refine ev_same 0 (ReadCells_l0 s (by omega) s.size 0 [] (by omega) (by omega) (by simp)) fun k _ => ?_
    simp only [impl_ReadCells.f]
    rw [if_neg (by omega)]
    rfl

def cellsFrom : Nat → Int → List S29
  | 0, _ => []
  | n + 1, a => (⟨a, 0⟩ : S29) :: ((if turnB a = true then [(⟨a, 1⟩ : S29)] else []) ++ cellsFrom n (a + 1))
theorem paAll_l0 : ∀ (n : Nat) (a : Int) (x : List S29), 0 ≤ a → a + n = 8 → x.length ≤ 2 * a → Ev (fun k => spec_paAll.l0 k x a) (x ++ cellsFrom n a) := by
  intro n
  induction n with
  | zero =>
    intro a x h0 h8 hx
    refine ev_done 0 fun k _ => ?_
    simp only [spec_paAll.l0]
    rw [if_neg (by omega)]
    simp [cellsFrom]
  | succ n ih =>
    intro a x h0 h8 hx
    simp only [cellsFrom]
    by_cases ht : turnB a = true
    · refine ev_next 0 (f := fun k => spec_paAll.l0 k (x ++ [(⟨a, 0⟩ : S29)] ++ [(⟨a, 1⟩ : S29)]) (a + 1)) ?_ fun k _ => ?_
      · have h := ih (a + 1) (x ++ [(⟨a, 0⟩ : S29)] ++ [(⟨a, 1⟩ : S29)]) (by omega) (by omega) (by simp; omega)
        simpa [ht] using h
      · simp only [spec_paAll.l0, paTurning_eq, Option.bind_some]
        rw [if_pos (by omega), if_pos (by omega), if_pos ht, if_pos (by simp; omega), wrap_id (by omega) (by omega)]
    · refine ev_next 0 (f := fun k => spec_paAll.l0 k (x ++ [(⟨a, 0⟩ : S29)]) (a + 1)) ?_ fun k _ => ?_
      · have h := ih (a + 1) (x ++ [(⟨a, 0⟩ : S29)]) (by omega) (by omega) (by simp; omega)
        simpa [ht] using h
      · simp only [spec_paAll.l0, paTurning_eq, Option.bind_some]
        rw [if_pos (by omega), if_pos (by omega), if_neg ht, wrap_id (by omega) (by omega)]
theorem paAll_ev : Ev (fun k => spec_paAll.f k) (cellsFrom 8 0) := by
  have h := paAll_l0 8 0 [] (by omega) (by omega) (by simp)
  simpa [spec_paAll.f] using h

theorem paLetter_eq (a b : Int) (h : goodB a b = true) : spec_paLetter.f a b = some (letterOf a b) := by
  rcases good_cases h with ⟨rfl, rfl⟩ | ⟨rfl, rfl⟩ | ⟨rfl, rfl⟩ | ⟨rfl, rfl⟩ | ⟨rfl, rfl⟩ | ⟨rfl, rfl⟩ | ⟨rfl, rfl⟩ | ⟨rfl, rfl⟩ | ⟨rfl, rfl⟩ | ⟨rfl, rfl⟩ <;> decide +kernel

theorem rdD_nat (l : List S29) (i : Nat) : rd_T29 l (i : Int) = l.getD i z29 := by rw [rd_T29, Int.toNat_natCast]
def goodC (x : S29) : Bool := goodB x.f0 x.f1

def findIn : List S29 → ByteArray → Int × Int × Bool
  | [], _ => (0, 0, false)
  | x :: l, s => if (letterOf x.f0 x.f1).toList = s.toList then (x.f0, x.f1, true) else findIn l s
theorem cellsFrom_good : ∀ (n : Nat) (a : Int), 0 ≤ a → a + n = 8 → (cellsFrom n a).all goodC = true
  | 0, _, _, _ => rfl
  | n + 1, a, h0, h8 => by
    simp only [cellsFrom, List.all_cons, List.all_append, cellsFrom_good n (a + 1) (by omega) (by omega), Bool.and_true]
    rw [show goodC (⟨a, 0⟩ : S29) = true from good_zero h0 (show a ≤ 7 by omega), Bool.true_and]
    by_cases ht : turnB a = true
    · rw [if_pos ht]
      simp [goodC, good_one h0 (show a ≤ 7 by omega), ht]
    · rw [if_neg ht]
      rfl
theorem findIn_cellsFrom (s : ByteArray) : ∀ (n : Nat) (a : Int), 0 ≤ a → a + n = 8 → findIn (cellsFrom n a) s = readFrom n a s
  | 0, _, _, _ => rfl
  | n + 1, a, h0, h8 => by
    have ih := findIn_cellsFrom s n (a + 1) (by omega) (by omega)
    simp only [cellsFrom, findIn, readFrom, hitB, good_zero h0 (show a ≤ 7 by omega), good_one h0 (show a ≤ 7 by omega), Bool.true_and, decide_eq_true_eq]
    by_cases h1 : (letterOf a 0).toList = s.toList
    · rw [if_pos h1, if_pos h1]
    · rw [if_neg h1, if_neg h1]
      by_cases ht : turnB a = true
      · rw [if_pos ht, ht, List.singleton_append, findIn, ih]
        by_cases h2 : (letterOf a 1).toList = s.toList
        · simp [h2]
        · simp [h2]
      · rw [if_neg ht, List.nil_append, ih]
        simp [ht]
theorem paRead_l0 (s : ByteArray) (l : List S29) (hl : l.all goodC = true) (hn : l.length ≤ 1048576) : ∀ (d i : Nat), l.length - i = d → i ≤ l.length →
    Ev (fun k => spec_paRead.l0 k s l (l.length : Int) (i : Int)) (findIn (l.drop i) s) := by
  intro d
  induction d with
  | zero =>
    intro i hd hi
    refine ev_done 0 fun k _ => ?_
    simp only [spec_paRead.l0]
    rw [if_neg (by omega), List.drop_of_length_le (by omega)]
    rfl
  | succ d ih =>
    intro i hd hi
    have hlt : i < l.length := by omega
    have h := ih (i + 1) (by omega) (by omega)
    have hg : goodC (l.getD i z29) = true := by
      rw [List.getD_eq_getElem?_getD, List.getElem?_eq_getElem hlt]
      exact List.all_eq_true.1 hl _ (List.getElem_mem hlt)
    have hp := paLetter_eq _ _ hg
    rw [drop_cons l z29 hlt, findIn]
    by_cases he : (letterOf (l.getD i z29).f0 (l.getD i z29).f1).toList = s.toList
    · rw [if_pos he]
      refine ev_done 0 fun k _ => ?_
      simp only [spec_paRead.l0, rd_T29, Int.toNat_natCast, hp, Option.bind_some]
      rw [if_pos (by omega), if_pos (by omega), if_pos (by omega), if_pos he]
    · rw [if_neg he]
      refine ev_next 0 h fun k _ => ?_
      simp only [spec_paRead.l0, rd_T29, Int.toNat_natCast, hp, Option.bind_some]
      rw [if_pos (by omega), if_pos (by omega), if_pos (by omega), if_neg he, wrap_succ hlt (by omega)]
theorem paRead_ev (s : ByteArray) : Ev (fun k => spec_paRead.f k s) (readOf s) := by
  obtain ⟨K, hK⟩ := ev_get (paAll_ev)
  refine ev_same K (f := fun k => spec_paRead.l0 k s (cellsFrom 8 0) ((cellsFrom 8 0).length : Int) ((0 : Nat) : Int)) ?_ fun k hk => ?_
  · have h := paRead_l0 s (cellsFrom 8 0) (cellsFrom_good 8 0 (by omega) (by omega)) (by decide) _ 0 rfl (by omega)
    rw [List.drop_zero, findIn_cellsFrom s 8 0 (by omega) (by omega)] at h
    exact h
  · simp only [spec_paRead.f]
    rw [hK k hk, Option.bind_some]
    rfl

theorem paCells_l0 (s : ByteArray) (hn : s.size ≤ 1048576) : ∀ (d i : Nat) (acc : List S29), s.size - i = d → i ≤ s.size → acc.length ≤ i →
    Ev (fun k => spec_paCells.l0 k s acc (i : Int)) (readAll s d i acc) := by
  intro d
  induction d with
  | zero =>
    intro i acc hd hi ha
    refine ev_done 0 fun k _ => ?_
    simp only [spec_paCells.l0]
    rw [if_neg (by omega)]
    rfl
  | succ d ih =>
    intro i acc hd hi ha
    have hlt : i < s.size := by omega
    obtain ⟨K, hK⟩ := ev_get (paRead_ev (s.extract i (i + 1)))
    rw [readAll]
    by_cases hr : (readOf (s.extract i (i + 1))).2.2 = true
    · rw [if_pos hr]
      refine ev_next K (ih (i + 1) (acc ++ [(⟨(readOf (s.extract i (i + 1))).1, (readOf (s.extract i (i + 1))).2.1⟩ : S29)]) (by omega) (by omega) (by simp; omega)) fun k hk => ?_
      simp only [spec_paCells.l0, wrap_succ hlt (show s.size ≤ 4611686018427387904 by omega), Int.toNat_natCast]
      rw [if_pos (by omega), if_pos (by omega), if_pos (by omega), if_pos (by omega), hK k hk, Option.bind_some, if_pos hr, if_pos (by omega)]
    · rw [if_neg hr]
      refine ev_done K fun k hk => ?_
      simp only [spec_paCells.l0, wrap_succ hlt (show s.size ≤ 4611686018427387904 by omega), Int.toNat_natCast]
      rw [if_pos (by omega), if_pos (by omega), if_pos (by omega), if_pos (by omega), hK k hk, Option.bind_some, if_neg hr]
theorem paCells_ev (s : ByteArray) (hn : s.size ≤ 1048576) : Ev (fun k => spec_paCells.f k s) (readAll s s.size 0 []) := by
  refine ev_same 0 (paCells_l0 s hn s.size 0 [] (by omega) (by omega) (by simp)) fun k _ => ?_
  simp only [spec_paCells.f]
  rfl
theorem specReadCells_ev (s : ByteArray) : Ev (fun k => spec_ReadCells.f k s) (if s.size > 90 then ([], false) else readAll s s.size 0 []) := by
  by_cases h : s.size > 90
  · rw [if_pos h]
    refine ev_now fun k => ?_
    simp only [spec_ReadCells.f]
    rw [if_pos (by omega)]
  · rw [if_neg h]
    obtain ⟨K, hK⟩ := ev_get (paCells_ev s (by omega))
    refine ⟨K, fun k hk => ?_⟩
    simp only [spec_ReadCells.f]
    rw [if_neg (by omega), hK k hk, Option.bind_some]

theorem eqCellS_l0 (a : List S29) (hn : a.length ≤ 1048576) : ∀ (d i : Nat), a.length - i = d → i ≤ a.length → Ev (fun k => laws_eqCellS.l0 k a a (i : Int)) true := by
  intro d
  induction d with
  | zero =>
    intro i hd hi
    refine ev_done 0 fun k _ => ?_
    simp only [laws_eqCellS.l0]
    rw [if_neg (by omega)]
  | succ d ih =>
    intro i hd hi
    have hlt : i < a.length := by omega
    refine ev_next 0 (ih (i + 1) (by omega) (by omega)) fun k _ => ?_
    simp only [laws_eqCellS.l0]
    rw [if_pos (by omega), if_pos (by omega), if_pos (by omega), wrap_succ hlt (by omega)]
    simp [laws_eqCell.f]
theorem eqCellS_ev (a : List S29) (hn : a.length ≤ 1048576) : Ev (fun k => laws_eqCellS.f k a a) true := by
  refine ev_same 0 (eqCellS_l0 a hn a.length 0 (by omega) (by omega)) fun k _ => ?_
  simp only [laws_eqCellS.f, if_true]
  rfl

def marks : Nat → Int → List S29
  | 0, _ => []
  | n + 1, s => ⟨s, s + 1⟩ :: marks n (s + 2)
theorem marks_length : ∀ (n : Nat) (s : Int), (marks n s).length = n
  | 0, _ => rfl
  | n + 1, s => by simp [marks, marks_length n]
theorem markCellS_l0 (N : Nat) (hN : N ≤ 1048576) : ∀ (d i : Nat) (s : Int) (x : List S29), x.length = N → N - i = d → i ≤ N → 0 ≤ s → s ≤ 4194304 + 2 * i →
    Ev (fun k => laws_markCellS.l0 k x s (i : Int)) (s + 2 * d, x.take i ++ marks d s) := by
  intro d
  induction d with
  | zero =>
    intro i s x hx hd hi h0 h1
    refine ev_done 0 fun k _ => ?_
    simp only [laws_markCellS.l0]
    rw [if_neg (by omega)]
    simp [marks, List.take_of_length_le (show x.length ≤ i by omega)]
  | succ d ih =>
    intro i s x hx hd hi h0 h1
    have hlt : i < x.length := by omega
    have e : ((x.set i (⟨s, (rd_T29 x i).f1⟩ : S29)).set i ⟨(rd_T29 (x.set i (⟨s, (rd_T29 x i).f1⟩ : S29)) i).f0, s + 1⟩) = x.set i (⟨s, s + 1⟩ : S29) := by
      rw [List.set_set]
      simp [rd_T29, hlt]
    refine ev_next 0 (f := fun k => laws_markCellS.l0 k (x.set i (⟨s, s + 1⟩ : S29)) (s + 2) ((i + 1 : Nat) : Int)) ?_ fun k _ => ?_
    · have h := ih (i + 1) (s + 2) (x.set i (⟨s, s + 1⟩ : S29)) (by simpa using hx) (by omega) (by omega) (by omega) (by omega)
      rw [take_set x _ (by omega)] at h
      have e2 : s + 2 + 2 * (d : Int) = s + 2 * ((d + 1 : Nat) : Int) := by omega
      rw [e2, List.append_assoc] at h
      exact h
    · simp only [laws_markCellS.l0]
      rw [if_pos (by omega), if_pos (by omega)]
      simp only [Option.bind_some, Int.toNat_natCast]
      rw [wrap_succ hlt (by omega), wrap_id (x := s + 1) (by omega) (by omega), wrap_id (x := s + 1 + 1) (by omega) (by omega), e]
      rw [show s + 1 + 1 = s + 2 by omega]
theorem markCellS_ev (x : List S29) (s : Int) (hn : x.length ≤ 1048576) (h0 : 0 ≤ s) (h1 : s ≤ 4194304) : Ev (fun k => laws_markCellS.f k x s) (s + 2 * x.length, marks x.length s) := by
  have h := markCellS_l0 x.length hn x.length 0 s x rfl (by omega) (by omega) h0 (by omega)
  simpa [laws_markCellS.f] using h

theorem heldCellS_l0 (y : List S29) (N : Nat) (hN : N ≤ 1048576) (hy : y.length = N) : ∀ (d i : Nat) (s : Int), N - i = d → i ≤ N → 0 ≤ s → s ≤ 4194304 + 2 * i → y.drop i = marks d s →
    Ev (fun k => laws_heldCellS.l0 k y s (i : Int)) (s + 2 * d) := by
  intro d
  induction d with
  | zero =>
    intro i s hd hi h0 h1 hm
    refine ev_done 0 fun k _ => ?_
    simp only [laws_heldCellS.l0]
    rw [if_neg (by omega)]
    simp
  | succ d ih =>
    intro i s hd hi h0 h1 hm
    have hlt : i < y.length := by omega
    rw [drop_cons y z29 hlt, marks] at hm
    injection hm with hm1 hm2
    have h := ih (i + 1) (s + 2) (by omega) (by omega) (by omega) (by omega) hm2
    have e2 : s + 2 + 2 * (d : Int) = s + 2 * ((d + 1 : Nat) : Int) := by omega
    rw [e2] at h
    refine ev_next 0 h fun k _ => ?_
    simp only [laws_heldCellS.l0, rd_T29, Int.toNat_natCast, hm1]
    rw [if_pos (by omega), if_pos (by omega), if_pos trivial, wrap_succ hlt (by omega), wrap_id (x := s + 1) (by omega) (by omega), wrap_id (x := s + 1 + 1) (by omega) (by omega), if_pos rfl]
    rw [show s + 1 + 1 = s + 2 by omega]
theorem heldCellS_ev (n : Nat) (s : Int) (hn : n ≤ 1048576) (h0 : 0 ≤ s) (h1 : s ≤ 4194304) : Ev (fun k => laws_heldCellS.f k (marks n s) s) (s + 2 * n) := by
  have h := heldCellS_l0 (marks n s) n hn (marks_length n s) n 0 s (by omega) (by omega) h0 (by omega) rfl
  simpa [laws_heldCellS.f] using h

theorem FnExactReadCells : laws_FnExactReadCells.Pure := by
  intro s _
  by_cases hs : (s.size : Int) > 1048576
  · refine ⟨0, ?_⟩
    unfold laws_FnExactReadCells.f
    rw [if_pos hs]
  obtain ⟨K1, h1⟩ := ev_get (ReadCells_ev s)
  obtain ⟨K2, h2⟩ := ev_get (specReadCells_ev s)
  have hl : (if s.size > 90 then (([] : List S29), false) else readAll s s.size 0 []).1.length ≤ 90 := by
    split
    · simp
    · have := readAll_length s s.size 0 []
      simp at this
      omega
  revert h1 h2 hl
  generalize (if s.size > 90 then (([] : List S29), false) else readAll s s.size 0 []) = r
  intro h1 h2 hl
  obtain ⟨K3, h3⟩ := ev_get (eqCellS_ev r.1 (by omega))
  obtain ⟨K4, h4⟩ := ev_get (markCellS_ev r.1 1 (by omega) (by omega) (by omega))
  obtain ⟨K5, h5⟩ := ev_get (heldCellS_ev r.1.length 1 (by omega) (by omega) (by omega))
  refine ⟨K1 + K2 + K3 + K4 + K5 + 1 + 1, ?_⟩
  unfold laws_FnExactReadCells.f
  rw [if_neg hs]
  simp (disch := omega) only [h1, h2, h3, h4, h5, Option.bind_some, if_true, bne_self_eq_false, laws_FnExactReadCells.j0, laws_FnExactReadCells.j1, if_false, Bool.false_eq_true, if_neg]

end Go.Proofs.Ythgnjnofdpfccaa.Pure
