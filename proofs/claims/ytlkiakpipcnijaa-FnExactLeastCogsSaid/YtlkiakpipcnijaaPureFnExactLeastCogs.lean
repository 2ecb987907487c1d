/- For all arguments the program's LeastCogs answers as the reference's does (the plain law, over the printed functions). Conditions: none. -/
import Derived.Test.YtlkiakpipcnijaaG38
set_option linter.unusedVariables false
set_option linter.unusedSimpArgs false
namespace Go.Proofs.Ytlkiakpipcnijaa.Pure
open Go.RowKit Go.Proofs.Ytlkiakpipcnijaa.PAll Go.Proofs.YtlkiakpipcnijaaW.PrintWords Go.Proofs.YtlkiakpipcnijaaW.PrintLast Go.Proofs.YtlkiakpipcnijaaW.PrintMore

theorem a3 {x : Int} (h0 : -9223372036854775808 ≤ x) (h1 : x < 9223372036854775808) : wrap64 x = x := by unfold wrap64; omega
theorem a7 {i n : Nat} (h : i < n) (hn : n ≤ 4611686018427387904) : wrap64 ((i : Int) + 1) = ((i + 1 : Nat) : Int) := by unfold wrap64; omega
theorem bq : wrap64 (-1) = -1 := by decide +kernel
theorem bu : wrap64 0 = 0 := by decide +kernel
theorem bs : wrap64 1 = 1 := by decide +kernel
theorem bt : wrap64 2 = 2 := by decide +kernel
structure Hid (p : Prop) : Prop where
 out : p
theorem a8 {α : Type} {g : Nat → Option α} {r : α} (K : Nat) (h : ∀ k, K ≤ k → g (k + 1) = some r) : Ev g r := by
 refine ⟨K + 1, fun k hk => ?_⟩
 obtain ⟨m, rfl⟩ : ∃ m, k = m + 1 := ⟨k - 1, by omega⟩
 exact h m (by omega)
theorem a4 {α : Type} {g f : Nat → Option α} {r : α} (K : Nat) (hf : Ev f r) (h : ∀ k, K ≤ k → g (k + 1) = f k) : Ev g r := by
 obtain ⟨K', hf⟩ := hf
 refine ⟨K + K' + 1, fun k hk => ?_⟩
 obtain ⟨m, rfl⟩ : ∃ m, k = m + 1 := ⟨k - 1, by omega⟩
 rw [h m (by omega)]
 exact hf m (by omega)
theorem aA {α : Type} {g : Nat → Option α} {r : α} (h : Ev g r) : ∃ K, ∀ k, K ≤ k → g k = some r := h
theorem bi {α : Type} {g : Nat → Option α} {r : α} (h : ∀ k, g k = some r) : Ev g r := ⟨0, fun k _ => h k⟩
theorem aZ {α : Type} {g f : Nat → Option α} {r : α} (K : Nat) (hf : Ev f r) (h : ∀ k, K ≤ k → g k = f k) : Ev g r := by
 obtain ⟨K', hf⟩ := hf
 exact ⟨K + K', fun k hk => (h k (by omega)).trans (hf k (by omega))⟩
theorem bindE {α β : Type} {o : Option α} {v : α} {f : α → Option β} (h : o = some v) : o.bind f = f v := by rw [h]; rfl
theorem bT {β : Type} (x : Bool) (a b : β) : (if (x != x) = true then a else b) = b := by simp
theorem bU {β : Type} (x : Int) (a b : β) : (if (x != x) = true then a else b) = b := by simp
theorem aD {β : Type} (a b : β) : (if true = true then a else b) = a := rfl
theorem aI {α : Type} (l : List α) (z : α) {i : Nat} (h : i < l.length) : l.drop i = l.getD i z :: l.drop (i + 1) := by
 rw [List.drop_eq_getElem_cons h, List.getD_eq_getElem?_getD, List.getElem?_eq_getElem h]; rfl
theorem ah {α : Type} (l : List α) (v : α) {i : Nat} (h : i < l.length) : (l.set i v).take (i + 1) = l.take i ++ [v] := by
 rw [List.take_succ_eq_append_getElem (by simpa using h)]
 simp [List.take_set_of_le]
theorem bo {α : Type} (l : List α) (i : Nat) (z : α) : l.getD ((i : Int).toNat) z = l.getD i z := by rw [Int.toNat_natCast]

def conv (x : S84) : S71 := ⟨x.f0, x.f1⟩
theorem bD (a : List S84) (hn : a.length ≤ 1048576) : ∀ (d i : Nat) (x : List S71), a.length - i = d → i ≤ a.length → x.length = a.length →
 Ev (fun k => laws_toCellS.l0 k a x (i : Int)) (x.take i ++ (a.drop i).map conv) := by
 intro d
 induction d with
 | zero =>
  intro i x hd hi hx
  obtain rfl : i = a.length := by omega
  refine a8 0 fun k _ => ?_
  simp only [laws_toCellS.l0]
  rw [if_neg (by omega)]
  simp [← hx]
 | succ d ih =>
  intro i x hd hi hx
  have hlt : i < a.length := by omega
  refine a4 0 (f := fun k => laws_toCellS.l0 k a (x.set i (conv (a.getD i z84))) ((i + 1 : Nat) : Int)) ?_ fun k _ => ?_
  ·have h := ih (i + 1) (x.set i (conv (a.getD i z84))) (by omega) (by omega) (by simpa using hx)
   rwa [ah x _ (by omega), List.append_assoc, List.singleton_append, ← List.map_cons, ← aI a z84 hlt] at h
  ·simp only [laws_toCellS.l0]
   rw [if_pos (by omega), if_pos (by omega)]
   simp only [laws_toCell.f, Option.bind_some]
   rw [if_pos (by omega), a7 hlt (by omega), Int.toNat_natCast]
   simp only [rd_T84, Int.toNat_natCast]
   rfl
theorem b8 (a : List S84) (hn : a.length ≤ 1048576) : Ev (fun k => laws_toCellS.f k a) (a.map conv) := by
 refine aZ 0 (f := fun k => laws_toCellS.l0 k a (List.replicate a.length z71) ((0 : Nat) : Int)) ?_ fun k _ => ?_
 ·have h := bD a hn a.length 0 (List.replicate a.length z71) (by omega) (by omega) (by simp)
  simpa using h
 ·simp only [laws_toCellS.f]
  rw [if_pos (by omega), if_pos (by omega)]
  simp

theorem bA (r c : Int) (a : List S84) (hn : a.length ≤ 1048576) : Ev (fun k => laws_toBoard.f k r c a) (r, c, a.map conv) := by
 obtain ⟨K, hK⟩ := aA (b8 a hn)
 refine ⟨K, fun k hk => ?_⟩
 simp only [laws_toBoard.f]
 rw [bindE (hK k hk)]

theorem ay (a : List S84) (left : Int) (h0 : 0 ≤ left) (h1 : left ≤ 1048576) (hn : a.length ≤ 9223372036854775807) :
 laws_szCellS.f a left = some (if (a.length : Int) ≤ left then left - a.length else -1) := by
 unfold laws_szCellS.f
 rw [a3 (by omega) (by omega)]
 by_cases h : (a.length : Int) ≤ left
 ·rw [if_neg (by omega), if_pos h]
 ·rw [if_pos (by omega), if_neg h]

theorem bB (r c : Int) (a : List S84) (left : Int) (h0 : 0 ≤ left) (h1 : left ≤ 1048576) (hn : a.length ≤ 9223372036854775807) :
 laws_szBoard.f r c a left = some (if (a.length : Int) ≤ left then left - a.length else -1) := by
 unfold laws_szBoard.f
 rw [bindE (ay a left h0 h1 hn)]
 by_cases h : (a.length : Int) ≤ left
 ·rw [if_pos h, if_neg (by omega)]
 ·rw [if_neg h, if_pos (by omega)]

theorem b7 (a : List S71) (hn : a.length ≤ 1048576) : ∀ (d i : Nat), a.length - i = d → i ≤ a.length → Ev (fun k => laws_eqCellS.l0 k a a (i : Int)) true := by
 intro d
 induction d with
 | zero =>
  intro i hd hi
  refine a8 0 fun k _ => ?_
  simp only [laws_eqCellS.l0]
  rw [if_neg (by omega)]
 | succ d ih =>
  intro i hd hi
  have hlt : i < a.length := by omega
  refine a4 0 (ih (i + 1) (by omega) (by omega)) fun k _ => ?_
  simp only [laws_eqCellS.l0]
  rw [if_pos (by omega), if_pos (by omega), if_pos (by omega), a7 hlt (by omega)]
  simp [laws_eqCell.f]
theorem az (a : List S71) (hn : a.length ≤ 1048576) : Ev (fun k => laws_eqCellS.f k a a) true := by
 refine aZ 0 (b7 a hn a.length 0 (by omega) (by omega)) fun k _ => ?_
 simp only [laws_eqCellS.f, if_true]
 rfl

theorem b9 (r c : Int) (a : List S71) (hn : a.length ≤ 1048576) : Ev (fun k => laws_eqBoard.f k r c a r c a) true := by
 obtain ⟨K, hK⟩ := aA (az a hn)
 refine ⟨K, fun k hk => ?_⟩
 simp only [laws_eqBoard.f]
 rw [if_pos trivial, if_pos trivial, bindE (hK k hk), aD]

def goodB (a b : Int) : Bool := decide ((0 ≤ a ∧ a ≤ 7) ∧ (b = 0 ∨ b = 1 ∧ (a = 3 ∨ a = 6)))
theorem bZ {a b : Int} (h : goodB a b = true) : (a = 0 ∧ b = 0) ∨ (a = 1 ∧ b = 0) ∨ (a = 2 ∧ b = 0) ∨ (a = 3 ∧ b = 0) ∨ (a = 3 ∧ b = 1) ∨ (a = 4 ∧ b = 0) ∨ (a = 5 ∧ b = 0) ∨ (a = 6 ∧ b = 0) ∨ (a = 6 ∧ b = 1) ∨ (a = 7 ∧ b = 0) := by
 simp only [goodB, decide_eq_true_eq] at h
 obtain ⟨⟨h0, h7⟩, hb⟩ := h
 have ha : a = 0 ∨ a = 1 ∨ a = 2 ∨ a = 3 ∨ a = 4 ∨ a = 5 ∨ a = 6 ∨ a = 7 := by
  clear hb
  omega
 rcases ha with rfl | rfl | rfl | rfl | rfl | rfl | rfl | rfl <;> simp_all

theorem aL (l : List S71) (i : Nat) : rd_T71 l (i : Int) = l.getD i z71 := by rw [rd_T71, Int.toNat_natCast]
def goodC (x : S71) : Bool := goodB x.f0 x.f1

def sizeB (r c : Int) (n : Nat) : Bool := decide ((1 ≤ r ∧ r ≤ 10) ∧ (1 ≤ c ∧ c ≤ 9) ∧ (n : Int) = r * c)
def a5 (r c : Int) (l : List S71) : Bool := sizeB r c l.length && l.all goodC
theorem aX {r c : Int} (h1 : 1 ≤ r) (h2 : r ≤ 10) (h3 : 1 ≤ c) (h4 : c ≤ 9) : 1 ≤ r * c ∧ r * c ≤ 90 := by
 have hr : r = 1 ∨ r = 2 ∨ r = 3 ∨ r = 4 ∨ r = 5 ∨ r = 6 ∨ r = 7 ∨ r = 8 ∨ r = 9 ∨ r = 10 := by omega
 rcases hr with rfl | rfl | rfl | rfl | rfl | rfl | rfl | rfl | rfl | rfl <;> omega
structure Brd (r c : Int) (l : List S71) : Prop where
 r1 : 1 ≤ r
 r2 : r ≤ 10
 c1 : 1 ≤ c
 c2 : c ≤ 9
 len : (l.length : Int) = r * c
 all : l.all goodC = true
 le : l.length ≤ 90
 pos : 1 ≤ l.length
theorem bL {r c : Int} {l : List S71} (h : a5 r c l = true) : Brd r c l := by
 simp only [a5, sizeB, Bool.and_eq_true, decide_eq_true_eq] at h
 obtain ⟨⟨⟨h1, h2⟩, ⟨h3, h4⟩, h5⟩, h6⟩ := h
 have := aX h1 h2 h3 h4
 exact ⟨h1, h2, h3, h4, h5, h6, by omega, by omega⟩
theorem br {r c : Int} {l : List S71} (h : Brd r c l) : a5 r c l = true := by
 simp only [a5, sizeB, Bool.and_eq_true, decide_eq_true_eq]
 exact ⟨⟨⟨h.r1, h.r2⟩, ⟨h.c1, h.c2⟩, h.len⟩, h.all⟩
theorem al {r c i j : Int} (h0 : 0 ≤ i) (h1 : i < r) (h2 : 0 ≤ j) (h3 : j < c) : 0 ≤ i * c + j ∧ i * c + j < r * c := by
 have a : 0 ≤ i * c := Int.mul_nonneg h0 (by omega)
 have b : (i + 1) * c ≤ r * c := Int.mul_le_mul_of_nonneg_right (by omega) (by omega)
 rw [Int.add_mul, Int.one_mul] at b
 omega

theorem bE (a b : Int) : impl_IsCell.f a b = some (goodB a b) := by
 unfold impl_IsCell.f goodB
 by_cases h0 : a < 0
 ·rw [if_pos h0]; simp; omega
 rw [if_neg h0]
 by_cases h1 : a > 7
 ·rw [if_pos h1]; simp; omega
 rw [if_neg h1]
 by_cases h2 : b < 0
 ·rw [if_pos h2]; simp; omega
 rw [if_neg h2]
 by_cases h3 : b > 1
 ·rw [if_pos h3]; simp; omega
 rw [if_neg h3]
 by_cases h4 : b = 0
 ·rw [if_pos h4]; simp; omega
 rw [if_neg h4]
 by_cases h5 : a = 3
 ·rw [if_pos h5]; simp; omega
 rw [if_neg h5]
 by_cases h6 : a = 6
 ·simp [h6]; omega
 ·simp [h5, h6, h4]

theorem ac (x : S71) : impl_IsCell.f x.f0 x.f1 = some (goodC x) := bE _ _
theorem aj (a : List S71) (hn : a.length ≤ 1048576) : ∀ (d i : Nat), a.length - i = d → i ≤ a.length →
 Ev (fun k => impl_validCells.l0 k a (a.length : Int) (i : Int)) ((a.drop i).all goodC) := by
 intro d
 induction d with
 | zero =>
  intro i hd hi
  refine a8 0 fun k _ => ?_
  simp only [impl_validCells.l0]
  rw [if_neg (by omega), List.drop_of_length_le (by omega)]
  simp
 | succ d ih =>
  intro i hd hi
  have hlt : i < a.length := by omega
  have h := ih (i + 1) (by omega) (by omega)
  rw [aI a z71 hlt, List.all_cons]
  by_cases hg : goodC (a.getD i z71) = true
  ·rw [hg, Bool.true_and]
   refine a4 0 h fun k _ => ?_
   simp only [impl_validCells.l0, rd_T71, Int.toNat_natCast, ac, Option.bind_some]
   rw [if_pos (by omega), if_pos (by omega), if_pos (by omega), if_pos hg, a7 hlt (by omega)]
  ·rw [Bool.eq_false_iff.2 hg, Bool.false_and]
   refine a8 0 fun k _ => ?_
   simp only [impl_validCells.l0, rd_T71, Int.toNat_natCast, ac, Option.bind_some]
   rw [if_pos (by omega), if_pos (by omega), if_pos (by omega), if_neg hg]
theorem ak (a : List S71) (hn : a.length ≤ 1048576) : Ev (fun k => impl_validCells.f k a) (a.all goodC && decide (a.length ≤ 90)) := by
 by_cases h : a.length ≤ 90
 ·rw [decide_eq_true h, Bool.and_true]
  refine aZ 0 (aj a hn a.length 0 (by omega) (by omega)) fun k _ => ?_
  simp only [impl_validCells.f]
  rw [if_neg (by omega)]
  rfl
 ·rw [decide_eq_false h, Bool.and_false]
  refine bi fun k => ?_
  simp only [impl_validCells.f]
  rw [if_pos (by omega)]

theorem bC (r c : Int) (l : List S71) (hn : l.length ≤ 1048576) : Ev (fun k => impl_IsBoard.f k r c l) (a5 r c l) := by
 obtain ⟨K, hK⟩ := aA (ak l hn)
 refine ⟨K, fun k hk => ?_⟩
 simp only [impl_IsBoard.f]
 by_cases h1 : r ≥ 1
 ·rw [if_pos h1]
  by_cases h2 : r ≤ 10
  ·rw [if_pos h2]
   by_cases h3 : c ≥ 1
   ·rw [if_pos h3]
    by_cases h4 : c ≤ 9
    ·have hm := aX h1 h2 h3 h4
     rw [if_pos h4, a3 (by omega) (by omega)]
     by_cases h5 : (l.length : Int) = r * c
     ·rw [if_pos h5, bindE (hK k hk)]
      have h6 : l.length ≤ 90 := by omega
      have h7 : 1 ≤ r := h1
      have h8 : 1 ≤ c := h3
      simp [a5, sizeB, h7, h2, h8, h4, h5, h6]
     ·rw [if_neg h5]
      simp [a5, sizeB, h5]
    ·rw [if_neg h4]
     simp [a5, sizeB, h4]
   ·rw [if_neg h3]
    have h3' : ¬ 1 ≤ c := h3
    simp [a5, sizeB, h3']
  ·rw [if_neg h2]
   simp [a5, sizeB, h2]
 ·rw [if_neg h1]
  have h1' : ¬ 1 ≤ r := h1
  simp [a5, sizeB, h1']

theorem aa (a lo hi : Int) : spec_l1In.f a lo hi = some (decide (lo ≤ a ∧ a ≤ hi)) := by
 unfold spec_l1In.f
 by_cases h : a ≥ lo
 ·rw [if_pos h]
  simp [show lo ≤ a from h]
 ·rw [if_neg h]
  simp [show ¬ lo ≤ a from h]

def turnB (a : Int) : Bool := decide (a = 3 ∨ a = 6)
theorem ao (a b : Int) : spec_paTurning.f a b = some (turnB a) := by
 unfold spec_paTurning.f turnB
 by_cases h : a = 3
 ·simp [h]
 ·rw [if_neg h]
  by_cases h6 : a = 6 <;> simp [h, h6]

theorem bG (a b : Int) : spec_paGood.f a b = some (goodB a b) := by
 unfold spec_paGood.f
 rw [aa, Option.bind_some]
 by_cases h : 0 ≤ a ∧ a ≤ 7
 ·rw [decide_eq_true h, if_pos rfl]
  by_cases h0 : b = 0
  ·rw [if_pos h0]
   simp [goodB, h, h0]
  ·rw [if_neg h0]
   by_cases h1 : b = 1
   ·rw [if_pos h1, ao, Option.bind_some]
    simp [goodB, turnB, h, h1]
   ·rw [if_neg h1]
    simp [goodB, h0, h1]
 ·rw [decide_eq_false h, if_neg (by simp)]
  simp [goodB, h]

theorem ai (x : S71) : spec_paGood.f x.f0 x.f1 = some (goodC x) := bG _ _
theorem bJ (a : List S71) (hn : a.length ≤ 1048576) : ∀ (d i : Nat), a.length - i = d → i ≤ a.length →
 Ev (fun k => spec_boGood.l0 k a (a.length : Int) (i : Int)) ((a.drop i).all goodC) := by
 intro d
 induction d with
 | zero =>
  intro i hd hi
  refine a8 0 fun k _ => ?_
  simp only [spec_boGood.l0]
  rw [if_neg (by omega), List.drop_of_length_le (by omega)]
  simp
 | succ d ih =>
  intro i hd hi
  have hlt : i < a.length := by omega
  have h := ih (i + 1) (by omega) (by omega)
  rw [aI a z71 hlt, List.all_cons]
  by_cases hg : goodC (a.getD i z71) = true
  ·rw [hg, Bool.true_and]
   refine a4 0 h fun k _ => ?_
   simp only [spec_boGood.l0, rd_T71, Int.toNat_natCast, ai, Option.bind_some]
   rw [if_pos (by omega), if_pos (by omega), if_pos (by omega), if_pos hg, a7 hlt (by omega)]
  ·rw [Bool.eq_false_iff.2 hg, Bool.false_and]
   refine a8 0 fun k _ => ?_
   simp only [spec_boGood.l0, rd_T71, Int.toNat_natCast, ai, Option.bind_some]
   rw [if_pos (by omega), if_pos (by omega), if_pos (by omega), if_neg hg]
theorem bF (r c : Int) (l : List S71) (hn : l.length ≤ 1048576) : Ev (fun k => spec_boGood.f k r c l) (a5 r c l) := by
 obtain ⟨K, hK⟩ := aA (bJ l hn l.length 0 (by omega) (by omega))
 refine ⟨K + 1, fun k hk => ?_⟩
 obtain ⟨k, rfl⟩ : ∃ m, k = m + 1 := ⟨k - 1, by omega⟩
 have hK' := hK k (by omega)
 simp only [spec_boGood.f, aa, Option.bind_some, spec_boGood.j0, aD]
 by_cases h1 : 1 ≤ r ∧ r ≤ 10
 ·rw [decide_eq_true h1, aD]
  by_cases h2 : 1 ≤ c ∧ c ≤ 9
  ·rw [decide_eq_true h2, aD]
   have hm := aX h1.1 h1.2 h2.1 h2.2
   rw [a3 (by omega) (by omega)]
   by_cases h5 : (l.length : Int) = r * c
   ·have h6 : ((l.length : Int) != r * c) = false := by simp [h5]
    rw [h6, if_neg (by simp)]
    refine hK'.trans ?_
    simp [a5, sizeB, h1, h2, h5]
   ·have h6 : ((l.length : Int) != r * c) = true := by simp [h5]
    rw [h6, aD]
    simp [a5, sizeB, h5]
  ·rw [decide_eq_false h2, if_neg (by simp)]
   simp [a5, sizeB, h2]
 ·rw [decide_eq_false h1, if_neg (by simp)]
  simp [a5, sizeB, h1]



theorem bl {i j C : Nat} (h : i * C + j ≤ 1000000) : wrap64 (wrap64 ((i : Int) * (C : Int)) + (j : Int)) = ((i * C + j : Nat) : Int) := by
 rw [show (i : Int) * (C : Int) = ((i * C : Nat) : Int) by simp]
 generalize i * C = n at h ⊢
 rw [a3 (x := (n : Int)) (by omega) (by omega), a3 (x := (n : Int) + (j : Int)) (by omega) (by omega)]
 omega
theorem bk {i j C : Nat} (hj : j < C) (h : i * C + C ≤ 1000000) : wrap64 (wrap64 (wrap64 (wrap64 ((i : Int) * (C : Int)) + (C : Int)) - 1) - (j : Int)) = ((i * C + (C - 1 - j) : Nat) : Int) := by
 rw [show (i : Int) * (C : Int) = ((i * C : Nat) : Int) by simp]
 generalize i * C = n at h ⊢
 rw [a3 (x := (n : Int)) (by omega) (by omega), a3 (x := (n : Int) + (C : Int)) (by omega) (by omega), a3 (x := (n : Int) + (C : Int) - 1) (by omega) (by omega), a3 (x := (n : Int) + (C : Int) - 1 - (j : Int)) (by omega) (by omega)]
 omega
theorem bN {R C i j : Nat} (hi : i < R) (hj : j < C) : i * C + j < R * C := by
 have h : (i + 1) * C ≤ R * C := Nat.mul_le_mul_right C hi
 rw [Nat.succ_mul] at h
 omega
theorem bp {C i j : Nat} (hj : j < C) : (i * C + j) / C = i := by
 rw [Nat.add_comm, Nat.mul_comm, Nat.add_mul_div_left _ _ (by omega), Nat.div_eq_of_lt hj, Nat.zero_add]
theorem bm {C i j : Nat} (hj : j < C) : (i * C + j) % C = j := by
 rw [Nat.add_comm, Nat.mul_comm, Nat.add_mul_mod_self_left, Nat.mod_eq_of_lt hj]
theorem bY {r c : Int} {l : List S71} (b : Brd r c l) : ∃ R C : Nat, r = R ∧ c = C ∧ l.length = R * C ∧ 1 ≤ R ∧ R ≤ 10 ∧ 1 ≤ C ∧ C ≤ 9 := by
 have h1 := b.r1; have h2 := b.r2; have h3 := b.c1; have h4 := b.c2; have h5 := b.len
 obtain ⟨R, rfl⟩ : ∃ R : Nat, r = R := ⟨r.toNat, by omega⟩
 obtain ⟨C, rfl⟩ : ∃ C : Nat, c = C := ⟨c.toNat, by omega⟩
 refine ⟨R, C, rfl, rfl, ?_, by omega, by omega, by omega, by omega⟩
 have : ((l.length : Nat) : Int) = ((R * C : Nat) : Int) := by rw [h5]; simp
 exact Int.ofNat.inj this

def near (R C a : Nat) : List Nat :=
 (if a / C > 0 then [a - C] else []) ++ ((if a % C > 0 then [a - 1] else []) ++ ((if a % C + 1 < C then [a + 1] else []) ++ (if a / C + 1 < R then [a + C] else [])))
theorem ap {R C a : Nat} (hC : 1 ≤ C) (ha : a < R * C) : ∀ n ∈ near R C a, n < R * C := by
 intro n hn
 have hd := Nat.div_add_mod a C
 have hm := Nat.mod_lt a (show C > 0 by omega)
 rw [Nat.mul_comm] at hd
 have hr : a / C < R := by
  apply Nat.div_lt_of_lt_mul
  rwa [Nat.mul_comm]
 simp only [near, List.mem_append] at hn
 rcases hn with h | h | h | h
 ·split at h
  ·simp at h; omega
  ·simp at h
 ·split at h
  ·simp at h; omega
  ·simp at h
 ·split at h
  ·rename_i h1
   simp at h
   have := bN (R := R) hr h1
   omega
  ·simp at h
 ·split at h
  ·rename_i h1
   simp at h
   have := bN (R := R) h1 hm
   rw [Nat.succ_mul] at this
   omega
  ·simp at h
theorem aM (R C a : Nat) : (near R C a).length ≤ 4 := by
 unfold near
 split <;> split <;> split <;> split <;> simp
def castL (l : List Nat) : List Int := l.map fun n : Nat => ((n : Nat) : Int)
theorem a2 (l : List Nat) : (castL l).length = l.length := by simp [castL]
theorem aP (a b : List Nat) : castL (a ++ b) = castL a ++ castL b := by simp [castL]
theorem aK (l : List Nat) {j : Nat} (h : j < l.length) : rd (castL l) (j : Int) = ((l.getD j 0 : Nat) : Int) := by
 simp [rd, castL, List.getD_eq_getElem?_getD, h]
theorem bh (l : List Nat) (j : Nat) : (castL l).drop j = castL (l.drop j) := by simp [castL]

def gearB (x : S71) : Bool := decide (x.f0 = 6 ∨ x.f0 = 7)
def neg (out : List Int) : Nat := out.countP fun x => decide (x < 0)
theorem aW {out : List Int} {n : Nat} (h : n < out.length) (hn : out.getD n 0 < 0) {c : Int} (hc : 0 ≤ c) : neg (out.set n c) + 1 = neg out := by
 unfold neg
 rw [List.countP_set h]
 rw [List.getD_eq_getElem?_getD, List.getElem?_eq_getElem h] at hn
 have hn' : out[n] < 0 := hn
 have hp : 0 < out.countP (fun x => decide (x < 0)) := List.countP_pos_iff.2 ⟨out[n], List.getElem_mem h, by simp [hn']⟩
 rw [if_pos (by simp [hn']), if_neg (by simp; omega)]
 omega
def push (l : List S71) (c : Int) : List Int → List Nat → List Int × List Nat
 | out, [] => (out, [])
 | out, n :: ns => if (gearB (l.getD n z71) && decide (out.getD n 0 < 0)) = true then ((push l c (out.set n c) ns).1, n :: (push l c (out.set n c) ns).2) else push l c out ns
theorem aT (l : List S71) (c : Int) : ∀ (ns : List Nat) (out : List Int), (push l c out ns).1.length = out.length
 | [], _ => rfl
 | n :: ns, out => by
  unfold push
  split
  ·simp [aT l c ns]
  ·exact aT l c ns out
theorem av (l : List S71) {c : Int} (hc : 0 ≤ c) : ∀ (ns : List Nat) (out : List Int), (∀ n ∈ ns, n < out.length) → neg (push l c out ns).1 + (push l c out ns).2.length = neg out
 | [], _, _ => rfl
 | n :: ns, out, h => by
  unfold push
  split
  ·rename_i hg
   simp only [Bool.and_eq_true, decide_eq_true_eq] at hg
   have h1 := av l hc ns (out.set n c) (fun m hm => by rw [List.length_set]; exact h m (List.mem_cons_of_mem _ hm))
   have h2 := aW (h n List.mem_cons_self) hg.2 hc
   simp only [List.length_cons]
   omega
  ·exact av l hc ns out fun m hm => h m (List.mem_cons_of_mem _ hm)
theorem ae (l : List S71) (c : Int) : ∀ (ns : List Nat) (out : List Int), ∀ m ∈ (push l c out ns).2, m ∈ ns
 | [], _, m, hm => by simp [push] at hm
 | n :: ns, out, m, hm => by
  unfold push at hm
  split at hm
  ·rcases List.mem_cons.1 hm with rfl | h
   ·exact List.mem_cons_self
   ·exact List.mem_cons_of_mem _ (ae l c ns _ m h)
  ·exact List.mem_cons_of_mem _ (ae l c ns _ m hm)
def bfs (l : List S71) (R C : Nat) (c : Int) : Nat → List Int → List Nat → List Int
 | 0, out, _ => out
 | _ + 1, out, [] => out
 | f + 1, out, a :: q => bfs l R C c f (push l c out (near R C a)).1 (q ++ (push l c out (near R C a)).2)
theorem ad (l : List S71) (R C : Nat) (c : Int) : ∀ (f : Nat) (out : List Int) (q : List Nat), (bfs l R C c f out q).length = out.length
 | 0, _, _ => rfl
 | _ + 1, _, [] => rfl
 | f + 1, out, a :: q => by rw [bfs, ad l R C c f, aT]
def aB (l : List S71) (R C : Nat) : Nat → Nat → List Int → Int → List Int
 | 0, _, out, _ => out
 | d + 1, i, out, c => if (gearB (l.getD i z71) && decide (out.getD i 0 < 0)) = true then aB l R C d (i + 1) (bfs l R C c (l.length + 1) (out.set i c) [i]) (c + 1) else aB l R C d (i + 1) out c
def aO (l : List S71) (R C : Nat) : List Int := aB l R C l.length 0 (List.replicate l.length (-1)) 0
theorem aG (l : List S71) (R C : Nat) : ∀ (d i : Nat) (out : List Int) (c : Int), (aB l R C d i out c).length = out.length
 | 0, _, _, _ => rfl
 | d + 1, i, out, c => by
  unfold aB
  split
  ·rw [aG l R C d, ad, List.length_set]
  ·exact aG l R C d _ _ _
theorem bK (l : List S71) (R C : Nat) : (aO l R C).length = l.length := by
 rw [aO, aG, List.length_replicate]
theorem bR (out : List Int) : neg out ≤ out.length := List.countP_le_length
theorem aF (out : List Int) (n : Nat) : rd out (n : Int) = out.getD n 0 := by rw [rd, Int.toNat_natCast]

theorem aR (out : List Int) (n j : Nat) (v : Int) : (out.set n v).getD j 0 = if n = j ∧ n < out.length then v else out.getD j 0 := by
 rw [List.getD_eq_getElem?_getD, List.getD_eq_getElem?_getD, List.getElem?_set]
 by_cases h : n = j
 ·subst h
  by_cases hl : n < out.length
  ·simp [hl]
  ·simp [hl]
 ·simp [h]
structure Marked (l : List S71) (c : Int) (out : List Int) : Prop where
 len : out.length = l.length
 lo : ∀ j, j < l.length → -1 ≤ out.getD j 0
 hi : ∀ j, j < l.length → out.getD j 0 < c
 ng : ∀ j, j < l.length → gearB (l.getD j z71) = false → out.getD j 0 < 0
theorem af {l : List S71} {c : Int} {out : List Int} (h : Marked l (c + 1) out) (hc : 0 ≤ c) {n : Nat} (hn : n < l.length) (hg : gearB (l.getD n z71) = true) : Marked l (c + 1) (out.set n c) := by
 refine ⟨by rw [List.length_set]; exact h.len, fun j hj => ?_, fun j hj => ?_, fun j hj hf => ?_⟩
 ·rw [aR]
  split
  ·omega
  ·exact h.lo j hj
 ·rw [aR]
  split
  ·omega
  ·exact h.hi j hj
 ·rw [aR]
  split
  ·rename_i e
   rw [e.1, hf] at hg
   cases hg
  ·exact h.ng j hj hf
theorem aS {l : List S71} {c : Int} (hc : 0 ≤ c) : ∀ (ns : List Nat) (out : List Int), (∀ n ∈ ns, n < l.length) → Marked l (c + 1) out → Marked l (c + 1) (push l c out ns).1 ∧ ∀ j, 0 ≤ out.getD j 0 → 0 ≤ (push l c out ns).1.getD j 0
 | [], out, _, h => ⟨h, fun _ h => h⟩
 | n :: ns, out, hns, h => by
  have hns' : ∀ m ∈ ns, m < l.length := fun m hm => hns m (List.mem_cons_of_mem _ hm)
  unfold push
  split
  ·rename_i hg
   simp only [Bool.and_eq_true, decide_eq_true_eq] at hg
   obtain ⟨h1, h2⟩ := aS hc ns (out.set n c) hns' (af h hc (hns n List.mem_cons_self) hg.1)
   refine ⟨h1, fun j hj => h2 j ?_⟩
   rw [aR]
   split
   ·exact hc
   ·exact hj
  ·exact aS hc ns out hns' h
theorem ag {l : List S71} {R C : Nat} (hlen : l.length = R * C) (hC : 1 ≤ C) {c : Int} (hc : 0 ≤ c) : ∀ (f : Nat) (out : List Int) (q : List Nat), (∀ n ∈ q, n < l.length) → Marked l (c + 1) out → Marked l (c + 1) (bfs l R C c f out q) ∧ ∀ j, 0 ≤ out.getD j 0 → 0 ≤ (bfs l R C c f out q).getD j 0
 | 0, out, _, _, h => ⟨h, fun _ h => h⟩
 | _ + 1, out, [], _, h => ⟨h, fun _ h => h⟩
 | f + 1, out, a :: q, hq, h => by
  have hnl : ∀ n ∈ near R C a, n < l.length := fun n hn => by
   have := ap hC (by rw [← hlen]; exact hq a List.mem_cons_self) n hn
   omega
  obtain ⟨h1, h2⟩ := aS hc (near R C a) out hnl h
  obtain ⟨h3, h4⟩ := ag hlen hC hc f (push l c out (near R C a)).1 (q ++ (push l c out (near R C a)).2) (fun n hn => by
   rcases List.mem_append.1 hn with h | h
   ·exact hq n (List.mem_cons_of_mem _ h)
   ·exact hnl n (ae l c _ out n h)) h1
  exact ⟨h3, fun j hj => h4 j (h2 j hj)⟩
theorem aQ {l : List S71} {c c' : Int} {out : List Int} (h : Marked l c out) (hc : c ≤ c') : Marked l c' out := ⟨h.len, h.lo, fun j hj => by have := h.hi j hj; omega, h.ng⟩
theorem aH {l : List S71} {R C : Nat} (hlen : l.length = R * C) (hC : 1 ≤ C) : ∀ (d i : Nat) (out : List Int) (c : Int), i + d = l.length → 0 ≤ c → Marked l c out → (∀ j, j < i → gearB (l.getD j z71) = true → 0 ≤ out.getD j 0) →
 Marked l (c + d) (aB l R C d i out c) ∧ ∀ j, j < l.length → gearB (l.getD j z71) = true → 0 ≤ (aB l R C d i out c).getD j 0
 | 0, i, out, c, hi, _, h, hd => ⟨by simpa [aB] using h, fun j hj => hd j (by omega)⟩
 | d + 1, i, out, c, hi, hc, h, hd => by
  unfold aB
  split
  ·rename_i hg
   simp only [Bool.and_eq_true, decide_eq_true_eq] at hg
   have hs := af (aQ h (show c ≤ c + 1 by omega)) hc (show i < l.length by omega) hg.1
   obtain ⟨h1, h2⟩ := ag hlen hC hc (l.length + 1) (out.set i c) [i] (fun n hn => by simp at hn; omega) hs
   have e : out.getD i 0 < 0 := hg.2
   obtain ⟨h3, h4⟩ := aH hlen hC d (i + 1) (bfs l R C c (l.length + 1) (out.set i c) [i]) (c + 1) (by omega) (by omega) h1 (fun j hj hgj => h2 j (by
    rw [aR]
    split
    ·exact hc
    ·rename_i hne
     have : j ≠ i := fun e => hne ⟨e.symm, by rw [h.len]; omega⟩
     exact hd j (by omega) hgj))
   exact ⟨aQ h3 (by omega), h4⟩
  ·rename_i hg
   obtain ⟨h3, h4⟩ := aH hlen hC d (i + 1) out c (by omega) hc h (fun j hj hgj => by
    by_cases e : j = i
    ·subst e
     simp only [Bool.and_eq_true, decide_eq_true_eq, hgj, true_and] at hg
     omega
    ·exact hd j (by omega) hgj)
   exact ⟨aQ h3 (by omega), h4⟩
theorem aY {l : List S71} {R C : Nat} (hlen : l.length = R * C) (hC : 1 ≤ C) : Marked l l.length (aO l R C) ∧ ∀ j, j < l.length → gearB (l.getD j z71) = true → 0 ≤ (aO l R C).getD j 0 := by
 have e : ∀ j, j < l.length → (List.replicate l.length (-1 : Int)).getD j 0 = -1 := fun j hj => by simp [List.getD_eq_getElem?_getD, hj]
 have h : Marked l 0 (List.replicate l.length (-1)) := ⟨by simp, fun j hj => by rw [e j hj]; omega, fun j hj => by rw [e j hj]; omega, fun j hj _ => by rw [e j hj]; omega⟩
 obtain ⟨h1, h2⟩ := aH hlen hC l.length 0 (List.replicate l.length (-1)) 0 (by omega) (by omega) h (fun j hj => by omega)
 exact ⟨by simpa [aO] using h1, h2⟩
theorem bg {l : List S71} {R C : Nat} (hlen : l.length = R * C) (hC : 1 ≤ C) {j : Nat} (hj : j < l.length) : decide ((aO l R C).getD j 0 < 0) = !gearB (l.getD j z71) := by
 obtain ⟨h1, h2⟩ := aY hlen hC
 cases hg : gearB (l.getD j z71)
 ·simpa using h1.ng j hj hg
 ·simpa using h2 j hj hg

theorem a6 (a : List Int) {v : Nat} (h : v < a.length) (c : Int) : (a.set v c).getD v 0 = c := by simp [List.getD_eq_getElem?_getD, h]
theorem a1 (a : List Int) {v n : Nat} (h : n ≠ v) (c : Int) : (a.set v c).getD n 0 = a.getD n 0 := by
 simp only [List.getD_eq_getElem?_getD, List.getElem?_set_ne (Ne.symm h)]
theorem aC {x : S71} (h : x.f0 = 0) : gearB x = false := by simp [gearB, h]
def CRel (l : List S71) (R C : Nat) (cost : List Int) (t : Nat → Nat) (p v : Nat) : Prop :=
 p < l.length ∧ 0 ≤ cost.getD p 0 ∧ t p < t v ∧ v ∈ near R C p ∧ ((gearB (l.getD v z71) = true ∧ cost.getD v 0 = cost.getD p 0) ∨ ((l.getD v z71).f0 = 0 ∧ cost.getD v 0 = cost.getD p 0 + 1))
def aV (l : List S71) (R C : Nat) (cost : List Int) (i : Nat) : Prop :=
 ∀ n ∈ near R C i, (gearB (l.getD n z71) = true → 0 ≤ cost.getD n 0 ∧ cost.getD n 0 ≤ cost.getD i 0) ∧ ((l.getD n z71).f0 = 0 → 0 ≤ cost.getD n 0 ∧ cost.getD n 0 ≤ cost.getD i 0 + 1)
structure CTree (l : List S71) (R C src : Nat) (cost : List Int) : Prop where
 len : cost.length = l.length
 start : cost.getD src 0 = 0
 tree : ∃ t : Nat → Nat, ∀ v, v < l.length → 0 ≤ cost.getD v 0 → t v + neg cost < l.length ∧ (v = src ∨ ∃ p, CRel l R C cost t p v)
structure CFinal (l : List S71) (R C src : Nat) (cost : List Int) : Prop where
 tree : CTree l R C src cost
 closed : ∀ i, i < l.length → 0 ≤ cost.getD i 0 → aV l R C cost i
theorem CTree.set {l : List S71} {R C src : Nat} {cost : List Int} (h : CTree l R C src cost) {v p : Nat} {c : Int} (hv : v < l.length) (hn : cost.getD v 0 < 0) (hp : p < l.length) (hp0 : 0 ≤ cost.getD p 0) (hnear : v ∈ near R C p) (hc : 0 ≤ c)
 (hr : (gearB (l.getD v z71) = true ∧ c = cost.getD p 0) ∨ ((l.getD v z71).f0 = 0 ∧ c = cost.getD p 0 + 1)) : CTree l R C src (cost.set v c) := by
 obtain ⟨hl, hs, t, ht⟩ := h
 have hvl : v < cost.length := by omega
 have hneg := aW hvl hn hc
 have hle := bR cost
 have hpv : p ≠ v := by rintro rfl; omega
 have hsv : src ≠ v := by rintro rfl; omega
 obtain ⟨u, huv, hun⟩ : ∃ u : Nat → Nat, u v = l.length - neg cost ∧ ∀ x, x ≠ v → u x = t x := ⟨fun x => if x = v then l.length - neg cost else t x, if_pos rfl, fun x hx => if_neg hx⟩
 refine ⟨by rw [List.length_set]; exact hl, by rw [a1 _ hsv]; exact hs, u, fun x hx hx0 => ?_⟩
 by_cases hxv : x = v
 ·subst hxv
  refine ⟨by omega, .inr ⟨p, hp, by rw [a1 _ hpv]; exact hp0, ?_, hnear, ?_⟩⟩
  ·have := (ht p hp hp0).1
   rw [huv, hun p hpv]; omega
  ·rw [a6 _ hvl, a1 _ hpv]; exact hr
 ·rw [a1 _ hxv] at hx0
  obtain ⟨h1, h2⟩ := ht x hx hx0
  refine ⟨by rw [hun x hxv]; omega, ?_⟩
  rcases h2 with rfl | ⟨q, hq, hq0, htq, hqn, hqr⟩
  ·exact .inl rfl
  ·have hqv : q ≠ v := by rintro rfl; omega
   exact .inr ⟨q, hq, by rw [a1 _ hqv]; exact hq0, by rw [hun q hqv, hun x hxv]; exact htq, hqn, by rw [a1 _ hxv, a1 _ hqv]; exact hqr⟩
structure LInv (l : List S71) (R C src : Nat) (cost : List Int) (layer : List Nat) (lv : Int) : Prop where
 tree : CTree l R C src cost
 lv0 : 0 ≤ lv
 le : ∀ v, v < l.length → cost.getD v 0 ≤ lv
 lay : ∀ v ∈ layer, v < l.length ∧ cost.getD v 0 = lv
 closed : ∀ i, i < l.length → 0 ≤ cost.getD i 0 → i ∉ layer → aV l R C cost i
theorem LInv.done {l : List S71} {R C src : Nat} {cost : List Int} {lv : Int} (h : LInv l R C src cost [] lv) : CFinal l R C src cost := ⟨h.tree, fun i hi h0 => h.closed i hi h0 (by simp)⟩
def CSeen (l : List S71) (cost : List Int) (lv : Int) (next : List Nat) (n : Nat) : Prop :=
 (gearB (l.getD n z71) = true → 0 ≤ cost.getD n 0 ∧ cost.getD n 0 ≤ lv) ∧ ((l.getD n z71).f0 = 0 → (0 ≤ cost.getD n 0 ∧ cost.getD n 0 ≤ lv + 1) ∨ n ∈ next)
structure QInv (l : List S71) (R C src : Nat) (cost : List Int) (layer next : List Nat) (lv : Int) (k j : Nat) : Prop where
 tree : CTree l R C src cost
 lv0 : 0 ≤ lv
 le : ∀ v, v < l.length → cost.getD v 0 ≤ lv
 lay : ∀ v ∈ layer, v < l.length ∧ cost.getD v 0 = lv
 closed : ∀ i, i < l.length → 0 ≤ cost.getD i 0 → i ∉ layer → aV l R C cost i
 seen : ∀ m, m < k → m < layer.length → ∀ n ∈ near R C (layer.getD m 0), CSeen l cost lv next n
 part : k < layer.length → ∀ n ∈ (near R C (layer.getD k 0)).take j, CSeen l cost lv next n
 nxt : ∀ n ∈ next, n < l.length ∧ (l.getD n z71).f0 = 0 ∧ ∃ p, p < l.length ∧ cost.getD p 0 = lv ∧ n ∈ near R C p
 room : layer.length + neg cost ≤ l.length
theorem CSeen.set {l : List S71} {cost : List Int} {lv : Int} {next : List Nat} {n v : Nat} (h : CSeen l cost lv next n) (hv : v < cost.length) (hn : cost.getD v 0 < 0) (hg : gearB (l.getD v z71) = true) (h0 : 0 ≤ lv) : CSeen l (cost.set v lv) lv next n := by
 by_cases e : n = v
 ·subst e
  exact ⟨fun _ => by rw [a6 _ hv]; omega, fun h' => by rw [aC h'] at hg; cases hg⟩
 ·unfold CSeen
  rw [a1 _ e]; exact h
theorem aV.set {l : List S71} {R C : Nat} {cost : List Int} {i v : Nat} {c : Int} (h : aV l R C cost i) (hi : 0 ≤ cost.getD i 0) (hn : cost.getD v 0 < 0) (hg : gearB (l.getD v z71) = true) : aV l R C (cost.set v c) i := by
 have hiv : i ≠ v := by rintro rfl; omega
 intro n hnear
 by_cases e : n = v
 ·subst e
  have := (h n hnear).1 hg
  omega
 ·rw [a1 _ e, a1 _ hiv]; exact h n hnear
theorem CSeen.more {l : List S71} {cost : List Int} {lv : Int} {next : List Nat} {n m : Nat} (h : CSeen l cost lv next n) : CSeen l cost lv (next ++ [m]) n :=
 ⟨h.1, fun h0 => (h.2 h0).imp id fun h1 => List.mem_append_left _ h1⟩
theorem aN (a b : List Nat) {m : Nat} (h : m < a.length) : (a ++ b).getD m 0 = a.getD m 0 := by
 simp only [List.getD_eq_getElem?_getD, List.getElem?_append_left h]
theorem aE {a : List Nat} {j n : Nat} (h : j < a.length) (hn : n ∈ a.take (j + 1)) : n ∈ a.take j ∨ n = a.getD j 0 := by
 rw [List.take_succ_eq_append_getElem h, List.mem_append] at hn
 refine hn.imp id fun h1 => ?_
 rw [List.getD_eq_getElem?_getD, List.getElem?_eq_getElem h]
 simpa using h1
theorem a9 {a : List Nat} {j : Nat} (h : j < a.length) : a.getD j 0 ∈ a := by
 rw [List.getD_eq_getElem?_getD, List.getElem?_eq_getElem h]; exact List.getElem_mem h
theorem QInv.skip {l : List S71} {R C src : Nat} {cost : List Int} {layer next : List Nat} {lv : Int} {k j : Nat} (h : QInv l R C src cost layer next lv k j) (hk : k < layer.length) (hj : j < (near R C (layer.getD k 0)).length)
 (hs : CSeen l cost lv next ((near R C (layer.getD k 0)).getD j 0)) : QInv l R C src cost layer next lv k (j + 1) :=
 { h with
  part := fun hk' n hn => by
   rcases aE hj hn with h1 | rfl
   ·exact h.part hk n h1
   ·exact hs }
theorem QInv.push {l : List S71} {R C src : Nat} {cost : List Int} {layer next : List Nat} {lv : Int} {k j v : Nat} (h : QInv l R C src cost layer next lv k j) (hk : k < layer.length) (hj : j < (near R C (layer.getD k 0)).length)
 (hv : v < l.length) (he : v = (near R C (layer.getD k 0)).getD j 0) (hn : cost.getD v 0 < 0) (hg : gearB (l.getD v z71) = true) : QInv l R C src (cost.set v lv) (layer ++ [v]) next lv k (j + 1) := by
 have hl := h.tree.len
 have hvl : v < cost.length := by omega
 have hat := h.lay _ (a9 hk)
 have hneg := aW hvl hn h.lv0
 have hnear : v ∈ near R C (layer.getD k 0) := by rw [he]; exact a9 hj
 refine ⟨h.tree.set hv hn hat.1 (by rw [hat.2]; exact h.lv0) hnear h.lv0 (.inl ⟨hg, hat.2.symm⟩), h.lv0, fun x hx => ?_, fun x hx => ?_, fun i hi h0 hni => ?_, fun m hm hml n hnn => ?_, fun hk' n hnn => ?_, fun n hnn => ?_, ?_⟩
 ·by_cases e : x = v
  ·subst e; rw [a6 _ hvl]; exact Int.le_refl _
  ·rw [a1 _ e]; exact h.le x hx
 ·rcases List.mem_append.1 hx with h1 | h1
  ·obtain ⟨a, b⟩ := h.lay x h1
   have e : x ≠ v := by rintro rfl; have := h.lv0; omega
   exact ⟨a, by rw [a1 _ e]; exact b⟩
  ·simp only [List.mem_singleton] at h1
   subst h1
   exact ⟨hv, a6 _ hvl _⟩
 ·rw [List.mem_append, List.mem_singleton, not_or] at hni
  rw [a1 _ hni.2] at h0
  exact (h.closed i hi h0 hni.1).set h0 hn hg
 ·have hmk : m < layer.length := by omega
  rw [aN _ _ hmk] at hnn
  exact (h.seen m hm hmk n hnn).set hvl hn hg h.lv0
 ·rw [aN _ _ hk] at hnn
  rcases aE hj hnn with h1 | h1
  ·exact (h.part hk n h1).set hvl hn hg h.lv0
  ·rw [h1, ← he]
   exact ⟨fun _ => by rw [a6 _ hvl]; exact ⟨h.lv0, Int.le_refl _⟩, fun h' => by rw [aC h'] at hg; cases hg⟩
 ·obtain ⟨a, b, p, hp, hpc, hpn⟩ := h.nxt n hnn
  have e : p ≠ v := by rintro rfl; have := h.lv0; omega
  exact ⟨a, b, p, hp, by rw [a1 _ e]; exact hpc, hpn⟩
 ·have := h.room
  rw [List.length_append, List.length_singleton]
  omega
theorem QInv.wait {l : List S71} {R C src : Nat} {cost : List Int} {layer next : List Nat} {lv : Int} {k j v : Nat} (h : QInv l R C src cost layer next lv k j) (hk : k < layer.length) (hj : j < (near R C (layer.getD k 0)).length)
 (hv : v < l.length) (he : v = (near R C (layer.getD k 0)).getD j 0) (hg : (l.getD v z71).f0 = 0) : QInv l R C src cost layer (next ++ [v]) lv k (j + 1) := by
 have hat := h.lay _ (a9 hk)
 have hnear : v ∈ near R C (layer.getD k 0) := by rw [he]; exact a9 hj
 refine ⟨h.tree, h.lv0, h.le, h.lay, h.closed, fun m hm hml n hnn => (h.seen m hm hml n hnn).more, fun hk' n hnn => ?_, fun n hnn => ?_, h.room⟩
 ·rcases aE hj hnn with h1 | h1
  ·exact (h.part hk n h1).more
  ·rw [h1, ← he]
   exact ⟨fun h' => by rw [aC hg] at h'; (cases h'), fun _ => .inr (List.mem_append_right _ (List.mem_singleton_self _))⟩
 ·rcases List.mem_append.1 hnn with h1 | h1
  ·exact h.nxt n h1
  ·simp only [List.mem_singleton] at h1
   subst h1
   exact ⟨hv, hg, _, hat.1, hat.2, hnear⟩
theorem QInv.row {l : List S71} {R C src : Nat} {cost : List Int} {layer next : List Nat} {lv : Int} {k : Nat} (h : QInv l R C src cost layer next lv k (near R C (layer.getD k 0)).length) : QInv l R C src cost layer next lv (k + 1) 0 :=
 { h with
  seen := fun m hm hml n hn => by
   by_cases e : m < k
   ·exact h.seen m e hml n hn
   ·obtain rfl : m = k := by omega
    exact h.part hml n (by rw [List.take_length]; exact hn)
  part := fun _ n hn => by simp at hn }
theorem LInv.enter {l : List S71} {R C src : Nat} {cost : List Int} {layer : List Nat} {lv : Int} (h : LInv l R C src cost layer lv) (hr : layer.length + neg cost ≤ l.length) : QInv l R C src cost layer [] lv 0 0 :=
 ⟨h.tree, h.lv0, h.le, h.lay, h.closed, fun _ hm => by omega, fun _ n hn => by simp at hn, fun n hn => by simp at hn, hr⟩
structure SInv (l : List S71) (R C src : Nat) (cost : List Int) (layer next : List Nat) (lv : Int) (m : Nat) : Prop where
 tree : CTree l R C src cost
 lv0 : 0 ≤ lv
 le : ∀ v, v < l.length → cost.getD v 0 ≤ lv ∨ v ∈ layer
 lay : ∀ v ∈ layer, v < l.length ∧ cost.getD v 0 = lv + 1
 closed : ∀ i, i < l.length → 0 ≤ cost.getD i 0 → cost.getD i 0 ≤ lv → ∀ n ∈ near R C i, (gearB (l.getD n z71) = true → 0 ≤ cost.getD n 0 ∧ cost.getD n 0 ≤ cost.getD i 0) ∧ ((l.getD n z71).f0 = 0 → (0 ≤ cost.getD n 0 ∧ cost.getD n 0 ≤ cost.getD i 0 + 1) ∨ (cost.getD i 0 = lv ∧ n ∈ next.drop m))
 nxt : ∀ n ∈ next, n < l.length ∧ (l.getD n z71).f0 = 0 ∧ ∃ p, p < l.length ∧ cost.getD p 0 = lv ∧ n ∈ near R C p
theorem QInv.leave {l : List S71} {R C src : Nat} {cost : List Int} {layer next : List Nat} {lv : Int} {k j : Nat} (h : QInv l R C src cost layer next lv k j) (hk : layer.length ≤ k) : SInv l R C src cost [] next lv 0 := by
 refine ⟨h.tree, h.lv0, fun v hv => .inl (h.le v hv), fun v hv => by simp at hv, fun i hi h0 hle n hn => ?_, h.nxt⟩
 by_cases e : i ∈ layer
 ·obtain ⟨m, hm, rfl⟩ := List.mem_iff_getElem.1 e
  have hl := (h.lay _ e).2
  have hs := h.seen m (by omega) hm n (by rw [List.getD_eq_getElem?_getD, List.getElem?_eq_getElem hm]; exact hn)
  rw [hl]
  exact ⟨hs.1, fun h' => (hs.2 h').imp id fun h1 => ⟨rfl, h1⟩⟩
 ·have hs := h.closed i hi h0 e n hn
  exact ⟨hs.1, fun h' => .inl (hs.2 h')⟩
theorem SInv.skip {l : List S71} {R C src : Nat} {cost : List Int} {layer next : List Nat} {lv : Int} {m : Nat} (h : SInv l R C src cost layer next lv m) (hm : m < next.length) (h0 : 0 ≤ cost.getD (next.getD m 0) 0) : SInv l R C src cost layer next lv (m + 1) := by
 refine ⟨h.tree, h.lv0, h.le, h.lay, fun i hi hi0 hle n hn => ⟨(h.closed i hi hi0 hle n hn).1, fun h' => ?_⟩, h.nxt⟩
 rcases (h.closed i hi hi0 hle n hn).2 h' with h1 | ⟨h1, h2⟩
 ·exact .inl h1
 ·rw [aI next 0 hm, List.mem_cons] at h2
  rcases h2 with rfl | h2
  ·refine .inl ⟨h0, ?_⟩
   rcases h.le _ (h.nxt _ (a9 hm)).1 with h3 | h3
   ·omega
   ·have := (h.lay _ h3).2
    omega
  ·exact .inr ⟨h1, h2⟩
theorem SInv.push {l : List S71} {R C src : Nat} {cost : List Int} {layer next : List Nat} {lv : Int} {m v : Nat} (h : SInv l R C src cost layer next lv m) (hm : m < next.length) (he : v = next.getD m 0) (hn : cost.getD v 0 < 0) : SInv l R C src (cost.set v (lv + 1)) (layer ++ [v]) next lv (m + 1) := by
 have hl := h.tree.len
 obtain ⟨hv, hg, p, hp, hpc, hpn⟩ := h.nxt v (by rw [he]; exact a9 hm)
 have h0 := h.lv0
 have hvl : v < cost.length := by omega
 refine ⟨h.tree.set hv hn hp (by omega) hpn (by omega) (.inr ⟨hg, by omega⟩), h0, fun x hx => ?_, fun x hx => ?_, fun i hi hi0 hle n hnn => ?_, fun n hnn => ?_⟩
 ·by_cases e : x = v
  ·exact .inr (by rw [e]; exact List.mem_append_right _ (List.mem_singleton_self _))
  ·rw [a1 _ e]; exact (h.le x hx).imp id fun h1 => List.mem_append_left _ h1
 ·rcases List.mem_append.1 hx with h1 | h1
  ·obtain ⟨a, b⟩ := h.lay x h1
   have e : x ≠ v := by rintro rfl; omega
   exact ⟨a, by rw [a1 _ e]; exact b⟩
  ·simp only [List.mem_singleton] at h1
   subst h1
   exact ⟨hv, a6 _ hvl _⟩
 ·by_cases ei : i = v
  ·subst ei
   rw [a6 _ hvl] at hle
   omega
  ·rw [a1 _ ei] at hi0 hle ⊢
   have hc := h.closed i hi hi0 hle n hnn
   by_cases e : n = v
   ·subst e
    rw [a6 _ hvl]
    refine ⟨fun h' => by rw [aC hg] at h'; (cases h'), fun h' => .inl ?_⟩
    rcases hc.2 h' with h1 | ⟨h1, _⟩
    ·omega
    ·omega
   ·rw [a1 _ e]
    refine ⟨hc.1, fun h' => (hc.2 h').imp id fun ⟨h1, h2⟩ => ⟨h1, ?_⟩⟩
    rw [aI next 0 hm, List.mem_cons] at h2
    rcases h2 with h2 | h2
    ·exact absurd (h2.trans he.symm) e
    ·exact h2
 ·obtain ⟨a, b, q, hq, hqc, hqn⟩ := h.nxt n hnn
  have e : q ≠ v := by rintro rfl; omega
  exact ⟨a, b, q, hq, by rw [a1 _ e]; exact hqc, hqn⟩
theorem SInv.leave {l : List S71} {R C src : Nat} {cost : List Int} {layer next : List Nat} {lv : Int} (h : SInv l R C src cost layer next lv next.length) : LInv l R C src cost layer (lv + 1) := by
 refine ⟨h.tree, by have := h.lv0; omega, fun v hv => ?_, h.lay, fun i hi h0 hni n hn => ?_⟩
 ·rcases h.le v hv with h1 | h1
  ·omega
  ·rw [(h.lay v h1).2]; exact Int.le_refl _
 ·rcases h.le i hi with h1 | h1
  ·have hc := h.closed i hi h0 h1 n hn
   refine ⟨hc.1, fun h' => ?_⟩
   rcases hc.2 h' with h2 | ⟨_, h2⟩
   ·exact h2
   ·simp at h2
  ·exact absurd h1 hni
structure BInv (l : List S71) (R C src : Nat) (cost : List Int) (t : Nat → Nat) (least : List Int) (r i j : Nat) : Prop where
 len : least.length = l.length
 start : 0 ≤ least.getD src 0 ∧ least.getD src 0 ≤ cost.getD src 0
 cap : ∀ n, least.getD n 0 ≤ ((400 * r + 4 * i + j : Nat) : Int)
 low : ∀ n, n < l.length → 0 ≤ least.getD n 0 → 0 ≤ cost.getD n 0 ∧ cost.getD n 0 ≤ least.getD n 0
 top : ∀ n, n < l.length → 0 ≤ cost.getD n 0 → t n ≤ r → 0 ≤ least.getD n 0 ∧ least.getD n 0 ≤ cost.getD n 0
 now : ∀ n p, n < l.length → 0 ≤ cost.getD n 0 → t n ≤ r + 1 → CRel l R C cost t p n → p < i → 0 ≤ least.getD n 0 ∧ least.getD n 0 ≤ cost.getD n 0
 part : ∀ n, n ∈ (near R C i).take j → n < l.length → 0 ≤ cost.getD n 0 → t n ≤ r + 1 → CRel l R C cost t i n → 0 ≤ least.getD n 0 ∧ least.getD n 0 ≤ cost.getD n 0
theorem BInv.stay {l : List S71} {R C src : Nat} {cost least : List Int} {t : Nat → Nat} {r i j : Nat} (h : BInv l R C src cost t least r i j) (hj : j < (near R C i).length)
 (hs : ∀ n, n = (near R C i).getD j 0 → n < l.length → 0 ≤ cost.getD n 0 → t n ≤ r + 1 → CRel l R C cost t i n → 0 ≤ least.getD n 0 ∧ least.getD n 0 ≤ cost.getD n 0) : BInv l R C src cost t least r i (j + 1) :=
 { h with
  cap := fun n => by have := h.cap n; omega
  part := fun n hn hl h0 ht hr => by
   rcases aE hj hn with h1 | h1
   ·exact h.part n h1 hl h0 ht hr
   ·exact hs n h1 hl h0 ht hr }
theorem BInv.set {l : List S71} {R C src : Nat} {cost least : List Int} {t : Nat → Nat} {r i j n : Nat} {v : Int} (h : BInv l R C src cost t least r i j) (hj : j < (near R C i).length) (hn : n < l.length) (he : n = (near R C i).getD j 0)
 (h0 : 0 ≤ v) (hc0 : 0 ≤ cost.getD n 0) (hcv : cost.getD n 0 ≤ v) (hless : least.getD n 0 < 0 ∨ v < least.getD n 0) (hr : CRel l R C cost t i n → t n ≤ r + 1 → v ≤ cost.getD n 0) (hcap : v ≤ ((400 * r + 4 * i + j + 1 : Nat) : Int)) : BInv l R C src cost t (least.set n v) r i (j + 1) := by
 have hnl : n < least.length := by rw [h.len]; exact hn
 have keep : ∀ x, (0 ≤ least.getD x 0 ∧ least.getD x 0 ≤ cost.getD x 0) → 0 ≤ (least.set n v).getD x 0 ∧ (least.set n v).getD x 0 ≤ cost.getD x 0 := by
  intro x hx
  by_cases e : x = n
  ·subst e; rw [a6 _ hnl]; omega
  ·rw [a1 _ e]; exact hx
 refine ⟨by rw [List.length_set]; exact h.len, keep src h.start, fun x => ?_, fun x hx hx0 => ?_, fun x hx hx0 ht => keep x (h.top x hx hx0 ht), fun x p hx hx0 ht hp hpi => keep x (h.now x p hx hx0 ht hp hpi), fun x hxn hx hx0 ht hp => ?_⟩
 ·by_cases e : x = n
  ·subst e; rw [a6 _ hnl]; omega
  ·rw [a1 _ e]; have := h.cap x; omega
 ·by_cases e : x = n
  ·subst e; rw [a6 _ hnl]; exact ⟨hc0, hcv⟩
  ·rw [a1 _ e] at hx0 ⊢; exact h.low x hx hx0
 ·rcases aE hj hxn with h1 | h1
  ·exact keep x (h.part x h1 hx hx0 ht hp)
  ·obtain rfl : x = n := h1.trans he.symm
   rw [a6 _ hnl]
   exact ⟨h0, hr hp ht⟩
theorem BInv.row {l : List S71} {R C src : Nat} {cost least : List Int} {t : Nat → Nat} {r i : Nat} (h : BInv l R C src cost t least r i (near R C i).length) : BInv l R C src cost t least r (i + 1) 0 :=
 { h with
  cap := fun n => by have := h.cap n; have := aM R C i; omega
  now := fun n p hn h0 ht hp hpi => by
   by_cases e : p < i
   ·exact h.now n p hn h0 ht hp e
   ·obtain rfl : p = i := by omega
    exact h.part n (by rw [List.take_length]; exact hp.2.2.2.1) hn h0 ht hp
  part := fun n hn => by simp at hn }
theorem BInv.none {l : List S71} {R C src : Nat} {cost least : List Int} {t : Nat → Nat} {r i : Nat} (h : BInv l R C src cost t least r i 0) (hi : least.getD i 0 < 0) : BInv l R C src cost t least r (i + 1) 0 :=
 { h with
  cap := fun n => by have := h.cap n; have := aM R C i; omega
  now := fun n p hn h0 ht hp hpi => by
   by_cases e : p < i
   ·exact h.now n p hn h0 ht hp e
   ·obtain rfl : p = i := by omega
    have := h.top p hp.1 hp.2.1 (by have := hp.2.2.1; omega)
    omega
  part := fun n hn => by simp at hn }
theorem BInv.round {l : List S71} {R C src : Nat} {cost least : List Int} {t : Nat → Nat} {r i : Nat} (h : BInv l R C src cost t least r i 0) (hi : l.length ≤ i) (h9 : i ≤ 90) (hs : ∀ v, v < l.length → 0 ≤ cost.getD v 0 → v = src ∨ ∃ p, CRel l R C cost t p v) : BInv l R C src cost t least (r + 1) 0 0 :=
 ⟨h.len, h.start, fun n => by have := h.cap n; omega, h.low, fun n hn hn0 ht => by
  rcases hs n hn hn0 with rfl | ⟨p, hp⟩
  ·exact h.start
  ·exact h.now n p hn hn0 ht hp (by have := hp.1; omega), fun _ p _ _ _ _ hp => by omega, fun n hn => by simp at hn⟩

theorem aq (R C a : Nat) (l : List S71) (hR : R ≤ 10) (hC1 : 1 ≤ C) (hC : C ≤ 9) (ha : a < R * C) (h90 : R * C ≤ 90) : Ev (fun k => impl_besideOf.f k (R : Int) (C : Int) l (a : Int)) (castL (near R C a)) := by
 have hm := Nat.mod_lt a (show C > 0 by omega)
 have hr : a / C < R := by
  apply Nat.div_lt_of_lt_mul
  rwa [Nat.mul_comm]
 have e1 : Int.tdiv (a : Int) (C : Int) = ((a / C : Nat) : Int) := rfl
 have e2 : Int.tmod (a : Int) (C : Int) = ((a % C : Nat) : Int) := rfl
 have hsub : a / C > 0 → C ≤ a := fun h => by
  have hd := Nat.div_add_mod a C
  have : C * 1 ≤ C * (a / C) := Nat.mul_le_mul_left C h
  omega
 refine ⟨2, fun k hk => ?_⟩
 obtain ⟨k, rfl⟩ : ∃ m, k = m + 1 + 1 := ⟨k - 2, by omega⟩
 simp only [impl_besideOf.f, Option.bind_some]
 rw [e1, e2]
 clear e1 e2
 have hpa : a % C > 0 → 1 ≤ a := fun h => by
  have := Nat.mod_le a C
  omega
 unfold near
 generalize a / C = q at *
 generalize a % C = p at *
 rw [if_neg (by omega), a3 (x := (q : Int)) (by omega) (by omega)]
 have j1 : ∀ (x : List Int), x.length ≤ 2 → impl_besideOf.j1 (k + 1) (a : Int) x (q : Int) (p : Int) (R : Int) (C : Int) l = some (x ++ castL ((if p + 1 < C then [a + 1] else []) ++ (if q + 1 < R then [a + C] else []))) := by
  intro x hx
  simp only [impl_besideOf.j1]
  rw [a3 (x := (p : Int) + 1) (by omega) (by omega), a3 (x := (q : Int) + 1) (by omega) (by omega), a3 (x := (a : Int) + 1) (by omega) (by omega), a3 (x := (a : Int) + (C : Int)) (by omega) (by omega)]
  by_cases h1 : p + 1 < C
  ·rw [if_pos (by omega), if_pos (by omega), if_pos h1, Option.bind_some]
   by_cases h2 : q + 1 < R
   ·rw [if_pos (by omega), if_pos h2, if_pos (by simp; omega)]
    simp [castL]
   ·rw [if_neg (by omega), if_neg h2]
    simp [castL]
  ·rw [if_neg (by omega), if_neg h1]
   by_cases h2 : q + 1 < R
   ·rw [if_pos (by omega), if_pos h2, if_pos (by omega)]
    simp [castL]
   ·rw [if_neg (by omega), if_neg h2]
    simp [castL]
 have j0 : ∀ (x : List Int), x.length ≤ 1 → impl_besideOf.j0 (k + 1 + 1) (a : Int) x (q : Int) (p : Int) (R : Int) (C : Int) l = some (x ++ castL ((if p > 0 then [a - 1] else []) ++ ((if p + 1 < C then [a + 1] else []) ++ (if q + 1 < R then [a + C] else [])))) := by
  intro x hx
  simp only [impl_besideOf.j0]
  by_cases h1 : p > 0
  ·rw [if_pos (by omega), if_pos (by omega), if_pos h1, j1 _ (by simp; omega), a3 (x := (a : Int) - 1) (by omega) (by omega)]
   have : ((a : Int) - 1) = ((a - 1 : Nat) : Int) := by have := hpa h1; omega
   rw [this]
   simp [castL]
  ·rw [if_neg (by omega), if_neg h1, j1 _ (by omega)]
   simp [castL]
 by_cases h0 : q > 0
 ·have := hsub h0
  rw [if_pos (by omega), if_pos (by simp), if_pos h0, j0 _ (by simp), a3 (x := (a : Int) - (C : Int)) (by omega) (by omega), show (a : Int) - (C : Int) = ((a - C : Nat) : Int) by omega]
  simp [castL]
 ·rw [if_neg (by omega), if_neg h0, j0 _ (by simp)]
  simp [castL]

theorem aU (x : S71) : impl_isGeared.f x.f0 x.f1 = some (gearB x) := by
 unfold impl_isGeared.f gearB
 by_cases h : x.f0 = 6
 ·simp [h]
 ·rw [if_neg h]
  by_cases h7 : x.f0 = 7 <;> simp [h, h7]

theorem bn {α : Type} (T l : List α) (z : α) {n : Nat} (h : n < T.length) (hl : T.length = l.length) : (T.take n ++ l.drop n).set n (T.getD n z) = T.take (n + 1) ++ l.drop (n + 1) := by
 have e1 : (T.take n).length = n := by simp; omega
 rw [List.set_append_right _ _ (by omega), e1, Nat.sub_self, aI l z (by omega), List.set_cons_zero]
 rw [List.take_succ_eq_append_getElem h, List.append_assoc, List.getD_eq_getElem?_getD, List.getElem?_eq_getElem h]
 rfl
theorem bj {α : Type} (T : List α) (z : α) {n : Nat} (h : n < T.length) : T.take n ++ [T.getD n z] = T.take (n + 1) := by
 rw [List.take_succ_eq_append_getElem h, List.getD_eq_getElem?_getD, List.getElem?_eq_getElem h]
 rfl
theorem bP {α : Type} (f : Nat → α) (z : α) {n m : Nat} (h : n < m) : ((List.range m).map f).getD n z = f n := by
 rw [List.getD_eq_getElem?_getD, List.getElem?_eq_getElem (by simpa using h)]
 simp

def cost0 (N src : Nat) : List Int := (List.replicate N (-1)).set src 0
theorem aJ {N src v : Nat} (hs : src < N) (hv : v < N) : (cost0 N src).getD v 0 = if v = src then 0 else -1 := by
 unfold cost0
 by_cases e : v = src
 ·subst e; rw [if_pos rfl, a6 _ (by simpa using hs)]
 ·rw [if_neg e, a1 _ e, List.getD_eq_getElem?_getD, List.getElem?_eq_getElem (by simpa using hv)]; simp
theorem an {N src : Nat} (hs : src < N) : neg (cost0 N src) + 1 ≤ N := by
 have h := aW (out := List.replicate N (-1)) (n := src) (by simpa using hs) (by rw [List.getD_eq_getElem?_getD, List.getElem?_eq_getElem (by simpa using hs)]; simp) (show (0 : Int) ≤ 0 by omega)
 have h2 := bR (List.replicate N (-1 : Int))
 rw [List.length_replicate] at h2
 unfold cost0
 omega
theorem aw {l : List S71} {R C src : Nat} (hs : src < l.length) : LInv l R C src (cost0 l.length src) [src] 0 := by
 have hn := an hs
 have one : ∀ v, v < l.length → 0 ≤ (cost0 l.length src).getD v 0 → v = src := fun v hv h0 => by
  rw [aJ hs hv] at h0
  by_cases e : v = src
  ·exact e
  ·rw [if_neg e] at h0; omega
 refine ⟨⟨by simp [cost0], by rw [aJ hs hs, if_pos rfl], fun _ => 0, fun v hv h0 => ⟨by show 0 + neg (cost0 l.length src) < l.length; omega, .inl (one v hv h0)⟩⟩, Int.le_refl _, fun v hv => ?_, fun v hv => ?_, fun i hi h0 hni => ?_⟩
 ·rw [aJ hs hv]
  split <;> omega
 ·simp only [List.mem_singleton] at hv
  subst hv
  exact ⟨hs, by rw [aJ hs hs, if_pos rfl]⟩
 ·exact absurd (by rw [one i hi h0]; exact List.mem_singleton_self _) hni
theorem bd {l : List S71} {R C src : Nat} (h90 : l.length ≤ 90) {lv : Int} (B : Nat)
 (H : ∀ (cost : List Int) (layer : List Nat), LInv l R C src cost layer (lv + 1) → layer.length + neg cost ≤ B → ∃ c, CFinal l R C src c ∧ Ev (fun k => impl_cogCosts.l1 k cost (castL layer) (R : Int) (C : Int) l) c) :
 ∀ (d m : Nat) (cost : List Int) (layer next : List Nat), next.length - m = d → m ≤ next.length → SInv l R C src cost layer next lv m → layer.length + neg cost ≤ B → layer.length + neg cost ≤ 90 → next.length ≤ 1000 →
 ∃ c, CFinal l R C src c ∧ Ev (fun k => impl_cogCosts.l4 k cost (castL layer) (lv + 1) (castL next) (next.length : Int) (m : Int) (R : Int) (C : Int) l) c := by
 intro d
 induction d with
 | zero =>
  intro m cost layer next hd hm h hB h9 hnx
  obtain rfl : m = next.length := by omega
  obtain ⟨c, hc, he⟩ := H cost layer h.leave hB
  refine ⟨c, hc, a4 0 he fun k _ => ?_⟩
  simp only [impl_cogCosts.l4]
  rw [if_neg (by omega)]
 | succ d ih =>
  intro m cost layer next hd hm h hB h9 hnx
  have hlt : m < next.length := by omega
  have hv := h.nxt _ (a9 hlt)
  have hl := h.tree.len
  by_cases hn : cost.getD (next.getD m 0) 0 < 0
  ·have hneg := aW (out := cost) (n := next.getD m 0) (by omega) hn (show 0 ≤ lv + 1 by have := h.lv0; omega)
   obtain ⟨c, hc, he⟩ := ih (m + 1) (cost.set (next.getD m 0) (lv + 1)) (layer ++ [next.getD m 0]) next (by omega) (by omega) (h.push hlt rfl hn) (by rw [List.length_append, List.length_singleton]; omega) (by rw [List.length_append, List.length_singleton]; omega) hnx
   refine ⟨c, hc, a4 0 he fun k _ => ?_⟩
   simp only [impl_cogCosts.l4]
   rw [if_pos (by omega), if_pos (by omega), if_pos (by rw [a2]; omega), aK next hlt, if_pos (by omega), if_pos (by omega), aF, if_pos hn, if_pos (by rw [a2]; omega), a7 hlt (by omega), Int.toNat_natCast, aP]
   rfl
  ·obtain ⟨c, hc, he⟩ := ih (m + 1) cost layer next (by omega) (by omega) (h.skip hlt (by omega)) hB h9 hnx
   refine ⟨c, hc, a4 0 he fun k _ => ?_⟩
   simp only [impl_cogCosts.l4]
   rw [if_pos (by omega), if_pos (by omega), if_pos (by rw [a2]; omega), aK next hlt, if_pos (by omega), if_pos (by omega), aF, if_neg hn, a7 hlt (by omega)]
theorem bb {l : List S71} {R C src : Nat} (hlen : l.length = R * C) (hC1 : 1 ≤ C) (h90 : l.length ≤ 90) {lv : Int} (B L0 kk a : Nat) (ha : a < l.length) (res : List Int → Prop)
 (H : ∀ (cost : List Int) (layer next : List Nat), QInv l R C src cost layer next lv (kk + 1) 0 → kk < layer.length → L0 ≤ layer.length → next.length ≤ 4 * (kk + 1) → layer.length + neg cost = B → ∃ c, res c ∧ Ev (fun k => impl_cogCosts.l2 k cost (castL layer) (castL next) ((kk + 1 : Nat) : Int) (R : Int) (C : Int) l) c) :
 ∀ (d j : Nat) (cost : List Int) (layer next : List Nat), (near R C a).length - j = d → j ≤ (near R C a).length → QInv l R C src cost layer next lv kk j → kk < layer.length → L0 ≤ layer.length → layer.getD kk 0 = a → next.length ≤ 4 * kk + j → layer.length + neg cost = B →
 ∃ c, res c ∧ Ev (fun k => impl_cogCosts.l3 k cost (castL layer) (castL next) (kk : Int) (a : Int) (castL (near R C a)) ((near R C a).length : Int) (j : Int) (R : Int) (C : Int) l) c := by
 have h4 := aM R C a
 intro d
 induction d with
 | zero =>
  intro j cost layer next hd hj h hk hL he hnx hB
  have hroom := h.room
  obtain rfl : j = (near R C a).length := by omega
  have h' : QInv l R C src cost layer next lv kk (near R C (layer.getD kk 0)).length := by rw [he]; exact h
  obtain ⟨c, hc, hev⟩ := H cost layer next h'.row hk hL (by omega) hB
  refine ⟨c, hc, a4 0 hev fun k _ => ?_⟩
  simp only [impl_cogCosts.l3]
  rw [if_neg (by omega), a7 (n := 1000) (i := kk) (by omega) (by omega)]
 | succ d ih =>
  intro j cost layer next hd hj h hk hL he hnx hB
  have hroom := h.room
  have hl := h.tree.len
  have hlt : j < (near R C a).length := by omega
  have hlt' : j < (near R C (layer.getD kk 0)).length := by rw [he]; exact hlt
  have hv : (near R C a).getD j 0 < l.length := by
   have := ap hC1 (R := R) (by omega) _ (a9 hlt)
   omega
  have hval : (near R C (layer.getD kk 0)).getD j 0 = (near R C a).getD j 0 := by rw [he]
  have hlay := h.lay _ (a9 hk)
  rw [he] at hlay
  have hg := aU (l.getD ((near R C a).getD j 0) z71)
  have base : ∀ k, impl_cogCosts.l3 (k + 1) cost (castL layer) (castL next) (kk : Int) (a : Int) (castL (near R C a)) ((near R C a).length : Int) (j : Int) (R : Int) (C : Int) l =
   (if cost.getD ((near R C a).getD j 0) 0 ≥ 0 then impl_cogCosts.l3 k cost (castL layer) (castL next) (kk : Int) (a : Int) (castL (near R C a)) ((near R C a).length : Int) ((j + 1 : Nat) : Int) (R : Int) (C : Int) l
    else if gearB (l.getD ((near R C a).getD j 0) z71) = true then impl_cogCosts.l3 k (cost.set ((near R C a).getD j 0) lv) (castL (layer ++ [(near R C a).getD j 0])) (castL next) (kk : Int) (a : Int) (castL (near R C a)) ((near R C a).length : Int) ((j + 1 : Nat) : Int) (R : Int) (C : Int) l
    else if (l.getD ((near R C a).getD j 0) z71).f0 = 0 then impl_cogCosts.l3 k cost (castL layer) (castL (next ++ [(near R C a).getD j 0])) (kk : Int) (a : Int) (castL (near R C a)) ((near R C a).length : Int) ((j + 1 : Nat) : Int) (R : Int) (C : Int) l
    else impl_cogCosts.l3 k cost (castL layer) (castL next) (kk : Int) (a : Int) (castL (near R C a)) ((near R C a).length : Int) ((j + 1 : Nat) : Int) (R : Int) (C : Int) l) := by
   intro k
   rw [impl_cogCosts.l3]
   rw [if_pos (by omega), if_pos (by omega), if_pos (by rw [a2]; omega), aK _ hlt, if_pos (by omega), if_pos (by omega), aF, a7 hlt (by omega), aL, bindE hg]
   by_cases h1 : cost.getD ((near R C a).getD j 0) 0 ≥ 0
   ·rw [if_pos h1, if_pos h1]
   ·rw [if_neg h1, if_neg h1, if_pos (by omega)]
    by_cases h2 : gearB (l.getD ((near R C a).getD j 0) z71) = true
    ·rw [if_pos h2, if_pos h2, if_pos (by omega), if_pos (by omega), if_pos (by rw [a2]; omega), aF, hlay.2, Int.toNat_natCast, aP]
     rfl
    ·rw [if_neg h2, if_neg h2]
     by_cases h3 : (l.getD ((near R C a).getD j 0) z71).f0 = 0
     ·rw [if_pos h3, if_pos h3, if_pos (by rw [a2]; omega), aP]
      rfl
     ·rw [if_neg h3, if_neg h3]
  by_cases h1 : cost.getD ((near R C a).getD j 0) 0 ≥ 0
  ·have hle := h.le _ hv
   have hs : CSeen l cost lv next ((near R C a).getD j 0) := ⟨fun _ => ⟨h1, hle⟩, fun _ => .inl ⟨h1, by omega⟩⟩
   obtain ⟨c, hc, hev⟩ := ih (j + 1) cost layer next (by omega) (by omega) (h.skip hk hlt' (by rw [hval]; exact hs)) hk hL he (by omega) hB
   exact ⟨c, hc, a4 0 hev fun k _ => by rw [base k, if_pos h1]⟩
  ·by_cases h2 : gearB (l.getD ((near R C a).getD j 0) z71) = true
   ·have hneg := aW (out := cost) (n := (near R C a).getD j 0) (by omega) (by omega) h.lv0
    obtain ⟨c, hc, hev⟩ := ih (j + 1) (cost.set ((near R C a).getD j 0) lv) (layer ++ [(near R C a).getD j 0]) next (by omega) (by omega) (h.push hk hlt' hv hval.symm (by omega) h2) (by rw [List.length_append]; omega) (by rw [List.length_append]; omega) (by rw [aN _ _ hk]; exact he) (by omega) (by rw [List.length_append, List.length_singleton]; omega)
    exact ⟨c, hc, a4 0 hev fun k _ => by rw [base k, if_neg h1, if_pos h2]⟩
   ·by_cases h3 : (l.getD ((near R C a).getD j 0) z71).f0 = 0
    ·obtain ⟨c, hc, hev⟩ := ih (j + 1) cost layer (next ++ [(near R C a).getD j 0]) (by omega) (by omega) (h.wait hk hlt' hv hval.symm h3) hk hL he (by rw [List.length_append, List.length_singleton]; omega) hB
     exact ⟨c, hc, a4 0 hev fun k _ => by rw [base k, if_neg h1, if_neg h2, if_pos h3]⟩
    ·have hs : CSeen l cost lv next ((near R C a).getD j 0) := ⟨fun q => absurd q h2, fun q => absurd q h3⟩
     obtain ⟨c, hc, hev⟩ := ih (j + 1) cost layer next (by omega) (by omega) (h.skip hk hlt' (by rw [hval]; exact hs)) hk hL he (by omega) hB
     exact ⟨c, hc, a4 0 hev fun k _ => by rw [base k, if_neg h1, if_neg h2, if_neg h3]⟩
theorem bf {l : List S71} {R C src : Nat} (hlen : l.length = R * C) (hR : R ≤ 10) (hC1 : 1 ≤ C) (hC : C ≤ 9) (h90 : l.length ≤ 90) {lv : Int} (h9 : lv ≤ 90) (B L0 : Nat) (hL0 : 0 < L0) (hB90 : B ≤ 90) (res : List Int → Prop)
 (H : ∀ (cost : List Int) (next : List Nat), SInv l R C src cost [] next lv 0 → neg cost + L0 ≤ B → next.length ≤ 1000 → ∃ c, res c ∧ Ev (fun k => impl_cogCosts.l4 k cost (castL []) (lv + 1) (castL next) (next.length : Int) ((0 : Nat) : Int) (R : Int) (C : Int) l) c) :
 ∀ (d kk : Nat) (cost : List Int) (layer next : List Nat), B - kk = d → kk ≤ layer.length → QInv l R C src cost layer next lv kk 0 → L0 ≤ layer.length → next.length ≤ 4 * kk → layer.length + neg cost = B →
 ∃ c, res c ∧ Ev (fun k => impl_cogCosts.l2 k cost (castL layer) (castL next) (kk : Int) (R : Int) (C : Int) l) c := by
 intro d
 induction d with
 | zero =>
  intro kk cost layer next hd hk h hL hnx hB
  have h0 : 0 < layer.length := by omega
  have hroom := h.room
  have hl := h.tree.len
  have hlay := h.lay _ (a9 h0)
  have hlv := h.lv0
  obtain ⟨c, hc, hev⟩ := H cost next (h.leave (by omega)) (by omega) (by omega)
  refine ⟨c, hc, a4 0 hev fun k _ => ?_⟩
  simp only [impl_cogCosts.l2]
  rw [if_neg (by rw [a2]; omega), if_pos (by rw [a2]; omega), show rd (castL layer) 0 = ((layer.getD 0 0 : Nat) : Int) from aK layer (j := 0) h0, if_pos (by omega), if_pos (by omega), if_pos (by omega), aF, hlay.2, a2, a3 (x := lv + 1) (by omega) (by omega)]
  rfl
 | succ d ih =>
  intro kk cost layer next hd hk h hL hnx hB
  have h0 : 0 < layer.length := by omega
  have hroom := h.room
  have hl := h.tree.len
  by_cases hlt : kk < layer.length
  ·have hlay := h.lay _ (a9 hlt)
   obtain ⟨c, hc, hev⟩ := bb hlen hC1 h90 B L0 kk (layer.getD kk 0) hlay.1 res (fun cost' layer' next' q hk' hL' hn' hB' => ih (kk + 1) cost' layer' next' (by omega) (by omega) q hL' hn' hB') (near R C (layer.getD kk 0)).length 0 cost layer next (by omega) (by omega) h hlt hL rfl (by omega) hB
   obtain ⟨K, hK⟩ := aA (aq R C (layer.getD kk 0) l hR hC1 hC (by omega) (by omega))
   refine ⟨c, hc, a4 K hev fun k hk => ?_⟩
   simp only [impl_cogCosts.l2]
   rw [if_pos (by rw [a2]; omega), if_pos (by omega), aK layer hlt, bindE (hK k hk), a2]
   rfl
  ·have hlay := h.lay _ (a9 h0)
   have hlv := h.lv0
   obtain ⟨c, hc, hev⟩ := H cost next (h.leave (by omega)) (by omega) (by omega)
   refine ⟨c, hc, a4 0 hev fun k _ => ?_⟩
   simp only [impl_cogCosts.l2]
   rw [if_neg (by rw [a2]; omega), if_pos (by rw [a2]; omega), show rd (castL layer) 0 = ((layer.getD 0 0 : Nat) : Int) from aK layer (j := 0) h0, if_pos (by omega), if_pos (by omega), if_pos (by omega), aF, hlay.2, a2, a3 (x := lv + 1) (by omega) (by omega)]
   rfl
theorem ba {l : List S71} {R C src : Nat} (hlen : l.length = R * C) (hR : R ≤ 10) (hC1 : 1 ≤ C) (hC : C ≤ 9) (h90 : l.length ≤ 90) :
 ∀ (f : Nat) (cost : List Int) (layer : List Nat) (lv : Int), LInv l R C src cost layer lv → layer.length + neg cost ≤ l.length → (0 < layer.length → lv + neg cost + 1 ≤ l.length) → neg cost + (if layer.length = 0 then 0 else 1) ≤ f →
 ∃ c, CFinal l R C src c ∧ Ev (fun k => impl_cogCosts.l1 k cost (castL layer) (R : Int) (C : Int) l) c := by
 intro f
 induction f with
 | zero =>
  intro cost layer lv h hr hlv hf
  obtain rfl : layer = [] := by
   cases layer with
   | nil => rfl
   | cons => rw [List.length_cons, if_neg (by omega)] at hf; omega
  refine ⟨cost, h.done, a8 0 fun k _ => ?_⟩
  simp only [impl_cogCosts.l1]
  rw [if_neg (by simp [castL])]
 | succ f ih =>
  intro cost layer lv h hr hlv hf
  by_cases h0 : 0 < layer.length
  ·have hlv0 := hlv h0
   rw [if_neg (by omega)] at hf
   obtain ⟨c, hc, hev⟩ := bf hlen hR hC1 hC h90 (lv := lv) (by omega) (layer.length + neg cost) layer.length h0 (by omega) (CFinal l R C src) (fun cost' next' s hB' hn' => by
    exact bd h90 (neg cost) (fun cost2 layer2 hL hB2 => ih cost2 layer2 (lv + 1) hL (by omega) (fun q => by omega) (by split <;> omega)) next'.length 0 cost' [] next' (by omega) (by omega) s (by simp; omega) (by simp; omega) hn') (layer.length + neg cost) 0 cost layer [] (by omega) (by omega) (h.enter hr) (Nat.le_refl _) (by simp) rfl
   refine ⟨c, hc, a4 0 hev fun k _ => ?_⟩
   simp only [impl_cogCosts.l1]
   rw [if_pos (by rw [a2]; omega)]
   rfl
  ·obtain rfl : layer = [] := by
    cases layer with
    | nil => rfl
    | cons => rw [List.length_cons] at h0; omega
   refine ⟨cost, h.done, a8 0 fun k _ => ?_⟩
   simp only [impl_cogCosts.l1]
   rw [if_neg (by simp [castL])]

theorem bc {l : List S71} {R C src : Nat} (hs : src < l.length) (h90 : l.length ≤ 90) (res : List Int) (H : Ev (fun k => impl_cogCosts.l1 k (cost0 l.length src) (castL [src]) (R : Int) (C : Int) l) res) :
 ∀ (d i : Nat) (x : List Int), x.length = l.length → l.length - i = d → i ≤ l.length → x.take i = List.replicate i (-1) → Ev (fun k => impl_cogCosts.l0 k (src : Int) x (l.length : Int) (i : Int) (R : Int) (C : Int) l) res := by
 intro d
 induction d with
 | zero =>
  intro i x hx hd hi ht
  obtain rfl : i = l.length := by omega
  rw [List.take_of_length_le (by omega)] at ht
  refine a4 0 H fun k _ => ?_
  simp only [impl_cogCosts.l0]
  rw [if_neg (by omega), if_pos (by omega), if_pos (by omega), Int.toNat_natCast, ht]
  rfl
 | succ d ih =>
  intro i x hx hd hi ht
  have hlt : i < l.length := by omega
  refine a4 0 (ih (i + 1) (x.set i (-1)) (by simpa using hx) (by omega) (by omega) (by rw [ah x (-1) (by omega), ht, ← List.replicate_succ'])) fun k _ => ?_
  simp only [impl_cogCosts.l0]
  rw [if_pos (by omega), if_pos (by omega), if_pos (by omega), a7 hlt (by omega), Int.toNat_natCast]
theorem ax {l : List S71} {R C src : Nat} (hlen : l.length = R * C) (hR : R ≤ 10) (hC1 : 1 ≤ C) (hC : C ≤ 9) (h90 : l.length ≤ 90) (hs : src < l.length) : ∃ c, CFinal l R C src c ∧ Ev (fun k => impl_cogCosts.f k (R : Int) (C : Int) l (src : Int)) c := by
 have hn := an hs
 obtain ⟨c, hc, he⟩ := ba hlen hR hC1 hC h90 l.length (cost0 l.length src) [src] 0 (aw hs) (by rw [List.length_singleton]; omega) (fun _ => by omega) (by rw [List.length_singleton, if_neg (by omega)]; omega)
 refine ⟨c, hc, aZ 0 (bc hs h90 c he l.length 0 (List.replicate l.length 0) (by simp) (by omega) (by omega) (by simp)) fun k _ => ?_⟩
 simp only [impl_cogCosts.f]
 rw [if_pos (by omega), if_pos (by omega)]
 simp

theorem bI (R C a : Nat) (l : List S71) (hR : R ≤ 10) (hC1 : 1 ≤ C) (hC : C ≤ 9) (ha : a < R * C) (h90 : R * C ≤ 90) : Ev (fun k => spec_ggNear.f k (R : Int) (C : Int) l (a : Int)) (castL (near R C a)) := by
 have hm := Nat.mod_lt a (show C > 0 by omega)
 have hr : a / C < R := by
  apply Nat.div_lt_of_lt_mul
  rwa [Nat.mul_comm]
 have e1 : Int.tdiv (a : Int) (C : Int) = ((a / C : Nat) : Int) := rfl
 have e2 : Int.tmod (a : Int) (C : Int) = ((a % C : Nat) : Int) := rfl
 have hsub : a / C > 0 → C ≤ a := fun h => by
  have hd := Nat.div_add_mod a C
  have : C * 1 ≤ C * (a / C) := Nat.mul_le_mul_left C h
  omega
 refine ⟨2, fun k hk => ?_⟩
 obtain ⟨k, rfl⟩ : ∃ m, k = m + 1 + 1 := ⟨k - 2, by omega⟩
 simp only [spec_ggNear.f]
 rw [e1, e2]
 clear e1 e2
 have hpa : a % C > 0 → 1 ≤ a := fun h => by
  have := Nat.mod_le a C
  omega
 unfold near
 generalize a / C = q at *
 generalize a % C = p at *
 rw [if_neg (by omega), a3 (x := (q : Int)) (by omega) (by omega)]
 have j1 : ∀ (x : List Int), x.length ≤ 2 → spec_ggNear.j1 (k + 1) (a : Int) (q : Int) (p : Int) x (R : Int) (C : Int) l = some (x ++ castL ((if p + 1 < C then [a + 1] else []) ++ (if q + 1 < R then [a + C] else []))) := by
  intro x hx
  simp only [spec_ggNear.j1]
  rw [a3 (x := (p : Int) + 1) (by omega) (by omega), a3 (x := (q : Int) + 1) (by omega) (by omega), a3 (x := (a : Int) + 1) (by omega) (by omega), a3 (x := (a : Int) + (C : Int)) (by omega) (by omega)]
  by_cases h1 : p + 1 < C
  ·rw [if_pos (by omega), if_pos (by omega), if_pos h1, Option.bind_some]
   by_cases h2 : q + 1 < R
   ·rw [if_pos (by omega), if_pos h2, if_pos (by simp; omega)]
    simp [castL]
   ·rw [if_neg (by omega), if_neg h2]
    simp [castL]
  ·rw [if_neg (by omega), if_neg h1]
   by_cases h2 : q + 1 < R
   ·rw [if_pos (by omega), if_pos h2, if_pos (by omega)]
    simp [castL]
   ·rw [if_neg (by omega), if_neg h2]
    simp [castL]
 have j0 : ∀ (x : List Int), x.length ≤ 1 → spec_ggNear.j0 (k + 1 + 1) (a : Int) (q : Int) (p : Int) x (R : Int) (C : Int) l = some (x ++ castL ((if p > 0 then [a - 1] else []) ++ ((if p + 1 < C then [a + 1] else []) ++ (if q + 1 < R then [a + C] else [])))) := by
  intro x hx
  simp only [spec_ggNear.j0]
  by_cases h1 : p > 0
  ·rw [if_pos (by omega), if_pos (by omega), if_pos h1, j1 _ (by simp; omega), a3 (x := (a : Int) - 1) (by omega) (by omega)]
   have : ((a : Int) - 1) = ((a - 1 : Nat) : Int) := by have := hpa h1; omega
   rw [this]
   simp [castL]
  ·rw [if_neg (by omega), if_neg h1, j1 _ (by omega)]
   simp [castL]
 by_cases h0 : q > 0
 ·have := hsub h0
  rw [if_pos (by omega), if_pos (by simp), if_pos h0, j0 _ (by simp), a3 (x := (a : Int) - (C : Int)) (by omega) (by omega), show (a : Int) - (C : Int) = ((a - C : Nat) : Int) by omega]
  simp [castL]
 ·rw [if_neg (by omega), if_neg h0, j0 _ (by simp)]
  simp [castL]

theorem am (x : S71) : spec_ggGear.f x.f0 x.f1 = some (gearB x) := by
 unfold spec_ggGear.f gearB
 by_cases h : x.f0 = 6
 ·simp [h]
 ·rw [if_neg h]
  by_cases h7 : x.f0 = 7 <;> simp [h, h7]

theorem ar {l : List S71} {R C src : Nat} {cost : List Int} (F : CFinal l R C src cost) (hs : src < l.length) {t : Nat → Nat} (ht : ∀ v, v < l.length → 0 ≤ cost.getD v 0 → t v + neg cost < l.length ∧ (v = src ∨ ∃ p, CRel l R C cost t p v)) : BInv l R C src cost t (cost0 l.length src) 0 0 0 := by
 have e0 : (cost0 l.length src).getD src 0 = 0 := by rw [aJ hs hs, if_pos rfl]
 have one : ∀ v, v < l.length → 0 ≤ (cost0 l.length src).getD v 0 → v = src := fun v hv h0 => by
  rw [aJ hs hv] at h0
  by_cases e : v = src
  ·exact e
  ·rw [if_neg e] at h0; omega
 have hst := F.tree.start
 refine ⟨by simp [cost0], by rw [e0, hst]; omega, fun n => ?_, fun n hn h0 => ?_, fun n hn h0 htn => ?_, fun n p _ _ _ _ hp => by omega, fun n hn => by simp at hn⟩
 ·by_cases hn : n < l.length
  ·rw [aJ hs hn]
   split <;> omega
  ·rw [List.getD_eq_getElem?_getD, List.getElem?_eq_none (by simp [cost0]; omega)]
   simp
 ·rw [one n hn h0, e0, hst]; omega
 ·rcases (ht n hn h0).2 with rfl | ⟨p, hp⟩
  ·rw [e0, hst]; omega
  ·have := hp.2.2.1
   omega
theorem bM {l : List S71} {R C src : Nat} (hlen : l.length = R * C) (hC1 : 1 ≤ C) (h90 : l.length ≤ 90) {cost : List Int} (F : CFinal l R C src cost) (t : Nat → Nat) (res : Int × Bool) (x3 x4 : Int) (r i : Nat) (hr : r ≤ 90) (hi : i < l.length)
 (H : ∀ least, BInv l R C src cost t least r (i + 1) 0 → Ev (fun k => spec_LeastCogs.l2 k x3 x4 least (l.length : Int) (r : Int) (l.length : Int) ((i + 1 : Nat) : Int) (R : Int) (C : Int) l) res) :
 ∀ (d j : Nat) (least : List Int), (near R C i).length - j = d → j ≤ (near R C i).length → BInv l R C src cost t least r i j → 0 ≤ least.getD i 0 →
 Ev (fun k => spec_LeastCogs.l3 k x3 x4 least (i : Int) (l.length : Int) (r : Int) (l.length : Int) (i : Int) (castL (near R C i)) ((near R C i).length : Int) (j : Int) (R : Int) (C : Int) l) res := by
 have h4 := aM R C i
 intro d
 induction d with
 | zero =>
  intro j least hd hj h h0
  obtain rfl : j = (near R C i).length := by omega
  refine a4 0 (H least h.row) fun k _ => ?_
  simp only [spec_LeastCogs.l3]
  rw [if_neg (by omega), a7 hi (by omega)]
 | succ d ih =>
  intro j least hd hj h h0
  have hlt : j < (near R C i).length := by omega
  have hl := h.len
  have hmem := a9 hlt
  have hv : (near R C i).getD j 0 < l.length := by
   have := ap hC1 (R := R) (by omega) _ hmem
   omega
  have hci := h.low i hi h0
  have hcl := F.closed i hi hci.1 _ hmem
  have hg := am (l.getD ((near R C i).getD j 0) z71)
  have hcap := h.cap i
  generalize hw : (near R C i).getD j 0 = n at *
  have base : ∀ k, spec_LeastCogs.l3 (k + 1) x3 x4 least (i : Int) (l.length : Int) (r : Int) (l.length : Int) (i : Int) (castL (near R C i)) ((near R C i).length : Int) (j : Int) (R : Int) (C : Int) l =
   (if (l.getD n z71).f0 = 0 then
    (if least.getD n 0 < 0 ∨ least.getD i 0 + 1 < least.getD n 0 then spec_LeastCogs.l3 k x3 x4 (least.set n (least.getD i 0 + 1)) (i : Int) (l.length : Int) (r : Int) (l.length : Int) (i : Int) (castL (near R C i)) ((near R C i).length : Int) ((j + 1 : Nat) : Int) (R : Int) (C : Int) l
     else spec_LeastCogs.l3 k x3 x4 least (i : Int) (l.length : Int) (r : Int) (l.length : Int) (i : Int) (castL (near R C i)) ((near R C i).length : Int) ((j + 1 : Nat) : Int) (R : Int) (C : Int) l)
    else if gearB (l.getD n z71) = true then
     (if least.getD n 0 < 0 ∨ least.getD i 0 < least.getD n 0 then spec_LeastCogs.l3 k x3 x4 (least.set n (least.getD i 0)) (i : Int) (l.length : Int) (r : Int) (l.length : Int) (i : Int) (castL (near R C i)) ((near R C i).length : Int) ((j + 1 : Nat) : Int) (R : Int) (C : Int) l
      else spec_LeastCogs.l3 k x3 x4 least (i : Int) (l.length : Int) (r : Int) (l.length : Int) (i : Int) (castL (near R C i)) ((near R C i).length : Int) ((j + 1 : Nat) : Int) (R : Int) (C : Int) l)
    else spec_LeastCogs.l3 k x3 x4 least (i : Int) (l.length : Int) (r : Int) (l.length : Int) (i : Int) (castL (near R C i)) ((near R C i).length : Int) ((j + 1 : Nat) : Int) (R : Int) (C : Int) l) := by
   intro k
   rw [spec_LeastCogs.l3]
   rw [if_pos (by omega), if_pos (by omega), if_pos (by rw [a2]; omega), if_pos (by omega), if_pos (by omega), aK _ hlt, hw, if_pos (by omega), if_pos (by omega), aL, aF, aF, a7 hlt (by omega), Int.toNat_natCast, a3 (x := least.getD i 0 + 1) (by omega) (by omega), bindE hg]
   by_cases h1 : (l.getD n z71).f0 = 0
   ·rw [if_pos h1, if_pos h1, if_pos (by omega)]
    by_cases h2 : least.getD n 0 < 0
    ·rw [if_pos h2, if_pos (.inl h2)]
    ·rw [if_neg h2]
     by_cases h3 : least.getD i 0 + 1 < least.getD n 0
     ·rw [if_pos h3, if_pos (.inr h3)]
     ·rw [if_neg h3, if_neg (by omega)]
   ·rw [if_neg h1, if_neg h1]
    by_cases hg1 : gearB (l.getD n z71) = true
    ·rw [if_pos hg1, if_pos hg1, if_pos (by omega)]
     by_cases h2 : least.getD n 0 < 0
     ·rw [if_pos h2, if_pos (.inl h2)]
     ·rw [if_neg h2]
      by_cases h3 : least.getD i 0 < least.getD n 0
      ·rw [if_pos h3, if_pos (.inr h3)]
      ·rw [if_neg h3, if_neg (by omega)]
    ·rw [if_neg hg1, if_neg hg1]
  have top : CRel l R C cost t i n → t n ≤ r + 1 → least.getD i 0 ≤ cost.getD i 0 := fun q hq => (h.top i hi hci.1 (by have := q.2.2.1; omega)).2
  have set0 : ∀ v : Int, 0 ≤ v → 0 ≤ (least.set n v).getD i 0 := fun v hv0 => by
   by_cases e : i = n
   ·subst e; rw [a6 _ (by omega)]; exact hv0
   ·rw [a1 _ e]; exact h0
  by_cases h1 : (l.getD n z71).f0 = 0
  ·have hng : gearB (l.getD n z71) = false := aC h1
   have rel : CRel l R C cost t i n → cost.getD n 0 = cost.getD i 0 + 1 := fun q => by
    rcases q.2.2.2.2 with ⟨a, _⟩ | ⟨_, a⟩
    ·rw [hng] at a; cases a
    ·exact a
   have hcl := hcl.2 h1
   by_cases h2 : least.getD n 0 < 0 ∨ least.getD i 0 + 1 < least.getD n 0
   ·refine a4 0 (ih (j + 1) (least.set n (least.getD i 0 + 1)) (by omega) (by omega) (h.set hlt hv hw.symm (by omega) hcl.1 (by omega) h2 (fun q hq => by have := rel q; have := top q hq; omega) (by omega)) (set0 _ (by omega))) fun k _ => ?_
    rw [base k, if_pos h1, if_pos h2]
   ·refine a4 0 (ih (j + 1) least (by omega) (by omega) (h.stay hlt (fun m hm _ _ hq q => by rw [hw] at hm; subst hm; have := rel q; have := top q hq; omega)) h0) fun k _ => ?_
    rw [base k, if_pos h1, if_neg h2]
  ·by_cases hg1 : gearB (l.getD n z71) = true
   ·have rel : CRel l R C cost t i n → cost.getD n 0 = cost.getD i 0 := fun q => by
     rcases q.2.2.2.2 with ⟨_, a⟩ | ⟨a, _⟩
     ·exact a
     ·exact absurd a h1
    have hcl := hcl.1 hg1
    by_cases h2 : least.getD n 0 < 0 ∨ least.getD i 0 < least.getD n 0
    ·refine a4 0 (ih (j + 1) (least.set n (least.getD i 0)) (by omega) (by omega) (h.set hlt hv hw.symm h0 hcl.1 (by omega) h2 (fun q hq => by have := rel q; have := top q hq; omega) (by omega)) (set0 _ h0)) fun k _ => ?_
     rw [base k, if_neg h1, if_pos hg1, if_pos h2]
    ·refine a4 0 (ih (j + 1) least (by omega) (by omega) (h.stay hlt (fun m hm _ _ hq q => by rw [hw] at hm; subst hm; have := rel q; have := top q hq; omega)) h0) fun k _ => ?_
     rw [base k, if_neg h1, if_pos hg1, if_neg h2]
   ·refine a4 0 (ih (j + 1) least (by omega) (by omega) (h.stay hlt (fun m hm _ _ hq q => by
     rw [hw] at hm; subst hm
     rcases q.2.2.2.2 with ⟨a, _⟩ | ⟨a, _⟩
     ·exact absurd a hg1
     ·exact absurd a h1)) h0) fun k _ => ?_
    rw [base k, if_neg h1, if_neg hg1]
theorem bO {l : List S71} {R C src : Nat} (hlen : l.length = R * C) (hR : R ≤ 10) (hC1 : 1 ≤ C) (hC : C ≤ 9) (h90 : l.length ≤ 90) {cost : List Int} (F : CFinal l R C src cost) (t : Nat → Nat) (ht : ∀ v, v < l.length → 0 ≤ cost.getD v 0 → t v + neg cost < l.length ∧ (v = src ∨ ∃ p, CRel l R C cost t p v)) (res : Int × Bool) (x3 x4 : Int) (r : Nat) (hr : r ≤ 90)
 (H : ∀ least, BInv l R C src cost t least (r + 1) 0 0 → Ev (fun k => spec_LeastCogs.l1 k x3 x4 least (l.length : Int) ((r + 1 : Nat) : Int) (R : Int) (C : Int) l) res) :
 ∀ (d i : Nat) (least : List Int), l.length - i = d → i ≤ l.length → BInv l R C src cost t least r i 0 →
 Ev (fun k => spec_LeastCogs.l2 k x3 x4 least (l.length : Int) (r : Int) (l.length : Int) (i : Int) (R : Int) (C : Int) l) res := by
 intro d
 induction d with
 | zero =>
  intro i least hd hi h
  refine a4 0 (H least (h.round (by omega) (by omega) fun v hv h0 => (ht v hv h0).2)) fun k _ => ?_
  simp only [spec_LeastCogs.l2]
  rw [if_neg (by omega), a7 (n := 1000) (i := r) (by omega) (by omega)]
 | succ d ih =>
  intro i least hd hi h
  have hlt : i < l.length := by omega
  have hl := h.len
  by_cases h0 : least.getD i 0 < 0
  ·refine a4 0 (ih (i + 1) least (by omega) (by omega) (h.none h0)) fun k _ => ?_
   simp only [spec_LeastCogs.l2]
   rw [if_pos (by omega), if_pos (by omega), if_pos (by omega), aF, if_pos h0, a7 hlt (by omega)]
  ·obtain ⟨K, hK⟩ := aA (bI R C i l hR hC1 hC (by omega) (by omega))
   refine a4 K (bM hlen hC1 h90 F t res x3 x4 r i hr hlt (fun least' h' => ih (i + 1) least' (by omega) (by omega) h') (near R C i).length 0 least (by omega) (by omega) h (by omega)) fun k hk => ?_
   simp only [spec_LeastCogs.l2]
   rw [if_pos (by omega), if_pos (by omega), if_pos (by omega), aF, if_neg h0, bindE (hK k hk), a2]
   rfl
theorem bQ {l : List S71} {R C src tg : Nat} (hlen : l.length = R * C) (hR : R ≤ 10) (hC1 : 1 ≤ C) (hC : C ≤ 9) (h90 : l.length ≤ 90) {cost : List Int} (F : CFinal l R C src cost) (t : Nat → Nat) (ht : ∀ v, v < l.length → 0 ≤ cost.getD v 0 → t v + neg cost < l.length ∧ (v = src ∨ ∃ p, CRel l R C cost t p v)) (x3 x4 : Int) (hto : tg < l.length) (he : Hid (wrap64 (wrap64 (x3 * (C : Int)) + x4) = (tg : Int))) :
 ∀ (d r : Nat) (least : List Int), l.length - r = d → r ≤ l.length → BInv l R C src cost t least r 0 0 →
 Ev (fun k => spec_LeastCogs.l1 k x3 x4 least (l.length : Int) (r : Int) (R : Int) (C : Int) l) (if cost.getD tg 0 < 0 then (0, false) else (cost.getD tg 0, true)) := by
 intro d
 induction d with
 | zero =>
  intro r least hd hr h
  have hl := h.len
  refine a8 0 fun k _ => ?_
  simp only [spec_LeastCogs.l1]
  rw [if_neg (by omega), he.out, if_pos (by omega), if_pos (by omega), aF]
  by_cases h0 : cost.getD tg 0 < 0
  ·rw [if_pos h0, if_neg (fun q => by have := h.low tg hto q; omega)]
  ·have htop := h.top tg hto (by omega) (by have := (ht tg hto (by omega)).1; omega)
   have hlow := h.low tg hto htop.1
   rw [if_neg h0, if_pos (by omega), show least.getD tg 0 = cost.getD tg 0 by omega]
 | succ d ih =>
  intro r least hd hr h
  refine a4 0 (bO hlen hR hC1 hC h90 F t ht _ x3 x4 r (by omega) (fun least' h' => ih (r + 1) least' (by omega) (by omega) h') l.length 0 least (by omega) (by omega) h) fun k _ => ?_
  simp only [spec_LeastCogs.l1]
  rw [if_pos (by omega)]
  rfl
theorem bV {l : List S71} {R C src : Nat} (hs : src < l.length) (h90 : l.length ≤ 90) (x1 x2 x3 x4 : Int) (he : Hid (wrap64 (wrap64 (x1 * (C : Int)) + x2) = (src : Int))) (res : Int × Bool) (H : Ev (fun k => spec_LeastCogs.l1 k x3 x4 (cost0 l.length src) (l.length : Int) ((0 : Nat) : Int) (R : Int) (C : Int) l) res) :
 ∀ (d i : Nat) (x : List Int), x.length = l.length → l.length - i = d → i ≤ l.length → x.take i = List.replicate i (-1) → Ev (fun k => spec_LeastCogs.l0 k x1 x2 x3 x4 x (l.length : Int) (i : Int) (R : Int) (C : Int) l) res := by
 intro d
 induction d with
 | zero =>
  intro i x hx hd hi ht
  obtain rfl : i = l.length := by omega
  rw [List.take_of_length_le (by omega)] at ht
  refine a4 0 H fun k _ => ?_
  simp only [spec_LeastCogs.l0]
  rw [if_neg (by omega), he.out, if_pos (by omega), if_pos (by omega), Int.toNat_natCast, ht]
  rfl
 | succ d ih =>
  intro i x hx hd hi ht
  have hlt : i < l.length := by omega
  refine a4 0 (ih (i + 1) (x.set i (-1)) (by simpa using hx) (by omega) (by omega) (by rw [ah x (-1) (by omega), ht, ← List.replicate_succ'])) fun k _ => ?_
  simp only [spec_LeastCogs.l0]
  rw [if_pos (by omega), if_pos (by omega), if_pos (by omega), a7 hlt (by omega), Int.toNat_natCast]

def onB (r c : Int) (l : List S71) (i j : Int) : Bool := a5 r c l && decide ((0 ≤ i ∧ i < r) ∧ (0 ≤ j ∧ j < c))
theorem ab (r c : Int) (l : List S71) (i j : Int) (hn : l.length ≤ 1048576) : Ev (fun k => impl_onBoard.f k r c l i j) (onB r c l i j) := by
 obtain ⟨K, hK⟩ := aA (bC r c l hn)
 refine ⟨K, fun k hk => ?_⟩
 simp only [impl_onBoard.f]
 rw [bindE (hK k hk)]
 unfold onB
 cases a5 r c l
 ·rfl
 ·rw [aD, Bool.true_and]
  by_cases h1 : i ≥ 0
  ·rw [if_pos h1]
   have h1' : 0 ≤ i := h1
   by_cases h2 : i < r
   ·rw [if_pos h2]
    by_cases h3 : j ≥ 0
    ·have h3' : 0 ≤ j := h3
     rw [if_pos h3]
     simp [h1', h2, h3']
    ·have h3' : ¬ 0 ≤ j := h3
     rw [if_neg h3]
     simp [h3']
   ·rw [if_neg h2]
    simp [h2]
  ·rw [if_neg h1]
   have h1' : ¬ 0 ≤ i := h1
   simp [h1']

theorem b0 {r c : Int} {l : List S71} {i j : Int} (h : onB r c l i j = true) : ∃ n : Nat, wrap64 (wrap64 (i * c) + j) = (n : Int) ∧ i * c + j = (n : Int) ∧ n < l.length ∧ Brd r c l ∧ (0 ≤ i ∧ i < r) ∧ (0 ≤ j ∧ j < c) := by
 simp only [onB, Bool.and_eq_true, decide_eq_true_eq] at h
 have b := bL h.1
 have h1 := al h.2.1.1 h.2.1.2 h.2.2.1 h.2.2.2
 have b1 := b.r1; have b2 := b.r2; have b3 := b.c1; have b4 := b.c2; have b5 := b.len; have b6 := b.le
 have a : 0 ≤ i * c := Int.mul_nonneg h.2.1.1 (by omega)
 refine ⟨(i * c + j).toNat, ?_, by omega, by omega, b, h.2⟩
 rw [a3 (x := i * c) (by omega) (by omega), a3 (x := i * c + j) (by omega) (by omega)]
 omega

theorem bS (r c : Int) (l : List S71) (i j : Int) (hn : l.length ≤ 1048576) : Ev (fun k => spec_boHas.f k r c l i j) (onB r c l i j) := by
 obtain ⟨K, hK⟩ := aA (bF r c l hn)
 refine ⟨K, fun k hk => ?_⟩
 simp only [spec_boHas.f]
 rw [bindE (hK k hk)]
 unfold onB
 by_cases hg : a5 r c l = true
 ·have b := bL hg
  have b1 := b.r1; have b2 := b.r2; have b3 := b.c1; have b4 := b.c2
  rw [hg, aD, Bool.true_and, a3 (x := r - 1) (by omega) (by omega), a3 (x := c - 1) (by omega) (by omega), aa, aa, Option.bind_some, Option.bind_some]
  by_cases h1 : 0 ≤ i ∧ i ≤ r - 1
  ·rw [decide_eq_true h1, aD]
   congr 1
   apply decide_eq_decide.2
   omega
  ·rw [decide_eq_false h1, if_neg (by simp)]
   congr 1
   symm
   apply decide_eq_false
   omega
 ·rw [Bool.eq_false_iff.2 hg]
  rfl

theorem bX {r c : Int} {l : List S71} {i j : Int} (b : Brd r c l) (h : (0 ≤ i ∧ i < r) ∧ (0 ≤ j ∧ j < c)) : wrap64 (wrap64 (i * c) + j) = i * c + j ∧ 0 ≤ i * c + j ∧ i * c + j < l.length := by
 have h1 := al h.1.1 h.1.2 h.2.1 h.2.2
 have b1 := b.r1; have b2 := b.r2; have b3 := b.c1; have b4 := b.c2; have b5 := b.len; have b6 := b.le
 have a : 0 ≤ i * c := Int.mul_nonneg h.1.1 (by omega)
 rw [a3 (x := i * c) (by omega) (by omega), a3 (by omega) (by omega)]
 omega
theorem bW {r c : Int} {l : List S71} {i j : Int} (b : Brd r c l) (h : (0 ≤ i ∧ i < r) ∧ (0 ≤ j ∧ j < c)) : spec_boAt.f r c l i j = some ((rd_T71 l (i * c + j)).f0, (rd_T71 l (i * c + j)).f1) := by
 obtain ⟨e, h0, h1⟩ := bX b h
 unfold spec_boAt.f
 rw [e, if_pos h0, if_pos h1]

def hasB (r c : Int) (l : List S71) (i j : Int) : Bool := onB r c l i j && gearB (l.getD (i * c + j).toNat z71)
theorem au (r c : Int) (l : List S71) (i j : Int) (hn : l.length ≤ 1048576) : Ev (fun k => spec_ggHas.f k r c l i j) (hasB r c l i j) := by
 obtain ⟨K, hK⟩ := aA (bS r c l i j hn)
 refine ⟨K, fun k hk => ?_⟩
 simp only [spec_ggHas.f]
 rw [bindE (hK k hk)]
 unfold hasB
 by_cases h : onB r c l i j = true
 ·obtain ⟨n, _, e, _, b, hij⟩ := b0 h
  have ha := bW b hij
  rw [e, aL] at ha
  rw [h, aD, bindE ha, bindE (am (l.getD n z71)), Bool.true_and, e, Int.toNat_natCast]
 ·rw [Bool.eq_false_iff.2 h]
  rfl

theorem bH (r c : Int) (l : List S71) (i j i2 j2 : Int) (hn : l.length ≤ 1048576) : ∃ v, Ev (fun k => impl_LeastCogs.f k r c l i j i2 j2) v ∧ Ev (fun k => spec_LeastCogs.f k r c l i j i2 j2) v := by
 obtain ⟨K, hK⟩ := aA (ab r c l i j hn)
 obtain ⟨K1, hK1⟩ := aA (ab r c l i2 j2 hn)
 obtain ⟨L, hL⟩ := aA (au r c l i j hn)
 obtain ⟨L1, hL1⟩ := aA (au r c l i2 j2 hn)
 have bad : ∀ k, impl_LeastCogs.j0 (k + 1) i j i2 j2 true r c l = some (0, false) := fun k => by simp [impl_LeastCogs.j0]
 have bad1 : ∀ k x y, impl_LeastCogs.j1 (k + 1) x y true r c l = some (0, false) := fun k x y => by simp [impl_LeastCogs.j1]
 have sbad : ∀ k, spec_LeastCogs.j0 (k + 1) i j i2 j2 true r c l = some (0, false) := fun k => by simp [spec_LeastCogs.j0]
 by_cases h : onB r c l i j = true
 case neg =>
  refine ⟨(0, false), a8 K fun k hk => ?_, a8 L fun k hk => ?_⟩
  ·simp only [impl_LeastCogs.f]
   rw [bindE (hK _ (by omega)), if_neg h, bad]
  ·simp only [spec_LeastCogs.f]
   rw [bindE (hL _ (by omega)), hasB, Bool.eq_false_iff.2 h, Bool.false_and, if_neg (by simp), sbad]
 by_cases h2 : onB r c l i2 j2 = true
 case neg =>
  refine ⟨(0, false), a8 (K + K1) fun k hk => ?_, a8 (L + L1) fun k hk => ?_⟩
  ·simp only [impl_LeastCogs.f]
   rw [bindE (hK _ (by omega)), if_pos h, bindE (hK1 _ (by omega)), Bool.eq_false_iff.2 h2, show (!false) = true from rfl, bad]
  ·simp only [spec_LeastCogs.f]
   rw [bindE (hL _ (by omega))]
   by_cases h3 : hasB r c l i j = true
   ·rw [if_pos h3, bindE (hL1 _ (by omega)), hasB, Bool.eq_false_iff.2 h2, Bool.false_and, show (!false) = true from rfl, sbad]
   ·rw [if_neg h3, sbad]
 obtain ⟨n, e, e2, hnl, b, hij⟩ := b0 h
 obtain ⟨m, e3, e4, hml, _, _⟩ := b0 h2
 have e := Hid.mk e
 have e3 := Hid.mk e3
 have hb1 : hasB r c l i j = gearB (l.getD n z71) := by rw [hasB, h, Bool.true_and, e2, Int.toNat_natCast]
 have hb2 : hasB r c l i2 j2 = gearB (l.getD m z71) := by rw [hasB, h2, Bool.true_and, e4, Int.toNat_natCast]
 clear e2 e4
 rw [hb1] at hL
 rw [hb2] at hL1
 have hg1 := aU (l.getD n z71)
 have hg2 := aU (l.getD m z71)
 by_cases g1 : gearB (l.getD n z71) = true
 case neg =>
  refine ⟨(0, false), a8 (K + K1 + 1) fun k hk => ?_, a8 L fun k hk => ?_⟩
  ·obtain ⟨k, rfl⟩ : ∃ q, k = q + 1 := ⟨k - 1, by omega⟩
   simp only [impl_LeastCogs.f]
   rw [bindE (hK _ (by omega)), if_pos h, bindE (hK1 _ (by omega)), h2, show (!true) = false from rfl]
   simp only [impl_LeastCogs.j0]
   rw [if_neg (by simp), e.out, if_pos (by omega), if_pos (by omega), aL, bindE hg1, if_neg g1]
   exact bad1 _ _ _
  ·simp only [spec_LeastCogs.f]
   rw [bindE (hL _ (by omega)), if_neg g1, sbad]
 by_cases g2 : gearB (l.getD m z71) = true
 case neg =>
  refine ⟨(0, false), a8 (K + K1 + 1) fun k hk => ?_, a8 (L + L1) fun k hk => ?_⟩
  ·obtain ⟨k, rfl⟩ : ∃ q, k = q + 1 := ⟨k - 1, by omega⟩
   simp only [impl_LeastCogs.f]
   rw [bindE (hK _ (by omega)), if_pos h, bindE (hK1 _ (by omega)), h2, show (!true) = false from rfl]
   simp only [impl_LeastCogs.j0]
   rw [if_neg (by simp), e.out, if_pos (by omega), if_pos (by omega), aL, bindE hg1, if_pos g1, e3.out, if_pos (by omega), if_pos (by omega), aL, bindE hg2, Bool.eq_false_iff.2 g2, show (!false) = true from rfl]
   exact bad1 _ _ _
  ·simp only [spec_LeastCogs.f]
   rw [bindE (hL _ (by omega)), if_pos g1, bindE (hL1 _ (by omega)), Bool.eq_false_iff.2 g2, show (!false) = true from rfl, sbad]
 obtain ⟨R, C, rfl, rfl, hlen, hR1, hR, hC1, hC⟩ := bY b
 have h90 := b.le
 obtain ⟨cost, F, hc⟩ := ax hlen hR hC1 hC h90 hnl
 obtain ⟨t, ht⟩ := F.tree.tree
 have hcl := F.tree.len
 obtain ⟨K2, hK2⟩ := aA hc
 have hspec := bV hnl h90 i j i2 j2 e _ (bQ hlen hR hC1 hC h90 F t ht i2 j2 hml e3 l.length 0 (cost0 l.length n) (by omega) (by omega) (ar F hnl ht)) l.length 0 (List.replicate l.length 0) (by simp) (by omega) (by omega) (by simp)
 obtain ⟨L2, hL2⟩ := aA hspec
 refine ⟨if cost.getD m 0 < 0 then (0, false) else (cost.getD m 0, true), a8 (K + K1 + K2 + 2) fun k hk => ?_, a8 (L + L1 + L2) fun k hk => ?_⟩
 rotate_left
 ·simp only [spec_LeastCogs.f]
  rw [bindE (hL _ (by omega)), if_pos g1, bindE (hL1 _ (by omega)), g2, show (!true) = false from rfl]
  simp only [spec_LeastCogs.j0]
  rw [if_neg (by simp), if_pos (by omega), if_pos (by omega), Option.bind_some, List.length_replicate, Int.toNat_natCast]
  exact hL2 k (by omega)
 ·obtain ⟨k, rfl⟩ : ∃ q, k = q + 1 := ⟨k - 1, by omega⟩
  simp only [impl_LeastCogs.f]
  rw [bindE (hK _ (by omega)), if_pos h, bindE (hK1 _ (by omega)), h2, show (!true) = false from rfl]
  simp only [impl_LeastCogs.j0]
  rw [if_neg (by simp), e.out, if_pos (by omega), if_pos (by omega), aL, bindE hg1, if_pos g1, e3.out, if_pos (by omega), if_pos (by omega), aL, bindE hg2, g2, show (!true) = false from rfl]
  simp only [impl_LeastCogs.j1]
  rw [if_neg (by simp), bindE (hK2 k (by omega)), if_pos (by omega), if_pos (by omega), aF]
  split <;> rfl

theorem FnExactLeastCogs (r0 c0 : Int) (a0 : List S84) (i1 : Int) (i2 : Int) (i3 : Int) (i4 : Int) (hn0 : a0.length ≤ 9223372036854775807) : ∃ k, laws_FnExactLeastCogs.f k r0 c0 a0 i1 i2 i3 i4 = some true := by
 unfold laws_FnExactLeastCogs.f
 simp only [bindE (bB r0 c0 a0 (1048576) (by omega) (by omega) hn0)]
 by_cases hs0 : (a0.length : Int) ≤ 1048576
 case neg =>
  exact ⟨0, by rw [if_neg hs0]; rfl⟩
 have hq0 : ¬ (1048576 - (a0.length : Int) < 0) := by omega
 simp only [if_pos hs0, if_neg hq0]
 have hl0 : (a0.map conv).length ≤ 1048576 := by rw [List.length_map]; omega
 obtain ⟨K1, h1⟩ := aA (bA r0 c0 a0 (by omega))
 obtain ⟨r, hi_, hs_⟩ := bH r0 c0 (a0.map conv) i1 i2 i3 i4 hl0
 obtain ⟨K2, h2⟩ := aA (hi_)
 obtain ⟨K3, h3⟩ := aA (hs_)
 obtain ⟨K4, h4⟩ := aA (b9 r0 c0 (a0.map conv) hl0)
 refine ⟨K1 + K2 + K3 + K4 + 1, ?_⟩
 repeat (first | rw [bindE (h1 _ (by omega))] | rw [bindE (h2 _ (by omega))] | rw [bindE (h3 _ (by omega))] | rw [bindE (h4 _ (by omega))] | rw [Option.bind_some] | rw [aD] | rw [bT] | rw [bU] | rw [if_pos rfl] | rw [laws_FnExactLeastCogs.j0])

end Go.Proofs.Ytlkiakpipcnijaa.Pure
