/- For all arguments the program's TurnGear answers as the reference's does (the plain law, over the printed functions). Conditions: none. -/
import Derived.Test.YtlkiakpipcnijaaG34
set_option linter.unusedVariables false
set_option linter.unusedSimpArgs false
namespace Go.Proofs.Ytlkiakpipcnijaa.Pure
open Go.RowKit Go.Proofs.Ytlkiakpipcnijaa.PAll Go.Proofs.YtlkiakpipcnijaaW.PrintWords Go.Proofs.YtlkiakpipcnijaaW.PrintLast Go.Proofs.YtlkiakpipcnijaaW.PrintMore

theorem a1 {x : Int} (h0 : -9223372036854775808 ≤ x) (h1 : x < 9223372036854775808) : wrap64 x = x := by unfold wrap64; omega
theorem a4 {i n : Nat} (h : i < n) (hn : n ≤ 4611686018427387904) : wrap64 ((i : Int) + 1) = ((i + 1 : Nat) : Int) := by unfold wrap64; omega
theorem bY : wrap64 (-1) = -1 := by decide +kernel
theorem c7 : wrap64 0 = 0 := by decide +kernel
theorem c6 : wrap64 1 = 1 := by decide +kernel
theorem c8 : wrap64 2 = 2 := by decide +kernel
structure Hid (p : Prop) : Prop where
 out : p
theorem ad {α : Type} {g : Nat → Option α} {r : α} (K : Nat) (h : ∀ k, K ≤ k → g (k + 1) = some r) : Ev g r := by
 refine ⟨K + 1, fun k hk => ?_⟩
 obtain ⟨m, rfl⟩ : ∃ m, k = m + 1 := ⟨k - 1, by omega⟩
 exact h m (by omega)
theorem a8 {α : Type} {g f : Nat → Option α} {r : α} (K : Nat) (hf : Ev f r) (h : ∀ k, K ≤ k → g (k + 1) = f k) : Ev g r := by
 obtain ⟨K', hf⟩ := hf
 refine ⟨K + K' + 1, fun k hk => ?_⟩
 obtain ⟨m, rfl⟩ : ∃ m, k = m + 1 := ⟨k - 1, by omega⟩
 rw [h m (by omega)]
 exact hf m (by omega)
theorem a7 {α : Type} {g : Nat → Option α} {r : α} (h : Ev g r) : ∃ K, ∀ k, K ≤ k → g k = some r := h
theorem bU {α : Type} {g : Nat → Option α} {r : α} (h : ∀ k, g k = some r) : Ev g r := ⟨0, fun k _ => h k⟩
theorem ay {α : Type} {g f : Nat → Option α} {r : α} (K : Nat) (hf : Ev f r) (h : ∀ k, K ≤ k → g k = f k) : Ev g r := by
 obtain ⟨K', hf⟩ := hf
 exact ⟨K + K', fun k hk => (h k (by omega)).trans (hf k (by omega))⟩
theorem bindE {α β : Type} {o : Option α} {v : α} {f : α → Option β} (h : o = some v) : o.bind f = f v := by rw [h]; rfl
theorem bP {β : Type} (x : Bool) (a b : β) : (if (x != x) = true then a else b) = b := by simp
theorem bH {β : Type} (x : Int) (a b : β) : (if (x != x) = true then a else b) = b := by simp
theorem a9 {β : Type} (a b : β) : (if true = true then a else b) = a := rfl
theorem aa {α : Type} (l : List α) (z : α) {i : Nat} (h : i < l.length) : l.drop i = l.getD i z :: l.drop (i + 1) := by
 rw [List.drop_eq_getElem_cons h, List.getD_eq_getElem?_getD, List.getElem?_eq_getElem h]; rfl
theorem bj {α : Type} (l : List α) (v : α) {i : Nat} (h : i < l.length) : (l.set i v).take (i + 1) = l.take i ++ [v] := by
 rw [List.take_succ_eq_append_getElem (by simpa using h)]
 simp [List.take_set_of_le]
theorem c3 {α : Type} (l : List α) (i : Nat) (z : α) : l.getD ((i : Int).toNat) z = l.getD i z := by rw [Int.toNat_natCast]

def conv (x : S84) : S71 := ⟨x.f0, x.f1⟩
theorem bx (a : List S84) (hn : a.length ≤ 1048576) : ∀ (d i : Nat) (x : List S71), a.length - i = d → i ≤ a.length → x.length = a.length →
 Ev (fun k => laws_toCellS.l0 k a x (i : Int)) (x.take i ++ (a.drop i).map conv) := by
 intro d
 induction d with
 | zero =>
  intro i x hd hi hx
  obtain rfl : i = a.length := by omega
  refine ad 0 fun k _ => ?_
  simp only [laws_toCellS.l0]
  rw [if_neg (by omega)]
  simp [← hx]
 | succ d ih =>
  intro i x hd hi hx
  have hlt : i < a.length := by omega
  refine a8 0 (f := fun k => laws_toCellS.l0 k a (x.set i (conv (a.getD i z84))) ((i + 1 : Nat) : Int)) ?_ fun k _ => ?_
  ·have h := ih (i + 1) (x.set i (conv (a.getD i z84))) (by omega) (by omega) (by simpa using hx)
   rwa [bj x _ (by omega), List.append_assoc, List.singleton_append, ← List.map_cons, ← aa a z84 hlt] at h
  ·simp only [laws_toCellS.l0]
   rw [if_pos (by omega), if_pos (by omega)]
   simp only [laws_toCell.f, Option.bind_some]
   rw [if_pos (by omega), a4 hlt (by omega), Int.toNat_natCast]
   simp only [rd_T84, Int.toNat_natCast]
   rfl
theorem bv (a : List S84) (hn : a.length ≤ 1048576) : Ev (fun k => laws_toCellS.f k a) (a.map conv) := by
 refine ay 0 (f := fun k => laws_toCellS.l0 k a (List.replicate a.length z71) ((0 : Nat) : Int)) ?_ fun k _ => ?_
 ·have h := bx a hn a.length 0 (List.replicate a.length z71) (by omega) (by omega) (by simp)
  simpa using h
 ·simp only [laws_toCellS.f]
  rw [if_pos (by omega), if_pos (by omega)]
  simp

theorem bp (r c : Int) (a : List S84) (hn : a.length ≤ 1048576) : Ev (fun k => laws_toBoard.f k r c a) (r, c, a.map conv) := by
 obtain ⟨K, hK⟩ := a7 (bv a hn)
 refine ⟨K, fun k hk => ?_⟩
 simp only [laws_toBoard.f]
 rw [bindE (hK k hk)]

theorem bw (a : List S84) (left : Int) (h0 : 0 ≤ left) (h1 : left ≤ 1048576) (hn : a.length ≤ 9223372036854775807) :
 laws_szCellS.f a left = some (if (a.length : Int) ≤ left then left - a.length else -1) := by
 unfold laws_szCellS.f
 rw [a1 (by omega) (by omega)]
 by_cases h : (a.length : Int) ≤ left
 ·rw [if_neg (by omega), if_pos h]
 ·rw [if_pos (by omega), if_neg h]

theorem bt (r c : Int) (a : List S84) (left : Int) (h0 : 0 ≤ left) (h1 : left ≤ 1048576) (hn : a.length ≤ 9223372036854775807) :
 laws_szBoard.f r c a left = some (if (a.length : Int) ≤ left then left - a.length else -1) := by
 unfold laws_szBoard.f
 rw [bindE (bw a left h0 h1 hn)]
 by_cases h : (a.length : Int) ≤ left
 ·rw [if_pos h, if_neg (by omega)]
 ·rw [if_neg h, if_pos (by omega)]

theorem bu (a : List S71) (hn : a.length ≤ 1048576) : ∀ (d i : Nat), a.length - i = d → i ≤ a.length → Ev (fun k => laws_eqCellS.l0 k a a (i : Int)) true := by
 intro d
 induction d with
 | zero =>
  intro i hd hi
  refine ad 0 fun k _ => ?_
  simp only [laws_eqCellS.l0]
  rw [if_neg (by omega)]
 | succ d ih =>
  intro i hd hi
  have hlt : i < a.length := by omega
  refine a8 0 (ih (i + 1) (by omega) (by omega)) fun k _ => ?_
  simp only [laws_eqCellS.l0]
  rw [if_pos (by omega), if_pos (by omega), if_pos (by omega), a4 hlt (by omega)]
  simp [laws_eqCell.f]
theorem bs (a : List S71) (hn : a.length ≤ 1048576) : Ev (fun k => laws_eqCellS.f k a a) true := by
 refine ay 0 (bu a hn a.length 0 (by omega) (by omega)) fun k _ => ?_
 simp only [laws_eqCellS.f, if_true]
 rfl

theorem aR (r c : Int) (a : List S71) (hn : a.length ≤ 1048576) : Ev (fun k => laws_eqBoard.f k r c a r c a) true := by
 obtain ⟨K, hK⟩ := a7 (bs a hn)
 refine ⟨K, fun k hk => ?_⟩
 simp only [laws_eqBoard.f]
 rw [if_pos trivial, if_pos trivial, bindE (hK k hk), a9]

def goodB (a b : Int) : Bool := decide ((0 ≤ a ∧ a ≤ 7) ∧ (b = 0 ∨ b = 1 ∧ (a = 3 ∨ a = 6)))
theorem bS {a b : Int} (h : goodB a b = true) : (a = 0 ∧ b = 0) ∨ (a = 1 ∧ b = 0) ∨ (a = 2 ∧ b = 0) ∨ (a = 3 ∧ b = 0) ∨ (a = 3 ∧ b = 1) ∨ (a = 4 ∧ b = 0) ∨ (a = 5 ∧ b = 0) ∨ (a = 6 ∧ b = 0) ∨ (a = 6 ∧ b = 1) ∨ (a = 7 ∧ b = 0) := by
 simp only [goodB, decide_eq_true_eq] at h
 obtain ⟨⟨h0, h7⟩, hb⟩ := h
 have ha : a = 0 ∨ a = 1 ∨ a = 2 ∨ a = 3 ∨ a = 4 ∨ a = 5 ∨ a = 6 ∨ a = 7 := by
  clear hb
  omega
 rcases ha with rfl | rfl | rfl | rfl | rfl | rfl | rfl | rfl <;> simp_all

theorem ab (l : List S71) (i : Nat) : rd_T71 l (i : Int) = l.getD i z71 := by rw [rd_T71, Int.toNat_natCast]
def goodC (x : S71) : Bool := goodB x.f0 x.f1

def sizeB (r c : Int) (n : Nat) : Bool := decide ((1 ≤ r ∧ r ≤ 10) ∧ (1 ≤ c ∧ c ≤ 9) ∧ (n : Int) = r * c)
def a3 (r c : Int) (l : List S71) : Bool := sizeB r c l.length && l.all goodC
theorem aA {r c : Int} (h1 : 1 ≤ r) (h2 : r ≤ 10) (h3 : 1 ≤ c) (h4 : c ≤ 9) : 1 ≤ r * c ∧ r * c ≤ 90 := by
 have hr : r = 1 ∨ r = 2 ∨ r = 3 ∨ r = 4 ∨ r = 5 ∨ r = 6 ∨ r = 7 ∨ r = 8 ∨ r = 9 ∨ r = 10 := by omega
 rcases hr with rfl | rfl | rfl | rfl | rfl | rfl | rfl | rfl | rfl | rfl <;> omega
structure Brd (r c : Int) (l : List S71) : Prop where
 r1 : 1 ≤ r
 r2 : r ≤ 10
 c1 : 1 ≤ c
 c2 : c ≤ 9
 len : (l.length : Int) = r * c
 all : l.all goodC = true
 le : l.length ≤ 90
 pos : 1 ≤ l.length
theorem bN {r c : Int} {l : List S71} (h : a3 r c l = true) : Brd r c l := by
 simp only [a3, sizeB, Bool.and_eq_true, decide_eq_true_eq] at h
 obtain ⟨⟨⟨h1, h2⟩, ⟨h3, h4⟩, h5⟩, h6⟩ := h
 have := aA h1 h2 h3 h4
 exact ⟨h1, h2, h3, h4, h5, h6, by omega, by omega⟩
theorem c9 {r c : Int} {l : List S71} (h : Brd r c l) : a3 r c l = true := by
 simp only [a3, sizeB, Bool.and_eq_true, decide_eq_true_eq]
 exact ⟨⟨⟨h.r1, h.r2⟩, ⟨h.c1, h.c2⟩, h.len⟩, h.all⟩
theorem aY {r c i j : Int} (h0 : 0 ≤ i) (h1 : i < r) (h2 : 0 ≤ j) (h3 : j < c) : 0 ≤ i * c + j ∧ i * c + j < r * c := by
 have a : 0 ≤ i * c := Int.mul_nonneg h0 (by omega)
 have b : (i + 1) * c ≤ r * c := Int.mul_le_mul_of_nonneg_right (by omega) (by omega)
 rw [Int.add_mul, Int.one_mul] at b
 omega

theorem bA (a b : Int) : impl_IsCell.f a b = some (goodB a b) := by
 unfold impl_IsCell.f goodB
 by_cases h0 : a < 0
 ·rw [if_pos h0]; simp; omega
 rw [if_neg h0]
 by_cases h1 : a > 7
 ·rw [if_pos h1]; simp; omega
 rw [if_neg h1]
 by_cases h2 : b < 0
 ·rw [if_pos h2]; simp; omega
 rw [if_neg h2]
 by_cases h3 : b > 1
 ·rw [if_pos h3]; simp; omega
 rw [if_neg h3]
 by_cases h4 : b = 0
 ·rw [if_pos h4]; simp; omega
 rw [if_neg h4]
 by_cases h5 : a = 3
 ·rw [if_pos h5]; simp; omega
 rw [if_neg h5]
 by_cases h6 : a = 6
 ·simp [h6]; omega
 ·simp [h5, h6, h4]

theorem aN (x : S71) : impl_IsCell.f x.f0 x.f1 = some (goodC x) := bA _ _
theorem aV (a : List S71) (hn : a.length ≤ 1048576) : ∀ (d i : Nat), a.length - i = d → i ≤ a.length →
 Ev (fun k => impl_validCells.l0 k a (a.length : Int) (i : Int)) ((a.drop i).all goodC) := by
 intro d
 induction d with
 | zero =>
  intro i hd hi
  refine ad 0 fun k _ => ?_
  simp only [impl_validCells.l0]
  rw [if_neg (by omega), List.drop_of_length_le (by omega)]
  simp
 | succ d ih =>
  intro i hd hi
  have hlt : i < a.length := by omega
  have h := ih (i + 1) (by omega) (by omega)
  rw [aa a z71 hlt, List.all_cons]
  by_cases hg : goodC (a.getD i z71) = true
  ·rw [hg, Bool.true_and]
   refine a8 0 h fun k _ => ?_
   simp only [impl_validCells.l0, rd_T71, Int.toNat_natCast, aN, Option.bind_some]
   rw [if_pos (by omega), if_pos (by omega), if_pos (by omega), if_pos hg, a4 hlt (by omega)]
  ·rw [Bool.eq_false_iff.2 hg, Bool.false_and]
   refine ad 0 fun k _ => ?_
   simp only [impl_validCells.l0, rd_T71, Int.toNat_natCast, aN, Option.bind_some]
   rw [if_pos (by omega), if_pos (by omega), if_pos (by omega), if_neg hg]
theorem aW (a : List S71) (hn : a.length ≤ 1048576) : Ev (fun k => impl_validCells.f k a) (a.all goodC && decide (a.length ≤ 90)) := by
 by_cases h : a.length ≤ 90
 ·rw [decide_eq_true h, Bool.and_true]
  refine ay 0 (aV a hn a.length 0 (by omega) (by omega)) fun k _ => ?_
  simp only [impl_validCells.f]
  rw [if_neg (by omega)]
  rfl
 ·rw [decide_eq_false h, Bool.and_false]
  refine bU fun k => ?_
  simp only [impl_validCells.f]
  rw [if_pos (by omega)]

theorem bq (r c : Int) (l : List S71) (hn : l.length ≤ 1048576) : Ev (fun k => impl_IsBoard.f k r c l) (a3 r c l) := by
 obtain ⟨K, hK⟩ := a7 (aW l hn)
 refine ⟨K, fun k hk => ?_⟩
 simp only [impl_IsBoard.f]
 by_cases h1 : r ≥ 1
 ·rw [if_pos h1]
  by_cases h2 : r ≤ 10
  ·rw [if_pos h2]
   by_cases h3 : c ≥ 1
   ·rw [if_pos h3]
    by_cases h4 : c ≤ 9
    ·have hm := aA h1 h2 h3 h4
     rw [if_pos h4, a1 (by omega) (by omega)]
     by_cases h5 : (l.length : Int) = r * c
     ·rw [if_pos h5, bindE (hK k hk)]
      have h6 : l.length ≤ 90 := by omega
      have h7 : 1 ≤ r := h1
      have h8 : 1 ≤ c := h3
      simp [a3, sizeB, h7, h2, h8, h4, h5, h6]
     ·rw [if_neg h5]
      simp [a3, sizeB, h5]
    ·rw [if_neg h4]
     simp [a3, sizeB, h4]
   ·rw [if_neg h3]
    have h3' : ¬ 1 ≤ c := h3
    simp [a3, sizeB, h3']
  ·rw [if_neg h2]
   simp [a3, sizeB, h2]
 ·rw [if_neg h1]
  have h1' : ¬ 1 ≤ r := h1
  simp [a3, sizeB, h1']

theorem aM (a lo hi : Int) : spec_l1In.f a lo hi = some (decide (lo ≤ a ∧ a ≤ hi)) := by
 unfold spec_l1In.f
 by_cases h : a ≥ lo
 ·rw [if_pos h]
  simp [show lo ≤ a from h]
 ·rw [if_neg h]
  simp [show ¬ lo ≤ a from h]

def turnB (a : Int) : Bool := decide (a = 3 ∨ a = 6)
theorem bb (a b : Int) : spec_paTurning.f a b = some (turnB a) := by
 unfold spec_paTurning.f turnB
 by_cases h : a = 3
 ·simp [h]
 ·rw [if_neg h]
  by_cases h6 : a = 6 <;> simp [h, h6]

theorem bC (a b : Int) : spec_paGood.f a b = some (goodB a b) := by
 unfold spec_paGood.f
 rw [aM, Option.bind_some]
 by_cases h : 0 ≤ a ∧ a ≤ 7
 ·rw [decide_eq_true h, if_pos rfl]
  by_cases h0 : b = 0
  ·rw [if_pos h0]
   simp [goodB, h, h0]
  ·rw [if_neg h0]
   by_cases h1 : b = 1
   ·rw [if_pos h1, bb, Option.bind_some]
    simp [goodB, turnB, h, h1]
   ·rw [if_neg h1]
    simp [goodB, h0, h1]
 ·rw [decide_eq_false h, if_neg (by simp)]
  simp [goodB, h]

theorem aT (x : S71) : spec_paGood.f x.f0 x.f1 = some (goodC x) := bC _ _
theorem bD (a : List S71) (hn : a.length ≤ 1048576) : ∀ (d i : Nat), a.length - i = d → i ≤ a.length →
 Ev (fun k => spec_boGood.l0 k a (a.length : Int) (i : Int)) ((a.drop i).all goodC) := by
 intro d
 induction d with
 | zero =>
  intro i hd hi
  refine ad 0 fun k _ => ?_
  simp only [spec_boGood.l0]
  rw [if_neg (by omega), List.drop_of_length_le (by omega)]
  simp
 | succ d ih =>
  intro i hd hi
  have hlt : i < a.length := by omega
  have h := ih (i + 1) (by omega) (by omega)
  rw [aa a z71 hlt, List.all_cons]
  by_cases hg : goodC (a.getD i z71) = true
  ·rw [hg, Bool.true_and]
   refine a8 0 h fun k _ => ?_
   simp only [spec_boGood.l0, rd_T71, Int.toNat_natCast, aT, Option.bind_some]
   rw [if_pos (by omega), if_pos (by omega), if_pos (by omega), if_pos hg, a4 hlt (by omega)]
  ·rw [Bool.eq_false_iff.2 hg, Bool.false_and]
   refine ad 0 fun k _ => ?_
   simp only [spec_boGood.l0, rd_T71, Int.toNat_natCast, aT, Option.bind_some]
   rw [if_pos (by omega), if_pos (by omega), if_pos (by omega), if_neg hg]
theorem bF (r c : Int) (l : List S71) (hn : l.length ≤ 1048576) : Ev (fun k => spec_boGood.f k r c l) (a3 r c l) := by
 obtain ⟨K, hK⟩ := a7 (bD l hn l.length 0 (by omega) (by omega))
 refine ⟨K + 1, fun k hk => ?_⟩
 obtain ⟨k, rfl⟩ : ∃ m, k = m + 1 := ⟨k - 1, by omega⟩
 have hK' := hK k (by omega)
 simp only [spec_boGood.f, aM, Option.bind_some, spec_boGood.j0, a9]
 by_cases h1 : 1 ≤ r ∧ r ≤ 10
 ·rw [decide_eq_true h1, a9]
  by_cases h2 : 1 ≤ c ∧ c ≤ 9
  ·rw [decide_eq_true h2, a9]
   have hm := aA h1.1 h1.2 h2.1 h2.2
   rw [a1 (by omega) (by omega)]
   by_cases h5 : (l.length : Int) = r * c
   ·have h6 : ((l.length : Int) != r * c) = false := by simp [h5]
    rw [h6, if_neg (by simp)]
    refine hK'.trans ?_
    simp [a3, sizeB, h1, h2, h5]
   ·have h6 : ((l.length : Int) != r * c) = true := by simp [h5]
    rw [h6, a9]
    simp [a3, sizeB, h5]
  ·rw [decide_eq_false h2, if_neg (by simp)]
   simp [a3, sizeB, h2]
 ·rw [decide_eq_false h1, if_neg (by simp)]
  simp [a3, sizeB, h1]



theorem bX {i j C : Nat} (h : i * C + j ≤ 1000000) : wrap64 (wrap64 ((i : Int) * (C : Int)) + (j : Int)) = ((i * C + j : Nat) : Int) := by
 rw [show (i : Int) * (C : Int) = ((i * C : Nat) : Int) by simp]
 generalize i * C = n at h ⊢
 rw [a1 (x := (n : Int)) (by omega) (by omega), a1 (x := (n : Int) + (j : Int)) (by omega) (by omega)]
 omega
theorem bW {i j C : Nat} (hj : j < C) (h : i * C + C ≤ 1000000) : wrap64 (wrap64 (wrap64 (wrap64 ((i : Int) * (C : Int)) + (C : Int)) - 1) - (j : Int)) = ((i * C + (C - 1 - j) : Nat) : Int) := by
 rw [show (i : Int) * (C : Int) = ((i * C : Nat) : Int) by simp]
 generalize i * C = n at h ⊢
 rw [a1 (x := (n : Int)) (by omega) (by omega), a1 (x := (n : Int) + (C : Int)) (by omega) (by omega), a1 (x := (n : Int) + (C : Int) - 1) (by omega) (by omega), a1 (x := (n : Int) + (C : Int) - 1 - (j : Int)) (by omega) (by omega)]
 omega
theorem bI {R C i j : Nat} (hi : i < R) (hj : j < C) : i * C + j < R * C := by
 have h : (i + 1) * C ≤ R * C := Nat.mul_le_mul_right C hi
 rw [Nat.succ_mul] at h
 omega
theorem bZ {C i j : Nat} (hj : j < C) : (i * C + j) / C = i := by
 rw [Nat.add_comm, Nat.mul_comm, Nat.add_mul_div_left _ _ (by omega), Nat.div_eq_of_lt hj, Nat.zero_add]
theorem c5 {C i j : Nat} (hj : j < C) : (i * C + j) % C = j := by
 rw [Nat.add_comm, Nat.mul_comm, Nat.add_mul_mod_self_left, Nat.mod_eq_of_lt hj]
theorem bz {r c : Int} {l : List S71} (b : Brd r c l) : ∃ R C : Nat, r = R ∧ c = C ∧ l.length = R * C ∧ 1 ≤ R ∧ R ≤ 10 ∧ 1 ≤ C ∧ C ≤ 9 := by
 have h1 := b.r1; have h2 := b.r2; have h3 := b.c1; have h4 := b.c2; have h5 := b.len
 obtain ⟨R, rfl⟩ : ∃ R : Nat, r = R := ⟨r.toNat, by omega⟩
 obtain ⟨C, rfl⟩ : ∃ C : Nat, c = C := ⟨c.toNat, by omega⟩
 refine ⟨R, C, rfl, rfl, ?_, by omega, by omega, by omega, by omega⟩
 have : ((l.length : Nat) : Int) = ((R * C : Nat) : Int) := by rw [h5]; simp
 exact Int.ofNat.inj this

def near (R C a : Nat) : List Nat :=
 (if a / C > 0 then [a - C] else []) ++ ((if a % C > 0 then [a - 1] else []) ++ ((if a % C + 1 < C then [a + 1] else []) ++ (if a / C + 1 < R then [a + C] else [])))
theorem b0 {R C a : Nat} (hC : 1 ≤ C) (ha : a < R * C) : ∀ n ∈ near R C a, n < R * C := by
 intro n hn
 have hd := Nat.div_add_mod a C
 have hm := Nat.mod_lt a (show C > 0 by omega)
 rw [Nat.mul_comm] at hd
 have hr : a / C < R := by
  apply Nat.div_lt_of_lt_mul
  rwa [Nat.mul_comm]
 simp only [near, List.mem_append] at hn
 rcases hn with h | h | h | h
 ·split at h
  ·simp at h; omega
  ·simp at h
 ·split at h
  ·simp at h; omega
  ·simp at h
 ·split at h
  ·rename_i h1
   simp at h
   have := bI (R := R) hr h1
   omega
  ·simp at h
 ·split at h
  ·rename_i h1
   simp at h
   have := bI (R := R) h1 hm
   rw [Nat.succ_mul] at this
   omega
  ·simp at h
theorem aC (R C a : Nat) : (near R C a).length ≤ 4 := by
 unfold near
 split <;> split <;> split <;> split <;> simp
def castL (l : List Nat) : List Int := l.map fun n : Nat => ((n : Nat) : Int)
theorem a2 (l : List Nat) : (castL l).length = l.length := by simp [castL]
theorem au (a b : List Nat) : castL (a ++ b) = castL a ++ castL b := by simp [castL]
theorem ap (l : List Nat) {j : Nat} (h : j < l.length) : rd (castL l) (j : Int) = ((l.getD j 0 : Nat) : Int) := by
 simp [rd, castL, List.getD_eq_getElem?_getD, h]
theorem bT (l : List Nat) (j : Nat) : (castL l).drop j = castL (l.drop j) := by simp [castL]

def gearB (x : S71) : Bool := decide (x.f0 = 6 ∨ x.f0 = 7)
def neg (out : List Int) : Nat := out.countP fun x => decide (x < 0)
theorem ax {out : List Int} {n : Nat} (h : n < out.length) (hn : out.getD n 0 < 0) {c : Int} (hc : 0 ≤ c) : neg (out.set n c) + 1 = neg out := by
 unfold neg
 rw [List.countP_set h]
 rw [List.getD_eq_getElem?_getD, List.getElem?_eq_getElem h] at hn
 have hn' : out[n] < 0 := hn
 have hp : 0 < out.countP (fun x => decide (x < 0)) := List.countP_pos_iff.2 ⟨out[n], List.getElem_mem h, by simp [hn']⟩
 rw [if_pos (by simp [hn']), if_neg (by simp; omega)]
 omega
def push (l : List S71) (c : Int) : List Int → List Nat → List Int × List Nat
 | out, [] => (out, [])
 | out, n :: ns => if (gearB (l.getD n z71) && decide (out.getD n 0 < 0)) = true then ((push l c (out.set n c) ns).1, n :: (push l c (out.set n c) ns).2) else push l c out ns
theorem ah (l : List S71) (c : Int) : ∀ (ns : List Nat) (out : List Int), (push l c out ns).1.length = out.length
 | [], _ => rfl
 | n :: ns, out => by
  unfold push
  split
  ·simp [ah l c ns]
  ·exact ah l c ns out
theorem ar (l : List S71) {c : Int} (hc : 0 ≤ c) : ∀ (ns : List Nat) (out : List Int), (∀ n ∈ ns, n < out.length) → neg (push l c out ns).1 + (push l c out ns).2.length = neg out
 | [], _, _ => rfl
 | n :: ns, out, h => by
  unfold push
  split
  ·rename_i hg
   simp only [Bool.and_eq_true, decide_eq_true_eq] at hg
   have h1 := ar l hc ns (out.set n c) (fun m hm => by rw [List.length_set]; exact h m (List.mem_cons_of_mem _ hm))
   have h2 := ax (h n List.mem_cons_self) hg.2 hc
   simp only [List.length_cons]
   omega
  ·exact ar l hc ns out fun m hm => h m (List.mem_cons_of_mem _ hm)
theorem an (l : List S71) (c : Int) : ∀ (ns : List Nat) (out : List Int), ∀ m ∈ (push l c out ns).2, m ∈ ns
 | [], _, m, hm => by simp [push] at hm
 | n :: ns, out, m, hm => by
  unfold push at hm
  split at hm
  ·rcases List.mem_cons.1 hm with rfl | h
   ·exact List.mem_cons_self
   ·exact List.mem_cons_of_mem _ (an l c ns _ m h)
  ·exact List.mem_cons_of_mem _ (an l c ns _ m hm)
def bfs (l : List S71) (R C : Nat) (c : Int) : Nat → List Int → List Nat → List Int
 | 0, out, _ => out
 | _ + 1, out, [] => out
 | f + 1, out, a :: q => bfs l R C c f (push l c out (near R C a)).1 (q ++ (push l c out (near R C a)).2)
theorem ak (l : List S71) (R C : Nat) (c : Int) : ∀ (f : Nat) (out : List Int) (q : List Nat), (bfs l R C c f out q).length = out.length
 | 0, _, _ => rfl
 | _ + 1, _, [] => rfl
 | f + 1, out, a :: q => by rw [bfs, ak l R C c f, ah]
def a5 (l : List S71) (R C : Nat) : Nat → Nat → List Int → Int → List Int
 | 0, _, out, _ => out
 | d + 1, i, out, c => if (gearB (l.getD i z71) && decide (out.getD i 0 < 0)) = true then a5 l R C d (i + 1) (bfs l R C c (l.length + 1) (out.set i c) [i]) (c + 1) else a5 l R C d (i + 1) out c
def a6 (l : List S71) (R C : Nat) : List Int := a5 l R C l.length 0 (List.replicate l.length (-1)) 0
theorem af (l : List S71) (R C : Nat) : ∀ (d i : Nat) (out : List Int) (c : Int), (a5 l R C d i out c).length = out.length
 | 0, _, _, _ => rfl
 | d + 1, i, out, c => by
  unfold a5
  split
  ·rw [af l R C d, ak, List.length_set]
  ·exact af l R C d _ _ _
theorem al (l : List S71) (R C : Nat) : (a6 l R C).length = l.length := by
 rw [a6, af, List.length_replicate]
theorem bJ (out : List Int) : neg out ≤ out.length := List.countP_le_length
theorem ac (out : List Int) (n : Nat) : rd out (n : Int) = out.getD n 0 := by rw [rd, Int.toNat_natCast]

theorem bn (R C a : Nat) (l : List S71) (hR : R ≤ 10) (hC1 : 1 ≤ C) (hC : C ≤ 9) (ha : a < R * C) (h90 : R * C ≤ 90) : Ev (fun k => impl_besideOf.f k (R : Int) (C : Int) l (a : Int)) (castL (near R C a)) := by
 have hm := Nat.mod_lt a (show C > 0 by omega)
 have hr : a / C < R := by
  apply Nat.div_lt_of_lt_mul
  rwa [Nat.mul_comm]
 have e1 : Int.tdiv (a : Int) (C : Int) = ((a / C : Nat) : Int) := rfl
 have e2 : Int.tmod (a : Int) (C : Int) = ((a % C : Nat) : Int) := rfl
 have hsub : a / C > 0 → C ≤ a := fun h => by
  have hd := Nat.div_add_mod a C
  have : C * 1 ≤ C * (a / C) := Nat.mul_le_mul_left C h
  omega
 refine ⟨2, fun k hk => ?_⟩
 obtain ⟨k, rfl⟩ : ∃ m, k = m + 1 + 1 := ⟨k - 2, by omega⟩
 simp only [impl_besideOf.f, Option.bind_some]
 rw [e1, e2]
 clear e1 e2
 have hpa : a % C > 0 → 1 ≤ a := fun h => by
  have := Nat.mod_le a C
  omega
 unfold near
 generalize a / C = q at *
 generalize a % C = p at *
 rw [if_neg (by omega), a1 (x := (q : Int)) (by omega) (by omega)]
 have j1 : ∀ (x : List Int), x.length ≤ 2 → impl_besideOf.j1 (k + 1) (a : Int) x (q : Int) (p : Int) (R : Int) (C : Int) l = some (x ++ castL ((if p + 1 < C then [a + 1] else []) ++ (if q + 1 < R then [a + C] else []))) := by
  intro x hx
  simp only [impl_besideOf.j1]
  rw [a1 (x := (p : Int) + 1) (by omega) (by omega), a1 (x := (q : Int) + 1) (by omega) (by omega), a1 (x := (a : Int) + 1) (by omega) (by omega), a1 (x := (a : Int) + (C : Int)) (by omega) (by omega)]
  by_cases h1 : p + 1 < C
  ·rw [if_pos (by omega), if_pos (by omega), if_pos h1, Option.bind_some]
   by_cases h2 : q + 1 < R
   ·rw [if_pos (by omega), if_pos h2, if_pos (by simp; omega)]
    simp [castL]
   ·rw [if_neg (by omega), if_neg h2]
    simp [castL]
  ·rw [if_neg (by omega), if_neg h1]
   by_cases h2 : q + 1 < R
   ·rw [if_pos (by omega), if_pos h2, if_pos (by omega)]
    simp [castL]
   ·rw [if_neg (by omega), if_neg h2]
    simp [castL]
 have j0 : ∀ (x : List Int), x.length ≤ 1 → impl_besideOf.j0 (k + 1 + 1) (a : Int) x (q : Int) (p : Int) (R : Int) (C : Int) l = some (x ++ castL ((if p > 0 then [a - 1] else []) ++ ((if p + 1 < C then [a + 1] else []) ++ (if q + 1 < R then [a + C] else [])))) := by
  intro x hx
  simp only [impl_besideOf.j0]
  by_cases h1 : p > 0
  ·rw [if_pos (by omega), if_pos (by omega), if_pos h1, j1 _ (by simp; omega), a1 (x := (a : Int) - 1) (by omega) (by omega)]
   have : ((a : Int) - 1) = ((a - 1 : Nat) : Int) := by have := hpa h1; omega
   rw [this]
   simp [castL]
  ·rw [if_neg (by omega), if_neg h1, j1 _ (by omega)]
   simp [castL]
 by_cases h0 : q > 0
 ·have := hsub h0
  rw [if_pos (by omega), if_pos (by simp), if_pos h0, j0 _ (by simp), a1 (x := (a : Int) - (C : Int)) (by omega) (by omega), show (a : Int) - (C : Int) = ((a - C : Nat) : Int) by omega]
  simp [castL]
 ·rw [if_neg (by omega), if_neg h0, j0 _ (by simp)]
  simp [castL]

theorem aL {α : Type} (T l : List α) (z : α) {n : Nat} (h : n < T.length) (hl : T.length = l.length) : (T.take n ++ l.drop n).set n (T.getD n z) = T.take (n + 1) ++ l.drop (n + 1) := by
 have e1 : (T.take n).length = n := by simp; omega
 rw [List.set_append_right _ _ (by omega), e1, Nat.sub_self, aa l z (by omega), List.set_cons_zero]
 rw [List.take_succ_eq_append_getElem h, List.append_assoc, List.getD_eq_getElem?_getD, List.getElem?_eq_getElem h]
 rfl
theorem bG {α : Type} (T : List α) (z : α) {n : Nat} (h : n < T.length) : T.take n ++ [T.getD n z] = T.take (n + 1) := by
 rw [List.take_succ_eq_append_getElem h, List.getD_eq_getElem?_getD, List.getElem?_eq_getElem h]
 rfl
theorem aP {α : Type} (f : Nat → α) (z : α) {n m : Nat} (h : n < m) : ((List.range m).map f).getD n z = f n := by
 rw [List.getD_eq_getElem?_getD, List.getElem?_eq_getElem (by simpa using h)]
 simp

theorem aD (x : S71) : impl_isGeared.f x.f0 x.f1 = some (gearB x) := by
 unfold impl_isGeared.f gearB
 by_cases h : x.f0 = 6
 ·simp [h]
 ·rw [if_neg h]
  by_cases h7 : x.f0 = 7 <;> simp [h, h7]
theorem aH (l : List S71) (R C : Nat) (c : Int) (hc : 0 ≤ c) (i : Nat) (ns : List Nat) (hns : ∀ n ∈ ns, n < l.length) (h90 : l.length ≤ 90) (hns4 : ns.length ≤ 4) (res : List Int) :
 ∀ (d j : Nat) (out : List Int) (q : List Nat), ns.length - j = d → j ≤ ns.length → out.length = l.length → q.length + neg out ≤ l.length →
 Ev (fun k => impl_groupNumbers.l2 k (push l c out (ns.drop j)).1 c (castL (q ++ (push l c out (ns.drop j)).2)) l (l.length : Int) (i : Int) (R : Int) (C : Int) l) res →
 Ev (fun k => impl_groupNumbers.l3 k out c (castL q) l (l.length : Int) (i : Int) (castL ns) (ns.length : Int) (j : Int) (R : Int) (C : Int) l) res := by
 intro d
 induction d with
 | zero =>
  intro j out q hd hj ho hq hnext
  rw [List.drop_of_length_le (by omega)] at hnext
  simp only [push, List.append_nil] at hnext
  refine a8 0 hnext fun k _ => ?_
  simp only [impl_groupNumbers.l3]
  rw [if_neg (by omega)]
 | succ d ih =>
  intro j out q hd hj ho hq hnext
  have hlt : j < ns.length := by omega
  have hn : ns.getD j 0 < l.length := by
   rw [List.getD_eq_getElem?_getD, List.getElem?_eq_getElem hlt]
   exact hns _ (List.getElem_mem hlt)
  rw [aa ns 0 hlt] at hnext
  have hg := aD (l.getD (ns.getD j 0) z71)
  by_cases h : (gearB (l.getD (ns.getD j 0) z71) && decide (out.getD (ns.getD j 0) 0 < 0)) = true
  ·simp only [push, if_pos h] at hnext
   simp only [Bool.and_eq_true, decide_eq_true_eq] at h
   have hneg := ax (by omega) h.2 hc
   have h2 := ih (j + 1) (out.set (ns.getD j 0) c) (q ++ [ns.getD j 0]) (by omega) (by omega) (by simpa using ho) (by simp only [List.length_append, List.length_singleton]; omega) (by simpa [List.append_assoc] using hnext)
   refine a8 0 h2 fun k _ => ?_
   simp only [impl_groupNumbers.l3]
   rw [if_pos (by omega), if_pos (by omega), if_pos (by rw [a2]; omega), ap ns hlt, if_pos (by omega), if_pos (by omega), ab, bindE hg, if_pos h.1, if_pos (by omega), ac, if_pos h.2, if_pos (by rw [a2]; omega), a4 hlt (by omega), Int.toNat_natCast, au]
   rfl
  ·simp only [push, if_neg h] at hnext
   have h2 := ih (j + 1) out q (by omega) (by omega) ho hq hnext
   refine a8 0 h2 fun k _ => ?_
   simp only [impl_groupNumbers.l3]
   rw [if_pos (by omega), if_pos (by omega), if_pos (by rw [a2]; omega), ap ns hlt, if_pos (by omega), if_pos (by omega), ab, bindE hg, a4 hlt (by omega)]
   by_cases h1 : gearB (l.getD (ns.getD j 0) z71) = true
   ·rw [if_pos h1, if_pos (by omega), ac, if_neg (fun h3 => h (by simp only [Bool.and_eq_true, decide_eq_true_eq]; exact ⟨h1, h3⟩))]
   ·rw [if_neg h1]
theorem aJ (l : List S71) (R C : Nat) (hlen : l.length = R * C) (hR : R ≤ 10) (hC1 : 1 ≤ C) (hC : C ≤ 9) (h90 : l.length ≤ 90) (c : Int) (hc : 0 ≤ c) (i : Nat) (hi : i < l.length) (hci : c ≤ i) (res : List Int) :
 ∀ (f : Nat) (out : List Int) (q : List Nat), (∀ n ∈ q, n < l.length) → out.length = l.length → q.length + neg out ≤ l.length → q.length + neg out < f →
 Ev (fun k => impl_groupNumbers.l1 k (bfs l R C c f out q) (c + 1) l (l.length : Int) ((i + 1 : Nat) : Int) (R : Int) (C : Int) l) res →
 Ev (fun k => impl_groupNumbers.l2 k out c (castL q) l (l.length : Int) (i : Int) (R : Int) (C : Int) l) res := by
 intro f
 induction f with
 | zero => intro out q _ _ _ h; omega
 | succ f ih =>
  intro out q hq ho hm hf hnext
  cases q with
  | nil =>
   rw [bfs] at hnext
   refine a8 0 hnext fun k _ => ?_
   simp only [impl_groupNumbers.l2]
   rw [if_neg (by simp [castL]), a4 hi (by omega), a1 (x := c + 1) (by omega) (by omega)]
  | cons a q =>
   have ha : a < l.length := hq a List.mem_cons_self
   have hnl : ∀ n ∈ near R C a, n < l.length := fun n hn => by
    have := b0 hC1 (by omega) n hn
    omega
   rw [bfs] at hnext
   have hp := ar l hc (near R C a) out (fun n hn => by rw [ho]; exact hnl n hn)
   simp only [List.length_cons] at hm hf
   have h2 := ih (push l c out (near R C a)).1 (q ++ (push l c out (near R C a)).2) (fun n hn => by
    rcases List.mem_append.1 hn with h | h
    ·exact hq n (List.mem_cons_of_mem _ h)
    ·exact hnl n (an l c _ out n h)) (by rw [ah]; exact ho) (by rw [List.length_append]; omega) (by rw [List.length_append]; omega) hnext
   have h3 := aH l R C c hc i (near R C a) hnl h90 (aC R C a) res (near R C a).length 0 out q (by omega) (by omega) ho (by omega) h2
   obtain ⟨K, hK⟩ := a7 (bn R C a l hR hC1 hC (by omega) (by omega))
   refine a8 K h3 fun k hk => ?_
   simp only [impl_groupNumbers.l2]
   rw [if_pos (by rw [a2, List.length_cons]; omega), if_pos (by rw [a2, List.length_cons]; omega), if_pos (by rw [a2, List.length_cons]; omega), show rd (castL (a :: q)) 0 = (a : Int) from rfl, bindE (hK k hk), a2]
   rfl
theorem aE (l : List S71) (R C : Nat) (hlen : l.length = R * C) (hR : R ≤ 10) (hC1 : 1 ≤ C) (hC : C ≤ 9) (h90 : l.length ≤ 90) :
 ∀ (d i : Nat) (out : List Int) (c : Int), l.length - i = d → i ≤ l.length → out.length = l.length → 0 ≤ c → c ≤ i →
 Ev (fun k => impl_groupNumbers.l1 k out c l (l.length : Int) (i : Int) (R : Int) (C : Int) l) (a5 l R C d i out c) := by
 intro d
 induction d with
 | zero =>
  intro i out c hd hi ho h0 hc
  refine ad 0 fun k _ => ?_
  simp only [impl_groupNumbers.l1]
  rw [if_neg (by omega)]
  rfl
 | succ d ih =>
  intro i out c hd hi ho h0 hc
  have hlt : i < l.length := by omega
  have hg := aD (l.getD i z71)
  rw [a5]
  by_cases h : (gearB (l.getD i z71) && decide (out.getD i 0 < 0)) = true
  ·rw [if_pos h]
   simp only [Bool.and_eq_true, decide_eq_true_eq] at h
   have hneg := ax (by omega) h.2 h0
   have hle := bJ out
   have h1 := ih (i + 1) (bfs l R C c (l.length + 1) (out.set i c) [i]) (c + 1) (by omega) (by omega) (by rw [ak, List.length_set]; exact ho) (by omega) (by omega)
   have h2 := aJ l R C hlen hR hC1 hC h90 c h0 i hlt hc _ (l.length + 1) (out.set i c) [i] (fun n hn => by simp at hn; omega) (by simpa using ho) (by simp only [List.length_singleton]; omega) (by simp only [List.length_singleton]; omega) h1
   obtain ⟨K, hK⟩ := a7 h2
   refine ⟨K + 2, fun k hk => ?_⟩
   obtain ⟨k, rfl⟩ : ∃ m, k = m + 1 + 1 := ⟨k - 2, by omega⟩
   simp only [impl_groupNumbers.l1]
   rw [if_pos (by omega), if_pos (by omega), if_pos (by omega), ab, bindE hg, if_pos h.1, if_pos (by omega), ac, decide_eq_false (by omega)]
   simp only [impl_groupNumbers.j2]
   rw [if_neg (by simp), if_pos (by omega), if_pos (by omega), Int.toNat_natCast]
   exact hK k (by omega)
  ·rw [if_neg h]
   obtain ⟨K, hK⟩ := a7 (ih (i + 1) out c (by omega) (by omega) ho h0 (by omega))
   refine ⟨K + 2, fun k hk => ?_⟩
   obtain ⟨k, rfl⟩ : ∃ m, k = m + 1 + 1 := ⟨k - 2, by omega⟩
   simp only [impl_groupNumbers.l1]
   rw [if_pos (by omega), if_pos (by omega), if_pos (by omega), ab, bindE hg]
   have e : impl_groupNumbers.j2 (k + 1) out c (i : Int) l (l.length : Int) (i : Int) true (R : Int) (C : Int) l = some (a5 l R C d (i + 1) out c) := by
    simp only [impl_groupNumbers.j2]
    rw [if_pos trivial, a4 hlt (by omega)]
    exact hK k (by omega)
   by_cases h1 : gearB (l.getD i z71) = true
   ·have h2 : ¬ out.getD i 0 < 0 := fun h3 => h (by simp only [Bool.and_eq_true, decide_eq_true_eq]; exact ⟨h1, h3⟩)
    rw [if_pos h1, if_pos (by omega), ac, decide_eq_true (show out.getD i 0 ≥ 0 by omega), e]
   ·rw [if_neg h1, e]
theorem aI (l : List S71) (R C : Nat) (h90 : l.length ≤ 90) (res : List Int) (hnext : Ev (fun k => impl_groupNumbers.l1 k (List.replicate l.length (-1)) 0 l (l.length : Int) 0 (R : Int) (C : Int) l) res) :
 ∀ (d i : Nat), l.length - i = d → i ≤ l.length →
 Ev (fun k => impl_groupNumbers.l0 k ((List.replicate l.length (-1)).take i ++ (List.replicate l.length (0 : Int)).drop i) (l.length : Int) (i : Int) (R : Int) (C : Int) l) res := by
 intro d
 induction d with
 | zero =>
  intro i hd hi
  obtain rfl : i = l.length := by omega
  refine a8 0 hnext fun k _ => ?_
  simp only [impl_groupNumbers.l0]
  rw [if_neg (by omega), List.take_of_length_le (by simp), List.drop_of_length_le (by simp), List.append_nil]
 | succ d ih =>
  intro i hd hi
  have hlt : i < l.length := by omega
  have hm := aL (List.replicate l.length (-1 : Int)) (List.replicate l.length (0 : Int)) (-1) (n := i) (by simpa using hlt) (by simp)
  rw [show (List.replicate l.length (-1 : Int)).getD i (-1) = -1 by simp [List.getD_eq_getElem?_getD, hlt]] at hm
  refine a8 0 (ih (i + 1) (by omega) (by omega)) fun k _ => ?_
  simp only [impl_groupNumbers.l0]
  rw [if_pos (by omega), if_pos (by omega), if_pos (by simp; omega), Int.toNat_natCast, hm, a4 hlt (by omega)]
theorem aF (l : List S71) (R C : Nat) (hlen : l.length = R * C) (hR : R ≤ 10) (hC1 : 1 ≤ C) (hC : C ≤ 9) (h90 : l.length ≤ 90) : Ev (fun k => impl_groupNumbers.f k (R : Int) (C : Int) l) (a6 l R C) := by
 have h1 := aE l R C hlen hR hC1 hC h90 l.length 0 (List.replicate l.length (-1)) 0 (by omega) (by omega) (by simp) (by omega) (by omega)
 have h0 := aI l R C h90 _ h1 l.length 0 (by omega) (by omega)
 refine ay 0 h0 fun k _ => ?_
 simp only [impl_groupNumbers.f]
 rw [if_pos (by omega), if_pos (by omega), Option.bind_some, Int.toNat_natCast, List.length_replicate]
 simp

theorem bB (R C a : Nat) (l : List S71) (hR : R ≤ 10) (hC1 : 1 ≤ C) (hC : C ≤ 9) (ha : a < R * C) (h90 : R * C ≤ 90) : Ev (fun k => spec_ggNear.f k (R : Int) (C : Int) l (a : Int)) (castL (near R C a)) := by
 have hm := Nat.mod_lt a (show C > 0 by omega)
 have hr : a / C < R := by
  apply Nat.div_lt_of_lt_mul
  rwa [Nat.mul_comm]
 have e1 : Int.tdiv (a : Int) (C : Int) = ((a / C : Nat) : Int) := rfl
 have e2 : Int.tmod (a : Int) (C : Int) = ((a % C : Nat) : Int) := rfl
 have hsub : a / C > 0 → C ≤ a := fun h => by
  have hd := Nat.div_add_mod a C
  have : C * 1 ≤ C * (a / C) := Nat.mul_le_mul_left C h
  omega
 refine ⟨2, fun k hk => ?_⟩
 obtain ⟨k, rfl⟩ : ∃ m, k = m + 1 + 1 := ⟨k - 2, by omega⟩
 simp only [spec_ggNear.f]
 rw [e1, e2]
 clear e1 e2
 have hpa : a % C > 0 → 1 ≤ a := fun h => by
  have := Nat.mod_le a C
  omega
 unfold near
 generalize a / C = q at *
 generalize a % C = p at *
 rw [if_neg (by omega), a1 (x := (q : Int)) (by omega) (by omega)]
 have j1 : ∀ (x : List Int), x.length ≤ 2 → spec_ggNear.j1 (k + 1) (a : Int) (q : Int) (p : Int) x (R : Int) (C : Int) l = some (x ++ castL ((if p + 1 < C then [a + 1] else []) ++ (if q + 1 < R then [a + C] else []))) := by
  intro x hx
  simp only [spec_ggNear.j1]
  rw [a1 (x := (p : Int) + 1) (by omega) (by omega), a1 (x := (q : Int) + 1) (by omega) (by omega), a1 (x := (a : Int) + 1) (by omega) (by omega), a1 (x := (a : Int) + (C : Int)) (by omega) (by omega)]
  by_cases h1 : p + 1 < C
  ·rw [if_pos (by omega), if_pos (by omega), if_pos h1, Option.bind_some]
   by_cases h2 : q + 1 < R
   ·rw [if_pos (by omega), if_pos h2, if_pos (by simp; omega)]
    simp [castL]
   ·rw [if_neg (by omega), if_neg h2]
    simp [castL]
  ·rw [if_neg (by omega), if_neg h1]
   by_cases h2 : q + 1 < R
   ·rw [if_pos (by omega), if_pos h2, if_pos (by omega)]
    simp [castL]
   ·rw [if_neg (by omega), if_neg h2]
    simp [castL]
 have j0 : ∀ (x : List Int), x.length ≤ 1 → spec_ggNear.j0 (k + 1 + 1) (a : Int) (q : Int) (p : Int) x (R : Int) (C : Int) l = some (x ++ castL ((if p > 0 then [a - 1] else []) ++ ((if p + 1 < C then [a + 1] else []) ++ (if q + 1 < R then [a + C] else [])))) := by
  intro x hx
  simp only [spec_ggNear.j0]
  by_cases h1 : p > 0
  ·rw [if_pos (by omega), if_pos (by omega), if_pos h1, j1 _ (by simp; omega), a1 (x := (a : Int) - 1) (by omega) (by omega)]
   have : ((a : Int) - 1) = ((a - 1 : Nat) : Int) := by have := hpa h1; omega
   rw [this]
   simp [castL]
  ·rw [if_neg (by omega), if_neg h1, j1 _ (by omega)]
   simp [castL]
 by_cases h0 : q > 0
 ·have := hsub h0
  rw [if_pos (by omega), if_pos (by simp), if_pos h0, j0 _ (by simp), a1 (x := (a : Int) - (C : Int)) (by omega) (by omega), show (a : Int) - (C : Int) = ((a - C : Nat) : Int) by omega]
  simp [castL]
 ·rw [if_neg (by omega), if_neg h0, j0 _ (by simp)]
  simp [castL]

theorem aX (x : S71) : spec_ggGear.f x.f0 x.f1 = some (gearB x) := by
 unfold spec_ggGear.f gearB
 by_cases h : x.f0 = 6
 ·simp [h]
 ·rw [if_neg h]
  by_cases h7 : x.f0 = 7 <;> simp [h, h7]
theorem bo (l : List S71) (R C : Nat) (c : Int) (hc : 0 ≤ c) (i : Nat) (ns : List Nat) (hns : ∀ n ∈ ns, n < l.length) (h90 : l.length ≤ 90) (hns4 : ns.length ≤ 4) (x : Nat) (hx : x < l.length) (res : List Int) :
 ∀ (d j : Nat) (out : List Int) (q : List Nat), ns.length - j = d → j ≤ ns.length → out.length = l.length → q.length + neg out ≤ l.length →
 Ev (fun k => spec_ggGroups.l2 k (push l c out (ns.drop j)).1 c (castL (q ++ (push l c out (ns.drop j)).2)) ((x + 1 : Nat) : Int) l (l.length : Int) (i : Int) (R : Int) (C : Int) l) res →
 Ev (fun k => spec_ggGroups.l3 k out c (castL q) (x : Int) l (l.length : Int) (i : Int) (castL ns) (ns.length : Int) (j : Int) (R : Int) (C : Int) l) res := by
 intro d
 induction d with
 | zero =>
  intro j out q hd hj ho hq hnext
  rw [List.drop_of_length_le (by omega)] at hnext
  simp only [push, List.append_nil] at hnext
  refine a8 0 hnext fun k _ => ?_
  simp only [spec_ggGroups.l3]
  rw [if_neg (by omega), a4 hx (by omega)]
 | succ d ih =>
  intro j out q hd hj ho hq hnext
  have hlt : j < ns.length := by omega
  have hn : ns.getD j 0 < l.length := by
   rw [List.getD_eq_getElem?_getD, List.getElem?_eq_getElem hlt]
   exact hns _ (List.getElem_mem hlt)
  rw [aa ns 0 hlt] at hnext
  have hg := aX (l.getD (ns.getD j 0) z71)
  by_cases h : (gearB (l.getD (ns.getD j 0) z71) && decide (out.getD (ns.getD j 0) 0 < 0)) = true
  ·simp only [push, if_pos h] at hnext
   simp only [Bool.and_eq_true, decide_eq_true_eq] at h
   have hneg := ax (by omega) h.2 hc
   have h2 := ih (j + 1) (out.set (ns.getD j 0) c) (q ++ [ns.getD j 0]) (by omega) (by omega) (by simpa using ho) (by simp only [List.length_append, List.length_singleton]; omega) (by simpa [List.append_assoc] using hnext)
   refine a8 0 h2 fun k _ => ?_
   simp only [spec_ggGroups.l3]
   rw [if_pos (by omega), if_pos (by omega), if_pos (by rw [a2]; omega), ap ns hlt, if_pos (by omega), if_pos (by omega), ab, bindE hg, if_pos h.1, if_pos (by omega), ac, if_pos h.2, if_pos (by rw [a2]; omega), a4 hlt (by omega), Int.toNat_natCast, au]
   rfl
  ·simp only [push, if_neg h] at hnext
   have h2 := ih (j + 1) out q (by omega) (by omega) ho hq hnext
   refine a8 0 h2 fun k _ => ?_
   simp only [spec_ggGroups.l3]
   rw [if_pos (by omega), if_pos (by omega), if_pos (by rw [a2]; omega), ap ns hlt, if_pos (by omega), if_pos (by omega), ab, bindE hg, a4 hlt (by omega)]
   by_cases h1 : gearB (l.getD (ns.getD j 0) z71) = true
   ·rw [if_pos h1, if_pos (by omega), ac, if_neg (fun h3 => h (by simp only [Bool.and_eq_true, decide_eq_true_eq]; exact ⟨h1, h3⟩))]
   ·rw [if_neg h1]
theorem bg (l : List S71) (R C : Nat) (hlen : l.length = R * C) (hR : R ≤ 10) (hC1 : 1 ≤ C) (hC : C ≤ 9) (h90 : l.length ≤ 90) (c : Int) (hc : 0 ≤ c) (i : Nat) (hi : i < l.length) (hci : c ≤ i) (res : List Int) :
 ∀ (f : Nat) (out : List Int) (q : List Nat) (x : Nat), (∀ n ∈ q, n < l.length) → out.length = l.length → x ≤ q.length → q.length + neg out ≤ l.length → q.length - x + neg out < f →
 Ev (fun k => spec_ggGroups.l1 k (bfs l R C c f out (q.drop x)) (c + 1) l (l.length : Int) ((i + 1 : Nat) : Int) (R : Int) (C : Int) l) res →
 Ev (fun k => spec_ggGroups.l2 k out c (castL q) (x : Int) l (l.length : Int) (i : Int) (R : Int) (C : Int) l) res := by
 intro f
 induction f with
 | zero => intro out q x _ _ _ _ h; omega
 | succ f ih =>
  intro out q x hq ho hx hm hf hnext
  by_cases hxl : x < q.length
  ·have ha : q.getD x 0 < l.length := by
    rw [List.getD_eq_getElem?_getD, List.getElem?_eq_getElem hxl]
    exact hq _ (List.getElem_mem hxl)
   rw [aa q 0 hxl, bfs] at hnext
   generalize hae : q.getD x 0 = a at *
   have hnl : ∀ n ∈ near R C a, n < l.length := fun n hn => by
    have := b0 hC1 (by omega) n hn
    omega
   have hp := ar l hc (near R C a) out (fun n hn => by rw [ho]; exact hnl n hn)
   have h2 := ih (push l c out (near R C a)).1 (q ++ (push l c out (near R C a)).2) (x + 1) (fun n hn => by
    rcases List.mem_append.1 hn with h | h
    ·exact hq n h
    ·exact hnl n (an l c _ out n h)) (by rw [ah]; exact ho) (by rw [List.length_append]; omega) (by rw [List.length_append]; omega) (by rw [List.length_append]; omega) (by rw [List.drop_append_of_le_length (by omega)]; exact hnext)
   have h3 := bo l R C c hc i (near R C a) hnl h90 (aC R C a) x (by omega) res (near R C a).length 0 out q (by omega) (by omega) ho (by omega) h2
   obtain ⟨K, hK⟩ := a7 (bB R C a l hR hC1 hC (by omega) (by omega))
   refine a8 K h3 fun k hk => ?_
   simp only [spec_ggGroups.l2]
   rw [if_pos (by rw [a2]; omega), if_pos (by omega), ap q hxl, hae, bindE (hK k hk), a2]
   rfl
  ·rw [List.drop_of_length_le (by omega), bfs] at hnext
   refine a8 0 hnext fun k _ => ?_
   simp only [spec_ggGroups.l2]
   rw [if_neg (by rw [a2]; omega), a4 hi (by omega), a1 (x := c + 1) (by omega) (by omega)]
theorem bm (l : List S71) (R C : Nat) (hlen : l.length = R * C) (hR : R ≤ 10) (hC1 : 1 ≤ C) (hC : C ≤ 9) (h90 : l.length ≤ 90) :
 ∀ (d i : Nat) (out : List Int) (c : Int), l.length - i = d → i ≤ l.length → out.length = l.length → 0 ≤ c → c ≤ i →
 Ev (fun k => spec_ggGroups.l1 k out c l (l.length : Int) (i : Int) (R : Int) (C : Int) l) (a5 l R C d i out c) := by
 intro d
 induction d with
 | zero =>
  intro i out c hd hi ho h0 hc
  refine ad 0 fun k _ => ?_
  simp only [spec_ggGroups.l1]
  rw [if_neg (by omega)]
  rfl
 | succ d ih =>
  intro i out c hd hi ho h0 hc
  have hlt : i < l.length := by omega
  have hg := aX (l.getD i z71)
  rw [a5]
  by_cases h : (gearB (l.getD i z71) && decide (out.getD i 0 < 0)) = true
  ·rw [if_pos h]
   simp only [Bool.and_eq_true, decide_eq_true_eq] at h
   have hneg := ax (by omega) h.2 h0
   have hle := bJ out
   have h1 := ih (i + 1) (bfs l R C c (l.length + 1) (out.set i c) [i]) (c + 1) (by omega) (by omega) (by rw [ak, List.length_set]; exact ho) (by omega) (by omega)
   have h2 := bg l R C hlen hR hC1 hC h90 c h0 i hlt hc _ (l.length + 1) (out.set i c) [i] 0 (fun n hn => by simp at hn; omega) (by simpa using ho) (by omega) (by simp only [List.length_singleton]; omega) (by simp only [List.length_singleton]; omega) h1
   obtain ⟨K, hK⟩ := a7 h2
   refine ⟨K + 2, fun k hk => ?_⟩
   obtain ⟨k, rfl⟩ : ∃ m, k = m + 1 + 1 := ⟨k - 2, by omega⟩
   simp only [spec_ggGroups.l1]
   rw [if_pos (by omega), if_pos (by omega), if_pos (by omega), ab, bindE hg, if_pos h.1, if_pos (by omega), ac, decide_eq_false (by omega)]
   simp only [spec_ggGroups.j2]
   rw [if_neg (by simp), if_pos (by omega), if_pos (by omega), Int.toNat_natCast]
   exact hK k (by omega)
  ·rw [if_neg h]
   obtain ⟨K, hK⟩ := a7 (ih (i + 1) out c (by omega) (by omega) ho h0 (by omega))
   refine ⟨K + 2, fun k hk => ?_⟩
   obtain ⟨k, rfl⟩ : ∃ m, k = m + 1 + 1 := ⟨k - 2, by omega⟩
   simp only [spec_ggGroups.l1]
   rw [if_pos (by omega), if_pos (by omega), if_pos (by omega), ab, bindE hg]
   have e : spec_ggGroups.j2 (k + 1) out c (i : Int) l (l.length : Int) (i : Int) true (R : Int) (C : Int) l = some (a5 l R C d (i + 1) out c) := by
    simp only [spec_ggGroups.j2]
    rw [if_pos trivial, a4 hlt (by omega)]
    exact hK k (by omega)
   by_cases h1 : gearB (l.getD i z71) = true
   ·have h2 : ¬ out.getD i 0 < 0 := fun h3 => h (by simp only [Bool.and_eq_true, decide_eq_true_eq]; exact ⟨h1, h3⟩)
    rw [if_pos h1, if_pos (by omega), ac, decide_eq_true (show out.getD i 0 ≥ 0 by omega), e]
   ·rw [if_neg h1, e]
theorem bi (l : List S71) (R C : Nat) (h90 : l.length ≤ 90) (res : List Int) (hnext : Ev (fun k => spec_ggGroups.l1 k (List.replicate l.length (-1)) 0 l (l.length : Int) 0 (R : Int) (C : Int) l) res) :
 ∀ (d i : Nat), l.length - i = d → i ≤ l.length →
 Ev (fun k => spec_ggGroups.l0 k ((List.replicate l.length (-1)).take i ++ (List.replicate l.length (0 : Int)).drop i) (l.length : Int) (i : Int) (R : Int) (C : Int) l) res := by
 intro d
 induction d with
 | zero =>
  intro i hd hi
  obtain rfl : i = l.length := by omega
  refine a8 0 hnext fun k _ => ?_
  simp only [spec_ggGroups.l0]
  rw [if_neg (by omega), List.take_of_length_le (by simp), List.drop_of_length_le (by simp), List.append_nil]
 | succ d ih =>
  intro i hd hi
  have hlt : i < l.length := by omega
  have hm := aL (List.replicate l.length (-1 : Int)) (List.replicate l.length (0 : Int)) (-1) (n := i) (by simpa using hlt) (by simp)
  rw [show (List.replicate l.length (-1 : Int)).getD i (-1) = -1 by simp [List.getD_eq_getElem?_getD, hlt]] at hm
  refine a8 0 (ih (i + 1) (by omega) (by omega)) fun k _ => ?_
  simp only [spec_ggGroups.l0]
  rw [if_pos (by omega), if_pos (by omega), if_pos (by simp; omega), Int.toNat_natCast, hm, a4 hlt (by omega)]
theorem bl (l : List S71) (R C : Nat) (hlen : l.length = R * C) (hR : R ≤ 10) (hC1 : 1 ≤ C) (hC : C ≤ 9) (h90 : l.length ≤ 90) : Ev (fun k => spec_ggGroups.f k (R : Int) (C : Int) l) (a6 l R C) := by
 have h1 := bm l R C hlen hR hC1 hC h90 l.length 0 (List.replicate l.length (-1)) 0 (by omega) (by omega) (by simp) (by omega) (by omega)
 have h0 := bi l R C h90 _ h1 l.length 0 (by omega) (by omega)
 refine ay 0 h0 fun k _ => ?_
 simp only [spec_ggGroups.f]
 rw [if_pos (by omega), if_pos (by omega), Option.bind_some, Int.toNat_natCast, List.length_replicate]
 simp

theorem aq (out : List Int) (n j : Nat) (v : Int) : (out.set n v).getD j 0 = if n = j ∧ n < out.length then v else out.getD j 0 := by
 rw [List.getD_eq_getElem?_getD, List.getD_eq_getElem?_getD, List.getElem?_set]
 by_cases h : n = j
 ·subst h
  by_cases hl : n < out.length
  ·simp [hl]
  ·simp [hl]
 ·simp [h]
structure Marked (l : List S71) (c : Int) (out : List Int) : Prop where
 len : out.length = l.length
 lo : ∀ j, j < l.length → -1 ≤ out.getD j 0
 hi : ∀ j, j < l.length → out.getD j 0 < c
 ng : ∀ j, j < l.length → gearB (l.getD j z71) = false → out.getD j 0 < 0
theorem aO {l : List S71} {c : Int} {out : List Int} (h : Marked l (c + 1) out) (hc : 0 ≤ c) {n : Nat} (hn : n < l.length) (hg : gearB (l.getD n z71) = true) : Marked l (c + 1) (out.set n c) := by
 refine ⟨by rw [List.length_set]; exact h.len, fun j hj => ?_, fun j hj => ?_, fun j hj hf => ?_⟩
 ·rw [aq]
  split
  ·omega
  ·exact h.lo j hj
 ·rw [aq]
  split
  ·omega
  ·exact h.hi j hj
 ·rw [aq]
  split
  ·rename_i e
   rw [e.1, hf] at hg
   cases hg
  ·exact h.ng j hj hf
theorem am {l : List S71} {c : Int} (hc : 0 ≤ c) : ∀ (ns : List Nat) (out : List Int), (∀ n ∈ ns, n < l.length) → Marked l (c + 1) out → Marked l (c + 1) (push l c out ns).1 ∧ ∀ j, 0 ≤ out.getD j 0 → 0 ≤ (push l c out ns).1.getD j 0
 | [], out, _, h => ⟨h, fun _ h => h⟩
 | n :: ns, out, hns, h => by
  have hns' : ∀ m ∈ ns, m < l.length := fun m hm => hns m (List.mem_cons_of_mem _ hm)
  unfold push
  split
  ·rename_i hg
   simp only [Bool.and_eq_true, decide_eq_true_eq] at hg
   obtain ⟨h1, h2⟩ := am hc ns (out.set n c) hns' (aO h hc (hns n List.mem_cons_self) hg.1)
   refine ⟨h1, fun j hj => h2 j ?_⟩
   rw [aq]
   split
   ·exact hc
   ·exact hj
  ·exact am hc ns out hns' h
theorem aS {l : List S71} {R C : Nat} (hlen : l.length = R * C) (hC : 1 ≤ C) {c : Int} (hc : 0 ≤ c) : ∀ (f : Nat) (out : List Int) (q : List Nat), (∀ n ∈ q, n < l.length) → Marked l (c + 1) out → Marked l (c + 1) (bfs l R C c f out q) ∧ ∀ j, 0 ≤ out.getD j 0 → 0 ≤ (bfs l R C c f out q).getD j 0
 | 0, out, _, _, h => ⟨h, fun _ h => h⟩
 | _ + 1, out, [], _, h => ⟨h, fun _ h => h⟩
 | f + 1, out, a :: q, hq, h => by
  have hnl : ∀ n ∈ near R C a, n < l.length := fun n hn => by
   have := b0 hC (by rw [← hlen]; exact hq a List.mem_cons_self) n hn
   omega
  obtain ⟨h1, h2⟩ := am hc (near R C a) out hnl h
  obtain ⟨h3, h4⟩ := aS hlen hC hc f (push l c out (near R C a)).1 (q ++ (push l c out (near R C a)).2) (fun n hn => by
   rcases List.mem_append.1 hn with h | h
   ·exact hq n (List.mem_cons_of_mem _ h)
   ·exact hnl n (an l c _ out n h)) h1
  exact ⟨h3, fun j hj => h4 j (h2 j hj)⟩
theorem ao {l : List S71} {c c' : Int} {out : List Int} (h : Marked l c out) (hc : c ≤ c') : Marked l c' out := ⟨h.len, h.lo, fun j hj => by have := h.hi j hj; omega, h.ng⟩
theorem ag {l : List S71} {R C : Nat} (hlen : l.length = R * C) (hC : 1 ≤ C) : ∀ (d i : Nat) (out : List Int) (c : Int), i + d = l.length → 0 ≤ c → Marked l c out → (∀ j, j < i → gearB (l.getD j z71) = true → 0 ≤ out.getD j 0) →
 Marked l (c + d) (a5 l R C d i out c) ∧ ∀ j, j < l.length → gearB (l.getD j z71) = true → 0 ≤ (a5 l R C d i out c).getD j 0
 | 0, i, out, c, hi, _, h, hd => ⟨by simpa [a5] using h, fun j hj => hd j (by omega)⟩
 | d + 1, i, out, c, hi, hc, h, hd => by
  unfold a5
  split
  ·rename_i hg
   simp only [Bool.and_eq_true, decide_eq_true_eq] at hg
   have hs := aO (ao h (show c ≤ c + 1 by omega)) hc (show i < l.length by omega) hg.1
   obtain ⟨h1, h2⟩ := aS hlen hC hc (l.length + 1) (out.set i c) [i] (fun n hn => by simp at hn; omega) hs
   have e : out.getD i 0 < 0 := hg.2
   obtain ⟨h3, h4⟩ := ag hlen hC d (i + 1) (bfs l R C c (l.length + 1) (out.set i c) [i]) (c + 1) (by omega) (by omega) h1 (fun j hj hgj => h2 j (by
    rw [aq]
    split
    ·exact hc
    ·rename_i hne
     have : j ≠ i := fun e => hne ⟨e.symm, by rw [h.len]; omega⟩
     exact hd j (by omega) hgj))
   exact ⟨ao h3 (by omega), h4⟩
  ·rename_i hg
   obtain ⟨h3, h4⟩ := ag hlen hC d (i + 1) out c (by omega) hc h (fun j hj hgj => by
    by_cases e : j = i
    ·subst e
     simp only [Bool.and_eq_true, decide_eq_true_eq, hgj, true_and] at hg
     omega
    ·exact hd j (by omega) hgj)
   exact ⟨ao h3 (by omega), h4⟩
theorem aK {l : List S71} {R C : Nat} (hlen : l.length = R * C) (hC : 1 ≤ C) : Marked l l.length (a6 l R C) ∧ ∀ j, j < l.length → gearB (l.getD j z71) = true → 0 ≤ (a6 l R C).getD j 0 := by
 have e : ∀ j, j < l.length → (List.replicate l.length (-1 : Int)).getD j 0 = -1 := fun j hj => by simp [List.getD_eq_getElem?_getD, hj]
 have h : Marked l 0 (List.replicate l.length (-1)) := ⟨by simp, fun j hj => by rw [e j hj]; omega, fun j hj => by rw [e j hj]; omega, fun j hj _ => by rw [e j hj]; omega⟩
 obtain ⟨h1, h2⟩ := ag hlen hC l.length 0 (List.replicate l.length (-1)) 0 (by omega) (by omega) h (fun j hj => by omega)
 exact ⟨by simpa [a6] using h1, h2⟩
theorem bV {l : List S71} {R C : Nat} (hlen : l.length = R * C) (hC : 1 ≤ C) {j : Nat} (hj : j < l.length) : decide ((a6 l R C).getD j 0 < 0) = !gearB (l.getD j z71) := by
 obtain ⟨h1, h2⟩ := aK hlen hC
 cases hg : gearB (l.getD j z71)
 ·simpa using h1.ng j hj hg
 ·simpa using h2 j hj hg

theorem aB {r c : Int} {l : List S71} (b : Brd r c l) : Ev (fun k => impl_groupNumbers.f k r c l) (a6 l r.toNat c.toNat) ∧ Ev (fun k => spec_ggGroups.f k r c l) (a6 l r.toNat c.toNat) := by
 have b9 := b.le
 obtain ⟨R, C, rfl, rfl, hlen, _, hR, hC1, hC⟩ := bz b
 exact ⟨aF l R C hlen hR hC1 hC b9, bl l R C hlen hR hC1 hC b9⟩
theorem c4 {r c : Int} {l : List S71} (b : Brd r c l) : l.length = r.toNat * c.toNat ∧ 1 ≤ c.toNat := by
 obtain ⟨R, C, rfl, rfl, hlen, _, hR, hC1, hC⟩ := bz b
 exact ⟨hlen, hC1⟩

def marks : Nat → Int → List S71
 | 0, _ => []
 | n + 1, s => ⟨s, s + 1⟩ :: marks n (s + 2)
theorem az : ∀ (n : Nat) (s : Int), (marks n s).length = n
 | 0, _ => rfl
 | n + 1, s => by simp [marks, az n]
theorem aZ (N : Nat) (hN : N ≤ 1048576) : ∀ (d i : Nat) (s : Int) (x : List S71), x.length = N → N - i = d → i ≤ N → 0 ≤ s → s ≤ 4194304 + 2 * i →
 Ev (fun k => laws_markCellS.l0 k x s (i : Int)) (s + 2 * d, x.take i ++ marks d s) := by
 intro d
 induction d with
 | zero =>
  intro i s x hx hd hi h0 h1
  refine ad 0 fun k _ => ?_
  simp only [laws_markCellS.l0]
  rw [if_neg (by omega)]
  simp [marks, List.take_of_length_le (show x.length ≤ i by omega)]
 | succ d ih =>
  intro i s x hx hd hi h0 h1
  have hlt : i < x.length := by omega
  have e : ((x.set i (⟨s, (rd_T71 x i).f1⟩ : S71)).set i ⟨(rd_T71 (x.set i (⟨s, (rd_T71 x i).f1⟩ : S71)) i).f0, s + 1⟩) = x.set i (⟨s, s + 1⟩ : S71) := by
   rw [List.set_set]
   simp [rd_T71, hlt]
  refine a8 0 (f := fun k => laws_markCellS.l0 k (x.set i (⟨s, s + 1⟩ : S71)) (s + 2) ((i + 1 : Nat) : Int)) ?_ fun k _ => ?_
  ·have h := ih (i + 1) (s + 2) (x.set i (⟨s, s + 1⟩ : S71)) (by simpa using hx) (by omega) (by omega) (by omega) (by omega)
   rw [bj x _ (by omega)] at h
   have e2 : s + 2 + 2 * (d : Int) = s + 2 * ((d + 1 : Nat) : Int) := by omega
   rw [e2, List.append_assoc] at h
   exact h
  ·simp only [laws_markCellS.l0]
   rw [if_pos (by omega), if_pos (by omega)]
   simp only [Option.bind_some, Int.toNat_natCast]
   rw [a4 hlt (by omega), a1 (x := s + 1) (by omega) (by omega), a1 (x := s + 1 + 1) (by omega) (by omega), e]
   rw [show s + 1 + 1 = s + 2 by omega]
theorem bd (x : List S71) (s : Int) (hn : x.length ≤ 1048576) (h0 : 0 ≤ s) (h1 : s ≤ 4194304) : Ev (fun k => laws_markCellS.f k x s) (s + 2 * x.length, marks x.length s) := by
 have h := aZ x.length hn x.length 0 s x rfl (by omega) (by omega) h0 (by omega)
 simpa [laws_markCellS.f] using h

theorem aw (r c : Int) (x : List S71) (s : Int) (hn : x.length ≤ 1048576) (h0 : 0 ≤ s) (h1 : s ≤ 4194304) : Ev (fun k => laws_markBoard.f k r c x s) (s + 2 * x.length, marks x.length s) := by
 obtain ⟨K, hK⟩ := a7 (bd x s hn h0 h1)
 refine ⟨K, fun k hk => ?_⟩
 simp only [laws_markBoard.f]
 rw [bindE (hK k hk)]

theorem b7 (y : List S71) (N : Nat) (hN : N ≤ 1048576) (hy : y.length = N) : ∀ (d i : Nat) (s : Int), N - i = d → i ≤ N → 0 ≤ s → s ≤ 4194304 + 2 * i → y.drop i = marks d s →
 Ev (fun k => laws_heldCellS.l0 k y s (i : Int)) (s + 2 * d) := by
 intro d
 induction d with
 | zero =>
  intro i s hd hi h0 h1 hm
  refine ad 0 fun k _ => ?_
  simp only [laws_heldCellS.l0]
  rw [if_neg (by omega)]
  simp
 | succ d ih =>
  intro i s hd hi h0 h1 hm
  have hlt : i < y.length := by omega
  rw [aa y z71 hlt, marks] at hm
  injection hm with hm1 hm2
  have h := ih (i + 1) (s + 2) (by omega) (by omega) (by omega) (by omega) hm2
  have e2 : s + 2 + 2 * (d : Int) = s + 2 * ((d + 1 : Nat) : Int) := by omega
  rw [e2] at h
  refine a8 0 h fun k _ => ?_
  simp only [laws_heldCellS.l0, rd_T71, Int.toNat_natCast, hm1]
  rw [if_pos (by omega), if_pos (by omega), if_pos trivial, a4 hlt (by omega), a1 (x := s + 1) (by omega) (by omega), a1 (x := s + 1 + 1) (by omega) (by omega), if_pos rfl]
  rw [show s + 1 + 1 = s + 2 by omega]
theorem b8 (n : Nat) (s : Int) (hn : n ≤ 1048576) (h0 : 0 ≤ s) (h1 : s ≤ 4194304) : Ev (fun k => laws_heldCellS.f k (marks n s) s) (s + 2 * n) := by
 have h := b7 (marks n s) n hn (az n s) n 0 s (by omega) (by omega) h0 (by omega) rfl
 simpa [laws_heldCellS.f] using h

theorem be (r c : Int) (n : Nat) (s : Int) (hn : n ≤ 1048576) (h0 : 0 ≤ s) (h1 : s ≤ 4194304) : Ev (fun k => laws_heldBoard.f k r c (marks n s) s) (s + 2 * n) := by
 obtain ⟨K, hK⟩ := a7 (b8 n s hn h0 h1)
 refine ⟨K, fun k hk => ?_⟩
 simp only [laws_heldBoard.f]
 rw [bindE (hK k hk), if_neg (by omega)]

def onB (r c : Int) (l : List S71) (i j : Int) : Bool := a3 r c l && decide ((0 ≤ i ∧ i < r) ∧ (0 ≤ j ∧ j < c))
theorem br (r c : Int) (l : List S71) (i j : Int) (hn : l.length ≤ 1048576) : Ev (fun k => impl_onBoard.f k r c l i j) (onB r c l i j) := by
 obtain ⟨K, hK⟩ := a7 (bq r c l hn)
 refine ⟨K, fun k hk => ?_⟩
 simp only [impl_onBoard.f]
 rw [bindE (hK k hk)]
 unfold onB
 cases a3 r c l
 ·rfl
 ·rw [a9, Bool.true_and]
  by_cases h1 : i ≥ 0
  ·rw [if_pos h1]
   have h1' : 0 ≤ i := h1
   by_cases h2 : i < r
   ·rw [if_pos h2]
    by_cases h3 : j ≥ 0
    ·have h3' : 0 ≤ j := h3
     rw [if_pos h3]
     simp [h1', h2, h3']
    ·have h3' : ¬ 0 ≤ j := h3
     rw [if_neg h3]
     simp [h3']
   ·rw [if_neg h2]
    simp [h2]
  ·rw [if_neg h1]
   have h1' : ¬ 0 ≤ i := h1
   simp [h1']

theorem bO {r c : Int} {l : List S71} {i j : Int} (h : onB r c l i j = true) : ∃ n : Nat, wrap64 (wrap64 (i * c) + j) = (n : Int) ∧ i * c + j = (n : Int) ∧ n < l.length ∧ Brd r c l ∧ (0 ≤ i ∧ i < r) ∧ (0 ≤ j ∧ j < c) := by
 simp only [onB, Bool.and_eq_true, decide_eq_true_eq] at h
 have b := bN h.1
 have h1 := aY h.2.1.1 h.2.1.2 h.2.2.1 h.2.2.2
 have b1 := b.r1; have b2 := b.r2; have b3 := b.c1; have b4 := b.c2; have b5 := b.len; have b6 := b.le
 have a : 0 ≤ i * c := Int.mul_nonneg h.2.1.1 (by omega)
 refine ⟨(i * c + j).toNat, ?_, by omega, by omega, b, h.2⟩
 rw [a1 (x := i * c) (by omega) (by omega), a1 (x := i * c + j) (by omega) (by omega)]
 omega

theorem bh {α : Type} (T l : List α) (z : α) {n : Nat} (h : n < T.length) (hl : T.length = l.length) (he : T.getD n z = l.getD n z) : T.take n ++ l.drop n = T.take (n + 1) ++ l.drop (n + 1) := by
 rw [← bG T z h, aa l z (by omega), he, List.append_assoc]
 rfl
theorem bK {α : Type} (T l : List α) (z : α) {n : Nat} (h : n < T.length) (hl : T.length = l.length) : (T.take n ++ l.drop n).getD n z = l.getD n z := by
 have e1 : (T.take n).length = n := by simp; omega
 rw [List.getD_eq_getElem?_getD, List.getElem?_append_right (by omega), e1, Nat.sub_self, aa l z (by omega)]
 rfl
theorem aU {α : Type} (T l : List α) {n : Nat} (h : n ≤ T.length) (hl : T.length = l.length) : (T.take n ++ l.drop n).length = l.length := by
 rw [List.length_append, List.length_take, List.length_drop]
 omega

def turn1 (x : S71) : S71 := ⟨x.f0, wrap64 (1 - x.f1)⟩
def ai (G : List Int) (v : Int) (l : List S71) (n : Nat) : S71 := if (decide ((l.getD n z71).f0 = 6) && decide (G.getD n 0 = v)) = true then turn1 (l.getD n z71) else l.getD n z71
def turnL (G : List Int) (v : Int) (l : List S71) : List S71 := (List.range l.length).map (ai G v l)
theorem aj (G : List Int) (v : Int) (l : List S71) : (turnL G v l).length = l.length := by simp [turnL]
theorem aQ (G : List Int) (v : Int) (l : List S71) {n : Nat} (h : n < l.length) : (turnL G v l).getD n z71 = ai G v l n := aP _ _ h

theorem ba (r c : Int) (G : List Int) (l : List S71) (hG : G.length = l.length) (a : Nat) (ha : a < l.length) (hn : l.length ≤ 1048576) : ∀ (d i : Nat), l.length - i = d → i ≤ l.length →
 Ev (fun k => impl_turnGroup.l0 k G (a : Int) (l.length : Int) (i : Int) r c ((turnL G (G.getD a 0) l).take i ++ l.drop i)) (turnL G (G.getD a 0) l) := by
 have hT := aj G (G.getD a 0) l
 intro d
 induction d with
 | zero =>
  intro i hd hi
  refine ad 0 fun k _ => ?_
  simp only [impl_turnGroup.l0]
  rw [if_neg (by omega), List.take_of_length_le (by omega), List.drop_of_length_le (by omega), List.append_nil]
 | succ d ih =>
  intro i hd hi
  have hlt : i < l.length := by omega
  have hget := bK (turnL G (G.getD a 0) l) l z71 (n := i) (by omega) hT
  have hml := aU (turnL G (G.getD a 0) l) l (n := i) (by omega) hT
  have hTi := aQ G (G.getD a 0) l hlt
  have h2 := ih (i + 1) (by omega) (by omega)
  have same : ai G (G.getD a 0) l i = l.getD i z71 → (turnL G (G.getD a 0) l).take i ++ l.drop i = (turnL G (G.getD a 0) l).take (i + 1) ++ l.drop (i + 1) := fun h => bh _ l z71 (by omega) hT (hTi.trans h)
  refine a8 0 h2 fun k _ => ?_
  simp only [impl_turnGroup.l0]
  rw [if_pos (by omega), if_pos (by omega), if_pos (by omega), ab, hget, ac, ac, a4 hlt (by omega)]
  by_cases h6 : (l.getD i z71).f0 = 6
  ·rw [if_pos h6, if_pos (by omega), if_pos (by omega), if_pos (by omega)]
   by_cases hg : G.getD i 0 = G.getD a 0
   ·rw [if_pos hg, Int.toNat_natCast]
    have e : ai G (G.getD a 0) l i = turn1 (l.getD i z71) := by
     unfold ai
     rw [if_pos (by simp only [Bool.and_eq_true, decide_eq_true_eq]; exact ⟨h6, hg⟩)]
    rw [show (⟨(l.getD i z71).f0, wrap64 (1 - (l.getD i z71).f1)⟩ : S71) = (turnL G (G.getD a 0) l).getD i z71 from (hTi.trans e).symm, aL _ l z71 (by omega) hT]
   ·rw [if_neg hg, same (by unfold ai; rw [if_neg (by simp only [Bool.and_eq_true, decide_eq_true_eq]; exact fun h => hg h.2)])]
  ·rw [if_neg h6, same (by unfold ai; rw [if_neg (by simp only [Bool.and_eq_true, decide_eq_true_eq]; exact fun h => h6 h.1)])]
theorem bc (r c : Int) (G : List Int) (l : List S71) (hG : G.length = l.length) (a : Nat) (ha : a < l.length) (hn : l.length ≤ 1048576) : Ev (fun k => impl_turnGroup.f k r c l G (a : Int)) (turnL G (G.getD a 0) l) :=
 ba r c G l hG a ha hn l.length 0 (by omega) (by omega)

theorem bM (r c : Int) (l : List S71) (hn : l.length ≤ 1048576) : spec_boOwn.f r c l = some (r, c, l) := by
 unfold spec_boOwn.f
 rw [Option.bind_some, if_pos (by simp; omega), List.nil_append]

theorem bE (r c r2 c2 v : Int) (G : List Int) (l : List S71) (hG : G.length = l.length) (hn : l.length ≤ 1048576) : ∀ (d i : Nat), l.length - i = d → i ≤ l.length →
 Ev (fun k => spec_ggTurn.l0 k v G (G.length : Int) (i : Int) r c l r2 c2 ((turnL G v l).take i ++ l.drop i)) (r2, c2, turnL G v l) := by
 have hT := aj G v l
 intro d
 induction d with
 | zero =>
  intro i hd hi
  refine ad 0 fun k _ => ?_
  simp only [spec_ggTurn.l0]
  rw [if_neg (by omega), List.take_of_length_le (by omega), List.drop_of_length_le (by omega), List.append_nil]
 | succ d ih =>
  intro i hd hi
  have hlt : i < l.length := by omega
  have hml := aU (turnL G v l) l (n := i) (by omega) hT
  have hTi := aQ G v l hlt
  have h2 := ih (i + 1) (by omega) (by omega)
  have same : ai G v l i = l.getD i z71 → (turnL G v l).take i ++ l.drop i = (turnL G v l).take (i + 1) ++ l.drop (i + 1) := fun h => bh _ l z71 (by omega) hT (hTi.trans h)
  refine a8 0 h2 fun k _ => ?_
  simp only [spec_ggTurn.l0, spec_paTurn.f, Option.bind_some]
  rw [if_pos (by omega), if_pos (by omega), if_pos (by omega), ab, ac, a4 hlt (by omega)]
  by_cases hg : G.getD i 0 = v
  ·rw [if_pos hg, if_pos (by omega)]
   by_cases h6 : (l.getD i z71).f0 = 6
   ·rw [if_pos h6, if_pos (by omega), Int.toNat_natCast]
    have e : ai G v l i = turn1 (l.getD i z71) := by
     unfold ai
     rw [if_pos (by simp only [Bool.and_eq_true, decide_eq_true_eq]; exact ⟨h6, hg⟩)]
    rw [show (⟨(l.getD i z71).f0, wrap64 (1 - (l.getD i z71).f1)⟩ : S71) = (turnL G v l).getD i z71 from (hTi.trans e).symm, aL _ l z71 (by omega) hT]
   ·rw [if_neg h6, same (by unfold ai; rw [if_neg (by simp only [Bool.and_eq_true, decide_eq_true_eq]; exact fun h => h6 h.1)])]
  ·rw [if_neg hg, same (by unfold ai; rw [if_neg (by simp only [Bool.and_eq_true, decide_eq_true_eq]; exact fun h => hg h.2)])]

theorem bf (r c : Int) (l : List S71) (hn : l.length ≤ 1048576) : impl_copyBoard.f r c l = some (r, c, l) := by
 unfold impl_copyBoard.f
 rw [Option.bind_some, if_pos (by simp; omega), List.nil_append]

theorem bL (r c : Int) (l : List S71) (i j : Int) (hn : l.length ≤ 1048576) : Ev (fun k => spec_boHas.f k r c l i j) (onB r c l i j) := by
 obtain ⟨K, hK⟩ := a7 (bF r c l hn)
 refine ⟨K, fun k hk => ?_⟩
 simp only [spec_boHas.f]
 rw [bindE (hK k hk)]
 unfold onB
 by_cases hg : a3 r c l = true
 ·have b := bN hg
  have b1 := b.r1; have b2 := b.r2; have b3 := b.c1; have b4 := b.c2
  rw [hg, a9, Bool.true_and, a1 (x := r - 1) (by omega) (by omega), a1 (x := c - 1) (by omega) (by omega), aM, aM, Option.bind_some, Option.bind_some]
  by_cases h1 : 0 ≤ i ∧ i ≤ r - 1
  ·rw [decide_eq_true h1, a9]
   congr 1
   apply decide_eq_decide.2
   omega
  ·rw [decide_eq_false h1, if_neg (by simp)]
   congr 1
   symm
   apply decide_eq_false
   omega
 ·rw [Bool.eq_false_iff.2 hg]
  rfl

theorem bR {r c : Int} {l : List S71} {i j : Int} (b : Brd r c l) (h : (0 ≤ i ∧ i < r) ∧ (0 ≤ j ∧ j < c)) : wrap64 (wrap64 (i * c) + j) = i * c + j ∧ 0 ≤ i * c + j ∧ i * c + j < l.length := by
 have h1 := aY h.1.1 h.1.2 h.2.1 h.2.2
 have b1 := b.r1; have b2 := b.r2; have b3 := b.c1; have b4 := b.c2; have b5 := b.len; have b6 := b.le
 have a : 0 ≤ i * c := Int.mul_nonneg h.1.1 (by omega)
 rw [a1 (x := i * c) (by omega) (by omega), a1 (by omega) (by omega)]
 omega
theorem bQ {r c : Int} {l : List S71} {i j : Int} (b : Brd r c l) (h : (0 ≤ i ∧ i < r) ∧ (0 ≤ j ∧ j < c)) : spec_boAt.f r c l i j = some ((rd_T71 l (i * c + j)).f0, (rd_T71 l (i * c + j)).f1) := by
 obtain ⟨e, h0, h1⟩ := bR b h
 unfold spec_boAt.f
 rw [e, if_pos h0, if_pos h1]

def ae (r c : Int) (l : List S71) (i j : Int) : Int × Int × List S71 × Bool :=
 if (onB r c l i j && decide ((l.getD (i * c + j).toNat z71).f0 = 6)) = true then (r, c, turnL (a6 l r.toNat c.toNat) ((a6 l r.toNat c.toNat).getD (i * c + j).toNat 0) l, true) else (0, 0, [], false)
theorem av (r c : Int) (l : List S71) (i j : Int) (hn : l.length ≤ 1048576) : (ae r c l i j).2.2.1.length ≤ 1048576 := by
 unfold ae
 split
 ·simp only [aj]; exact hn
 ·simp
theorem bk (r c : Int) (l : List S71) (i j : Int) (hn : l.length ≤ 1048576) : Ev (fun k => impl_TurnGear.f k r c l i j) (ae r c l i j) := by
 obtain ⟨K, hK⟩ := a7 (br r c l i j hn)
 have bad : ∀ k, impl_TurnGear.j0 (k + 1) i j true r c l = some (0, 0, [], false) := fun k => by simp [impl_TurnGear.j0]
 unfold ae
 by_cases h : onB r c l i j = true
 ·obtain ⟨n, e, e2, hnl, b, hij⟩ := bO h
  have q1 : (0 : Int) ≤ (n : Int) := by clear e e2; omega
  have q2 : (n : Int) < (l.length : Int) := by clear e e2; omega
  rw [h, Bool.true_and, e2, Int.toNat_natCast]
  by_cases h6 : (l.getD n z71).f0 = 6
  ·obtain ⟨K2, hK2⟩ := a7 (aB b).1
   obtain ⟨K3, hK3⟩ := a7 (bc r c (a6 l r.toNat c.toNat) l (al _ _ _) n hnl hn)
   refine ⟨K + K2 + K3 + 1, fun k hk => ?_⟩
   have k0 : K ≤ k := by clear e e2; omega
   obtain ⟨k, rfl⟩ : ∃ q, k = q + 1 := ⟨k - 1, by clear e e2; omega⟩
   have k2 : K2 ≤ k := by clear e e2; omega
   have k3 : K3 ≤ k := by clear e e2; omega
   simp only [impl_TurnGear.f]
   rw [bindE (hK _ k0), h, a9, e, ab, if_pos q1, if_pos q2, show ((l.getD n z71).f0 != 6) = false from bne_eq_false_iff_eq.2 h6]
   simp only [impl_TurnGear.j0]
   rw [if_neg (by simp), bindE (bf r c l hn), bindE (hK2 k k2), e, bindE (hK3 k k3), decide_eq_true h6, a9]
  ·refine ⟨K + 1, fun k hk => ?_⟩
   have k0 : K ≤ k := by clear e e2; omega
   obtain ⟨k, rfl⟩ : ∃ q, k = q + 1 := ⟨k - 1, by clear e e2; omega⟩
   simp only [impl_TurnGear.f]
   rw [bindE (hK _ k0), h, a9, e, ab, if_pos q1, if_pos q2, show ((l.getD n z71).f0 != 6) = true from bne_iff_ne.2 h6, bad, decide_eq_false h6]
   rfl
 ·refine ⟨K + 1, fun k hk => ?_⟩
  obtain ⟨k, rfl⟩ : ∃ q, k = q + 1 := ⟨k - 1, by omega⟩
  simp only [impl_TurnGear.f]
  rw [bindE (hK _ (by omega)), if_neg h, bad, Bool.eq_false_iff.2 h]
  rfl
theorem aG (r c : Int) (l : List S71) (i j : Int) (hn : l.length ≤ 1048576) : Ev (fun k => spec_TurnGear.f k r c l i j) (ae r c l i j) := by
 obtain ⟨K, hK⟩ := a7 (bL r c l i j hn)
 have bad : ∀ k, spec_TurnGear.j0 (k + 1) i j true r c l = some (0, 0, [], false) := fun k => by simp [spec_TurnGear.j0]
 unfold ae
 by_cases h : onB r c l i j = true
 ·obtain ⟨n, e, e2, hnl, b, hij⟩ := bO h
  have ha := bQ b hij
  rw [e2, ab] at ha
  have hGl := al l r.toNat c.toNat
  have q1 : (0 : Int) ≤ (n : Int) := by clear e e2; omega
  have q2 : (n : Int) < ((a6 l r.toNat c.toNat).length : Int) := by clear e e2; omega
  rw [h, Bool.true_and, e2, Int.toNat_natCast]
  by_cases h6 : (l.getD n z71).f0 = 6
  ·obtain ⟨K2, hK2⟩ := a7 (aB b).2
   obtain ⟨K3, hK3⟩ := a7 (bE r c r c ((a6 l r.toNat c.toNat).getD n 0) (a6 l r.toNat c.toNat) l hGl hn l.length 0 (by clear e e2; omega) (by clear e e2; omega))
   refine ⟨K + K2 + K3 + 1, fun k hk => ?_⟩
   have k0 : K ≤ k := by clear e e2; omega
   obtain ⟨k, rfl⟩ : ∃ q, k = q + 1 := ⟨k - 1, by clear e e2; omega⟩
   have k2 : K2 ≤ k := by clear e e2; omega
   have k3 : K3 ≤ k := by clear e e2; omega
   have h3 : spec_ggTurn.f k r c l ((a6 l r.toNat c.toNat).getD n 0) = some (r, c, turnL (a6 l r.toNat c.toNat) ((a6 l r.toNat c.toNat).getD n 0) l) := by
    simp only [spec_ggTurn.f]
    rw [bindE (bM r c l hn), bindE (hK2 k k2)]
    exact hK3 k k3
   simp only [spec_TurnGear.f]
   rw [bindE (hK _ k0), h, a9, bindE ha, show ((l.getD n z71).f0 != 6) = false from bne_eq_false_iff_eq.2 h6]
   simp only [spec_TurnGear.j0]
   rw [if_neg (by simp), bindE (hK2 k k2), e, if_pos q1, if_pos q2, ac, bindE h3, decide_eq_true h6, a9]
  ·refine ⟨K + 1, fun k hk => ?_⟩
   have k0 : K ≤ k := by clear e e2; omega
   obtain ⟨k, rfl⟩ : ∃ q, k = q + 1 := ⟨k - 1, by clear e e2; omega⟩
   simp only [spec_TurnGear.f]
   rw [bindE (hK _ k0), h, a9, bindE ha, show ((l.getD n z71).f0 != 6) = true from bne_iff_ne.2 h6, bad, decide_eq_false h6]
   rfl
 ·refine ⟨K + 1, fun k hk => ?_⟩
  obtain ⟨k, rfl⟩ : ∃ q, k = q + 1 := ⟨k - 1, by omega⟩
  simp only [spec_TurnGear.f]
  rw [bindE (hK _ (by omega)), if_neg h, bad, Bool.eq_false_iff.2 h]
  rfl
theorem FnExactTurnGear (r0 c0 : Int) (a0 : List S84) (i1 : Int) (i2 : Int) (hn0 : a0.length ≤ 9223372036854775807) : ∃ k, laws_FnExactTurnGear.f k r0 c0 a0 i1 i2 = some true := by
 unfold laws_FnExactTurnGear.f
 simp only [bindE (bt r0 c0 a0 (1048576) (by omega) (by omega) hn0)]
 by_cases hs0 : (a0.length : Int) ≤ 1048576
 case neg =>
  exact ⟨0, by rw [if_neg hs0]; rfl⟩
 have hq0 : ¬ (1048576 - (a0.length : Int) < 0) := by omega
 simp only [if_pos hs0, if_neg hq0]
 have hl0 : (a0.map conv).length ≤ 1048576 := by rw [List.length_map]; omega
 obtain ⟨K1, h1⟩ := a7 (bp r0 c0 a0 (by omega))
 obtain ⟨K2, h2⟩ := a7 (bk r0 c0 (a0.map conv) i1 i2 hl0)
 obtain ⟨K3, h3⟩ := a7 (aG r0 c0 (a0.map conv) i1 i2 hl0)
 have hr := av r0 c0 (a0.map conv) i1 i2 hl0
 revert h2 h3 hr
 generalize ae r0 c0 (a0.map conv) i1 i2 = r
 intro h2 h3 hr
 obtain ⟨K4, h4⟩ := a7 (aR r0 c0 (a0.map conv) hl0)
 obtain ⟨K5, h5⟩ := a7 (aR r.1 r.2.1 r.2.2.1 (by omega))
 obtain ⟨K6, h6⟩ := a7 (aw r0 c0 (a0.map conv) (1) hl0 (by omega) (by omega))
 have q1 : ¬ (1 + 2 * (a0.map conv).length < (0 : Int)) := by omega
 obtain ⟨K7, h7⟩ := a7 (aw r.1 r.2.1 r.2.2.1 (1) (by omega) (by omega) (by omega))
 obtain ⟨K8, h8⟩ := a7 (be r.1 r.2.1 r.2.2.1.length (1) (by omega) (by omega) (by omega))
 have q2 : ¬ (1 + 2 * r.2.2.1.length < (0 : Int)) := by omega
 refine ⟨K1 + K2 + K3 + K4 + K5 + K6 + K7 + K8 + 1 + 1 + 1, ?_⟩
 repeat (first | rw [bindE (h1 _ (by omega))] | rw [bindE (h2 _ (by omega))] | rw [bindE (h3 _ (by omega))] | rw [bindE (h4 _ (by omega))] | rw [bindE (h5 _ (by omega))] | rw [bindE (h6 _ (by omega))] | rw [bindE (h7 _ (by omega))] | rw [bindE (h8 _ (by omega))] | rw [Option.bind_some] | rw [a9] | rw [bP] | rw [bH] | rw [if_neg q1] | rw [if_neg q2] | rw [if_pos rfl] | rw [laws_FnExactTurnGear.j0] | rw [laws_FnExactTurnGear.j1] | rw [laws_FnExactTurnGear.j2])

end Go.Proofs.Ytlkiakpipcnijaa.Pure
