/- For all arguments the program's BesideBoards answers as the reference's does (the plain law, over the printed functions). Conditions: none. -/
import Derived.Test.YteodcegmkbcjjaaG5
set_option linter.unusedVariables false
set_option linter.unusedSimpArgs false
namespace Go.Proofs.Yteodcegmkbcjjaa.Pure
open Go.RowKit Go.Proofs.Yteodcegmkbcjjaa.PAll Go.Proofs.YteodcegmkbcjjaaW.PrintWords Go.Proofs.YteodcegmkbcjjaaW.PrintLast Go.Proofs.YteodcegmkbcjjaaW.PrintMore

theorem a5 {x : Int} (h0 : -9223372036854775808 ≤ x) (h1 : x < 9223372036854775808) : wrap64 x = x := by unfold wrap64; omega
theorem a7 {i n : Nat} (h : i < n) (hn : n ≤ 4611686018427387904) : wrap64 ((i : Int) + 1) = ((i + 1 : Nat) : Int) := by unfold wrap64; omega
theorem bA : wrap64 (-1) = -1 := by decide +kernel
theorem bC : wrap64 0 = 0 := by decide +kernel
theorem bD : wrap64 1 = 1 := by decide +kernel
theorem bG : wrap64 2 = 2 := by decide +kernel
structure Hid (p : Prop) : Prop where
 out : p
theorem a8 {α : Type} {g : Nat → Option α} {r : α} (K : Nat) (h : ∀ k, K ≤ k → g (k + 1) = some r) : Ev g r := by
 refine ⟨K + 1, fun k hk => ?_⟩
 obtain ⟨m, rfl⟩ : ∃ m, k = m + 1 := ⟨k - 1, by omega⟩
 exact h m (by omega)
theorem aB {α : Type} {g f : Nat → Option α} {r : α} (K : Nat) (hf : Ev f r) (h : ∀ k, K ≤ k → g (k + 1) = f k) : Ev g r := by
 obtain ⟨K', hf⟩ := hf
 refine ⟨K + K' + 1, fun k hk => ?_⟩
 obtain ⟨m, rfl⟩ : ∃ m, k = m + 1 := ⟨k - 1, by omega⟩
 rw [h m (by omega)]
 exact hf m (by omega)
theorem a4 {α : Type} {g : Nat → Option α} {r : α} (h : Ev g r) : ∃ K, ∀ k, K ≤ k → g k = some r := h
theorem b3 {α : Type} {g : Nat → Option α} {r : α} (h : ∀ k, g k = some r) : Ev g r := ⟨0, fun k _ => h k⟩
theorem ad {α : Type} {g f : Nat → Option α} {r : α} (K : Nat) (hf : Ev f r) (h : ∀ k, K ≤ k → g k = f k) : Ev g r := by
 obtain ⟨K', hf⟩ := hf
 exact ⟨K + K', fun k hk => (h k (by omega)).trans (hf k (by omega))⟩
theorem bindE {α β : Type} {o : Option α} {v : α} {f : α → Option β} (h : o = some v) : o.bind f = f v := by rw [h]; rfl
theorem ax {β : Type} (x : Bool) (a b : β) : (if (x != x) = true then a else b) = b := by simp
theorem ay {β : Type} (x : Int) (a b : β) : (if (x != x) = true then a else b) = b := by simp
theorem a9 {β : Type} (a b : β) : (if true = true then a else b) = a := rfl
theorem aF {α : Type} (l : List α) (z : α) {i : Nat} (h : i < l.length) : l.drop i = l.getD i z :: l.drop (i + 1) := by
 rw [List.drop_eq_getElem_cons h, List.getD_eq_getElem?_getD, List.getElem?_eq_getElem h]; rfl
theorem ai {α : Type} (l : List α) (v : α) {i : Nat} (h : i < l.length) : (l.set i v).take (i + 1) = l.take i ++ [v] := by
 rw [List.take_succ_eq_append_getElem (by simpa using h)]
 simp [List.take_set_of_le]
theorem b8 {α : Type} (l : List α) (i : Nat) (z : α) : l.getD ((i : Int).toNat) z = l.getD i z := by rw [Int.toNat_natCast]

def conv (x : S46) : S34 := ⟨x.f0, x.f1⟩
theorem ak (a : List S46) (hn : a.length ≤ 1048576) : ∀ (d i : Nat) (x : List S34), a.length - i = d → i ≤ a.length → x.length = a.length →
 Ev (fun k => laws_toCellS.l0 k a x (i : Int)) (x.take i ++ (a.drop i).map conv) := by
 intro d
 induction d with
 | zero =>
  intro i x hd hi hx
  obtain rfl : i = a.length := by omega
  refine a8 0 fun k _ => ?_
  simp only [laws_toCellS.l0]
  rw [if_neg (by omega)]
  simp [← hx]
 | succ d ih =>
  intro i x hd hi hx
  have hlt : i < a.length := by omega
  refine aB 0 (f := fun k => laws_toCellS.l0 k a (x.set i (conv (a.getD i z46))) ((i + 1 : Nat) : Int)) ?_ fun k _ => ?_
  ·have h := ih (i + 1) (x.set i (conv (a.getD i z46))) (by omega) (by omega) (by simpa using hx)
   rwa [ai x _ (by omega), List.append_assoc, List.singleton_append, ← List.map_cons, ← aF a z46 hlt] at h
  ·simp only [laws_toCellS.l0]
   rw [if_pos (by omega), if_pos (by omega)]
   simp only [laws_toCell.f, Option.bind_some]
   rw [if_pos (by omega), a7 hlt (by omega), Int.toNat_natCast]
   simp only [rd_T46, Int.toNat_natCast]
   rfl
theorem am (a : List S46) (hn : a.length ≤ 1048576) : Ev (fun k => laws_toCellS.f k a) (a.map conv) := by
 refine ad 0 (f := fun k => laws_toCellS.l0 k a (List.replicate a.length z34) ((0 : Nat) : Int)) ?_ fun k _ => ?_
 ·have h := ak a hn a.length 0 (List.replicate a.length z34) (by omega) (by omega) (by simp)
  simpa using h
 ·simp only [laws_toCellS.f]
  rw [if_pos (by omega), if_pos (by omega)]
  simp

theorem aU (r c : Int) (a : List S46) (hn : a.length ≤ 1048576) : Ev (fun k => laws_toBoard.f k r c a) (r, c, a.map conv) := by
 obtain ⟨K, hK⟩ := a4 (am a hn)
 refine ⟨K, fun k hk => ?_⟩
 simp only [laws_toBoard.f]
 rw [bindE (hK k hk)]

theorem al (a : List S46) (left : Int) (h0 : 0 ≤ left) (h1 : left ≤ 1048576) (hn : a.length ≤ 9223372036854775807) :
 laws_szCellS.f a left = some (if (a.length : Int) ≤ left then left - a.length else -1) := by
 unfold laws_szCellS.f
 rw [a5 (by omega) (by omega)]
 by_cases h : (a.length : Int) ≤ left
 ·rw [if_neg (by omega), if_pos h]
 ·rw [if_pos (by omega), if_neg h]

theorem aS (r c : Int) (a : List S46) (left : Int) (h0 : 0 ≤ left) (h1 : left ≤ 1048576) (hn : a.length ≤ 9223372036854775807) :
 laws_szBoard.f r c a left = some (if (a.length : Int) ≤ left then left - a.length else -1) := by
 unfold laws_szBoard.f
 rw [bindE (al a left h0 h1 hn)]
 by_cases h : (a.length : Int) ≤ left
 ·rw [if_pos h, if_neg (by omega)]
 ·rw [if_neg h, if_pos (by omega)]

theorem ao (a : List S34) (hn : a.length ≤ 1048576) : ∀ (d i : Nat), a.length - i = d → i ≤ a.length → Ev (fun k => laws_eqCellS.l0 k a a (i : Int)) true := by
 intro d
 induction d with
 | zero =>
  intro i hd hi
  refine a8 0 fun k _ => ?_
  simp only [laws_eqCellS.l0]
  rw [if_neg (by omega)]
 | succ d ih =>
  intro i hd hi
  have hlt : i < a.length := by omega
  refine aB 0 (ih (i + 1) (by omega) (by omega)) fun k _ => ?_
  simp only [laws_eqCellS.l0]
  rw [if_pos (by omega), if_pos (by omega), if_pos (by omega), a7 hlt (by omega)]
  simp [laws_eqCell.f]
theorem ap (a : List S34) (hn : a.length ≤ 1048576) : Ev (fun k => laws_eqCellS.f k a a) true := by
 refine ad 0 (ao a hn a.length 0 (by omega) (by omega)) fun k _ => ?_
 simp only [laws_eqCellS.f, if_true]
 rfl

theorem aH (r c : Int) (a : List S34) (hn : a.length ≤ 1048576) : Ev (fun k => laws_eqBoard.f k r c a r c a) true := by
 obtain ⟨K, hK⟩ := a4 (ap a hn)
 refine ⟨K, fun k hk => ?_⟩
 simp only [laws_eqBoard.f]
 rw [if_pos trivial, if_pos trivial, bindE (hK k hk), a9]

def goodB (a b : Int) : Bool := decide ((0 ≤ a ∧ a ≤ 7) ∧ (b = 0 ∨ b = 1 ∧ (a = 3 ∨ a = 6)))
theorem b0 {a b : Int} (h : goodB a b = true) : (a = 0 ∧ b = 0) ∨ (a = 1 ∧ b = 0) ∨ (a = 2 ∧ b = 0) ∨ (a = 3 ∧ b = 0) ∨ (a = 3 ∧ b = 1) ∨ (a = 4 ∧ b = 0) ∨ (a = 5 ∧ b = 0) ∨ (a = 6 ∧ b = 0) ∨ (a = 6 ∧ b = 1) ∨ (a = 7 ∧ b = 0) := by
 simp only [goodB, decide_eq_true_eq] at h
 obtain ⟨⟨h0, h7⟩, hb⟩ := h
 have ha : a = 0 ∨ a = 1 ∨ a = 2 ∨ a = 3 ∨ a = 4 ∨ a = 5 ∨ a = 6 ∨ a = 7 := by
  clear hb
  omega
 rcases ha with rfl | rfl | rfl | rfl | rfl | rfl | rfl | rfl <;> simp_all

theorem b7 (l : List S34) (i : Nat) : rd_T34 l (i : Int) = l.getD i z34 := by rw [rd_T34, Int.toNat_natCast]
def goodC (x : S34) : Bool := goodB x.f0 x.f1

def sizeB (r c : Int) (n : Nat) : Bool := decide ((1 ≤ r ∧ r ≤ 10) ∧ (1 ≤ c ∧ c ≤ 9) ∧ (n : Int) = r * c)
def a2 (r c : Int) (l : List S34) : Bool := sizeB r c l.length && l.all goodC
theorem aM {r c : Int} (h1 : 1 ≤ r) (h2 : r ≤ 10) (h3 : 1 ≤ c) (h4 : c ≤ 9) : 1 ≤ r * c ∧ r * c ≤ 90 := by
 have hr : r = 1 ∨ r = 2 ∨ r = 3 ∨ r = 4 ∨ r = 5 ∨ r = 6 ∨ r = 7 ∨ r = 8 ∨ r = 9 ∨ r = 10 := by omega
 rcases hr with rfl | rfl | rfl | rfl | rfl | rfl | rfl | rfl | rfl | rfl <;> omega
structure Brd (r c : Int) (l : List S34) : Prop where
 r1 : 1 ≤ r
 r2 : r ≤ 10
 c1 : 1 ≤ c
 c2 : c ≤ 9
 len : (l.length : Int) = r * c
 all : l.all goodC = true
 le : l.length ≤ 90
 pos : 1 ≤ l.length
theorem aL {r c : Int} {l : List S34} (h : a2 r c l = true) : Brd r c l := by
 simp only [a2, sizeB, Bool.and_eq_true, decide_eq_true_eq] at h
 obtain ⟨⟨⟨h1, h2⟩, ⟨h3, h4⟩, h5⟩, h6⟩ := h
 have := aM h1 h2 h3 h4
 exact ⟨h1, h2, h3, h4, h5, h6, by omega, by omega⟩
theorem bF {r c : Int} {l : List S34} (h : Brd r c l) : a2 r c l = true := by
 simp only [a2, sizeB, Bool.and_eq_true, decide_eq_true_eq]
 exact ⟨⟨⟨h.r1, h.r2⟩, ⟨h.c1, h.c2⟩, h.len⟩, h.all⟩
theorem b4 {r c i j : Int} (h0 : 0 ≤ i) (h1 : i < r) (h2 : 0 ≤ j) (h3 : j < c) : 0 ≤ i * c + j ∧ i * c + j < r * c := by
 have a : 0 ≤ i * c := Int.mul_nonneg h0 (by omega)
 have b : (i + 1) * c ≤ r * c := Int.mul_le_mul_of_nonneg_right (by omega) (by omega)
 rw [Int.add_mul, Int.one_mul] at b
 omega

theorem av (a b : Int) : impl_IsCell.f a b = some (goodB a b) := by
 unfold impl_IsCell.f goodB
 by_cases h0 : a < 0
 ·rw [if_pos h0]; simp; omega
 rw [if_neg h0]
 by_cases h1 : a > 7
 ·rw [if_pos h1]; simp; omega
 rw [if_neg h1]
 by_cases h2 : b < 0
 ·rw [if_pos h2]; simp; omega
 rw [if_neg h2]
 by_cases h3 : b > 1
 ·rw [if_pos h3]; simp; omega
 rw [if_neg h3]
 by_cases h4 : b = 0
 ·rw [if_pos h4]; simp; omega
 rw [if_neg h4]
 by_cases h5 : a = 3
 ·rw [if_pos h5]; simp; omega
 rw [if_neg h5]
 by_cases h6 : a = 6
 ·simp [h6]; omega
 ·simp [h5, h6, h4]

theorem aT (x : S34) : impl_IsCell.f x.f0 x.f1 = some (goodC x) := av _ _
theorem aX (a : List S34) (hn : a.length ≤ 1048576) : ∀ (d i : Nat), a.length - i = d → i ≤ a.length →
 Ev (fun k => impl_validCells.l0 k a (a.length : Int) (i : Int)) ((a.drop i).all goodC) := by
 intro d
 induction d with
 | zero =>
  intro i hd hi
  refine a8 0 fun k _ => ?_
  simp only [impl_validCells.l0]
  rw [if_neg (by omega), List.drop_of_length_le (by omega)]
  simp
 | succ d ih =>
  intro i hd hi
  have hlt : i < a.length := by omega
  have h := ih (i + 1) (by omega) (by omega)
  rw [aF a z34 hlt, List.all_cons]
  by_cases hg : goodC (a.getD i z34) = true
  ·rw [hg, Bool.true_and]
   refine aB 0 h fun k _ => ?_
   simp only [impl_validCells.l0, rd_T34, Int.toNat_natCast, aT, Option.bind_some]
   rw [if_pos (by omega), if_pos (by omega), if_pos (by omega), if_pos hg, a7 hlt (by omega)]
  ·rw [Bool.eq_false_iff.2 hg, Bool.false_and]
   refine a8 0 fun k _ => ?_
   simp only [impl_validCells.l0, rd_T34, Int.toNat_natCast, aT, Option.bind_some]
   rw [if_pos (by omega), if_pos (by omega), if_pos (by omega), if_neg hg]
theorem aY (a : List S34) (hn : a.length ≤ 1048576) : Ev (fun k => impl_validCells.f k a) (a.all goodC && decide (a.length ≤ 90)) := by
 by_cases h : a.length ≤ 90
 ·rw [decide_eq_true h, Bool.and_true]
  refine ad 0 (aX a hn a.length 0 (by omega) (by omega)) fun k _ => ?_
  simp only [impl_validCells.f]
  rw [if_neg (by omega)]
  rfl
 ·rw [decide_eq_false h, Bool.and_false]
  refine b3 fun k => ?_
  simp only [impl_validCells.f]
  rw [if_pos (by omega)]

theorem aV (r c : Int) (l : List S34) (hn : l.length ≤ 1048576) : Ev (fun k => impl_IsBoard.f k r c l) (a2 r c l) := by
 obtain ⟨K, hK⟩ := a4 (aY l hn)
 refine ⟨K, fun k hk => ?_⟩
 simp only [impl_IsBoard.f]
 by_cases h1 : r ≥ 1
 ·rw [if_pos h1]
  by_cases h2 : r ≤ 10
  ·rw [if_pos h2]
   by_cases h3 : c ≥ 1
   ·rw [if_pos h3]
    by_cases h4 : c ≤ 9
    ·have hm := aM h1 h2 h3 h4
     rw [if_pos h4, a5 (by omega) (by omega)]
     by_cases h5 : (l.length : Int) = r * c
     ·rw [if_pos h5, bindE (hK k hk)]
      have h6 : l.length ≤ 90 := by omega
      have h7 : 1 ≤ r := h1
      have h8 : 1 ≤ c := h3
      simp [a2, sizeB, h7, h2, h8, h4, h5, h6]
     ·rw [if_neg h5]
      simp [a2, sizeB, h5]
    ·rw [if_neg h4]
     simp [a2, sizeB, h4]
   ·rw [if_neg h3]
    have h3' : ¬ 1 ≤ c := h3
    simp [a2, sizeB, h3']
  ·rw [if_neg h2]
   simp [a2, sizeB, h2]
 ·rw [if_neg h1]
  have h1' : ¬ 1 ≤ r := h1
  simp [a2, sizeB, h1']

theorem aq (a lo hi : Int) : spec_l1In.f a lo hi = some (decide (lo ≤ a ∧ a ≤ hi)) := by
 unfold spec_l1In.f
 by_cases h : a ≥ lo
 ·rw [if_pos h]
  simp [show lo ≤ a from h]
 ·rw [if_neg h]
  simp [show ¬ lo ≤ a from h]

def turnB (a : Int) : Bool := decide (a = 3 ∨ a = 6)
theorem ae (a b : Int) : spec_paTurning.f a b = some (turnB a) := by
 unfold spec_paTurning.f turnB
 by_cases h : a = 3
 ·simp [h]
 ·rw [if_neg h]
  by_cases h6 : a = 6 <;> simp [h, h6]

theorem aw (a b : Int) : spec_paGood.f a b = some (goodB a b) := by
 unfold spec_paGood.f
 rw [aq, Option.bind_some]
 by_cases h : 0 ≤ a ∧ a ≤ 7
 ·rw [decide_eq_true h, if_pos rfl]
  by_cases h0 : b = 0
  ·rw [if_pos h0]
   simp [goodB, h, h0]
  ·rw [if_neg h0]
   by_cases h1 : b = 1
   ·rw [if_pos h1, ae, Option.bind_some]
    simp [goodB, turnB, h, h1]
   ·rw [if_neg h1]
    simp [goodB, h0, h1]
 ·rw [decide_eq_false h, if_neg (by simp)]
  simp [goodB, h]

theorem aR (x : S34) : spec_paGood.f x.f0 x.f1 = some (goodC x) := aw _ _
theorem ar (a : List S34) (hn : a.length ≤ 1048576) : ∀ (d i : Nat), a.length - i = d → i ≤ a.length →
 Ev (fun k => spec_boGood.l0 k a (a.length : Int) (i : Int)) ((a.drop i).all goodC) := by
 intro d
 induction d with
 | zero =>
  intro i hd hi
  refine a8 0 fun k _ => ?_
  simp only [spec_boGood.l0]
  rw [if_neg (by omega), List.drop_of_length_le (by omega)]
  simp
 | succ d ih =>
  intro i hd hi
  have hlt : i < a.length := by omega
  have h := ih (i + 1) (by omega) (by omega)
  rw [aF a z34 hlt, List.all_cons]
  by_cases hg : goodC (a.getD i z34) = true
  ·rw [hg, Bool.true_and]
   refine aB 0 h fun k _ => ?_
   simp only [spec_boGood.l0, rd_T34, Int.toNat_natCast, aR, Option.bind_some]
   rw [if_pos (by omega), if_pos (by omega), if_pos (by omega), if_pos hg, a7 hlt (by omega)]
  ·rw [Bool.eq_false_iff.2 hg, Bool.false_and]
   refine a8 0 fun k _ => ?_
   simp only [spec_boGood.l0, rd_T34, Int.toNat_natCast, aR, Option.bind_some]
   rw [if_pos (by omega), if_pos (by omega), if_pos (by omega), if_neg hg]
theorem aN (r c : Int) (l : List S34) (hn : l.length ≤ 1048576) : Ev (fun k => spec_boGood.f k r c l) (a2 r c l) := by
 obtain ⟨K, hK⟩ := a4 (ar l hn l.length 0 (by omega) (by omega))
 refine ⟨K + 1, fun k hk => ?_⟩
 obtain ⟨k, rfl⟩ : ∃ m, k = m + 1 := ⟨k - 1, by omega⟩
 have hK' := hK k (by omega)
 simp only [spec_boGood.f, aq, Option.bind_some, spec_boGood.j0, a9]
 by_cases h1 : 1 ≤ r ∧ r ≤ 10
 ·rw [decide_eq_true h1, a9]
  by_cases h2 : 1 ≤ c ∧ c ≤ 9
  ·rw [decide_eq_true h2, a9]
   have hm := aM h1.1 h1.2 h2.1 h2.2
   rw [a5 (by omega) (by omega)]
   by_cases h5 : (l.length : Int) = r * c
   ·have h6 : ((l.length : Int) != r * c) = false := by simp [h5]
    rw [h6, if_neg (by simp)]
    refine hK'.trans ?_
    simp [a2, sizeB, h1, h2, h5]
   ·have h6 : ((l.length : Int) != r * c) = true := by simp [h5]
    rw [h6, a9]
    simp [a2, sizeB, h5]
  ·rw [decide_eq_false h2, if_neg (by simp)]
   simp [a2, sizeB, h2]
 ·rw [decide_eq_false h1, if_neg (by simp)]
  simp [a2, sizeB, h1]



def marks : Nat → Int → List S34
 | 0, _ => []
 | n + 1, s => ⟨s, s + 1⟩ :: marks n (s + 2)
theorem aJ : ∀ (n : Nat) (s : Int), (marks n s).length = n
 | 0, _ => rfl
 | n + 1, s => by simp [marks, aJ n]
theorem aZ (N : Nat) (hN : N ≤ 1048576) : ∀ (d i : Nat) (s : Int) (x : List S34), x.length = N → N - i = d → i ≤ N → 0 ≤ s → s ≤ 4194304 + 2 * i →
 Ev (fun k => laws_markCellS.l0 k x s (i : Int)) (s + 2 * d, x.take i ++ marks d s) := by
 intro d
 induction d with
 | zero =>
  intro i s x hx hd hi h0 h1
  refine a8 0 fun k _ => ?_
  simp only [laws_markCellS.l0]
  rw [if_neg (by omega)]
  simp [marks, List.take_of_length_le (show x.length ≤ i by omega)]
 | succ d ih =>
  intro i s x hx hd hi h0 h1
  have hlt : i < x.length := by omega
  have e : ((x.set i (⟨s, (rd_T34 x i).f1⟩ : S34)).set i ⟨(rd_T34 (x.set i (⟨s, (rd_T34 x i).f1⟩ : S34)) i).f0, s + 1⟩) = x.set i (⟨s, s + 1⟩ : S34) := by
   rw [List.set_set]
   simp [rd_T34, hlt]
  refine aB 0 (f := fun k => laws_markCellS.l0 k (x.set i (⟨s, s + 1⟩ : S34)) (s + 2) ((i + 1 : Nat) : Int)) ?_ fun k _ => ?_
  ·have h := ih (i + 1) (s + 2) (x.set i (⟨s, s + 1⟩ : S34)) (by simpa using hx) (by omega) (by omega) (by omega) (by omega)
   rw [ai x _ (by omega)] at h
   have e2 : s + 2 + 2 * (d : Int) = s + 2 * ((d + 1 : Nat) : Int) := by omega
   rw [e2, List.append_assoc] at h
   exact h
  ·simp only [laws_markCellS.l0]
   rw [if_pos (by omega), if_pos (by omega)]
   simp only [Option.bind_some, Int.toNat_natCast]
   rw [a7 hlt (by omega), a5 (x := s + 1) (by omega) (by omega), a5 (x := s + 1 + 1) (by omega) (by omega), e]
   rw [show s + 1 + 1 = s + 2 by omega]
theorem af (x : List S34) (s : Int) (hn : x.length ≤ 1048576) (h0 : 0 ≤ s) (h1 : s ≤ 4194304) : Ev (fun k => laws_markCellS.f k x s) (s + 2 * x.length, marks x.length s) := by
 have h := aZ x.length hn x.length 0 s x rfl (by omega) (by omega) h0 (by omega)
 simpa [laws_markCellS.f] using h

theorem aC (r c : Int) (x : List S34) (s : Int) (hn : x.length ≤ 1048576) (h0 : 0 ≤ s) (h1 : s ≤ 4194304) : Ev (fun k => laws_markBoard.f k r c x s) (s + 2 * x.length, marks x.length s) := by
 obtain ⟨K, hK⟩ := a4 (af x s hn h0 h1)
 refine ⟨K, fun k hk => ?_⟩
 simp only [laws_markBoard.f]
 rw [bindE (hK k hk)]



theorem ag (y : List S34) (N : Nat) (hN : N ≤ 1048576) (hy : y.length = N) : ∀ (d i : Nat) (s : Int), N - i = d → i ≤ N → 0 ≤ s → s ≤ 4194304 + 2 * i → y.drop i = marks d s →
 Ev (fun k => laws_heldCellS.l0 k y s (i : Int)) (s + 2 * d) := by
 intro d
 induction d with
 | zero =>
  intro i s hd hi h0 h1 hm
  refine a8 0 fun k _ => ?_
  simp only [laws_heldCellS.l0]
  rw [if_neg (by omega)]
  simp
 | succ d ih =>
  intro i s hd hi h0 h1 hm
  have hlt : i < y.length := by omega
  rw [aF y z34 hlt, marks] at hm
  injection hm with hm1 hm2
  have h := ih (i + 1) (s + 2) (by omega) (by omega) (by omega) (by omega) hm2
  have e2 : s + 2 + 2 * (d : Int) = s + 2 * ((d + 1 : Nat) : Int) := by omega
  rw [e2] at h
  refine aB 0 h fun k _ => ?_
  simp only [laws_heldCellS.l0, rd_T34, Int.toNat_natCast, hm1]
  rw [if_pos (by omega), if_pos (by omega), if_pos trivial, a7 hlt (by omega), a5 (x := s + 1) (by omega) (by omega), a5 (x := s + 1 + 1) (by omega) (by omega), if_pos rfl]
  rw [show s + 1 + 1 = s + 2 by omega]
theorem ac (n : Nat) (s : Int) (hn : n ≤ 1048576) (h0 : 0 ≤ s) (h1 : s ≤ 4194304) : Ev (fun k => laws_heldCellS.f k (marks n s) s) (s + 2 * n) := by
 have h := ag (marks n s) n hn (aJ n s) n 0 s (by omega) (by omega) h0 (by omega) rfl
 simpa [laws_heldCellS.f] using h

theorem ab (r c : Int) (n : Nat) (s : Int) (hn : n ≤ 1048576) (h0 : 0 ≤ s) (h1 : s ≤ 4194304) : Ev (fun k => laws_heldBoard.f k r c (marks n s) s) (s + 2 * n) := by
 obtain ⟨K, hK⟩ := a4 (ac n s hn h0 h1)
 refine ⟨K, fun k hk => ?_⟩
 simp only [laws_heldBoard.f]
 rw [bindE (hK k hk), if_neg (by omega)]



theorem b6 {i j C : Nat} (h : i * C + j ≤ 1000000) : wrap64 (wrap64 ((i : Int) * (C : Int)) + (j : Int)) = ((i * C + j : Nat) : Int) := by
 rw [show (i : Int) * (C : Int) = ((i * C : Nat) : Int) by simp]
 generalize i * C = n at h ⊢
 rw [a5 (x := (n : Int)) (by omega) (by omega), a5 (x := (n : Int) + (j : Int)) (by omega) (by omega)]
 omega
theorem b5 {i j C : Nat} (hj : j < C) (h : i * C + C ≤ 1000000) : wrap64 (wrap64 (wrap64 (wrap64 ((i : Int) * (C : Int)) + (C : Int)) - 1) - (j : Int)) = ((i * C + (C - 1 - j) : Nat) : Int) := by
 rw [show (i : Int) * (C : Int) = ((i * C : Nat) : Int) by simp]
 generalize i * C = n at h ⊢
 rw [a5 (x := (n : Int)) (by omega) (by omega), a5 (x := (n : Int) + (C : Int)) (by omega) (by omega), a5 (x := (n : Int) + (C : Int) - 1) (by omega) (by omega), a5 (x := (n : Int) + (C : Int) - 1 - (j : Int)) (by omega) (by omega)]
 omega
theorem bE {R C i j : Nat} (hi : i < R) (hj : j < C) : i * C + j < R * C := by
 have h : (i + 1) * C ≤ R * C := Nat.mul_le_mul_right C hi
 rw [Nat.succ_mul] at h
 omega
theorem b9 {C i j : Nat} (hj : j < C) : (i * C + j) / C = i := by
 rw [Nat.add_comm, Nat.mul_comm, Nat.add_mul_div_left _ _ (by omega), Nat.div_eq_of_lt hj, Nat.zero_add]
theorem bB {C i j : Nat} (hj : j < C) : (i * C + j) % C = j := by
 rw [Nat.add_comm, Nat.mul_comm, Nat.add_mul_mod_self_left, Nat.mod_eq_of_lt hj]
theorem aE {r c : Int} {l : List S34} (b : Brd r c l) : ∃ R C : Nat, r = R ∧ c = C ∧ l.length = R * C ∧ 1 ≤ R ∧ R ≤ 10 ∧ 1 ≤ C ∧ C ≤ 9 := by
 have h1 := b.r1; have h2 := b.r2; have h3 := b.c1; have h4 := b.c2; have h5 := b.len
 obtain ⟨R, rfl⟩ : ∃ R : Nat, r = R := ⟨r.toNat, by omega⟩
 obtain ⟨C, rfl⟩ : ∃ C : Nat, c = C := ⟨c.toNat, by omega⟩
 refine ⟨R, C, rfl, rfl, ?_, by omega, by omega, by omega, by omega⟩
 have : ((l.length : Nat) : Int) = ((R * C : Nat) : Int) := by rw [h5]; simp
 exact Int.ofNat.inj this

def a3 (C1 C2 : Nat) (l1 l2 : List S34) : Nat → Nat → List S34
 | 0, _ => []
 | d + 1, i => (l1.take ((i + 1) * C1)).drop (i * C1) ++ ((l2.take ((i + 1) * C2)).drop (i * C2) ++ a3 C1 C2 l1 l2 d (i + 1))
theorem a6 (l : List S34) {i C : Nat} (h : (i + 1) * C ≤ l.length) : ((l.take ((i + 1) * C)).drop (i * C)).length = C := by
 have e : (i + 1) * C = i * C + C := Nat.succ_mul i C
 rw [List.length_drop, List.length_take]
 omega
theorem aD (C1 C2 : Nat) (l1 l2 : List S34) {R : Nat} (h1 : l1.length = R * C1) (h2 : l2.length = R * C2) : ∀ d i, i + d = R → (a3 C1 C2 l1 l2 d i).length = d * (C1 + C2)
 | 0, _, _ => by simp [a3]
 | d + 1, i, h => by
  have q1 : (i + 1) * C1 ≤ l1.length := by rw [h1]; exact Nat.mul_le_mul_right _ (by omega)
  have q2 : (i + 1) * C2 ≤ l2.length := by rw [h2]; exact Nat.mul_le_mul_right _ (by omega)
  rw [a3, List.length_append, List.length_append, a6 l1 q1, a6 l2 q2, aD C1 C2 l1 l2 h1 h2 d (i + 1) (by omega), Nat.succ_mul]
  omega
theorem aK (C1 C2 : Nat) (l1 l2 : List S34) (h1 : l1.all goodC = true) (h2 : l2.all goodC = true) : ∀ d i, (a3 C1 C2 l1 l2 d i).all goodC = true
 | 0, _ => rfl
 | d + 1, i => by
  rw [a3, List.all_append, List.all_append, aK C1 C2 l1 l2 h1 h2 d (i + 1), Bool.and_true, Bool.and_eq_true]
  exact ⟨List.all_eq_true.2 fun x hx => List.all_eq_true.1 h1 x (List.mem_of_mem_take (List.mem_of_mem_drop hx)), List.all_eq_true.2 fun x hx => List.all_eq_true.1 h2 x (List.mem_of_mem_take (List.mem_of_mem_drop hx))⟩
theorem aa {i C : Nat} (h : i * C ≤ 1048576) : wrap64 ((i : Int) * (C : Int)) = ((i * C : Nat) : Int) := by
 rw [← Int.natCast_mul]
 exact a5 (by omega) (by omega)
theorem an {i C : Nat} (hi : i ≤ 1048576) (h : (i + 1) * C ≤ 1048576) : wrap64 ((wrap64 ((i : Int) + 1)) * (C : Int)) = (((i + 1) * C : Nat) : Int) := by
 rw [a5 (x := (i : Int) + 1) (by omega) (by omega), show (i : Int) + 1 = ((i + 1 : Nat) : Int) by omega]
 exact aa h

def aQ (r1 c1 : Int) (l1 : List S34) (r2 c2 : Int) (l2 : List S34) : Bool := a2 r1 c1 l1 && (a2 r2 c2 l2 && decide (r1 = r2 ∧ c1 + c2 ≤ 9))
def aA (r1 c1 : Int) (l1 : List S34) (r2 c2 : Int) (l2 : List S34) : Int × Int × List S34 × Bool := if aQ r1 c1 l1 r2 c2 l2 = true then (r1, c1 + c2, a3 c1.toNat c2.toNat l1 l2 r1.toNat 0, true) else (0, 0, [], false)
theorem aI {r1 c1 : Int} {l1 : List S34} {r2 c2 : Int} {l2 : List S34} (b1 : Brd r1 c1 l1) (b2 : Brd r2 c2 l2) (hr : r1 = r2) : ((a3 c1.toNat c2.toNat l1 l2 r1.toNat 0).length : Int) = r1 * (c1 + c2) ∧ (a3 c1.toNat c2.toNat l1 l2 r1.toNat 0).length ≤ 1048576 := by
 obtain ⟨R, C, rfl, rfl, hlen, hR1, hR, hC1, hC⟩ := aE b1
 obtain ⟨R', C', e, rfl, hlen', _, _, _, hC'⟩ := aE b2
 have hRR : R' = R := by omega
 subst hRR
 simp only [Int.toNat_natCast]
 have h := aD C C' l1 l2 hlen hlen' R' 0 (by omega)
 have hle : R' * (C + C') ≤ 10 * 18 := Nat.mul_le_mul hR (by omega)
 exact ⟨by rw [h, Int.natCast_mul, Int.natCast_add], by omega⟩
theorem aO (r1 c1 : Int) (l1 : List S34) (r2 c2 : Int) (l2 : List S34) (hn1 : l1.length ≤ 1048576) (hn2 : l2.length ≤ 1048576) : (aA r1 c1 l1 r2 c2 l2).2.2.1.length ≤ 1048576 := by
 unfold aA
 split
 ·rename_i h
  simp only [aQ, Bool.and_eq_true, decide_eq_true_eq] at h
  exact (aI (aL h.1) (aL h.2.1) h.2.2.1).2
 ·simp
theorem au {R C1 C2 : Nat} {l1 l2 : List S34} (h1 : l1.length = R * C1) (h2 : l2.length = R * C2) (hR : R ≤ 10) (hC1 : C1 ≤ 9) (hC2 : C2 ≤ 9) (a b x y : Int) : ∀ (d i : Nat) (acc : List S34), i + d = R → acc.length ≤ i * 18 →
 Ev (fun k => impl_BesideBoards.l0 k (i : Int) (R : Int) (C1 : Int) l1 x (C2 : Int) l2 a b acc) (a, b, acc ++ a3 C1 C2 l1 l2 d i, true) := by
 intro d
 induction d with
 | zero =>
  intro i acc hi ha
  refine a8 0 fun k _ => ?_
  simp only [impl_BesideBoards.l0]
  rw [if_neg (by omega), a3, List.append_nil]
 | succ d ih =>
  intro i acc hi ha
  have q1 : (i + 1) * C1 ≤ l1.length := by rw [h1]; exact Nat.mul_le_mul_right _ (by omega)
  have q2 : (i + 1) * C2 ≤ l2.length := by rw [h2]; exact Nat.mul_le_mul_right _ (by omega)
  have s1 : (i + 1) * C1 = i * C1 + C1 := Nat.succ_mul i C1
  have s2 : (i + 1) * C2 = i * C2 + C2 := Nat.succ_mul i C2
  have m1 : R * C1 ≤ 10 * 9 := Nat.mul_le_mul hR hC1
  have m2 : R * C2 ≤ 10 * 9 := Nat.mul_le_mul hR hC2
  have p1 := a6 l1 q1
  have p2 := a6 l2 q2
  have H1 : Hid (wrap64 ((i : Int) * (C1 : Int)) = ((i * C1 : Nat) : Int)) := ⟨aa (by omega)⟩
  have H2 : Hid (wrap64 ((i : Int) * (C2 : Int)) = ((i * C2 : Nat) : Int)) := ⟨aa (by omega)⟩
  have H3 : Hid (wrap64 ((wrap64 ((i : Int) + 1)) * (C1 : Int)) = (((i + 1) * C1 : Nat) : Int)) := ⟨an (by omega) (by omega)⟩
  have H4 : Hid (wrap64 ((wrap64 ((i : Int) + 1)) * (C2 : Int)) = (((i + 1) * C2 : Nat) : Int)) := ⟨an (by omega) (by omega)⟩
  generalize hp : (l1.take ((i + 1) * C1)).drop (i * C1) = P at p1
  generalize hq : (l2.take ((i + 1) * C2)).drop (i * C2) = Q at p2
  refine aB 0 (f := fun k => impl_BesideBoards.l0 k ((i + 1 : Nat) : Int) (R : Int) (C1 : Int) l1 x (C2 : Int) l2 a b ((acc ++ P) ++ Q)) ?_ fun k _ => ?_
  ·have h := ih (i + 1) ((acc ++ P) ++ Q) (by omega) (by rw [List.length_append, List.length_append]; omega)
   rw [a3, hp, hq]
   simp only [List.append_assoc] at h ⊢
   exact h
  ·simp only [impl_BesideBoards.l0]
   rw [H1.out, H2.out, H3.out, H4.out, if_pos (by omega), if_pos (by omega), if_pos (by omega), if_pos (by omega), Option.bind_some, Int.toNat_natCast, Int.toNat_natCast, hp, if_pos (by omega), Option.bind_some, if_pos (by omega), if_pos (by omega), if_pos (by omega), Option.bind_some, Int.toNat_natCast, Int.toNat_natCast, hq, if_pos (by rw [List.length_append]; omega), a7 (show i < R by omega) (by omega)]
theorem aP (r1 c1 : Int) (l1 : List S34) (r2 c2 : Int) (l2 : List S34) (hn1 : l1.length ≤ 1048576) (hn2 : l2.length ≤ 1048576) : Ev (fun k => impl_BesideBoards.f k r1 c1 l1 r2 c2 l2) (aA r1 c1 l1 r2 c2 l2) := by
 obtain ⟨K, hK⟩ := a4 (aV r1 c1 l1 hn1)
 obtain ⟨K2, hK2⟩ := a4 (aV r2 c2 l2 hn2)
 have fin : ∀ b : Bool, b = true → (∀ k, K + K2 ≤ k → impl_BesideBoards.f k r1 c1 l1 r2 c2 l2 = impl_BesideBoards.j0 k b r1 c1 l1 r2 c2 l2) → Ev (fun k => impl_BesideBoards.f k r1 c1 l1 r2 c2 l2) (0, 0, [], false) := by
  intro b hb h
  refine ⟨K + K2 + 1, fun k hk => ?_⟩
  obtain ⟨k, rfl⟩ : ∃ m, k = m + 1 := ⟨k - 1, by omega⟩
  simp only []
  rw [h (k + 1) (by omega)]
  simp only [impl_BesideBoards.j0]
  rw [if_pos hb]
 unfold aA aQ
 by_cases h1 : a2 r1 c1 l1 = true
 ·by_cases h2 : a2 r2 c2 l2 = true
  ·have b1 := aL h1
   have b2 := aL h2
   have e5 := b1.c1; have e6 := b1.c2; have e7 := b2.c1; have e8 := b2.c2
   by_cases hc : r1 = r2
   ·by_cases h9 : c1 + c2 ≤ 9
    ·rw [h1, h2, decide_eq_true ⟨hc, h9⟩]
     simp only [Bool.and_true, if_true]
     obtain ⟨R, C, rfl, rfl, hlen, hR1, hR, hC1, hC⟩ := aE b1
     obtain ⟨R', C', e, rfl, hlen', _, _, _, hC'⟩ := aE b2
     have hRR : R' = R := by omega
     subst hRR
     have hL := au (l1 := l1) (l2 := l2) hlen hlen' hR hC hC' (R' : Int) ((C : Int) + (C' : Int)) (R' : Int) 0 R' 0 [] (by omega) (by simp)
     obtain ⟨K3, hK3⟩ := a4 hL
     refine ⟨K + K2 + K3 + 1, fun k hk => ?_⟩
     obtain ⟨k, rfl⟩ : ∃ m, k = m + 1 := ⟨k - 1, by omega⟩
     have h3 := hK3 k (by omega)
     simp only [impl_BesideBoards.f]
     subst e
     rw [bindE (hK (k + 1) (by omega)), h1, if_pos rfl, bindE (hK2 (k + 1) (by omega)), h2, if_pos rfl, if_pos rfl, a5 (x := (C : Int) + (C' : Int)) (by omega) (by omega)]
     simp only [impl_BesideBoards.j0]
     rw [if_neg (by simp; omega), a5 (x := (C : Int) + (C' : Int)) (by omega) (by omega)]
     simp only [Int.toNat_natCast]
     exact h3
    ·rw [decide_eq_false (fun h => h9 h.2), Bool.and_false, Bool.and_false, if_neg (by simp)]
     refine fin (decide ((wrap64 (c1 + c2)) > 9)) (by rw [a5 (by omega) (by omega)]; simp; omega) fun k hk => ?_
     simp only [impl_BesideBoards.f]
     rw [bindE (hK k (by omega)), h1, if_pos rfl, bindE (hK2 k (by omega)), h2, if_pos rfl, if_pos hc]
   ·rw [decide_eq_false (fun h => hc h.1), Bool.and_false, Bool.and_false, if_neg (by simp)]
    refine fin true rfl fun k hk => ?_
    simp only [impl_BesideBoards.f]
    rw [bindE (hK k (by omega)), h1, if_pos rfl, bindE (hK2 k (by omega)), h2, if_pos rfl, if_neg hc]
  ·rw [Bool.eq_false_iff.2 h2, Bool.false_and, Bool.and_false, if_neg (by simp)]
   refine fin true rfl fun k hk => ?_
   simp only [impl_BesideBoards.f]
   rw [bindE (hK k (by omega)), h1, if_pos rfl, bindE (hK2 k (by omega)), if_neg h2]
 ·rw [Bool.eq_false_iff.2 h1, Bool.false_and, if_neg (by simp)]
  refine fin true rfl fun k hk => ?_
  simp only [impl_BesideBoards.f]
  rw [bindE (hK k (by omega)), if_neg h1]

theorem az (r c : Int) (l : List S34) (hn : l.length ≤ 1048576) : Ev (fun k => spec_boIf.f k r c l) (if a2 r c l = true then (r, c, l, true) else (0, 0, [], false)) := by
 obtain ⟨K, hK⟩ := a4 (aN r c l hn)
 refine ⟨K, fun k hk => ?_⟩
 simp only [spec_boIf.f]
 rw [bindE (hK k hk)]
 cases a2 r c l <;> rfl

theorem aj (x : Int) (l : List S34) {i C : Nat} (hi : i ≤ 1048576) (h : (i + 1) * C ≤ l.length) (hn : l.length ≤ 1048576) : spec_boRow.f x (C : Int) l (i : Int) = some ((l.take ((i + 1) * C)).drop (i * C)) := by
 have s1 : (i + 1) * C = i * C + C := Nat.succ_mul i C
 unfold spec_boRow.f
 rw [aa (show i * C ≤ 1048576 by omega), an hi (show (i + 1) * C ≤ 1048576 by omega), if_pos (by omega), if_pos (by omega), if_pos (by omega), Int.toNat_natCast, Int.toNat_natCast]
theorem aW {R C1 C2 : Nat} {l1 l2 : List S34} (h1 : l1.length = R * C1) (h2 : l2.length = R * C2) (hR : R ≤ 10) (hC1 : C1 ≤ 9) (hC2 : C2 ≤ 9) (a b x : Int) (r : Int × Int × List S34 × Bool) (hr : Ev (fun k => spec_boIf.f k a b (a3 C1 C2 l1 l2 R 0)) r) : ∀ (d i : Nat) (acc : List S34), i + d = R → acc.length ≤ i * 18 → acc ++ a3 C1 C2 l1 l2 d i = a3 C1 C2 l1 l2 R 0 →
 Ev (fun k => spec_BesideBoards.l0 k (i : Int) (R : Int) (C1 : Int) l1 x (C2 : Int) l2 a b acc) r := by
 intro d
 induction d with
 | zero =>
  intro i acc hi ha he
  rw [a3, List.append_nil] at he
  obtain ⟨K, hK⟩ := a4 hr
  refine ⟨K + 1, fun k hk => ?_⟩
  obtain ⟨k, rfl⟩ : ∃ m, k = m + 1 := ⟨k - 1, by omega⟩
  simp only [spec_BesideBoards.l0]
  rw [if_neg (by omega), he, bindE (hK k (by omega))]
 | succ d ih =>
  intro i acc hi ha he
  have q1 : (i + 1) * C1 ≤ l1.length := by rw [h1]; exact Nat.mul_le_mul_right _ (by omega)
  have q2 : (i + 1) * C2 ≤ l2.length := by rw [h2]; exact Nat.mul_le_mul_right _ (by omega)
  have m1 : R * C1 ≤ 10 * 9 := Nat.mul_le_mul hR hC1
  have m2 : R * C2 ≤ 10 * 9 := Nat.mul_le_mul hR hC2
  have p1 := a6 l1 q1
  have p2 := a6 l2 q2
  have g1 := aj (R : Int) l1 (i := i) (C := C1) (by omega) q1 (by omega)
  have g2 := aj x l2 (i := i) (C := C2) (by omega) q2 (by omega)
  rw [a3] at he
  generalize (l1.take ((i + 1) * C1)).drop (i * C1) = P at p1 g1 he
  generalize (l2.take ((i + 1) * C2)).drop (i * C2) = Q at p2 g2 he
  refine aB 0 (ih (i + 1) ((acc ++ P) ++ Q) (by omega) (by rw [List.length_append, List.length_append]; omega) (by rw [List.append_assoc, List.append_assoc]; exact he)) fun k _ => ?_
  simp only [spec_BesideBoards.l0]
  rw [if_pos (by omega), bindE g1, if_pos (by omega), Option.bind_some, bindE g2, if_pos (by rw [List.length_append]; omega), a7 (show i < R by omega) (by omega)]
theorem ah {r1 c1 : Int} {l1 : List S34} {r2 c2 : Int} {l2 : List S34} (b1 : Brd r1 c1 l1) (b2 : Brd r2 c2 l2) (hr : r1 = r2) : a2 r1 (c1 + c2) (a3 c1.toNat c2.toNat l1 l2 r1.toNat 0) = decide (c1 + c2 ≤ 9) := by
 have e1 := b1.r1; have e2 := b1.r2; have e5 := b1.c1; have e6 := b2.c1
 have hl := (aI b1 b2 hr).1
 unfold a2 sizeB
 rw [aK _ _ l1 l2 b1.all b2.all, hl]
 by_cases h : c1 + c2 ≤ 9
 ·rw [decide_eq_true ⟨⟨e1, e2⟩, ⟨by omega, h⟩, rfl⟩, decide_eq_true h]
  rfl
 ·rw [decide_eq_false (fun x => h x.2.1.2), decide_eq_false h]
  rfl
theorem aG (r1 c1 : Int) (l1 : List S34) (r2 c2 : Int) (l2 : List S34) (hn1 : l1.length ≤ 1048576) (hn2 : l2.length ≤ 1048576) : Ev (fun k => spec_BesideBoards.f k r1 c1 l1 r2 c2 l2) (aA r1 c1 l1 r2 c2 l2) := by
 obtain ⟨K, hK⟩ := a4 (aN r1 c1 l1 hn1)
 obtain ⟨K2, hK2⟩ := a4 (aN r2 c2 l2 hn2)
 have fin : ∀ b : Bool, b = true → (∀ k, K + K2 ≤ k → spec_BesideBoards.f k r1 c1 l1 r2 c2 l2 = spec_BesideBoards.j0 k b r1 c1 l1 r2 c2 l2) → Ev (fun k => spec_BesideBoards.f k r1 c1 l1 r2 c2 l2) (0, 0, [], false) := by
  intro b hb h
  refine ⟨K + K2 + 1, fun k hk => ?_⟩
  obtain ⟨k, rfl⟩ : ∃ m, k = m + 1 := ⟨k - 1, by omega⟩
  simp only []
  rw [h (k + 1) (by omega)]
  simp only [spec_BesideBoards.j0]
  rw [if_pos hb]
 unfold aA aQ
 by_cases h1 : a2 r1 c1 l1 = true
 ·by_cases h2 : a2 r2 c2 l2 = true
  ·have b1 := aL h1
   have b2 := aL h2
   have e5 := b1.c1; have e6 := b1.c2; have e7 := b2.c1; have e8 := b2.c2
   by_cases hc : r1 = r2
   ·have hgo := ah b1 b2 hc
    have hif := az r1 (c1 + c2) (a3 c1.toNat c2.toNat l1 l2 r1.toNat 0) (aI b1 b2 hc).2
    rw [hgo] at hif
    have hres : (if (a2 r1 c1 l1 && (a2 r2 c2 l2 && decide (r1 = r2 ∧ c1 + c2 ≤ 9))) = true then (r1, c1 + c2, a3 c1.toNat c2.toNat l1 l2 r1.toNat 0, true) else (0, 0, [], false)) = (if decide (c1 + c2 ≤ 9) = true then (r1, c1 + c2, a3 c1.toNat c2.toNat l1 l2 r1.toNat 0, true) else (0, 0, [], false)) := by
     rw [h1, h2]
     simp [hc]
    rw [hres]
    generalize (if decide (c1 + c2 ≤ 9) = true then (r1, c1 + c2, a3 c1.toNat c2.toNat l1 l2 r1.toNat 0, true) else (0, 0, [], false)) = res at hif
    obtain ⟨R, C, rfl, rfl, hlen, hR1, hR, hC1, hC⟩ := aE b1
    obtain ⟨R', C', e, rfl, hlen', _, _, _, hC'⟩ := aE b2
    have hRR : R' = R := by omega
    subst hRR
    subst e
    simp only [Int.toNat_natCast] at hif
    have hL := aW (l1 := l1) (l2 := l2) hlen hlen' hR hC hC' (R' : Int) ((C : Int) + (C' : Int)) (R' : Int) res hif R' 0 [] (by omega) (by simp) (by simp)
    obtain ⟨K3, hK3⟩ := a4 hL
    refine ⟨K + K2 + K3 + 1, fun k hk => ?_⟩
    obtain ⟨k, rfl⟩ : ∃ m, k = m + 1 := ⟨k - 1, by omega⟩
    have h3 := hK3 k (by omega)
    simp only [spec_BesideBoards.f]
    rw [bindE (hK (k + 1) (by omega)), h1, if_pos rfl, bindE (hK2 (k + 1) (by omega)), h2, if_pos rfl]
    simp only [spec_BesideBoards.j0]
    rw [if_neg (by simp), a5 (x := (C : Int) + (C' : Int)) (by omega) (by omega)]
    exact h3
   ·rw [decide_eq_false (fun h => hc h.1), Bool.and_false, Bool.and_false, if_neg (by simp)]
    refine fin (r1 != r2) (by simp [hc]) fun k hk => ?_
    simp only [spec_BesideBoards.f]
    rw [bindE (hK k (by omega)), h1, if_pos rfl, bindE (hK2 k (by omega)), h2, if_pos rfl]
  ·rw [Bool.eq_false_iff.2 h2, Bool.false_and, Bool.and_false, if_neg (by simp)]
   refine fin true rfl fun k hk => ?_
   simp only [spec_BesideBoards.f]
   rw [bindE (hK k (by omega)), h1, if_pos rfl, bindE (hK2 k (by omega)), if_neg h2]
 ·rw [Bool.eq_false_iff.2 h1, Bool.false_and, if_neg (by simp)]
  refine fin true rfl fun k hk => ?_
  simp only [spec_BesideBoards.f]
  rw [bindE (hK k (by omega)), if_neg h1]

theorem FnExactBesideBoards (r0 c0 : Int) (a0 : List S46) (r1 c1 : Int) (a1 : List S46) (hn0 : a0.length ≤ 9223372036854775807) (hn1 : a1.length ≤ 9223372036854775807) : ∃ k, laws_FnExactBesideBoards.f k r0 c0 a0 r1 c1 a1 = some true := by
 unfold laws_FnExactBesideBoards.f
 simp only [bindE (aS r0 c0 a0 (1048576) (by omega) (by omega) hn0)]
 by_cases hs0 : (a0.length : Int) ≤ 1048576
 case neg =>
  exact ⟨0, by rw [if_neg hs0]; rfl⟩
 have hq0 : ¬ (1048576 - (a0.length : Int) < 0) := by omega
 simp only [if_pos hs0, if_neg hq0]
 simp only [bindE (aS r1 c1 a1 (1048576 - a0.length) (by omega) (by omega) hn1)]
 by_cases hs1 : (a1.length : Int) ≤ 1048576 - a0.length
 case neg =>
  exact ⟨0, by rw [if_neg hs1]; rfl⟩
 have hq1 : ¬ (1048576 - a0.length - (a1.length : Int) < 0) := by omega
 simp only [if_pos hs1, if_neg hq1]
 have hl0 : (a0.map conv).length ≤ 1048576 := by rw [List.length_map]; omega
 have hl1 : (a1.map conv).length ≤ 1048576 := by rw [List.length_map]; omega
 obtain ⟨K1, h1⟩ := a4 (aU r0 c0 a0 (by omega))
 obtain ⟨K2, h2⟩ := a4 (aU r1 c1 a1 (by omega))
 obtain ⟨K3, h3⟩ := a4 (aP r0 c0 (a0.map conv) r1 c1 (a1.map conv) hl0 hl1)
 obtain ⟨K4, h4⟩ := a4 (aG r0 c0 (a0.map conv) r1 c1 (a1.map conv) hl0 hl1)
 have hr := aO r0 c0 (a0.map conv) r1 c1 (a1.map conv) hl0 hl1
 revert h3 h4 hr
 generalize aA r0 c0 (a0.map conv) r1 c1 (a1.map conv) = r
 intro h3 h4 hr
 obtain ⟨K5, h5⟩ := a4 (aH r0 c0 (a0.map conv) hl0)
 obtain ⟨K6, h6⟩ := a4 (aH r1 c1 (a1.map conv) hl1)
 obtain ⟨K7, h7⟩ := a4 (aH r.1 r.2.1 r.2.2.1 (by omega))
 obtain ⟨K8, h8⟩ := a4 (aC r0 c0 (a0.map conv) (1) hl0 (by omega) (by omega))
 obtain ⟨K9, h9⟩ := a4 (aC r1 c1 (a1.map conv) (1 + 2 * (a0.map conv).length) hl1 (by omega) (by omega))
 have q1 : ¬ (1 + 2 * (a0.map conv).length + 2 * (a1.map conv).length < (0 : Int)) := by omega
 obtain ⟨K10, h10⟩ := a4 (aC r.1 r.2.1 r.2.2.1 (1) (by omega) (by omega) (by omega))
 obtain ⟨K11, h11⟩ := a4 (ab r.1 r.2.1 r.2.2.1.length (1) (by omega) (by omega) (by omega))
 have q2 : ¬ (1 + 2 * r.2.2.1.length < (0 : Int)) := by omega
 refine ⟨K1 + K2 + K3 + K4 + K5 + K6 + K7 + K8 + K9 + K10 + K11 + 1 + 1 + 1, ?_⟩
 repeat (first | rw [bindE (h1 _ (by omega))] | rw [bindE (h2 _ (by omega))] | rw [bindE (h3 _ (by omega))] | rw [bindE (h4 _ (by omega))] | rw [bindE (h5 _ (by omega))] | rw [bindE (h6 _ (by omega))] | rw [bindE (h7 _ (by omega))] | rw [bindE (h8 _ (by omega))] | rw [bindE (h9 _ (by omega))] | rw [bindE (h10 _ (by omega))] | rw [bindE (h11 _ (by omega))] | rw [Option.bind_some] | rw [a9] | rw [ax] | rw [ay] | rw [if_neg q1] | rw [if_neg q2] | rw [if_pos rfl] | rw [laws_FnExactBesideBoards.j0] | rw [laws_FnExactBesideBoards.j1] | rw [laws_FnExactBesideBoards.j2])

end Go.Proofs.Yteodcegmkbcjjaa.Pure
