/- For all arguments the program's BoardText answers as the reference's does (the plain law, over the printed functions). Conditions: none. -/
import Derived.Test.YteodcegmkbcjjaaG16
set_option linter.unusedVariables false
set_option linter.unusedSimpArgs false
namespace Go.Proofs.Yteodcegmkbcjjaa.Pure
open Go.RowKit Go.Proofs.Yteodcegmkbcjjaa.PAll Go.Proofs.YteodcegmkbcjjaaW.PrintWords Go.Proofs.YteodcegmkbcjjaaW.PrintLast Go.Proofs.YteodcegmkbcjjaaW.PrintMore

theorem wrap_id {x : Int} (h0 : -9223372036854775808 ≤ x) (h1 : x < 9223372036854775808) : wrap64 x = x := by unfold wrap64; omega
theorem wrap_succ {i n : Nat} (h : i < n) (hn : n ≤ 4611686018427387904) : wrap64 ((i : Int) + 1) = ((i + 1 : Nat) : Int) := by unfold wrap64; omega
theorem wrap_m1 : wrap64 (-1) = -1 := by decide +kernel
theorem wrap_0 : wrap64 0 = 0 := by decide +kernel
theorem wrap_1 : wrap64 1 = 1 := by decide +kernel
theorem wrap_2 : wrap64 2 = 2 := by decide +kernel
/-- A fact that omega doesn't look into. -/
structure Hid (p : Prop) : Prop where
 out : p
/-- The answer comes in this round. -/
theorem ev_done {α : Type} {g : Nat → Option α} {r : α} (K : Nat) (h : ∀ k, K ≤ k → g (k + 1) = some r) : Ev g r := by
 refine ⟨K + 1, fun k hk => ?_⟩
 obtain ⟨m, rfl⟩ : ∃ m, k = m + 1 := ⟨k - 1, by omega⟩
 exact h m (by omega)
/-- The answer comes in a later round. -/
theorem ev_next {α : Type} {g f : Nat → Option α} {r : α} (K : Nat) (hf : Ev f r) (h : ∀ k, K ≤ k → g (k + 1) = f k) : Ev g r := by
 obtain ⟨K', hf⟩ := hf
 refine ⟨K + K' + 1, fun k hk => ?_⟩
 obtain ⟨m, rfl⟩ : ∃ m, k = m + 1 := ⟨k - 1, by omega⟩
 rw [h m (by omega)]
 exact hf m (by omega)
theorem ev_get {α : Type} {g : Nat → Option α} {r : α} (h : Ev g r) : ∃ K, ∀ k, K ≤ k → g k = some r := h
theorem ev_now {α : Type} {g : Nat → Option α} {r : α} (h : ∀ k, g k = some r) : Ev g r := ⟨0, fun k _ => h k⟩
theorem ev_same {α : Type} {g f : Nat → Option α} {r : α} (K : Nat) (hf : Ev f r) (h : ∀ k, K ≤ k → g k = f k) : Ev g r := by
 obtain ⟨K', hf⟩ := hf
 exact ⟨K + K', fun k hk => (h k (by omega)).trans (hf k (by omega))⟩
theorem bindE {α β : Type} {o : Option α} {v : α} {f : α → Option β} (h : o = some v) : o.bind f = f v := by rw [h]; rfl
theorem ite_bneB {β : Type} (x : Bool) (a b : β) : (if (x != x) = true then a else b) = b := by simp
theorem ite_bneI {β : Type} (x : Int) (a b : β) : (if (x != x) = true then a else b) = b := by simp
theorem ite_true' {β : Type} (a b : β) : (if true = true then a else b) = a := rfl
theorem drop_cons {α : Type} (l : List α) (z : α) {i : Nat} (h : i < l.length) : l.drop i = l.getD i z :: l.drop (i + 1) := by
 rw [List.drop_eq_getElem_cons h, List.getD_eq_getElem?_getD, List.getElem?_eq_getElem h]; rfl
theorem take_set {α : Type} (l : List α) (v : α) {i : Nat} (h : i < l.length) : (l.set i v).take (i + 1) = l.take i ++ [v] := by
 rw [List.take_succ_eq_append_getElem (by simpa using h)]
 simp [List.take_set_of_le]
theorem rdT_nat {α : Type} (l : List α) (i : Nat) (z : α) : l.getD ((i : Int).toNat) z = l.getD i z := by rw [Int.toNat_natCast]

def conv (x : S46) : S34 := ⟨x.f0, x.f1⟩
theorem toCellS_l0 (a : List S46) (hn : a.length ≤ 1048576) : ∀ (d i : Nat) (x : List S34), a.length - i = d → i ≤ a.length → x.length = a.length →
  Ev (fun k => laws_toCellS.l0 k a x (i : Int)) (x.take i ++ (a.drop i).map conv) := by
 intro d
 induction d with
 | zero =>
  intro i x hd hi hx
  obtain rfl : i = a.length := by omega
  refine ev_done 0 fun k _ => ?_
  simp only [laws_toCellS.l0]
  rw [if_neg (by omega)]
  simp [← hx]
 | succ d ih =>
  intro i x hd hi hx
  have hlt : i < a.length := by omega
  refine ev_next 0 (f := fun k => laws_toCellS.l0 k a (x.set i (conv (a.getD i z46))) ((i + 1 : Nat) : Int)) ?_ fun k _ => ?_
  ·have h := ih (i + 1) (x.set i (conv (a.getD i z46))) (by omega) (by omega) (by simpa using hx)
   rwa [take_set x _ (by omega), List.append_assoc, List.singleton_append, ← List.map_cons, ← drop_cons a z46 hlt] at h
  ·simp only [laws_toCellS.l0]
   rw [if_pos (by omega), if_pos (by omega)]
   simp only [laws_toCell.f, Option.bind_some]
   rw [if_pos (by omega), wrap_succ hlt (by omega), Int.toNat_natCast]
   simp only [rd_T46, Int.toNat_natCast]
   rfl
theorem toCellS_ev (a : List S46) (hn : a.length ≤ 1048576) : Ev (fun k => laws_toCellS.f k a) (a.map conv) := by
 refine ev_same 0 (f := fun k => laws_toCellS.l0 k a (List.replicate a.length z34) ((0 : Nat) : Int)) ?_ fun k _ => ?_
 ·have h := toCellS_l0 a hn a.length 0 (List.replicate a.length z34) (by omega) (by omega) (by simp)
  simpa using h
 ·simp only [laws_toCellS.f]
  rw [if_pos (by omega), if_pos (by omega)]
  simp

theorem toBoard_ev (r c : Int) (a : List S46) (hn : a.length ≤ 1048576) : Ev (fun k => laws_toBoard.f k r c a) (r, c, a.map conv) := by
 obtain ⟨K, hK⟩ := ev_get (toCellS_ev a hn)
 refine ⟨K, fun k hk => ?_⟩
 simp only [laws_toBoard.f]
 rw [bindE (hK k hk)]

theorem szCellS_eq (a : List S46) (left : Int) (h0 : 0 ≤ left) (h1 : left ≤ 1048576) (hn : a.length ≤ 9223372036854775807) :
  laws_szCellS.f a left = some (if (a.length : Int) ≤ left then left - a.length else -1) := by
 unfold laws_szCellS.f
 rw [wrap_id (by omega) (by omega)]
 by_cases h : (a.length : Int) ≤ left
 ·rw [if_neg (by omega), if_pos h]
 ·rw [if_pos (by omega), if_neg h]

theorem szBoard_eq (r c : Int) (a : List S46) (left : Int) (h0 : 0 ≤ left) (h1 : left ≤ 1048576) (hn : a.length ≤ 9223372036854775807) :
  laws_szBoard.f r c a left = some (if (a.length : Int) ≤ left then left - a.length else -1) := by
 unfold laws_szBoard.f
 rw [bindE (szCellS_eq a left h0 h1 hn)]
 by_cases h : (a.length : Int) ≤ left
 ·rw [if_pos h, if_neg (by omega)]
 ·rw [if_neg h, if_pos (by omega)]

theorem eqCellS_l0 (a : List S34) (hn : a.length ≤ 1048576) : ∀ (d i : Nat), a.length - i = d → i ≤ a.length → Ev (fun k => laws_eqCellS.l0 k a a (i : Int)) true := by
 intro d
 induction d with
 | zero =>
  intro i hd hi
  refine ev_done 0 fun k _ => ?_
  simp only [laws_eqCellS.l0]
  rw [if_neg (by omega)]
 | succ d ih =>
  intro i hd hi
  have hlt : i < a.length := by omega
  refine ev_next 0 (ih (i + 1) (by omega) (by omega)) fun k _ => ?_
  simp only [laws_eqCellS.l0]
  rw [if_pos (by omega), if_pos (by omega), if_pos (by omega), wrap_succ hlt (by omega)]
  simp [laws_eqCell.f]
theorem eqCellS_ev (a : List S34) (hn : a.length ≤ 1048576) : Ev (fun k => laws_eqCellS.f k a a) true := by
 refine ev_same 0 (eqCellS_l0 a hn a.length 0 (by omega) (by omega)) fun k _ => ?_
 simp only [laws_eqCellS.f, if_true]
 rfl

theorem eqBoard_ev (r c : Int) (a : List S34) (hn : a.length ≤ 1048576) : Ev (fun k => laws_eqBoard.f k r c a r c a) true := by
 obtain ⟨K, hK⟩ := ev_get (eqCellS_ev a hn)
 refine ⟨K, fun k hk => ?_⟩
 simp only [laws_eqBoard.f]
 rw [if_pos trivial, if_pos trivial, bindE (hK k hk), ite_true']

def goodB (a b : Int) : Bool := decide ((0 ≤ a ∧ a ≤ 7) ∧ (b = 0 ∨ b = 1 ∧ (a = 3 ∨ a = 6)))
theorem good_cases {a b : Int} (h : goodB a b = true) : (a = 0 ∧ b = 0) ∨ (a = 1 ∧ b = 0) ∨ (a = 2 ∧ b = 0) ∨ (a = 3 ∧ b = 0) ∨ (a = 3 ∧ b = 1) ∨ (a = 4 ∧ b = 0) ∨ (a = 5 ∧ b = 0) ∨ (a = 6 ∧ b = 0) ∨ (a = 6 ∧ b = 1) ∨ (a = 7 ∧ b = 0) := by
 simp only [goodB, decide_eq_true_eq] at h
 obtain ⟨⟨h0, h7⟩, hb⟩ := h
 have ha : a = 0 ∨ a = 1 ∨ a = 2 ∨ a = 3 ∨ a = 4 ∨ a = 5 ∨ a = 6 ∨ a = 7 := by
  clear hb
  omega
 rcases ha with rfl | rfl | rfl | rfl | rfl | rfl | rfl | rfl <;> simp_all

theorem rdD_nat (l : List S34) (i : Nat) : rd_T34 l (i : Int) = l.getD i z34 := by rw [rd_T34, Int.toNat_natCast]
def goodC (x : S34) : Bool := goodB x.f0 x.f1

def sizeB (r c : Int) (n : Nat) : Bool := decide ((1 ≤ r ∧ r ≤ 10) ∧ (1 ≤ c ∧ c ≤ 9) ∧ (n : Int) = r * c)
def goodBoard (r c : Int) (l : List S34) : Bool := sizeB r c l.length && l.all goodC
theorem mul_bound {r c : Int} (h1 : 1 ≤ r) (h2 : r ≤ 10) (h3 : 1 ≤ c) (h4 : c ≤ 9) : 1 ≤ r * c ∧ r * c ≤ 90 := by
 have hr : r = 1 ∨ r = 2 ∨ r = 3 ∨ r = 4 ∨ r = 5 ∨ r = 6 ∨ r = 7 ∨ r = 8 ∨ r = 9 ∨ r = 10 := by omega
 rcases hr with rfl | rfl | rfl | rfl | rfl | rfl | rfl | rfl | rfl | rfl <;> omega
structure Brd (r c : Int) (l : List S34) : Prop where
 r1 : 1 ≤ r
 r2 : r ≤ 10
 c1 : 1 ≤ c
 c2 : c ≤ 9
 len : (l.length : Int) = r * c
 all : l.all goodC = true
 le : l.length ≤ 90
 pos : 1 ≤ l.length
theorem brd_of {r c : Int} {l : List S34} (h : goodBoard r c l = true) : Brd r c l := by
 simp only [goodBoard, sizeB, Bool.and_eq_true, decide_eq_true_eq] at h
 obtain ⟨⟨⟨h1, h2⟩, ⟨h3, h4⟩, h5⟩, h6⟩ := h
 have := mul_bound h1 h2 h3 h4
 exact ⟨h1, h2, h3, h4, h5, h6, by omega, by omega⟩
theorem of_brd {r c : Int} {l : List S34} (h : Brd r c l) : goodBoard r c l = true := by
 simp only [goodBoard, sizeB, Bool.and_eq_true, decide_eq_true_eq]
 exact ⟨⟨⟨h.r1, h.r2⟩, ⟨h.c1, h.c2⟩, h.len⟩, h.all⟩
theorem idx_bound {r c i j : Int} (h0 : 0 ≤ i) (h1 : i < r) (h2 : 0 ≤ j) (h3 : j < c) : 0 ≤ i * c + j ∧ i * c + j < r * c := by
 have a : 0 ≤ i * c := Int.mul_nonneg h0 (by omega)
 have b : (i + 1) * c ≤ r * c := Int.mul_le_mul_of_nonneg_right (by omega) (by omega)
 rw [Int.add_mul, Int.one_mul] at b
 omega

theorem IsCell_eq (a b : Int) : impl_IsCell.f a b = some (goodB a b) := by
 unfold impl_IsCell.f goodB
 by_cases h0 : a < 0
 ·rw [if_pos h0]; simp; omega
 rw [if_neg h0]
 by_cases h1 : a > 7
 ·rw [if_pos h1]; simp; omega
 rw [if_neg h1]
 by_cases h2 : b < 0
 ·rw [if_pos h2]; simp; omega
 rw [if_neg h2]
 by_cases h3 : b > 1
 ·rw [if_pos h3]; simp; omega
 rw [if_neg h3]
 by_cases h4 : b = 0
 ·rw [if_pos h4]; simp; omega
 rw [if_neg h4]
 by_cases h5 : a = 3
 ·rw [if_pos h5]; simp; omega
 rw [if_neg h5]
 by_cases h6 : a = 6
 ·simp [h6]; omega
 ·simp [h5, h6, h4]

theorem IsCellC_eq (x : S34) : impl_IsCell.f x.f0 x.f1 = some (goodC x) := IsCell_eq _ _
theorem validCells_l0 (a : List S34) (hn : a.length ≤ 1048576) : ∀ (d i : Nat), a.length - i = d → i ≤ a.length →
  Ev (fun k => impl_validCells.l0 k a (a.length : Int) (i : Int)) ((a.drop i).all goodC) := by
 intro d
 induction d with
 | zero =>
  intro i hd hi
  refine ev_done 0 fun k _ => ?_
  simp only [impl_validCells.l0]
  rw [if_neg (by omega), List.drop_of_length_le (by omega)]
  simp
 | succ d ih =>
  intro i hd hi
  have hlt : i < a.length := by omega
  have h := ih (i + 1) (by omega) (by omega)
  rw [drop_cons a z34 hlt, List.all_cons]
  by_cases hg : goodC (a.getD i z34) = true
  ·rw [hg, Bool.true_and]
   refine ev_next 0 h fun k _ => ?_
   simp only [impl_validCells.l0, rd_T34, Int.toNat_natCast, IsCellC_eq, Option.bind_some]
   rw [if_pos (by omega), if_pos (by omega), if_pos (by omega), if_pos hg, wrap_succ hlt (by omega)]
  ·rw [Bool.eq_false_iff.2 hg, Bool.false_and]
   refine ev_done 0 fun k _ => ?_
   simp only [impl_validCells.l0, rd_T34, Int.toNat_natCast, IsCellC_eq, Option.bind_some]
   rw [if_pos (by omega), if_pos (by omega), if_pos (by omega), if_neg hg]
theorem validCells_ev (a : List S34) (hn : a.length ≤ 1048576) : Ev (fun k => impl_validCells.f k a) (a.all goodC && decide (a.length ≤ 90)) := by
 by_cases h : a.length ≤ 90
 ·rw [decide_eq_true h, Bool.and_true]
  refine ev_same 0 (validCells_l0 a hn a.length 0 (by omega) (by omega)) fun k _ => ?_
  simp only [impl_validCells.f]
  rw [if_neg (by omega)]
  rfl
 ·rw [decide_eq_false h, Bool.and_false]
  refine ev_now fun k => ?_
  simp only [impl_validCells.f]
  rw [if_pos (by omega)]

theorem IsBoard_ev (r c : Int) (l : List S34) (hn : l.length ≤ 1048576) : Ev (fun k => impl_IsBoard.f k r c l) (goodBoard r c l) := by
 obtain ⟨K, hK⟩ := ev_get (validCells_ev l hn)
 refine ⟨K, fun k hk => ?_⟩
 simp only [impl_IsBoard.f]
 by_cases h1 : r ≥ 1
 ·rw [if_pos h1]
  by_cases h2 : r ≤ 10
  ·rw [if_pos h2]
   by_cases h3 : c ≥ 1
   ·rw [if_pos h3]
    by_cases h4 : c ≤ 9
    ·have hm := mul_bound h1 h2 h3 h4
     rw [if_pos h4, wrap_id (by omega) (by omega)]
     by_cases h5 : (l.length : Int) = r * c
     ·rw [if_pos h5, bindE (hK k hk)]
      have h6 : l.length ≤ 90 := by omega
      have h7 : 1 ≤ r := h1
      have h8 : 1 ≤ c := h3
      simp [goodBoard, sizeB, h7, h2, h8, h4, h5, h6]
     ·rw [if_neg h5]
      simp [goodBoard, sizeB, h5]
    ·rw [if_neg h4]
     simp [goodBoard, sizeB, h4]
   ·rw [if_neg h3]
    have h3' : ¬ 1 ≤ c := h3
    simp [goodBoard, sizeB, h3']
  ·rw [if_neg h2]
   simp [goodBoard, sizeB, h2]
 ·rw [if_neg h1]
  have h1' : ¬ 1 ≤ r := h1
  simp [goodBoard, sizeB, h1']

theorem l1In_eq (a lo hi : Int) : spec_l1In.f a lo hi = some (decide (lo ≤ a ∧ a ≤ hi)) := by
 unfold spec_l1In.f
 by_cases h : a ≥ lo
 ·rw [if_pos h]
  simp [show lo ≤ a from h]
 ·rw [if_neg h]
  simp [show ¬ lo ≤ a from h]

def turnB (a : Int) : Bool := decide (a = 3 ∨ a = 6)
theorem paTurning_eq (a b : Int) : spec_paTurning.f a b = some (turnB a) := by
 unfold spec_paTurning.f turnB
 by_cases h : a = 3
 ·simp [h]
 ·rw [if_neg h]
  by_cases h6 : a = 6 <;> simp [h, h6]

theorem paGood_eq (a b : Int) : spec_paGood.f a b = some (goodB a b) := by
 unfold spec_paGood.f
 rw [l1In_eq, Option.bind_some]
 by_cases h : 0 ≤ a ∧ a ≤ 7
 ·rw [decide_eq_true h, if_pos rfl]
  by_cases h0 : b = 0
  ·rw [if_pos h0]
   simp [goodB, h, h0]
  ·rw [if_neg h0]
   by_cases h1 : b = 1
   ·rw [if_pos h1, paTurning_eq, Option.bind_some]
    simp [goodB, turnB, h, h1]
   ·rw [if_neg h1]
    simp [goodB, h0, h1]
 ·rw [decide_eq_false h, if_neg (by simp)]
  simp [goodB, h]

theorem boGoodC_eq (x : S34) : spec_paGood.f x.f0 x.f1 = some (goodC x) := paGood_eq _ _
theorem boGood_l0 (a : List S34) (hn : a.length ≤ 1048576) : ∀ (d i : Nat), a.length - i = d → i ≤ a.length →
  Ev (fun k => spec_boGood.l0 k a (a.length : Int) (i : Int)) ((a.drop i).all goodC) := by
 intro d
 induction d with
 | zero =>
  intro i hd hi
  refine ev_done 0 fun k _ => ?_
  simp only [spec_boGood.l0]
  rw [if_neg (by omega), List.drop_of_length_le (by omega)]
  simp
 | succ d ih =>
  intro i hd hi
  have hlt : i < a.length := by omega
  have h := ih (i + 1) (by omega) (by omega)
  rw [drop_cons a z34 hlt, List.all_cons]
  by_cases hg : goodC (a.getD i z34) = true
  ·rw [hg, Bool.true_and]
   refine ev_next 0 h fun k _ => ?_
   simp only [spec_boGood.l0, rd_T34, Int.toNat_natCast, boGoodC_eq, Option.bind_some]
   rw [if_pos (by omega), if_pos (by omega), if_pos (by omega), if_pos hg, wrap_succ hlt (by omega)]
  ·rw [Bool.eq_false_iff.2 hg, Bool.false_and]
   refine ev_done 0 fun k _ => ?_
   simp only [spec_boGood.l0, rd_T34, Int.toNat_natCast, boGoodC_eq, Option.bind_some]
   rw [if_pos (by omega), if_pos (by omega), if_pos (by omega), if_neg hg]
theorem boGood_ev (r c : Int) (l : List S34) (hn : l.length ≤ 1048576) : Ev (fun k => spec_boGood.f k r c l) (goodBoard r c l) := by
 obtain ⟨K, hK⟩ := ev_get (boGood_l0 l hn l.length 0 (by omega) (by omega))
 refine ⟨K + 1, fun k hk => ?_⟩
 obtain ⟨k, rfl⟩ : ∃ m, k = m + 1 := ⟨k - 1, by omega⟩
 have hK' := hK k (by omega)
 simp only [spec_boGood.f, l1In_eq, Option.bind_some, spec_boGood.j0, ite_true']
 by_cases h1 : 1 ≤ r ∧ r ≤ 10
 ·rw [decide_eq_true h1, ite_true']
  by_cases h2 : 1 ≤ c ∧ c ≤ 9
  ·rw [decide_eq_true h2, ite_true']
   have hm := mul_bound h1.1 h1.2 h2.1 h2.2
   rw [wrap_id (by omega) (by omega)]
   by_cases h5 : (l.length : Int) = r * c
   ·have h6 : ((l.length : Int) != r * c) = false := by simp [h5]
    rw [h6, if_neg (by simp)]
    refine hK'.trans ?_
    simp [goodBoard, sizeB, h1, h2, h5]
   ·have h6 : ((l.length : Int) != r * c) = true := by simp [h5]
    rw [h6, ite_true']
    simp [goodBoard, sizeB, h5]
  ·rw [decide_eq_false h2, if_neg (by simp)]
   simp [goodBoard, sizeB, h2]
 ·rw [decide_eq_false h1, if_neg (by simp)]
  simp [goodBoard, sizeB, h1]



def letterOf (a b : Int) : ByteArray := if b = 1 then (if a = 3 then ⟨#[70]⟩ else ⟨#[71]⟩) else ⟨#[[46, 108, 114, 102, 120, 111, 103, 99].getD a.toNat 46]⟩
theorem letterOf_size (a b : Int) : (letterOf a b).size = 1 := by
 unfold letterOf
 split
 ·split <;> rfl
 ·rfl

def textOf (l : List S34) : List UInt8 := l.flatMap fun x => (letterOf x.f0 x.f1).data.toList
theorem textOf_length : ∀ l : List S34, (textOf l).length = l.length
 | [] => rfl
 | x :: l => by
  have h := textOf_length l
  have h1 : (letterOf x.f0 x.f1).data.toList.length = 1 := letterOf_size x.f0 x.f1
  simp only [textOf, List.flatMap_cons, List.length_append, List.length_cons] at h ⊢
  omega
theorem getD_good {l : List S34} (hl : l.all goodC = true) {i : Nat} (h : i < l.length) : goodC (l.getD i z34) = true := by
 rw [List.getD_eq_getElem?_getD, List.getElem?_eq_getElem h]
 exact List.all_eq_true.1 hl _ (List.getElem_mem h)
theorem bytes_append (a b : List UInt8) : (⟨a.toArray⟩ : ByteArray) ++ (⟨b.toArray⟩ : ByteArray) = ⟨(a ++ b).toArray⟩ := by
 apply ByteArray.ext
 simp
theorem strOf_bytes (b : List UInt8) : strOfNums (b.map fun x => (x.toNat : Int)) = ⟨b.toArray⟩ := by
 unfold strOfNums
 rw [List.map_map]
 congr 2
 induction b with
 | nil => rfl
 | cons x l ih => simp [ih]

theorem idx_wrap {i j C : Nat} (h : i * C + j ≤ 1000000) : wrap64 (wrap64 ((i : Int) * (C : Int)) + (j : Int)) = ((i * C + j : Nat) : Int) := by
 rw [show (i : Int) * (C : Int) = ((i * C : Nat) : Int) by simp]
 generalize i * C = n at h ⊢
 rw [wrap_id (x := (n : Int)) (by omega) (by omega), wrap_id (x := (n : Int) + (j : Int)) (by omega) (by omega)]
 omega
theorem mir_wrap {i j C : Nat} (hj : j < C) (h : i * C + C ≤ 1000000) : wrap64 (wrap64 (wrap64 (wrap64 ((i : Int) * (C : Int)) + (C : Int)) - 1) - (j : Int)) = ((i * C + (C - 1 - j) : Nat) : Int) := by
 rw [show (i : Int) * (C : Int) = ((i * C : Nat) : Int) by simp]
 generalize i * C = n at h ⊢
 rw [wrap_id (x := (n : Int)) (by omega) (by omega), wrap_id (x := (n : Int) + (C : Int)) (by omega) (by omega), wrap_id (x := (n : Int) + (C : Int) - 1) (by omega) (by omega), wrap_id (x := (n : Int) + (C : Int) - 1 - (j : Int)) (by omega) (by omega)]
 omega
theorem row_in {R C i j : Nat} (hi : i < R) (hj : j < C) : i * C + j < R * C := by
 have h : (i + 1) * C ≤ R * C := Nat.mul_le_mul_right C hi
 rw [Nat.succ_mul] at h
 omega
theorem row_div {C i j : Nat} (hj : j < C) : (i * C + j) / C = i := by
 rw [Nat.add_comm, Nat.mul_comm, Nat.add_mul_div_left _ _ (by omega), Nat.div_eq_of_lt hj, Nat.zero_add]
theorem row_mod {C i j : Nat} (hj : j < C) : (i * C + j) % C = j := by
 rw [Nat.add_comm, Nat.mul_comm, Nat.add_mul_mod_self_left, Nat.mod_eq_of_lt hj]
theorem brd_nat {r c : Int} {l : List S34} (b : Brd r c l) : ∃ R C : Nat, r = R ∧ c = C ∧ l.length = R * C ∧ 1 ≤ R ∧ R ≤ 10 ∧ 1 ≤ C ∧ C ≤ 9 := by
 have h1 := b.r1; have h2 := b.r2; have h3 := b.c1; have h4 := b.c2; have h5 := b.len
 obtain ⟨R, rfl⟩ : ∃ R : Nat, r = R := ⟨r.toNat, by omega⟩
 obtain ⟨C, rfl⟩ : ∃ C : Nat, c = C := ⟨c.toNat, by omega⟩
 refine ⟨R, C, rfl, rfl, ?_, by omega, by omega, by omega, by omega⟩
 have : ((l.length : Nat) : Int) = ((R * C : Nat) : Int) := by rw [h5]; simp
 exact Int.ofNat.inj this

def rowL (l : List S34) (C i : Nat) : List S34 := (l.take ((i + 1) * C)).drop (i * C)
def rowsText (l : List S34) (C : Nat) : Nat → Nat → List UInt8
 | 0, _ => []
 | d + 1, i => (textOf (rowL l C i) ++ [10]) ++ rowsText l C d (i + 1)
theorem row_facts {R C i : Nat} {l : List S34} (hlen : l.length = R * C) (hi : i < R) (hR : R ≤ 10) (hC : C ≤ 9) :
  wrap64 ((i : Int) * (C : Int)) = ((i * C : Nat) : Int) ∧ wrap64 ((wrap64 ((i : Int) + 1)) * (C : Int)) = (((i + 1) * C : Nat) : Int) ∧ i * C ≤ (i + 1) * C ∧ (i + 1) * C ≤ l.length ∧ (rowL l C i).length = C := by
 have h1 : (i + 1) * C ≤ R * C := Nat.mul_le_mul_right C hi
 have h2 : R * C ≤ 10 * 9 := Nat.mul_le_mul hR hC
 have h3 : (i + 1) * C = i * C + C := Nat.succ_mul i C
 rw [wrap_succ (n := 1000) (i := i) (by omega) (by omega), show (i : Int) * (C : Int) = ((i * C : Nat) : Int) by simp, show ((i + 1 : Nat) : Int) * (C : Int) = (((i + 1) * C : Nat) : Int) by simp]
 have hl : (rowL l C i).length = (i + 1) * C - i * C := by
  unfold rowL
  rw [List.length_drop, List.length_take, Nat.min_eq_left (by omega)]
 generalize (i + 1) * C = n at *
 generalize i * C = m at *
 rw [wrap_id (x := (m : Int)) (by omega) (by omega), wrap_id (x := (n : Int)) (by omega) (by omega)]
 exact ⟨rfl, rfl, by omega, by omega, by omega⟩
theorem rowL_good {l : List S34} (hl : l.all goodC = true) (C i : Nat) : (rowL l C i).all goodC = true := by
 rw [List.all_eq_true] at hl ⊢
 exact fun x hx => hl x (List.mem_of_mem_take (List.mem_of_mem_drop hx))
theorem textRow_length {R C i : Nat} {l : List S34} (hlen : l.length = R * C) (hi : i < R) (hR : R ≤ 10) (hC : C ≤ 9) : (textOf (rowL l C i)).length = C := by
 rw [textOf_length]; exact (row_facts hlen hi hR hC).2.2.2.2

theorem paLetter_eq (a b : Int) (h : goodB a b = true) : spec_paLetter.f a b = some (letterOf a b) := by
 rcases good_cases h with ⟨rfl, rfl⟩ | ⟨rfl, rfl⟩ | ⟨rfl, rfl⟩ | ⟨rfl, rfl⟩ | ⟨rfl, rfl⟩ | ⟨rfl, rfl⟩ | ⟨rfl, rfl⟩ | ⟨rfl, rfl⟩ | ⟨rfl, rfl⟩ | ⟨rfl, rfl⟩ <;> decide +kernel

theorem paText_l0 (l : List S34) (hl : l.all goodC = true) (hn : l.length ≤ 1048576) : ∀ (d i : Nat) (b : List UInt8), l.length - i = d → i ≤ l.length → b.length ≤ 1048576 + i →
  Ev (fun k => spec_paText.l0 k ⟨b.toArray⟩ l (l.length : Int) (i : Int)) ⟨(b ++ textOf (l.drop i)).toArray⟩ := by
 intro d
 induction d with
 | zero =>
  intro i b hd hi hb
  refine ev_done 0 fun k _ => ?_
  simp only [spec_paText.l0]
  rw [if_neg (by omega), List.drop_of_length_le (by omega)]
  simp [textOf]
 | succ d ih =>
  intro i b hd hi hb
  have hlt : i < l.length := by omega
  have hp := paLetter_eq _ _ (getD_good hl hlt)
  have hs := letterOf_size (l.getD i z34).f0 (l.getD i z34).f1
  rw [drop_cons l z34 hlt, textOf, List.flatMap_cons, ← List.append_assoc]
  generalize hq : letterOf (l.getD i z34).f0 (l.getD i z34).f1 = q at hp hs ⊢
  have hq2 : q = ⟨q.data.toList.toArray⟩ := by simp
  refine ev_next 0 (ih (i + 1) (b ++ q.data.toList) (by omega) (by omega) ?_) fun k _ => ?_
  ·have : q.data.toList.length = 1 := hs
   rw [List.length_append]
   omega
  ·simp only [spec_paText.l0, rd_T34, Int.toNat_natCast, hp, Option.bind_some]
   rw [if_pos (by omega), if_pos (by omega), if_pos (by omega), if_pos (by rw [hs]; show b.length + 1 ≤ _; omega), wrap_succ hlt (by omega), ← bytes_append]
theorem paText_ev (l : List S34) (hl : l.all goodC = true) (hn : l.length ≤ 1048576) : Ev (fun k => spec_paText.f k l) ⟨(textOf l).toArray⟩ := by
 have h := paText_l0 l hl hn l.length 0 [] (by omega) (by omega) (by simp)
 exact h

theorem boText_l0 {R C : Nat} (l : List S34) (hlen : l.length = R * C) (hR : R ≤ 10) (hC : C ≤ 9) (hl : l.all goodC = true) (h90 : l.length ≤ 90) : ∀ (d i : Nat) (b : List UInt8), R - i = d → i ≤ R → b.length ≤ 10 * i →
  Ev (fun k => spec_boText.l0 k ⟨b.toArray⟩ (i : Int) (R : Int) (C : Int) l) ⟨(b ++ rowsText l C d i).toArray⟩ := by
 intro d
 induction d with
 | zero =>
  intro i b hd hi hb
  refine ev_done 0 fun k _ => ?_
  simp only [spec_boText.l0]
  rw [if_neg (by omega)]
  simp [rowsText]
 | succ d ih =>
  intro i b hd hi hb
  have hlt : i < R := by omega
  obtain ⟨e1, e2, h1, h2, h3⟩ := row_facts hlen hlt hR hC
  have ht := textRow_length hlen hlt hR hC
  obtain ⟨K, hK⟩ := ev_get (paText_ev (rowL l C i) (rowL_good hl C i) (by omega))
  have h := ih (i + 1) (b ++ (textOf (rowL l C i) ++ [10])) (by omega) (by omega) (by rw [List.length_append, List.length_append, List.length_singleton]; omega)
  rw [List.append_assoc] at h
  refine ev_next K h fun k hk => ?_
  simp only [spec_boText.l0]
  rw [e1, e2, if_pos (by omega), if_pos (by omega), if_pos (by omega), if_pos (by omega), Int.toNat_natCast, Int.toNat_natCast, bindE (show spec_paText.f k (List.drop (i * C) (List.take ((i + 1) * C) l)) = _ from hK k hk)]
  rw [if_pos (by show (textOf (rowL l C i)).length + 1 ≤ _; omega), show (⟨#[10]⟩ : ByteArray) = ⟨[(10 : UInt8)].toArray⟩ from rfl, bytes_append, if_pos (by show b.length + (textOf (rowL l C i) ++ [10]).length ≤ _; rw [List.length_append, List.length_singleton]; omega), bytes_append, wrap_succ hlt (by omega)]

theorem CellLetter_eq (a b : Int) : impl_CellLetter.f a b = some (if goodB a b = true then (letterOf a b, true) else (⟨#[]⟩, false)) := by
 unfold impl_CellLetter.f
 rw [IsCell_eq, Option.bind_some]
 by_cases h : goodB a b = true
 ·rw [if_pos h, if_pos h]
  rcases good_cases h with ⟨rfl, rfl⟩ | ⟨rfl, rfl⟩ | ⟨rfl, rfl⟩ | ⟨rfl, rfl⟩ | ⟨rfl, rfl⟩ | ⟨rfl, rfl⟩ | ⟨rfl, rfl⟩ | ⟨rfl, rfl⟩ | ⟨rfl, rfl⟩ | ⟨rfl, rfl⟩ <;> decide +kernel
 ·rw [if_neg h, if_neg h]

theorem CellsText_l0 (l : List S34) (hl : l.all goodC = true) (hn : l.length ≤ 1048576) : ∀ (d i : Nat) (b : List UInt8), l.length - i = d → i ≤ l.length → b.length ≤ 1048576 + i →
  Ev (fun k => impl_CellsText.l0 k (b.map fun x => (x.toNat : Int)) l (l.length : Int) (i : Int)) (⟨(b ++ textOf (l.drop i)).toArray⟩, true) := by
 intro d
 induction d with
 | zero =>
  intro i b hd hi hb
  refine ev_done 0 fun k _ => ?_
  simp only [impl_CellsText.l0]
  rw [if_neg (by omega), List.drop_of_length_le (by omega), strOf_bytes]
  simp [textOf]
 | succ d ih =>
  intro i b hd hi hb
  have hlt : i < l.length := by omega
  have hg := getD_good hl hlt
  have hp := CellLetter_eq (l.getD i z34).f0 (l.getD i z34).f1
  rw [if_pos (show goodB (l.getD i z34).f0 (l.getD i z34).f1 = true from hg)] at hp
  have hs := letterOf_size (l.getD i z34).f0 (l.getD i z34).f1
  rw [drop_cons l z34 hlt, textOf, List.flatMap_cons, ← List.append_assoc]
  generalize letterOf (l.getD i z34).f0 (l.getD i z34).f1 = q at hp hs ⊢
  refine ev_next 0 (ih (i + 1) (b ++ q.data.toList) (by omega) (by omega) ?_) fun k _ => ?_
  ·have : q.data.toList.length = 1 := hs
   rw [List.length_append]
   omega
  ·simp only [impl_CellsText.l0, rd_T34, Int.toNat_natCast, hp, Option.bind_some]
   rw [if_pos (by omega), if_pos (by omega), if_pos (by omega), if_pos (by rw [hs, List.length_map]; omega), wrap_succ hlt (by omega), List.map_append]
   rfl
theorem CellsText_ev (l : List S34) (hn : l.length ≤ 1048576) : Ev (fun k => impl_CellsText.f k l) (if (l.all goodC && decide (l.length ≤ 90)) = true then (⟨(textOf l).toArray⟩, true) else (⟨#[]⟩, false)) := by
 obtain ⟨K, hK⟩ := ev_get (validCells_ev l hn)
 by_cases h : (l.all goodC && decide (l.length ≤ 90)) = true
 ·rw [if_pos h]
  refine ev_same K (CellsText_l0 l (by simp only [Bool.and_eq_true] at h; exact h.1) hn l.length 0 [] (by omega) (by omega) (by simp)) fun k hk => ?_
  simp only [impl_CellsText.f]
  rw [hK k hk, Option.bind_some, if_pos h]
  rfl
 ·rw [if_neg h]
  refine ⟨K, fun k hk => ?_⟩
  simp only [impl_CellsText.f]
  rw [hK k hk, Option.bind_some, if_neg h]

def btRes (r c : Int) (l : List S34) : ByteArray × Bool := if goodBoard r c l = true then (⟨(rowsText l c.toNat r.toNat 0).toArray⟩, true) else (⟨#[]⟩, false)
theorem BoardText_l0 {R C : Nat} (l : List S34) (hlen : l.length = R * C) (hR : R ≤ 10) (hC : C ≤ 9) (hl : l.all goodC = true) (h90 : l.length ≤ 90) : ∀ (d i : Nat) (b : List UInt8), R - i = d → i ≤ R → b.length ≤ 10 * i →
  Ev (fun k => impl_BoardText.l0 k ⟨b.toArray⟩ (i : Int) (R : Int) (C : Int) l) (⟨(b ++ rowsText l C d i).toArray⟩, true) := by
 intro d
 induction d with
 | zero =>
  intro i b hd hi hb
  refine ev_done 0 fun k _ => ?_
  simp only [impl_BoardText.l0]
  rw [if_neg (by omega)]
  simp [rowsText]
 | succ d ih =>
  intro i b hd hi hb
  have hlt : i < R := by omega
  obtain ⟨e1, e2, h1, h2, h3⟩ := row_facts hlen hlt hR hC
  have ht := textRow_length hlen hlt hR hC
  have hce := CellsText_ev (rowL l C i) (by omega)
  rw [if_pos (by rw [rowL_good hl C i, decide_eq_true (by omega)]; rfl)] at hce
  obtain ⟨K, hK⟩ := ev_get hce
  have h := ih (i + 1) (b ++ (textOf (rowL l C i) ++ [10])) (by omega) (by omega) (by rw [List.length_append, List.length_append, List.length_singleton]; omega)
  rw [List.append_assoc] at h
  refine ev_next K h fun k hk => ?_
  simp only [impl_BoardText.l0]
  rw [e1, e2, if_pos (by omega), if_pos (by omega), if_pos (by omega), if_pos (by omega), Int.toNat_natCast, Int.toNat_natCast, bindE (show impl_CellsText.f k (List.drop (i * C) (List.take ((i + 1) * C) l)) = _ from hK k hk)]
  rw [if_pos (by show (textOf (rowL l C i)).length + 1 ≤ _; omega), show (⟨#[10]⟩ : ByteArray) = ⟨[(10 : UInt8)].toArray⟩ from rfl, bytes_append, if_pos (by show b.length + (textOf (rowL l C i) ++ [10]).length ≤ _; rw [List.length_append, List.length_singleton]; omega), bytes_append, wrap_succ hlt (by omega)]
theorem BoardText_ev (r c : Int) (l : List S34) (hn : l.length ≤ 1048576) : Ev (fun k => impl_BoardText.f k r c l) (btRes r c l) := by
 obtain ⟨K, hK⟩ := ev_get (IsBoard_ev r c l hn)
 unfold btRes
 by_cases hg : goodBoard r c l = true
 ·have b := brd_of hg
  obtain ⟨R, C, rfl, rfl, hlen, hR1, hR, hC1, hC⟩ := brd_nat b
  rw [if_pos hg, Int.toNat_natCast, Int.toNat_natCast]
  refine ev_same K (BoardText_l0 l hlen hR hC b.all b.le R 0 [] (by omega) (by omega) (by simp)) fun k hk => ?_
  simp only [impl_BoardText.f]
  rw [bindE (hK k hk), if_pos hg]
  try rfl
 ·rw [if_neg hg]
  refine ⟨K, fun k hk => ?_⟩
  simp only [impl_BoardText.f]
  rw [bindE (hK k hk), if_neg hg]

theorem specBoardText_ev (r c : Int) (l : List S34) (hn : l.length ≤ 1048576) : Ev (fun k => spec_BoardText.f k r c l) (btRes r c l) := by
 obtain ⟨K, hK⟩ := ev_get (boGood_ev r c l hn)
 unfold btRes
 by_cases hg : goodBoard r c l = true
 ·have b := brd_of hg
  obtain ⟨R, C, rfl, rfl, hlen, hR1, hR, hC1, hC⟩ := brd_nat b
  obtain ⟨K2, hK2⟩ := ev_get (boText_l0 l hlen hR hC b.all b.le R 0 [] (by omega) (by omega) (by simp))
  refine ⟨K + K2, fun k hk => ?_⟩
  simp only [spec_BoardText.f, spec_boText.f]
  rw [bindE (hK k (by omega)), if_pos hg, if_pos hg, bindE (show spec_boText.l0 k (⟨#[]⟩ : ByteArray) 0 (R : Int) (C : Int) l = _ from hK2 k (by omega))]
  rfl
 ·rw [if_neg hg]
  refine ⟨K, fun k hk => ?_⟩
  simp only [spec_BoardText.f]
  rw [bindE (hK k hk), if_neg hg]

theorem FnExactBoardText (r0 c0 : Int) (a0 : List S46) (hn0 : a0.length ≤ 9223372036854775807) : ∃ k, laws_FnExactBoardText.f k r0 c0 a0 = some true := by
 unfold laws_FnExactBoardText.f
 simp only [bindE (szBoard_eq r0 c0 a0 (1048576) (by omega) (by omega) hn0)]
 by_cases hs0 : (a0.length : Int) ≤ 1048576
 case neg =>
  exact ⟨0, by rw [if_neg hs0]; rfl⟩
 have hq0 : ¬ (1048576 - (a0.length : Int) < 0) := by omega
 simp only [if_pos hs0, if_neg hq0]
 have hl0 : (a0.map conv).length ≤ 1048576 := by rw [List.length_map]; omega
 obtain ⟨K1, h1⟩ := ev_get (toBoard_ev r0 c0 a0 (by omega))
 obtain ⟨K2, h2⟩ := ev_get (BoardText_ev r0 c0 (a0.map conv) hl0)
 obtain ⟨K3, h3⟩ := ev_get (specBoardText_ev r0 c0 (a0.map conv) hl0)
 revert h2 h3
 generalize btRes r0 c0 (a0.map conv) = r
 intro h2 h3
 obtain ⟨K4, h4⟩ := ev_get (eqBoard_ev r0 c0 (a0.map conv) hl0)
 refine ⟨K1 + K2 + K3 + K4 + 1, ?_⟩
 repeat (first | rw [bindE (h1 _ (by omega))] | rw [bindE (h2 _ (by omega))] | rw [bindE (h3 _ (by omega))] | rw [bindE (h4 _ (by omega))] | rw [Option.bind_some] | rw [ite_true'] | rw [ite_bneB] | rw [ite_bneI] | rw [if_pos rfl] | rw [laws_FnExactBoardText.j0])

end Go.Proofs.Yteodcegmkbcjjaa.Pure
