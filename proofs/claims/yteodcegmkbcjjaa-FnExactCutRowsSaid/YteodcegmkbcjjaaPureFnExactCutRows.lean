/- For all arguments the program's CutRows answers as the reference's does (the plain law, over the printed functions). Conditions: none. -/
import Derived.Test.YteodcegmkbcjjaaG7
set_option linter.unusedVariables false
set_option linter.unusedSimpArgs false
namespace Go.Proofs.Yteodcegmkbcjjaa.Pure
open Go.RowKit Go.Proofs.Yteodcegmkbcjjaa.PAll Go.Proofs.YteodcegmkbcjjaaW.PrintWords Go.Proofs.YteodcegmkbcjjaaW.PrintLast Go.Proofs.YteodcegmkbcjjaaW.PrintMore

theorem wrap_id {x : Int} (h0 : -9223372036854775808 ≤ x) (h1 : x < 9223372036854775808) : wrap64 x = x := by unfold wrap64; omega
theorem wrap_succ {i n : Nat} (h : i < n) (hn : n ≤ 4611686018427387904) : wrap64 ((i : Int) + 1) = ((i + 1 : Nat) : Int) := by unfold wrap64; omega
theorem wrap_m1 : wrap64 (-1) = -1 := by decide +kernel
theorem wrap_0 : wrap64 0 = 0 := by decide +kernel
theorem wrap_1 : wrap64 1 = 1 := by decide +kernel
theorem wrap_2 : wrap64 2 = 2 := by decide +kernel
/-- A fact that omega doesn't look into. -/
structure Hid (p : Prop) : Prop where
 out : p
/-- The answer comes in this round. -/
theorem ev_done {α : Type} {g : Nat → Option α} {r : α} (K : Nat) (h : ∀ k, K ≤ k → g (k + 1) = some r) : Ev g r := by
 refine ⟨K + 1, fun k hk => ?_⟩
 obtain ⟨m, rfl⟩ : ∃ m, k = m + 1 := ⟨k - 1, by omega⟩
 exact h m (by omega)
/-- The answer comes in a later round. -/
theorem ev_next {α : Type} {g f : Nat → Option α} {r : α} (K : Nat) (hf : Ev f r) (h : ∀ k, K ≤ k → g (k + 1) = f k) : Ev g r := by
 obtain ⟨K', hf⟩ := hf
 refine ⟨K + K' + 1, fun k hk => ?_⟩
 obtain ⟨m, rfl⟩ : ∃ m, k = m + 1 := ⟨k - 1, by omega⟩
 rw [h m (by omega)]
 exact hf m (by omega)
theorem ev_get {α : Type} {g : Nat → Option α} {r : α} (h : Ev g r) : ∃ K, ∀ k, K ≤ k → g k = some r := h
theorem ev_now {α : Type} {g : Nat → Option α} {r : α} (h : ∀ k, g k = some r) : Ev g r := ⟨0, fun k _ => h k⟩
theorem ev_same {α : Type} {g f : Nat → Option α} {r : α} (K : Nat) (hf : Ev f r) (h : ∀ k, K ≤ k → g k = f k) : Ev g r := by
 obtain ⟨K', hf⟩ := hf
 exact ⟨K + K', fun k hk => (h k (by omega)).trans (hf k (by omega))⟩
theorem bindE {α β : Type} {o : Option α} {v : α} {f : α → Option β} (h : o = some v) : o.bind f = f v := by rw [h]; rfl
theorem ite_bneB {β : Type} (x : Bool) (a b : β) : (if (x != x) = true then a else b) = b := by simp
theorem ite_bneI {β : Type} (x : Int) (a b : β) : (if (x != x) = true then a else b) = b := by simp
theorem ite_true' {β : Type} (a b : β) : (if true = true then a else b) = a := rfl
theorem drop_cons {α : Type} (l : List α) (z : α) {i : Nat} (h : i < l.length) : l.drop i = l.getD i z :: l.drop (i + 1) := by
 rw [List.drop_eq_getElem_cons h, List.getD_eq_getElem?_getD, List.getElem?_eq_getElem h]; rfl
theorem take_set {α : Type} (l : List α) (v : α) {i : Nat} (h : i < l.length) : (l.set i v).take (i + 1) = l.take i ++ [v] := by
 rw [List.take_succ_eq_append_getElem (by simpa using h)]
 simp [List.take_set_of_le]
theorem rdT_nat {α : Type} (l : List α) (i : Nat) (z : α) : l.getD ((i : Int).toNat) z = l.getD i z := by rw [Int.toNat_natCast]

def conv (x : S46) : S34 := ⟨x.f0, x.f1⟩
theorem toCellS_l0 (a : List S46) (hn : a.length ≤ 1048576) : ∀ (d i : Nat) (x : List S34), a.length - i = d → i ≤ a.length → x.length = a.length →
  Ev (fun k => laws_toCellS.l0 k a x (i : Int)) (x.take i ++ (a.drop i).map conv) := by
 intro d
 induction d with
 | zero =>
  intro i x hd hi hx
  obtain rfl : i = a.length := by omega
  refine ev_done 0 fun k _ => ?_
  simp only [laws_toCellS.l0]
  rw [if_neg (by omega)]
  simp [← hx]
 | succ d ih =>
  intro i x hd hi hx
  have hlt : i < a.length := by omega
  refine ev_next 0 (f := fun k => laws_toCellS.l0 k a (x.set i (conv (a.getD i z46))) ((i + 1 : Nat) : Int)) ?_ fun k _ => ?_
  ·have h := ih (i + 1) (x.set i (conv (a.getD i z46))) (by omega) (by omega) (by simpa using hx)
   rwa [take_set x _ (by omega), List.append_assoc, List.singleton_append, ← List.map_cons, ← drop_cons a z46 hlt] at h
  ·simp only [laws_toCellS.l0]
   rw [if_pos (by omega), if_pos (by omega)]
   simp only [laws_toCell.f, Option.bind_some]
   rw [if_pos (by omega), wrap_succ hlt (by omega), Int.toNat_natCast]
   simp only [rd_T46, Int.toNat_natCast]
   rfl
theorem toCellS_ev (a : List S46) (hn : a.length ≤ 1048576) : Ev (fun k => laws_toCellS.f k a) (a.map conv) := by
 refine ev_same 0 (f := fun k => laws_toCellS.l0 k a (List.replicate a.length z34) ((0 : Nat) : Int)) ?_ fun k _ => ?_
 ·have h := toCellS_l0 a hn a.length 0 (List.replicate a.length z34) (by omega) (by omega) (by simp)
  simpa using h
 ·simp only [laws_toCellS.f]
  rw [if_pos (by omega), if_pos (by omega)]
  simp

theorem toBoard_ev (r c : Int) (a : List S46) (hn : a.length ≤ 1048576) : Ev (fun k => laws_toBoard.f k r c a) (r, c, a.map conv) := by
 obtain ⟨K, hK⟩ := ev_get (toCellS_ev a hn)
 refine ⟨K, fun k hk => ?_⟩
 simp only [laws_toBoard.f]
 rw [bindE (hK k hk)]

theorem szCellS_eq (a : List S46) (left : Int) (h0 : 0 ≤ left) (h1 : left ≤ 1048576) (hn : a.length ≤ 9223372036854775807) :
  laws_szCellS.f a left = some (if (a.length : Int) ≤ left then left - a.length else -1) := by
 unfold laws_szCellS.f
 rw [wrap_id (by omega) (by omega)]
 by_cases h : (a.length : Int) ≤ left
 ·rw [if_neg (by omega), if_pos h]
 ·rw [if_pos (by omega), if_neg h]

theorem szBoard_eq (r c : Int) (a : List S46) (left : Int) (h0 : 0 ≤ left) (h1 : left ≤ 1048576) (hn : a.length ≤ 9223372036854775807) :
  laws_szBoard.f r c a left = some (if (a.length : Int) ≤ left then left - a.length else -1) := by
 unfold laws_szBoard.f
 rw [bindE (szCellS_eq a left h0 h1 hn)]
 by_cases h : (a.length : Int) ≤ left
 ·rw [if_pos h, if_neg (by omega)]
 ·rw [if_neg h, if_pos (by omega)]

theorem eqCellS_l0 (a : List S34) (hn : a.length ≤ 1048576) : ∀ (d i : Nat), a.length - i = d → i ≤ a.length → Ev (fun k => laws_eqCellS.l0 k a a (i : Int)) true := by
 intro d
 induction d with
 | zero =>
  intro i hd hi
  refine ev_done 0 fun k _ => ?_
  simp only [laws_eqCellS.l0]
  rw [if_neg (by omega)]
 | succ d ih =>
  intro i hd hi
  have hlt : i < a.length := by omega
  refine ev_next 0 (ih (i + 1) (by omega) (by omega)) fun k _ => ?_
  simp only [laws_eqCellS.l0]
  rw [if_pos (by omega), if_pos (by omega), if_pos (by omega), wrap_succ hlt (by omega)]
  simp [laws_eqCell.f]
theorem eqCellS_ev (a : List S34) (hn : a.length ≤ 1048576) : Ev (fun k => laws_eqCellS.f k a a) true := by
 refine ev_same 0 (eqCellS_l0 a hn a.length 0 (by omega) (by omega)) fun k _ => ?_
 simp only [laws_eqCellS.f, if_true]
 rfl

theorem eqBoard_ev (r c : Int) (a : List S34) (hn : a.length ≤ 1048576) : Ev (fun k => laws_eqBoard.f k r c a r c a) true := by
 obtain ⟨K, hK⟩ := ev_get (eqCellS_ev a hn)
 refine ⟨K, fun k hk => ?_⟩
 simp only [laws_eqBoard.f]
 rw [if_pos trivial, if_pos trivial, bindE (hK k hk), ite_true']

def goodB (a b : Int) : Bool := decide ((0 ≤ a ∧ a ≤ 7) ∧ (b = 0 ∨ b = 1 ∧ (a = 3 ∨ a = 6)))
theorem good_cases {a b : Int} (h : goodB a b = true) : (a = 0 ∧ b = 0) ∨ (a = 1 ∧ b = 0) ∨ (a = 2 ∧ b = 0) ∨ (a = 3 ∧ b = 0) ∨ (a = 3 ∧ b = 1) ∨ (a = 4 ∧ b = 0) ∨ (a = 5 ∧ b = 0) ∨ (a = 6 ∧ b = 0) ∨ (a = 6 ∧ b = 1) ∨ (a = 7 ∧ b = 0) := by
 simp only [goodB, decide_eq_true_eq] at h
 obtain ⟨⟨h0, h7⟩, hb⟩ := h
 have ha : a = 0 ∨ a = 1 ∨ a = 2 ∨ a = 3 ∨ a = 4 ∨ a = 5 ∨ a = 6 ∨ a = 7 := by
  clear hb
  omega
 rcases ha with rfl | rfl | rfl | rfl | rfl | rfl | rfl | rfl <;> simp_all

theorem rdD_nat (l : List S34) (i : Nat) : rd_T34 l (i : Int) = l.getD i z34 := by rw [rd_T34, Int.toNat_natCast]
def goodC (x : S34) : Bool := goodB x.f0 x.f1

def sizeB (r c : Int) (n : Nat) : Bool := decide ((1 ≤ r ∧ r ≤ 10) ∧ (1 ≤ c ∧ c ≤ 9) ∧ (n : Int) = r * c)
def goodBoard (r c : Int) (l : List S34) : Bool := sizeB r c l.length && l.all goodC
theorem mul_bound {r c : Int} (h1 : 1 ≤ r) (h2 : r ≤ 10) (h3 : 1 ≤ c) (h4 : c ≤ 9) : 1 ≤ r * c ∧ r * c ≤ 90 := by
 have hr : r = 1 ∨ r = 2 ∨ r = 3 ∨ r = 4 ∨ r = 5 ∨ r = 6 ∨ r = 7 ∨ r = 8 ∨ r = 9 ∨ r = 10 := by omega
 rcases hr with rfl | rfl | rfl | rfl | rfl | rfl | rfl | rfl | rfl | rfl <;> omega
structure Brd (r c : Int) (l : List S34) : Prop where
 r1 : 1 ≤ r
 r2 : r ≤ 10
 c1 : 1 ≤ c
 c2 : c ≤ 9
 len : (l.length : Int) = r * c
 all : l.all goodC = true
 le : l.length ≤ 90
 pos : 1 ≤ l.length
theorem brd_of {r c : Int} {l : List S34} (h : goodBoard r c l = true) : Brd r c l := by
 simp only [goodBoard, sizeB, Bool.and_eq_true, decide_eq_true_eq] at h
 obtain ⟨⟨⟨h1, h2⟩, ⟨h3, h4⟩, h5⟩, h6⟩ := h
 have := mul_bound h1 h2 h3 h4
 exact ⟨h1, h2, h3, h4, h5, h6, by omega, by omega⟩
theorem of_brd {r c : Int} {l : List S34} (h : Brd r c l) : goodBoard r c l = true := by
 simp only [goodBoard, sizeB, Bool.and_eq_true, decide_eq_true_eq]
 exact ⟨⟨⟨h.r1, h.r2⟩, ⟨h.c1, h.c2⟩, h.len⟩, h.all⟩
theorem idx_bound {r c i j : Int} (h0 : 0 ≤ i) (h1 : i < r) (h2 : 0 ≤ j) (h3 : j < c) : 0 ≤ i * c + j ∧ i * c + j < r * c := by
 have a : 0 ≤ i * c := Int.mul_nonneg h0 (by omega)
 have b : (i + 1) * c ≤ r * c := Int.mul_le_mul_of_nonneg_right (by omega) (by omega)
 rw [Int.add_mul, Int.one_mul] at b
 omega

theorem IsCell_eq (a b : Int) : impl_IsCell.f a b = some (goodB a b) := by
 unfold impl_IsCell.f goodB
 by_cases h0 : a < 0
 ·rw [if_pos h0]; simp; omega
 rw [if_neg h0]
 by_cases h1 : a > 7
 ·rw [if_pos h1]; simp; omega
 rw [if_neg h1]
 by_cases h2 : b < 0
 ·rw [if_pos h2]; simp; omega
 rw [if_neg h2]
 by_cases h3 : b > 1
 ·rw [if_pos h3]; simp; omega
 rw [if_neg h3]
 by_cases h4 : b = 0
 ·rw [if_pos h4]; simp; omega
 rw [if_neg h4]
 by_cases h5 : a = 3
 ·rw [if_pos h5]; simp; omega
 rw [if_neg h5]
 by_cases h6 : a = 6
 ·simp [h6]; omega
 ·simp [h5, h6, h4]

theorem IsCellC_eq (x : S34) : impl_IsCell.f x.f0 x.f1 = some (goodC x) := IsCell_eq _ _
theorem validCells_l0 (a : List S34) (hn : a.length ≤ 1048576) : ∀ (d i : Nat), a.length - i = d → i ≤ a.length →
  Ev (fun k => impl_validCells.l0 k a (a.length : Int) (i : Int)) ((a.drop i).all goodC) := by
 intro d
 induction d with
 | zero =>
  intro i hd hi
  refine ev_done 0 fun k _ => ?_
  simp only [impl_validCells.l0]
  rw [if_neg (by omega), List.drop_of_length_le (by omega)]
  simp
 | succ d ih =>
  intro i hd hi
  have hlt : i < a.length := by omega
  have h := ih (i + 1) (by omega) (by omega)
  rw [drop_cons a z34 hlt, List.all_cons]
  by_cases hg : goodC (a.getD i z34) = true
  ·rw [hg, Bool.true_and]
   refine ev_next 0 h fun k _ => ?_
   simp only [impl_validCells.l0, rd_T34, Int.toNat_natCast, IsCellC_eq, Option.bind_some]
   rw [if_pos (by omega), if_pos (by omega), if_pos (by omega), if_pos hg, wrap_succ hlt (by omega)]
  ·rw [Bool.eq_false_iff.2 hg, Bool.false_and]
   refine ev_done 0 fun k _ => ?_
   simp only [impl_validCells.l0, rd_T34, Int.toNat_natCast, IsCellC_eq, Option.bind_some]
   rw [if_pos (by omega), if_pos (by omega), if_pos (by omega), if_neg hg]
theorem validCells_ev (a : List S34) (hn : a.length ≤ 1048576) : Ev (fun k => impl_validCells.f k a) (a.all goodC && decide (a.length ≤ 90)) := by
 by_cases h : a.length ≤ 90
 ·rw [decide_eq_true h, Bool.and_true]
  refine ev_same 0 (validCells_l0 a hn a.length 0 (by omega) (by omega)) fun k _ => ?_
  simp only [impl_validCells.f]
  rw [if_neg (by omega)]
  rfl
 ·rw [decide_eq_false h, Bool.and_false]
  refine ev_now fun k => ?_
  simp only [impl_validCells.f]
  rw [if_pos (by omega)]

theorem IsBoard_ev (r c : Int) (l : List S34) (hn : l.length ≤ 1048576) : Ev (fun k => impl_IsBoard.f k r c l) (goodBoard r c l) := by
 obtain ⟨K, hK⟩ := ev_get (validCells_ev l hn)
 refine ⟨K, fun k hk => ?_⟩
 simp only [impl_IsBoard.f]
 by_cases h1 : r ≥ 1
 ·rw [if_pos h1]
  by_cases h2 : r ≤ 10
  ·rw [if_pos h2]
   by_cases h3 : c ≥ 1
   ·rw [if_pos h3]
    by_cases h4 : c ≤ 9
    ·have hm := mul_bound h1 h2 h3 h4
     rw [if_pos h4, wrap_id (by omega) (by omega)]
     by_cases h5 : (l.length : Int) = r * c
     ·rw [if_pos h5, bindE (hK k hk)]
      have h6 : l.length ≤ 90 := by omega
      have h7 : 1 ≤ r := h1
      have h8 : 1 ≤ c := h3
      simp [goodBoard, sizeB, h7, h2, h8, h4, h5, h6]
     ·rw [if_neg h5]
      simp [goodBoard, sizeB, h5]
    ·rw [if_neg h4]
     simp [goodBoard, sizeB, h4]
   ·rw [if_neg h3]
    have h3' : ¬ 1 ≤ c := h3
    simp [goodBoard, sizeB, h3']
  ·rw [if_neg h2]
   simp [goodBoard, sizeB, h2]
 ·rw [if_neg h1]
  have h1' : ¬ 1 ≤ r := h1
  simp [goodBoard, sizeB, h1']

theorem l1In_eq (a lo hi : Int) : spec_l1In.f a lo hi = some (decide (lo ≤ a ∧ a ≤ hi)) := by
 unfold spec_l1In.f
 by_cases h : a ≥ lo
 ·rw [if_pos h]
  simp [show lo ≤ a from h]
 ·rw [if_neg h]
  simp [show ¬ lo ≤ a from h]

def turnB (a : Int) : Bool := decide (a = 3 ∨ a = 6)
theorem paTurning_eq (a b : Int) : spec_paTurning.f a b = some (turnB a) := by
 unfold spec_paTurning.f turnB
 by_cases h : a = 3
 ·simp [h]
 ·rw [if_neg h]
  by_cases h6 : a = 6 <;> simp [h, h6]

theorem paGood_eq (a b : Int) : spec_paGood.f a b = some (goodB a b) := by
 unfold spec_paGood.f
 rw [l1In_eq, Option.bind_some]
 by_cases h : 0 ≤ a ∧ a ≤ 7
 ·rw [decide_eq_true h, if_pos rfl]
  by_cases h0 : b = 0
  ·rw [if_pos h0]
   simp [goodB, h, h0]
  ·rw [if_neg h0]
   by_cases h1 : b = 1
   ·rw [if_pos h1, paTurning_eq, Option.bind_some]
    simp [goodB, turnB, h, h1]
   ·rw [if_neg h1]
    simp [goodB, h0, h1]
 ·rw [decide_eq_false h, if_neg (by simp)]
  simp [goodB, h]

theorem boGoodC_eq (x : S34) : spec_paGood.f x.f0 x.f1 = some (goodC x) := paGood_eq _ _
theorem boGood_l0 (a : List S34) (hn : a.length ≤ 1048576) : ∀ (d i : Nat), a.length - i = d → i ≤ a.length →
  Ev (fun k => spec_boGood.l0 k a (a.length : Int) (i : Int)) ((a.drop i).all goodC) := by
 intro d
 induction d with
 | zero =>
  intro i hd hi
  refine ev_done 0 fun k _ => ?_
  simp only [spec_boGood.l0]
  rw [if_neg (by omega), List.drop_of_length_le (by omega)]
  simp
 | succ d ih =>
  intro i hd hi
  have hlt : i < a.length := by omega
  have h := ih (i + 1) (by omega) (by omega)
  rw [drop_cons a z34 hlt, List.all_cons]
  by_cases hg : goodC (a.getD i z34) = true
  ·rw [hg, Bool.true_and]
   refine ev_next 0 h fun k _ => ?_
   simp only [spec_boGood.l0, rd_T34, Int.toNat_natCast, boGoodC_eq, Option.bind_some]
   rw [if_pos (by omega), if_pos (by omega), if_pos (by omega), if_pos hg, wrap_succ hlt (by omega)]
  ·rw [Bool.eq_false_iff.2 hg, Bool.false_and]
   refine ev_done 0 fun k _ => ?_
   simp only [spec_boGood.l0, rd_T34, Int.toNat_natCast, boGoodC_eq, Option.bind_some]
   rw [if_pos (by omega), if_pos (by omega), if_pos (by omega), if_neg hg]
theorem boGood_ev (r c : Int) (l : List S34) (hn : l.length ≤ 1048576) : Ev (fun k => spec_boGood.f k r c l) (goodBoard r c l) := by
 obtain ⟨K, hK⟩ := ev_get (boGood_l0 l hn l.length 0 (by omega) (by omega))
 refine ⟨K + 1, fun k hk => ?_⟩
 obtain ⟨k, rfl⟩ : ∃ m, k = m + 1 := ⟨k - 1, by omega⟩
 have hK' := hK k (by omega)
 simp only [spec_boGood.f, l1In_eq, Option.bind_some, spec_boGood.j0, ite_true']
 by_cases h1 : 1 ≤ r ∧ r ≤ 10
 ·rw [decide_eq_true h1, ite_true']
  by_cases h2 : 1 ≤ c ∧ c ≤ 9
  ·rw [decide_eq_true h2, ite_true']
   have hm := mul_bound h1.1 h1.2 h2.1 h2.2
   rw [wrap_id (by omega) (by omega)]
   by_cases h5 : (l.length : Int) = r * c
   ·have h6 : ((l.length : Int) != r * c) = false := by simp [h5]
    rw [h6, if_neg (by simp)]
    refine hK'.trans ?_
    simp [goodBoard, sizeB, h1, h2, h5]
   ·have h6 : ((l.length : Int) != r * c) = true := by simp [h5]
    rw [h6, ite_true']
    simp [goodBoard, sizeB, h5]
  ·rw [decide_eq_false h2, if_neg (by simp)]
   simp [goodBoard, sizeB, h2]
 ·rw [decide_eq_false h1, if_neg (by simp)]
  simp [goodBoard, sizeB, h1]



def marks : Nat → Int → List S34
 | 0, _ => []
 | n + 1, s => ⟨s, s + 1⟩ :: marks n (s + 2)
theorem marks_length : ∀ (n : Nat) (s : Int), (marks n s).length = n
 | 0, _ => rfl
 | n + 1, s => by simp [marks, marks_length n]
theorem markCellS_l0 (N : Nat) (hN : N ≤ 1048576) : ∀ (d i : Nat) (s : Int) (x : List S34), x.length = N → N - i = d → i ≤ N → 0 ≤ s → s ≤ 4194304 + 2 * i →
  Ev (fun k => laws_markCellS.l0 k x s (i : Int)) (s + 2 * d, x.take i ++ marks d s) := by
 intro d
 induction d with
 | zero =>
  intro i s x hx hd hi h0 h1
  refine ev_done 0 fun k _ => ?_
  simp only [laws_markCellS.l0]
  rw [if_neg (by omega)]
  simp [marks, List.take_of_length_le (show x.length ≤ i by omega)]
 | succ d ih =>
  intro i s x hx hd hi h0 h1
  have hlt : i < x.length := by omega
  have e : ((x.set i (⟨s, (rd_T34 x i).f1⟩ : S34)).set i ⟨(rd_T34 (x.set i (⟨s, (rd_T34 x i).f1⟩ : S34)) i).f0, s + 1⟩) = x.set i (⟨s, s + 1⟩ : S34) := by
   rw [List.set_set]
   simp [rd_T34, hlt]
  refine ev_next 0 (f := fun k => laws_markCellS.l0 k (x.set i (⟨s, s + 1⟩ : S34)) (s + 2) ((i + 1 : Nat) : Int)) ?_ fun k _ => ?_
  ·have h := ih (i + 1) (s + 2) (x.set i (⟨s, s + 1⟩ : S34)) (by simpa using hx) (by omega) (by omega) (by omega) (by omega)
   rw [take_set x _ (by omega)] at h
   have e2 : s + 2 + 2 * (d : Int) = s + 2 * ((d + 1 : Nat) : Int) := by omega
   rw [e2, List.append_assoc] at h
   exact h
  ·simp only [laws_markCellS.l0]
   rw [if_pos (by omega), if_pos (by omega)]
   simp only [Option.bind_some, Int.toNat_natCast]
   rw [wrap_succ hlt (by omega), wrap_id (x := s + 1) (by omega) (by omega), wrap_id (x := s + 1 + 1) (by omega) (by omega), e]
   rw [show s + 1 + 1 = s + 2 by omega]
theorem markCellS_ev (x : List S34) (s : Int) (hn : x.length ≤ 1048576) (h0 : 0 ≤ s) (h1 : s ≤ 4194304) : Ev (fun k => laws_markCellS.f k x s) (s + 2 * x.length, marks x.length s) := by
 have h := markCellS_l0 x.length hn x.length 0 s x rfl (by omega) (by omega) h0 (by omega)
 simpa [laws_markCellS.f] using h

theorem markBoard_ev (r c : Int) (x : List S34) (s : Int) (hn : x.length ≤ 1048576) (h0 : 0 ≤ s) (h1 : s ≤ 4194304) : Ev (fun k => laws_markBoard.f k r c x s) (s + 2 * x.length, marks x.length s) := by
 obtain ⟨K, hK⟩ := ev_get (markCellS_ev x s hn h0 h1)
 refine ⟨K, fun k hk => ?_⟩
 simp only [laws_markBoard.f]
 rw [bindE (hK k hk)]



theorem heldCellS_l0 (y : List S34) (N : Nat) (hN : N ≤ 1048576) (hy : y.length = N) : ∀ (d i : Nat) (s : Int), N - i = d → i ≤ N → 0 ≤ s → s ≤ 4194304 + 2 * i → y.drop i = marks d s →
  Ev (fun k => laws_heldCellS.l0 k y s (i : Int)) (s + 2 * d) := by
 intro d
 induction d with
 | zero =>
  intro i s hd hi h0 h1 hm
  refine ev_done 0 fun k _ => ?_
  simp only [laws_heldCellS.l0]
  rw [if_neg (by omega)]
  simp
 | succ d ih =>
  intro i s hd hi h0 h1 hm
  have hlt : i < y.length := by omega
  rw [drop_cons y z34 hlt, marks] at hm
  injection hm with hm1 hm2
  have h := ih (i + 1) (s + 2) (by omega) (by omega) (by omega) (by omega) hm2
  have e2 : s + 2 + 2 * (d : Int) = s + 2 * ((d + 1 : Nat) : Int) := by omega
  rw [e2] at h
  refine ev_next 0 h fun k _ => ?_
  simp only [laws_heldCellS.l0, rd_T34, Int.toNat_natCast, hm1]
  rw [if_pos (by omega), if_pos (by omega), if_pos trivial, wrap_succ hlt (by omega), wrap_id (x := s + 1) (by omega) (by omega), wrap_id (x := s + 1 + 1) (by omega) (by omega), if_pos rfl]
  rw [show s + 1 + 1 = s + 2 by omega]
theorem heldCellS_ev (n : Nat) (s : Int) (hn : n ≤ 1048576) (h0 : 0 ≤ s) (h1 : s ≤ 4194304) : Ev (fun k => laws_heldCellS.f k (marks n s) s) (s + 2 * n) := by
 have h := heldCellS_l0 (marks n s) n hn (marks_length n s) n 0 s (by omega) (by omega) h0 (by omega) rfl
 simpa [laws_heldCellS.f] using h

theorem heldBoard_ev (r c : Int) (n : Nat) (s : Int) (hn : n ≤ 1048576) (h0 : 0 ≤ s) (h1 : s ≤ 4194304) : Ev (fun k => laws_heldBoard.f k r c (marks n s) s) (s + 2 * n) := by
 obtain ⟨K, hK⟩ := ev_get (heldCellS_ev n s hn h0 h1)
 refine ⟨K, fun k hk => ?_⟩
 simp only [laws_heldBoard.f]
 rw [bindE (hK k hk), if_neg (by omega)]



def cutB (r c : Int) (l : List S34) (i j : Int) : Bool := goodBoard r c l && decide (0 ≤ i ∧ i < j ∧ j ≤ r)
def cutOf (r c : Int) (l : List S34) (i j : Int) : Int × Int × List S34 × Bool := if cutB r c l i j = true then (j - i, c, (l.take (j * c).toNat).drop (i * c).toNat, true) else (0, 0, [], false)
theorem cutOf_length (r c : Int) (l : List S34) (i j : Int) (hl : l.length ≤ 1048576) : (cutOf r c l i j).2.2.1.length ≤ 1048576 := by
 unfold cutOf
 split
 ·simp
  omega
 ·simp
theorem cut_bounds {r c i j : Int} {l : List S34} (b : Brd r c l) (h : 0 ≤ i ∧ i < j ∧ j ≤ r) : wrap64 (i * c) = i * c ∧ wrap64 (j * c) = j * c ∧ wrap64 (j - i) = j - i ∧ 0 ≤ i * c ∧ i * c ≤ j * c ∧ j * c ≤ l.length := by
 have b1 := b.r1; have b2 := b.r2; have b3 := b.c1; have b4 := b.c2; have b5 := b.len; have b6 := b.le
 have a1 : 0 ≤ i * c := Int.mul_nonneg h.1 (by omega)
 have a2 : i * c ≤ j * c := Int.mul_le_mul_of_nonneg_right (by omega) (by omega)
 have a3 : j * c ≤ r * c := Int.mul_le_mul_of_nonneg_right (by omega) (by omega)
 rw [wrap_id (x := i * c) (by omega) (by omega), wrap_id (x := j * c) (by omega) (by omega), wrap_id (x := j - i) (by omega) (by omega)]
 omega
theorem CutRows_ev (r c : Int) (l : List S34) (i j : Int) (hn : l.length ≤ 1048576) : Ev (fun k => impl_CutRows.f k r c l i j) (cutOf r c l i j) := by
 obtain ⟨K, hK⟩ := ev_get (IsBoard_ev r c l hn)
 refine ⟨K, fun k hk => ?_⟩
 simp only [impl_CutRows.f]
 rw [bindE (hK k hk)]
 unfold cutOf cutB
 by_cases hg : goodBoard r c l = true
 ·have b := brd_of hg
  rw [hg, ite_true', Bool.true_and]
  by_cases h : 0 ≤ i ∧ i < j ∧ j ≤ r
  ·obtain ⟨e1, e2, e3, h1, h2, h3⟩ := cut_bounds b h
   rw [e1, e2, e3, decide_eq_true h, ite_true', if_neg (by omega), if_neg (by omega), if_neg (by omega), if_pos h1, if_pos h2, if_pos h3, Option.bind_some, if_pos (by simp; omega), List.nil_append]
  ·rw [decide_eq_false h, if_neg (show ¬ false = true by simp)]
   by_cases h1 : i < 0
   ·rw [if_pos h1]
   rw [if_neg h1]
   by_cases h2 : i ≥ j
   ·rw [if_pos h2]
   rw [if_neg h2]
   by_cases h3 : j > r
   ·rw [if_pos h3]
   omega
 ·rw [Bool.eq_false_iff.2 hg]
  rfl

theorem specCutRows_ev (r c : Int) (l : List S34) (i j : Int) (hn : l.length ≤ 1048576) : Ev (fun k => spec_CutRows.f k r c l i j) (cutOf r c l i j) := by
 obtain ⟨K, hK⟩ := ev_get (boGood_ev r c l hn)
 refine ⟨K, fun k hk => ?_⟩
 simp only [spec_CutRows.f]
 rw [bindE (hK k hk)]
 unfold cutOf cutB
 by_cases hg : goodBoard r c l = true
 ·have b := brd_of hg
  have b1 := b.r1; have b2 := b.r2
  rw [hg, ite_true', Bool.true_and, wrap_id (x := r - 1) (by omega) (by omega), l1In_eq, Option.bind_some]
  by_cases h1 : 0 ≤ i ∧ i ≤ r - 1
  ·rw [decide_eq_true h1, ite_true', wrap_id (x := i + 1) (by omega) (by omega), l1In_eq, Option.bind_some]
   by_cases h2 : i + 1 ≤ j ∧ j ≤ r
   ·obtain ⟨e1, e2, e3, h3, h4, h5⟩ := cut_bounds (i := i) (j := j) b (by omega)
    rw [decide_eq_true h2, ite_true', decide_eq_true (show 0 ≤ i ∧ i < j ∧ j ≤ r by omega), ite_true', e1, e2, e3, Option.bind_some, if_pos h3, if_pos h4, if_pos h5, Option.bind_some, if_pos (by simp; omega), List.nil_append]
   ·rw [decide_eq_false h2, decide_eq_false (show ¬ (0 ≤ i ∧ i < j ∧ j ≤ r) by omega)]
    rfl
  ·rw [decide_eq_false h1, decide_eq_false (show ¬ (0 ≤ i ∧ i < j ∧ j ≤ r) by omega)]
   rfl
 ·rw [Bool.eq_false_iff.2 hg]
  rfl

theorem FnExactCutRows (r0 c0 : Int) (a0 : List S46) (i1 : Int) (i2 : Int) (hn0 : a0.length ≤ 9223372036854775807) : ∃ k, laws_FnExactCutRows.f k r0 c0 a0 i1 i2 = some true := by
 unfold laws_FnExactCutRows.f
 simp only [bindE (szBoard_eq r0 c0 a0 (1048576) (by omega) (by omega) hn0)]
 by_cases hs0 : (a0.length : Int) ≤ 1048576
 case neg =>
  exact ⟨0, by rw [if_neg hs0]; rfl⟩
 have hq0 : ¬ (1048576 - (a0.length : Int) < 0) := by omega
 simp only [if_pos hs0, if_neg hq0]
 have hl0 : (a0.map conv).length ≤ 1048576 := by rw [List.length_map]; omega
 obtain ⟨K1, h1⟩ := ev_get (toBoard_ev r0 c0 a0 (by omega))
 obtain ⟨K2, h2⟩ := ev_get (CutRows_ev r0 c0 (a0.map conv) i1 i2 hl0)
 obtain ⟨K3, h3⟩ := ev_get (specCutRows_ev r0 c0 (a0.map conv) i1 i2 hl0)
 have hr := cutOf_length r0 c0 (a0.map conv) i1 i2 hl0
 revert h2 h3 hr
 generalize cutOf r0 c0 (a0.map conv) i1 i2 = r
 intro h2 h3 hr
 obtain ⟨K4, h4⟩ := ev_get (eqBoard_ev r0 c0 (a0.map conv) hl0)
 obtain ⟨K5, h5⟩ := ev_get (eqBoard_ev r.1 r.2.1 r.2.2.1 (by omega))
 obtain ⟨K6, h6⟩ := ev_get (markBoard_ev r0 c0 (a0.map conv) (1) hl0 (by omega) (by omega))
 have q1 : ¬ (1 + 2 * (a0.map conv).length < (0 : Int)) := by omega
 obtain ⟨K7, h7⟩ := ev_get (markBoard_ev r.1 r.2.1 r.2.2.1 (1) (by omega) (by omega) (by omega))
 obtain ⟨K8, h8⟩ := ev_get (heldBoard_ev r.1 r.2.1 r.2.2.1.length (1) (by omega) (by omega) (by omega))
 have q2 : ¬ (1 + 2 * r.2.2.1.length < (0 : Int)) := by omega
 refine ⟨K1 + K2 + K3 + K4 + K5 + K6 + K7 + K8 + 1 + 1 + 1, ?_⟩
 repeat (first | rw [bindE (h1 _ (by omega))] | rw [bindE (h2 _ (by omega))] | rw [bindE (h3 _ (by omega))] | rw [bindE (h4 _ (by omega))] | rw [bindE (h5 _ (by omega))] | rw [bindE (h6 _ (by omega))] | rw [bindE (h7 _ (by omega))] | rw [bindE (h8 _ (by omega))] | rw [Option.bind_some] | rw [ite_true'] | rw [ite_bneB] | rw [ite_bneI] | rw [if_neg q1] | rw [if_neg q2] | rw [if_pos rfl] | rw [laws_FnExactCutRows.j0] | rw [laws_FnExactCutRows.j1] | rw [laws_FnExactCutRows.j2])

end Go.Proofs.Yteodcegmkbcjjaa.Pure
