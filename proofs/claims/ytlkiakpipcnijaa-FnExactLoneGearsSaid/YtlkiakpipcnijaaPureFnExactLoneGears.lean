/- For all arguments the program's LoneGears answers as the reference's does (the plain law, over the printed functions). Conditions: none. -/
import Derived.Test.YtlkiakpipcnijaaG15
set_option linter.unusedVariables false
set_option linter.unusedSimpArgs false
namespace Go.Proofs.Ytlkiakpipcnijaa.Pure
open Go.RowKit Go.Proofs.Ytlkiakpipcnijaa.PAll Go.Proofs.YtlkiakpipcnijaaW.PrintWords Go.Proofs.YtlkiakpipcnijaaW.PrintLast Go.Proofs.YtlkiakpipcnijaaW.PrintMore

theorem wrap_id {x : Int} (h0 : -9223372036854775808 ≤ x) (h1 : x < 9223372036854775808) : wrap64 x = x := by unfold wrap64; omega
theorem wrap_succ {i n : Nat} (h : i < n) (hn : n ≤ 4611686018427387904) : wrap64 ((i : Int) + 1) = ((i + 1 : Nat) : Int) := by unfold wrap64; omega
theorem wrap_m1 : wrap64 (-1) = -1 := by decide +kernel
theorem wrap_0 : wrap64 0 = 0 := by decide +kernel
theorem wrap_1 : wrap64 1 = 1 := by decide +kernel
theorem wrap_2 : wrap64 2 = 2 := by decide +kernel
/-- A fact that omega doesn't look into. -/
structure Hid (p : Prop) : Prop where
 out : p
/-- The answer comes in this round. -/
theorem ev_done {α : Type} {g : Nat → Option α} {r : α} (K : Nat) (h : ∀ k, K ≤ k → g (k + 1) = some r) : Ev g r := by
 refine ⟨K + 1, fun k hk => ?_⟩
 obtain ⟨m, rfl⟩ : ∃ m, k = m + 1 := ⟨k - 1, by omega⟩
 exact h m (by omega)
/-- The answer comes in a later round. -/
theorem ev_next {α : Type} {g f : Nat → Option α} {r : α} (K : Nat) (hf : Ev f r) (h : ∀ k, K ≤ k → g (k + 1) = f k) : Ev g r := by
 obtain ⟨K', hf⟩ := hf
 refine ⟨K + K' + 1, fun k hk => ?_⟩
 obtain ⟨m, rfl⟩ : ∃ m, k = m + 1 := ⟨k - 1, by omega⟩
 rw [h m (by omega)]
 exact hf m (by omega)
theorem ev_get {α : Type} {g : Nat → Option α} {r : α} (h : Ev g r) : ∃ K, ∀ k, K ≤ k → g k = some r := h
theorem ev_now {α : Type} {g : Nat → Option α} {r : α} (h : ∀ k, g k = some r) : Ev g r := ⟨0, fun k _ => h k⟩
theorem ev_same {α : Type} {g f : Nat → Option α} {r : α} (K : Nat) (hf : Ev f r) (h : ∀ k, K ≤ k → g k = f k) : Ev g r := by
 obtain ⟨K', hf⟩ := hf
 exact ⟨K + K', fun k hk => (h k (by omega)).trans (hf k (by omega))⟩
theorem bindE {α β : Type} {o : Option α} {v : α} {f : α → Option β} (h : o = some v) : o.bind f = f v := by rw [h]; rfl
theorem ite_bneB {β : Type} (x : Bool) (a b : β) : (if (x != x) = true then a else b) = b := by simp
theorem ite_bneI {β : Type} (x : Int) (a b : β) : (if (x != x) = true then a else b) = b := by simp
theorem ite_true' {β : Type} (a b : β) : (if true = true then a else b) = a := rfl
theorem drop_cons {α : Type} (l : List α) (z : α) {i : Nat} (h : i < l.length) : l.drop i = l.getD i z :: l.drop (i + 1) := by
 rw [List.drop_eq_getElem_cons h, List.getD_eq_getElem?_getD, List.getElem?_eq_getElem h]; rfl
theorem take_set {α : Type} (l : List α) (v : α) {i : Nat} (h : i < l.length) : (l.set i v).take (i + 1) = l.take i ++ [v] := by
 rw [List.take_succ_eq_append_getElem (by simpa using h)]
 simp [List.take_set_of_le]
theorem rdT_nat {α : Type} (l : List α) (i : Nat) (z : α) : l.getD ((i : Int).toNat) z = l.getD i z := by rw [Int.toNat_natCast]

def conv (x : S84) : S71 := ⟨x.f0, x.f1⟩
theorem toCellS_l0 (a : List S84) (hn : a.length ≤ 1048576) : ∀ (d i : Nat) (x : List S71), a.length - i = d → i ≤ a.length → x.length = a.length →
  Ev (fun k => laws_toCellS.l0 k a x (i : Int)) (x.take i ++ (a.drop i).map conv) := by
 intro d
 induction d with
 | zero =>
  intro i x hd hi hx
  obtain rfl : i = a.length := by omega
  refine ev_done 0 fun k _ => ?_
  simp only [laws_toCellS.l0]
  rw [if_neg (by omega)]
  simp [← hx]
 | succ d ih =>
  intro i x hd hi hx
  have hlt : i < a.length := by omega
  refine ev_next 0 (f := fun k => laws_toCellS.l0 k a (x.set i (conv (a.getD i z84))) ((i + 1 : Nat) : Int)) ?_ fun k _ => ?_
  ·have h := ih (i + 1) (x.set i (conv (a.getD i z84))) (by omega) (by omega) (by simpa using hx)
   rwa [take_set x _ (by omega), List.append_assoc, List.singleton_append, ← List.map_cons, ← drop_cons a z84 hlt] at h
  ·simp only [laws_toCellS.l0]
   rw [if_pos (by omega), if_pos (by omega)]
   simp only [laws_toCell.f, Option.bind_some]
   rw [if_pos (by omega), wrap_succ hlt (by omega), Int.toNat_natCast]
   simp only [rd_T84, Int.toNat_natCast]
   rfl
theorem toCellS_ev (a : List S84) (hn : a.length ≤ 1048576) : Ev (fun k => laws_toCellS.f k a) (a.map conv) := by
 refine ev_same 0 (f := fun k => laws_toCellS.l0 k a (List.replicate a.length z71) ((0 : Nat) : Int)) ?_ fun k _ => ?_
 ·have h := toCellS_l0 a hn a.length 0 (List.replicate a.length z71) (by omega) (by omega) (by simp)
  simpa using h
 ·simp only [laws_toCellS.f]
  rw [if_pos (by omega), if_pos (by omega)]
  simp

theorem toBoard_ev (r c : Int) (a : List S84) (hn : a.length ≤ 1048576) : Ev (fun k => laws_toBoard.f k r c a) (r, c, a.map conv) := by
 obtain ⟨K, hK⟩ := ev_get (toCellS_ev a hn)
 refine ⟨K, fun k hk => ?_⟩
 simp only [laws_toBoard.f]
 rw [bindE (hK k hk)]

theorem szCellS_eq (a : List S84) (left : Int) (h0 : 0 ≤ left) (h1 : left ≤ 1048576) (hn : a.length ≤ 9223372036854775807) :
  laws_szCellS.f a left = some (if (a.length : Int) ≤ left then left - a.length else -1) := by
 unfold laws_szCellS.f
 rw [wrap_id (by omega) (by omega)]
 by_cases h : (a.length : Int) ≤ left
 ·rw [if_neg (by omega), if_pos h]
 ·rw [if_pos (by omega), if_neg h]

theorem szBoard_eq (r c : Int) (a : List S84) (left : Int) (h0 : 0 ≤ left) (h1 : left ≤ 1048576) (hn : a.length ≤ 9223372036854775807) :
  laws_szBoard.f r c a left = some (if (a.length : Int) ≤ left then left - a.length else -1) := by
 unfold laws_szBoard.f
 rw [bindE (szCellS_eq a left h0 h1 hn)]
 by_cases h : (a.length : Int) ≤ left
 ·rw [if_pos h, if_neg (by omega)]
 ·rw [if_neg h, if_pos (by omega)]

theorem eqCellS_l0 (a : List S71) (hn : a.length ≤ 1048576) : ∀ (d i : Nat), a.length - i = d → i ≤ a.length → Ev (fun k => laws_eqCellS.l0 k a a (i : Int)) true := by
 intro d
 induction d with
 | zero =>
  intro i hd hi
  refine ev_done 0 fun k _ => ?_
  simp only [laws_eqCellS.l0]
  rw [if_neg (by omega)]
 | succ d ih =>
  intro i hd hi
  have hlt : i < a.length := by omega
  refine ev_next 0 (ih (i + 1) (by omega) (by omega)) fun k _ => ?_
  simp only [laws_eqCellS.l0]
  rw [if_pos (by omega), if_pos (by omega), if_pos (by omega), wrap_succ hlt (by omega)]
  simp [laws_eqCell.f]
theorem eqCellS_ev (a : List S71) (hn : a.length ≤ 1048576) : Ev (fun k => laws_eqCellS.f k a a) true := by
 refine ev_same 0 (eqCellS_l0 a hn a.length 0 (by omega) (by omega)) fun k _ => ?_
 simp only [laws_eqCellS.f, if_true]
 rfl

theorem eqBoard_ev (r c : Int) (a : List S71) (hn : a.length ≤ 1048576) : Ev (fun k => laws_eqBoard.f k r c a r c a) true := by
 obtain ⟨K, hK⟩ := ev_get (eqCellS_ev a hn)
 refine ⟨K, fun k hk => ?_⟩
 simp only [laws_eqBoard.f]
 rw [if_pos trivial, if_pos trivial, bindE (hK k hk), ite_true']

def goodB (a b : Int) : Bool := decide ((0 ≤ a ∧ a ≤ 7) ∧ (b = 0 ∨ b = 1 ∧ (a = 3 ∨ a = 6)))
theorem good_cases {a b : Int} (h : goodB a b = true) : (a = 0 ∧ b = 0) ∨ (a = 1 ∧ b = 0) ∨ (a = 2 ∧ b = 0) ∨ (a = 3 ∧ b = 0) ∨ (a = 3 ∧ b = 1) ∨ (a = 4 ∧ b = 0) ∨ (a = 5 ∧ b = 0) ∨ (a = 6 ∧ b = 0) ∨ (a = 6 ∧ b = 1) ∨ (a = 7 ∧ b = 0) := by
 simp only [goodB, decide_eq_true_eq] at h
 obtain ⟨⟨h0, h7⟩, hb⟩ := h
 have ha : a = 0 ∨ a = 1 ∨ a = 2 ∨ a = 3 ∨ a = 4 ∨ a = 5 ∨ a = 6 ∨ a = 7 := by
  clear hb
  omega
 rcases ha with rfl | rfl | rfl | rfl | rfl | rfl | rfl | rfl <;> simp_all

theorem rdD_nat (l : List S71) (i : Nat) : rd_T71 l (i : Int) = l.getD i z71 := by rw [rd_T71, Int.toNat_natCast]
def goodC (x : S71) : Bool := goodB x.f0 x.f1

def sizeB (r c : Int) (n : Nat) : Bool := decide ((1 ≤ r ∧ r ≤ 10) ∧ (1 ≤ c ∧ c ≤ 9) ∧ (n : Int) = r * c)
def goodBoard (r c : Int) (l : List S71) : Bool := sizeB r c l.length && l.all goodC
theorem mul_bound {r c : Int} (h1 : 1 ≤ r) (h2 : r ≤ 10) (h3 : 1 ≤ c) (h4 : c ≤ 9) : 1 ≤ r * c ∧ r * c ≤ 90 := by
 have hr : r = 1 ∨ r = 2 ∨ r = 3 ∨ r = 4 ∨ r = 5 ∨ r = 6 ∨ r = 7 ∨ r = 8 ∨ r = 9 ∨ r = 10 := by omega
 rcases hr with rfl | rfl | rfl | rfl | rfl | rfl | rfl | rfl | rfl | rfl <;> omega
structure Brd (r c : Int) (l : List S71) : Prop where
 r1 : 1 ≤ r
 r2 : r ≤ 10
 c1 : 1 ≤ c
 c2 : c ≤ 9
 len : (l.length : Int) = r * c
 all : l.all goodC = true
 le : l.length ≤ 90
 pos : 1 ≤ l.length
theorem brd_of {r c : Int} {l : List S71} (h : goodBoard r c l = true) : Brd r c l := by
 simp only [goodBoard, sizeB, Bool.and_eq_true, decide_eq_true_eq] at h
 obtain ⟨⟨⟨h1, h2⟩, ⟨h3, h4⟩, h5⟩, h6⟩ := h
 have := mul_bound h1 h2 h3 h4
 exact ⟨h1, h2, h3, h4, h5, h6, by omega, by omega⟩
theorem of_brd {r c : Int} {l : List S71} (h : Brd r c l) : goodBoard r c l = true := by
 simp only [goodBoard, sizeB, Bool.and_eq_true, decide_eq_true_eq]
 exact ⟨⟨⟨h.r1, h.r2⟩, ⟨h.c1, h.c2⟩, h.len⟩, h.all⟩
theorem idx_bound {r c i j : Int} (h0 : 0 ≤ i) (h1 : i < r) (h2 : 0 ≤ j) (h3 : j < c) : 0 ≤ i * c + j ∧ i * c + j < r * c := by
 have a : 0 ≤ i * c := Int.mul_nonneg h0 (by omega)
 have b : (i + 1) * c ≤ r * c := Int.mul_le_mul_of_nonneg_right (by omega) (by omega)
 rw [Int.add_mul, Int.one_mul] at b
 omega

theorem IsCell_eq (a b : Int) : impl_IsCell.f a b = some (goodB a b) := by
 unfold impl_IsCell.f goodB
 by_cases h0 : a < 0
 ·rw [if_pos h0]; simp; omega
 rw [if_neg h0]
 by_cases h1 : a > 7
 ·rw [if_pos h1]; simp; omega
 rw [if_neg h1]
 by_cases h2 : b < 0
 ·rw [if_pos h2]; simp; omega
 rw [if_neg h2]
 by_cases h3 : b > 1
 ·rw [if_pos h3]; simp; omega
 rw [if_neg h3]
 by_cases h4 : b = 0
 ·rw [if_pos h4]; simp; omega
 rw [if_neg h4]
 by_cases h5 : a = 3
 ·rw [if_pos h5]; simp; omega
 rw [if_neg h5]
 by_cases h6 : a = 6
 ·simp [h6]; omega
 ·simp [h5, h6, h4]

theorem IsCellC_eq (x : S71) : impl_IsCell.f x.f0 x.f1 = some (goodC x) := IsCell_eq _ _
theorem validCells_l0 (a : List S71) (hn : a.length ≤ 1048576) : ∀ (d i : Nat), a.length - i = d → i ≤ a.length →
  Ev (fun k => impl_validCells.l0 k a (a.length : Int) (i : Int)) ((a.drop i).all goodC) := by
 intro d
 induction d with
 | zero =>
  intro i hd hi
  refine ev_done 0 fun k _ => ?_
  simp only [impl_validCells.l0]
  rw [if_neg (by omega), List.drop_of_length_le (by omega)]
  simp
 | succ d ih =>
  intro i hd hi
  have hlt : i < a.length := by omega
  have h := ih (i + 1) (by omega) (by omega)
  rw [drop_cons a z71 hlt, List.all_cons]
  by_cases hg : goodC (a.getD i z71) = true
  ·rw [hg, Bool.true_and]
   refine ev_next 0 h fun k _ => ?_
   simp only [impl_validCells.l0, rd_T71, Int.toNat_natCast, IsCellC_eq, Option.bind_some]
   rw [if_pos (by omega), if_pos (by omega), if_pos (by omega), if_pos hg, wrap_succ hlt (by omega)]
  ·rw [Bool.eq_false_iff.2 hg, Bool.false_and]
   refine ev_done 0 fun k _ => ?_
   simp only [impl_validCells.l0, rd_T71, Int.toNat_natCast, IsCellC_eq, Option.bind_some]
   rw [if_pos (by omega), if_pos (by omega), if_pos (by omega), if_neg hg]
theorem validCells_ev (a : List S71) (hn : a.length ≤ 1048576) : Ev (fun k => impl_validCells.f k a) (a.all goodC && decide (a.length ≤ 90)) := by
 by_cases h : a.length ≤ 90
 ·rw [decide_eq_true h, Bool.and_true]
  refine ev_same 0 (validCells_l0 a hn a.length 0 (by omega) (by omega)) fun k _ => ?_
  simp only [impl_validCells.f]
  rw [if_neg (by omega)]
  rfl
 ·rw [decide_eq_false h, Bool.and_false]
  refine ev_now fun k => ?_
  simp only [impl_validCells.f]
  rw [if_pos (by omega)]

theorem IsBoard_ev (r c : Int) (l : List S71) (hn : l.length ≤ 1048576) : Ev (fun k => impl_IsBoard.f k r c l) (goodBoard r c l) := by
 obtain ⟨K, hK⟩ := ev_get (validCells_ev l hn)
 refine ⟨K, fun k hk => ?_⟩
 simp only [impl_IsBoard.f]
 by_cases h1 : r ≥ 1
 ·rw [if_pos h1]
  by_cases h2 : r ≤ 10
  ·rw [if_pos h2]
   by_cases h3 : c ≥ 1
   ·rw [if_pos h3]
    by_cases h4 : c ≤ 9
    ·have hm := mul_bound h1 h2 h3 h4
     rw [if_pos h4, wrap_id (by omega) (by omega)]
     by_cases h5 : (l.length : Int) = r * c
     ·rw [if_pos h5, bindE (hK k hk)]
      have h6 : l.length ≤ 90 := by omega
      have h7 : 1 ≤ r := h1
      have h8 : 1 ≤ c := h3
      simp [goodBoard, sizeB, h7, h2, h8, h4, h5, h6]
     ·rw [if_neg h5]
      simp [goodBoard, sizeB, h5]
    ·rw [if_neg h4]
     simp [goodBoard, sizeB, h4]
   ·rw [if_neg h3]
    have h3' : ¬ 1 ≤ c := h3
    simp [goodBoard, sizeB, h3']
  ·rw [if_neg h2]
   simp [goodBoard, sizeB, h2]
 ·rw [if_neg h1]
  have h1' : ¬ 1 ≤ r := h1
  simp [goodBoard, sizeB, h1']

theorem l1In_eq (a lo hi : Int) : spec_l1In.f a lo hi = some (decide (lo ≤ a ∧ a ≤ hi)) := by
 unfold spec_l1In.f
 by_cases h : a ≥ lo
 ·rw [if_pos h]
  simp [show lo ≤ a from h]
 ·rw [if_neg h]
  simp [show ¬ lo ≤ a from h]

def turnB (a : Int) : Bool := decide (a = 3 ∨ a = 6)
theorem paTurning_eq (a b : Int) : spec_paTurning.f a b = some (turnB a) := by
 unfold spec_paTurning.f turnB
 by_cases h : a = 3
 ·simp [h]
 ·rw [if_neg h]
  by_cases h6 : a = 6 <;> simp [h, h6]

theorem paGood_eq (a b : Int) : spec_paGood.f a b = some (goodB a b) := by
 unfold spec_paGood.f
 rw [l1In_eq, Option.bind_some]
 by_cases h : 0 ≤ a ∧ a ≤ 7
 ·rw [decide_eq_true h, if_pos rfl]
  by_cases h0 : b = 0
  ·rw [if_pos h0]
   simp [goodB, h, h0]
  ·rw [if_neg h0]
   by_cases h1 : b = 1
   ·rw [if_pos h1, paTurning_eq, Option.bind_some]
    simp [goodB, turnB, h, h1]
   ·rw [if_neg h1]
    simp [goodB, h0, h1]
 ·rw [decide_eq_false h, if_neg (by simp)]
  simp [goodB, h]

theorem boGoodC_eq (x : S71) : spec_paGood.f x.f0 x.f1 = some (goodC x) := paGood_eq _ _
theorem boGood_l0 (a : List S71) (hn : a.length ≤ 1048576) : ∀ (d i : Nat), a.length - i = d → i ≤ a.length →
  Ev (fun k => spec_boGood.l0 k a (a.length : Int) (i : Int)) ((a.drop i).all goodC) := by
 intro d
 induction d with
 | zero =>
  intro i hd hi
  refine ev_done 0 fun k _ => ?_
  simp only [spec_boGood.l0]
  rw [if_neg (by omega), List.drop_of_length_le (by omega)]
  simp
 | succ d ih =>
  intro i hd hi
  have hlt : i < a.length := by omega
  have h := ih (i + 1) (by omega) (by omega)
  rw [drop_cons a z71 hlt, List.all_cons]
  by_cases hg : goodC (a.getD i z71) = true
  ·rw [hg, Bool.true_and]
   refine ev_next 0 h fun k _ => ?_
   simp only [spec_boGood.l0, rd_T71, Int.toNat_natCast, boGoodC_eq, Option.bind_some]
   rw [if_pos (by omega), if_pos (by omega), if_pos (by omega), if_pos hg, wrap_succ hlt (by omega)]
  ·rw [Bool.eq_false_iff.2 hg, Bool.false_and]
   refine ev_done 0 fun k _ => ?_
   simp only [spec_boGood.l0, rd_T71, Int.toNat_natCast, boGoodC_eq, Option.bind_some]
   rw [if_pos (by omega), if_pos (by omega), if_pos (by omega), if_neg hg]
theorem boGood_ev (r c : Int) (l : List S71) (hn : l.length ≤ 1048576) : Ev (fun k => spec_boGood.f k r c l) (goodBoard r c l) := by
 obtain ⟨K, hK⟩ := ev_get (boGood_l0 l hn l.length 0 (by omega) (by omega))
 refine ⟨K + 1, fun k hk => ?_⟩
 obtain ⟨k, rfl⟩ : ∃ m, k = m + 1 := ⟨k - 1, by omega⟩
 have hK' := hK k (by omega)
 simp only [spec_boGood.f, l1In_eq, Option.bind_some, spec_boGood.j0, ite_true']
 by_cases h1 : 1 ≤ r ∧ r ≤ 10
 ·rw [decide_eq_true h1, ite_true']
  by_cases h2 : 1 ≤ c ∧ c ≤ 9
  ·rw [decide_eq_true h2, ite_true']
   have hm := mul_bound h1.1 h1.2 h2.1 h2.2
   rw [wrap_id (by omega) (by omega)]
   by_cases h5 : (l.length : Int) = r * c
   ·have h6 : ((l.length : Int) != r * c) = false := by simp [h5]
    rw [h6, if_neg (by simp)]
    refine hK'.trans ?_
    simp [goodBoard, sizeB, h1, h2, h5]
   ·have h6 : ((l.length : Int) != r * c) = true := by simp [h5]
    rw [h6, ite_true']
    simp [goodBoard, sizeB, h5]
  ·rw [decide_eq_false h2, if_neg (by simp)]
   simp [goodBoard, sizeB, h2]
 ·rw [decide_eq_false h1, if_neg (by simp)]
  simp [goodBoard, sizeB, h1]



theorem idx_wrap {i j C : Nat} (h : i * C + j ≤ 1000000) : wrap64 (wrap64 ((i : Int) * (C : Int)) + (j : Int)) = ((i * C + j : Nat) : Int) := by
 rw [show (i : Int) * (C : Int) = ((i * C : Nat) : Int) by simp]
 generalize i * C = n at h ⊢
 rw [wrap_id (x := (n : Int)) (by omega) (by omega), wrap_id (x := (n : Int) + (j : Int)) (by omega) (by omega)]
 omega
theorem mir_wrap {i j C : Nat} (hj : j < C) (h : i * C + C ≤ 1000000) : wrap64 (wrap64 (wrap64 (wrap64 ((i : Int) * (C : Int)) + (C : Int)) - 1) - (j : Int)) = ((i * C + (C - 1 - j) : Nat) : Int) := by
 rw [show (i : Int) * (C : Int) = ((i * C : Nat) : Int) by simp]
 generalize i * C = n at h ⊢
 rw [wrap_id (x := (n : Int)) (by omega) (by omega), wrap_id (x := (n : Int) + (C : Int)) (by omega) (by omega), wrap_id (x := (n : Int) + (C : Int) - 1) (by omega) (by omega), wrap_id (x := (n : Int) + (C : Int) - 1 - (j : Int)) (by omega) (by omega)]
 omega
theorem row_in {R C i j : Nat} (hi : i < R) (hj : j < C) : i * C + j < R * C := by
 have h : (i + 1) * C ≤ R * C := Nat.mul_le_mul_right C hi
 rw [Nat.succ_mul] at h
 omega
theorem row_div {C i j : Nat} (hj : j < C) : (i * C + j) / C = i := by
 rw [Nat.add_comm, Nat.mul_comm, Nat.add_mul_div_left _ _ (by omega), Nat.div_eq_of_lt hj, Nat.zero_add]
theorem row_mod {C i j : Nat} (hj : j < C) : (i * C + j) % C = j := by
 rw [Nat.add_comm, Nat.mul_comm, Nat.add_mul_mod_self_left, Nat.mod_eq_of_lt hj]
theorem brd_nat {r c : Int} {l : List S71} (b : Brd r c l) : ∃ R C : Nat, r = R ∧ c = C ∧ l.length = R * C ∧ 1 ≤ R ∧ R ≤ 10 ∧ 1 ≤ C ∧ C ≤ 9 := by
 have h1 := b.r1; have h2 := b.r2; have h3 := b.c1; have h4 := b.c2; have h5 := b.len
 obtain ⟨R, rfl⟩ : ∃ R : Nat, r = R := ⟨r.toNat, by omega⟩
 obtain ⟨C, rfl⟩ : ∃ C : Nat, c = C := ⟨c.toNat, by omega⟩
 refine ⟨R, C, rfl, rfl, ?_, by omega, by omega, by omega, by omega⟩
 have : ((l.length : Nat) : Int) = ((R * C : Nat) : Int) := by rw [h5]; simp
 exact Int.ofNat.inj this

def near (R C a : Nat) : List Nat :=
 (if a / C > 0 then [a - C] else []) ++ ((if a % C > 0 then [a - 1] else []) ++ ((if a % C + 1 < C then [a + 1] else []) ++ (if a / C + 1 < R then [a + C] else [])))
theorem near_lt {R C a : Nat} (hC : 1 ≤ C) (ha : a < R * C) : ∀ n ∈ near R C a, n < R * C := by
 intro n hn
 have hd := Nat.div_add_mod a C
 have hm := Nat.mod_lt a (show C > 0 by omega)
 rw [Nat.mul_comm] at hd
 have hr : a / C < R := by
  apply Nat.div_lt_of_lt_mul
  rwa [Nat.mul_comm]
 simp only [near, List.mem_append] at hn
 rcases hn with h | h | h | h
 ·split at h
  ·simp at h; omega
  ·simp at h
 ·split at h
  ·simp at h; omega
  ·simp at h
 ·split at h
  ·rename_i h1
   simp at h
   have := row_in (R := R) hr h1
   omega
  ·simp at h
 ·split at h
  ·rename_i h1
   simp at h
   have := row_in (R := R) h1 hm
   rw [Nat.succ_mul] at this
   omega
  ·simp at h
theorem near_length (R C a : Nat) : (near R C a).length ≤ 4 := by
 unfold near
 split <;> split <;> split <;> split <;> simp
def castL (l : List Nat) : List Int := l.map fun n : Nat => ((n : Nat) : Int)
theorem castL_length (l : List Nat) : (castL l).length = l.length := by simp [castL]
theorem castL_append (a b : List Nat) : castL (a ++ b) = castL a ++ castL b := by simp [castL]
theorem castL_rd (l : List Nat) {j : Nat} (h : j < l.length) : rd (castL l) (j : Int) = ((l.getD j 0 : Nat) : Int) := by
 simp [rd, castL, List.getD_eq_getElem?_getD, h]
theorem castL_drop (l : List Nat) (j : Nat) : (castL l).drop j = castL (l.drop j) := by simp [castL]

def gearB (x : S71) : Bool := decide (x.f0 = 6 ∨ x.f0 = 7)
def neg (out : List Int) : Nat := out.countP fun x => decide (x < 0)
theorem neg_set {out : List Int} {n : Nat} (h : n < out.length) (hn : out.getD n 0 < 0) {c : Int} (hc : 0 ≤ c) : neg (out.set n c) + 1 = neg out := by
 unfold neg
 rw [List.countP_set h]
 rw [List.getD_eq_getElem?_getD, List.getElem?_eq_getElem h] at hn
 have hn' : out[n] < 0 := hn
 have hp : 0 < out.countP (fun x => decide (x < 0)) := List.countP_pos_iff.2 ⟨out[n], List.getElem_mem h, by simp [hn']⟩
 rw [if_pos (by simp [hn']), if_neg (by simp; omega)]
 omega
def push (l : List S71) (c : Int) : List Int → List Nat → List Int × List Nat
 | out, [] => (out, [])
 | out, n :: ns => if (gearB (l.getD n z71) && decide (out.getD n 0 < 0)) = true then ((push l c (out.set n c) ns).1, n :: (push l c (out.set n c) ns).2) else push l c out ns
theorem push_length (l : List S71) (c : Int) : ∀ (ns : List Nat) (out : List Int), (push l c out ns).1.length = out.length
 | [], _ => rfl
 | n :: ns, out => by
  unfold push
  split
  ·simp [push_length l c ns]
  ·exact push_length l c ns out
theorem push_neg (l : List S71) {c : Int} (hc : 0 ≤ c) : ∀ (ns : List Nat) (out : List Int), (∀ n ∈ ns, n < out.length) → neg (push l c out ns).1 + (push l c out ns).2.length = neg out
 | [], _, _ => rfl
 | n :: ns, out, h => by
  unfold push
  split
  ·rename_i hg
   simp only [Bool.and_eq_true, decide_eq_true_eq] at hg
   have h1 := push_neg l hc ns (out.set n c) (fun m hm => by rw [List.length_set]; exact h m (List.mem_cons_of_mem _ hm))
   have h2 := neg_set (h n List.mem_cons_self) hg.2 hc
   simp only [List.length_cons]
   omega
  ·exact push_neg l hc ns out fun m hm => h m (List.mem_cons_of_mem _ hm)
theorem push_mem (l : List S71) (c : Int) : ∀ (ns : List Nat) (out : List Int), ∀ m ∈ (push l c out ns).2, m ∈ ns
 | [], _, m, hm => by simp [push] at hm
 | n :: ns, out, m, hm => by
  unfold push at hm
  split at hm
  ·rcases List.mem_cons.1 hm with rfl | h
   ·exact List.mem_cons_self
   ·exact List.mem_cons_of_mem _ (push_mem l c ns _ m h)
  ·exact List.mem_cons_of_mem _ (push_mem l c ns _ m hm)
def bfs (l : List S71) (R C : Nat) (c : Int) : Nat → List Int → List Nat → List Int
 | 0, out, _ => out
 | _ + 1, out, [] => out
 | f + 1, out, a :: q => bfs l R C c f (push l c out (near R C a)).1 (q ++ (push l c out (near R C a)).2)
theorem bfs_length (l : List S71) (R C : Nat) (c : Int) : ∀ (f : Nat) (out : List Int) (q : List Nat), (bfs l R C c f out q).length = out.length
 | 0, _, _ => rfl
 | _ + 1, _, [] => rfl
 | f + 1, out, a :: q => by rw [bfs, bfs_length l R C c f, push_length]
def groupsFrom (l : List S71) (R C : Nat) : Nat → Nat → List Int → Int → List Int
 | 0, _, out, _ => out
 | d + 1, i, out, c => if (gearB (l.getD i z71) && decide (out.getD i 0 < 0)) = true then groupsFrom l R C d (i + 1) (bfs l R C c (l.length + 1) (out.set i c) [i]) (c + 1) else groupsFrom l R C d (i + 1) out c
def groupsOf (l : List S71) (R C : Nat) : List Int := groupsFrom l R C l.length 0 (List.replicate l.length (-1)) 0
theorem groupsFrom_length (l : List S71) (R C : Nat) : ∀ (d i : Nat) (out : List Int) (c : Int), (groupsFrom l R C d i out c).length = out.length
 | 0, _, _, _ => rfl
 | d + 1, i, out, c => by
  unfold groupsFrom
  split
  ·rw [groupsFrom_length l R C d, bfs_length, List.length_set]
  ·exact groupsFrom_length l R C d _ _ _
theorem groupsOf_length (l : List S71) (R C : Nat) : (groupsOf l R C).length = l.length := by
 rw [groupsOf, groupsFrom_length, List.length_replicate]
theorem neg_le (out : List Int) : neg out ≤ out.length := List.countP_le_length
theorem getD_rd (out : List Int) (n : Nat) : rd out (n : Int) = out.getD n 0 := by rw [rd, Int.toNat_natCast]

theorem besideOf_ev (R C a : Nat) (l : List S71) (hR : R ≤ 10) (hC1 : 1 ≤ C) (hC : C ≤ 9) (ha : a < R * C) (h90 : R * C ≤ 90) : Ev (fun k => impl_besideOf.f k (R : Int) (C : Int) l (a : Int)) (castL (near R C a)) := by
 have hm := Nat.mod_lt a (show C > 0 by omega)
 have hr : a / C < R := by
  apply Nat.div_lt_of_lt_mul
  rwa [Nat.mul_comm]
 have e1 : Int.tdiv (a : Int) (C : Int) = ((a / C : Nat) : Int) := rfl
 have e2 : Int.tmod (a : Int) (C : Int) = ((a % C : Nat) : Int) := rfl
 have hsub : a / C > 0 → C ≤ a := fun h => by
  have hd := Nat.div_add_mod a C
  have : C * 1 ≤ C * (a / C) := Nat.mul_le_mul_left C h
  omega
 refine ⟨2, fun k hk => ?_⟩
 obtain ⟨k, rfl⟩ : ∃ m, k = m + 1 + 1 := ⟨k - 2, by omega⟩
 simp only [impl_besideOf.f, Option.bind_some]
 rw [e1, e2]
 clear e1 e2
 have hpa : a % C > 0 → 1 ≤ a := fun h => by
  have := Nat.mod_le a C
  omega
 unfold near
 generalize a / C = q at *
 generalize a % C = p at *
 rw [if_neg (by omega), wrap_id (x := (q : Int)) (by omega) (by omega)]
 have j1 : ∀ (x : List Int), x.length ≤ 2 → impl_besideOf.j1 (k + 1) (a : Int) x (q : Int) (p : Int) (R : Int) (C : Int) l = some (x ++ castL ((if p + 1 < C then [a + 1] else []) ++ (if q + 1 < R then [a + C] else []))) := by
  intro x hx
  simp only [impl_besideOf.j1]
  rw [wrap_id (x := (p : Int) + 1) (by omega) (by omega), wrap_id (x := (q : Int) + 1) (by omega) (by omega), wrap_id (x := (a : Int) + 1) (by omega) (by omega), wrap_id (x := (a : Int) + (C : Int)) (by omega) (by omega)]
  by_cases h1 : p + 1 < C
  ·rw [if_pos (by omega), if_pos (by omega), if_pos h1, Option.bind_some]
   by_cases h2 : q + 1 < R
   ·rw [if_pos (by omega), if_pos h2, if_pos (by simp; omega)]
    simp [castL]
   ·rw [if_neg (by omega), if_neg h2]
    simp [castL]
  ·rw [if_neg (by omega), if_neg h1]
   by_cases h2 : q + 1 < R
   ·rw [if_pos (by omega), if_pos h2, if_pos (by omega)]
    simp [castL]
   ·rw [if_neg (by omega), if_neg h2]
    simp [castL]
 have j0 : ∀ (x : List Int), x.length ≤ 1 → impl_besideOf.j0 (k + 1 + 1) (a : Int) x (q : Int) (p : Int) (R : Int) (C : Int) l = some (x ++ castL ((if p > 0 then [a - 1] else []) ++ ((if p + 1 < C then [a + 1] else []) ++ (if q + 1 < R then [a + C] else [])))) := by
  intro x hx
  simp only [impl_besideOf.j0]
  by_cases h1 : p > 0
  ·rw [if_pos (by omega), if_pos (by omega), if_pos h1, j1 _ (by simp; omega), wrap_id (x := (a : Int) - 1) (by omega) (by omega)]
   have : ((a : Int) - 1) = ((a - 1 : Nat) : Int) := by have := hpa h1; omega
   rw [this]
   simp [castL]
  ·rw [if_neg (by omega), if_neg h1, j1 _ (by omega)]
   simp [castL]
 by_cases h0 : q > 0
 ·have := hsub h0
  rw [if_pos (by omega), if_pos (by simp), if_pos h0, j0 _ (by simp), wrap_id (x := (a : Int) - (C : Int)) (by omega) (by omega), show (a : Int) - (C : Int) = ((a - C : Nat) : Int) by omega]
  simp [castL]
 ·rw [if_neg (by omega), if_neg h0, j0 _ (by simp)]
  simp [castL]

theorem mix_set {α : Type} (T l : List α) (z : α) {n : Nat} (h : n < T.length) (hl : T.length = l.length) : (T.take n ++ l.drop n).set n (T.getD n z) = T.take (n + 1) ++ l.drop (n + 1) := by
 have e1 : (T.take n).length = n := by simp; omega
 rw [List.set_append_right _ _ (by omega), e1, Nat.sub_self, drop_cons l z (by omega), List.set_cons_zero]
 rw [List.take_succ_eq_append_getElem h, List.append_assoc, List.getD_eq_getElem?_getD, List.getElem?_eq_getElem h]
 rfl
theorem take_getD {α : Type} (T : List α) (z : α) {n : Nat} (h : n < T.length) : T.take n ++ [T.getD n z] = T.take (n + 1) := by
 rw [List.take_succ_eq_append_getElem h, List.getD_eq_getElem?_getD, List.getElem?_eq_getElem h]
 rfl
theorem map_range_getD {α : Type} (f : Nat → α) (z : α) {n m : Nat} (h : n < m) : ((List.range m).map f).getD n z = f n := by
 rw [List.getD_eq_getElem?_getD, List.getElem?_eq_getElem (by simpa using h)]
 simp

theorem isGeared_eq (x : S71) : impl_isGeared.f x.f0 x.f1 = some (gearB x) := by
 unfold impl_isGeared.f gearB
 by_cases h : x.f0 = 6
 ·simp [h]
 ·rw [if_neg h]
  by_cases h7 : x.f0 = 7 <;> simp [h, h7]
theorem groupNumbers_l3 (l : List S71) (R C : Nat) (c : Int) (hc : 0 ≤ c) (i : Nat) (ns : List Nat) (hns : ∀ n ∈ ns, n < l.length) (h90 : l.length ≤ 90) (hns4 : ns.length ≤ 4) (res : List Int) :
  ∀ (d j : Nat) (out : List Int) (q : List Nat), ns.length - j = d → j ≤ ns.length → out.length = l.length → q.length + neg out ≤ l.length →
  Ev (fun k => impl_groupNumbers.l2 k (push l c out (ns.drop j)).1 c (castL (q ++ (push l c out (ns.drop j)).2)) l (l.length : Int) (i : Int) (R : Int) (C : Int) l) res →
  Ev (fun k => impl_groupNumbers.l3 k out c (castL q) l (l.length : Int) (i : Int) (castL ns) (ns.length : Int) (j : Int) (R : Int) (C : Int) l) res := by
 intro d
 induction d with
 | zero =>
  intro j out q hd hj ho hq hnext
  rw [List.drop_of_length_le (by omega)] at hnext
  simp only [push, List.append_nil] at hnext
  refine ev_next 0 hnext fun k _ => ?_
  simp only [impl_groupNumbers.l3]
  rw [if_neg (by omega)]
 | succ d ih =>
  intro j out q hd hj ho hq hnext
  have hlt : j < ns.length := by omega
  have hn : ns.getD j 0 < l.length := by
   rw [List.getD_eq_getElem?_getD, List.getElem?_eq_getElem hlt]
   exact hns _ (List.getElem_mem hlt)
  rw [drop_cons ns 0 hlt] at hnext
  have hg := isGeared_eq (l.getD (ns.getD j 0) z71)
  by_cases h : (gearB (l.getD (ns.getD j 0) z71) && decide (out.getD (ns.getD j 0) 0 < 0)) = true
  ·simp only [push, if_pos h] at hnext
   simp only [Bool.and_eq_true, decide_eq_true_eq] at h
   have hneg := neg_set (by omega) h.2 hc
   have h2 := ih (j + 1) (out.set (ns.getD j 0) c) (q ++ [ns.getD j 0]) (by omega) (by omega) (by simpa using ho) (by simp only [List.length_append, List.length_singleton]; omega) (by simpa [List.append_assoc] using hnext)
   refine ev_next 0 h2 fun k _ => ?_
   simp only [impl_groupNumbers.l3]
   rw [if_pos (by omega), if_pos (by omega), if_pos (by rw [castL_length]; omega), castL_rd ns hlt, if_pos (by omega), if_pos (by omega), rdD_nat, bindE hg, if_pos h.1, if_pos (by omega), getD_rd, if_pos h.2, if_pos (by rw [castL_length]; omega), wrap_succ hlt (by omega), Int.toNat_natCast, castL_append]
   rfl
  ·simp only [push, if_neg h] at hnext
   have h2 := ih (j + 1) out q (by omega) (by omega) ho hq hnext
   refine ev_next 0 h2 fun k _ => ?_
   simp only [impl_groupNumbers.l3]
   rw [if_pos (by omega), if_pos (by omega), if_pos (by rw [castL_length]; omega), castL_rd ns hlt, if_pos (by omega), if_pos (by omega), rdD_nat, bindE hg, wrap_succ hlt (by omega)]
   by_cases h1 : gearB (l.getD (ns.getD j 0) z71) = true
   ·rw [if_pos h1, if_pos (by omega), getD_rd, if_neg (fun h3 => h (by simp only [Bool.and_eq_true, decide_eq_true_eq]; exact ⟨h1, h3⟩))]
   ·rw [if_neg h1]
theorem groupNumbers_l2 (l : List S71) (R C : Nat) (hlen : l.length = R * C) (hR : R ≤ 10) (hC1 : 1 ≤ C) (hC : C ≤ 9) (h90 : l.length ≤ 90) (c : Int) (hc : 0 ≤ c) (i : Nat) (hi : i < l.length) (hci : c ≤ i) (res : List Int) :
  ∀ (f : Nat) (out : List Int) (q : List Nat), (∀ n ∈ q, n < l.length) → out.length = l.length → q.length + neg out ≤ l.length → q.length + neg out < f →
  Ev (fun k => impl_groupNumbers.l1 k (bfs l R C c f out q) (c + 1) l (l.length : Int) ((i + 1 : Nat) : Int) (R : Int) (C : Int) l) res →
  Ev (fun k => impl_groupNumbers.l2 k out c (castL q) l (l.length : Int) (i : Int) (R : Int) (C : Int) l) res := by
 intro f
 induction f with
 | zero => intro out q _ _ _ h; omega
 | succ f ih =>
  intro out q hq ho hm hf hnext
  cases q with
  | nil =>
   rw [bfs] at hnext
   refine ev_next 0 hnext fun k _ => ?_
   simp only [impl_groupNumbers.l2]
   rw [if_neg (by simp [castL]), wrap_succ hi (by omega), wrap_id (x := c + 1) (by omega) (by omega)]
  | cons a q =>
   have ha : a < l.length := hq a List.mem_cons_self
   have hnl : ∀ n ∈ near R C a, n < l.length := fun n hn => by
    have := near_lt hC1 (by omega) n hn
    omega
   rw [bfs] at hnext
   have hp := push_neg l hc (near R C a) out (fun n hn => by rw [ho]; exact hnl n hn)
   simp only [List.length_cons] at hm hf
   have h2 := ih (push l c out (near R C a)).1 (q ++ (push l c out (near R C a)).2) (fun n hn => by
    rcases List.mem_append.1 hn with h | h
    ·exact hq n (List.mem_cons_of_mem _ h)
    ·exact hnl n (push_mem l c _ out n h)) (by rw [push_length]; exact ho) (by rw [List.length_append]; omega) (by rw [List.length_append]; omega) hnext
   have h3 := groupNumbers_l3 l R C c hc i (near R C a) hnl h90 (near_length R C a) res (near R C a).length 0 out q (by omega) (by omega) ho (by omega) h2
   obtain ⟨K, hK⟩ := ev_get (besideOf_ev R C a l hR hC1 hC (by omega) (by omega))
   refine ev_next K h3 fun k hk => ?_
   simp only [impl_groupNumbers.l2]
   rw [if_pos (by rw [castL_length, List.length_cons]; omega), if_pos (by rw [castL_length, List.length_cons]; omega), if_pos (by rw [castL_length, List.length_cons]; omega), show rd (castL (a :: q)) 0 = (a : Int) from rfl, bindE (hK k hk), castL_length]
   rfl
theorem groupNumbers_l1 (l : List S71) (R C : Nat) (hlen : l.length = R * C) (hR : R ≤ 10) (hC1 : 1 ≤ C) (hC : C ≤ 9) (h90 : l.length ≤ 90) :
  ∀ (d i : Nat) (out : List Int) (c : Int), l.length - i = d → i ≤ l.length → out.length = l.length → 0 ≤ c → c ≤ i →
  Ev (fun k => impl_groupNumbers.l1 k out c l (l.length : Int) (i : Int) (R : Int) (C : Int) l) (groupsFrom l R C d i out c) := by
 intro d
 induction d with
 | zero =>
  intro i out c hd hi ho h0 hc
  refine ev_done 0 fun k _ => ?_
  simp only [impl_groupNumbers.l1]
  rw [if_neg (by omega)]
  rfl
 | succ d ih =>
  intro i out c hd hi ho h0 hc
  have hlt : i < l.length := by omega
  have hg := isGeared_eq (l.getD i z71)
  rw [groupsFrom]
  by_cases h : (gearB (l.getD i z71) && decide (out.getD i 0 < 0)) = true
  ·rw [if_pos h]
   simp only [Bool.and_eq_true, decide_eq_true_eq] at h
   have hneg := neg_set (by omega) h.2 h0
   have hle := neg_le out
   have h1 := ih (i + 1) (bfs l R C c (l.length + 1) (out.set i c) [i]) (c + 1) (by omega) (by omega) (by rw [bfs_length, List.length_set]; exact ho) (by omega) (by omega)
   have h2 := groupNumbers_l2 l R C hlen hR hC1 hC h90 c h0 i hlt hc _ (l.length + 1) (out.set i c) [i] (fun n hn => by simp at hn; omega) (by simpa using ho) (by simp only [List.length_singleton]; omega) (by simp only [List.length_singleton]; omega) h1
   obtain ⟨K, hK⟩ := ev_get h2
   refine ⟨K + 2, fun k hk => ?_⟩
   obtain ⟨k, rfl⟩ : ∃ m, k = m + 1 + 1 := ⟨k - 2, by omega⟩
   simp only [impl_groupNumbers.l1]
   rw [if_pos (by omega), if_pos (by omega), if_pos (by omega), rdD_nat, bindE hg, if_pos h.1, if_pos (by omega), getD_rd, decide_eq_false (by omega)]
   simp only [impl_groupNumbers.j2]
   rw [if_neg (by simp), if_pos (by omega), if_pos (by omega), Int.toNat_natCast]
   exact hK k (by omega)
  ·rw [if_neg h]
   obtain ⟨K, hK⟩ := ev_get (ih (i + 1) out c (by omega) (by omega) ho h0 (by omega))
   refine ⟨K + 2, fun k hk => ?_⟩
   obtain ⟨k, rfl⟩ : ∃ m, k = m + 1 + 1 := ⟨k - 2, by omega⟩
   simp only [impl_groupNumbers.l1]
   rw [if_pos (by omega), if_pos (by omega), if_pos (by omega), rdD_nat, bindE hg]
   have e : impl_groupNumbers.j2 (k + 1) out c (i : Int) l (l.length : Int) (i : Int) true (R : Int) (C : Int) l = some (groupsFrom l R C d (i + 1) out c) := by
    simp only [impl_groupNumbers.j2]
    rw [if_pos trivial, wrap_succ hlt (by omega)]
    exact hK k (by omega)
   by_cases h1 : gearB (l.getD i z71) = true
   ·have h2 : ¬ out.getD i 0 < 0 := fun h3 => h (by simp only [Bool.and_eq_true, decide_eq_true_eq]; exact ⟨h1, h3⟩)
    rw [if_pos h1, if_pos (by omega), getD_rd, decide_eq_true (show out.getD i 0 ≥ 0 by omega), e]
   ·rw [if_neg h1, e]
theorem groupNumbers_l0 (l : List S71) (R C : Nat) (h90 : l.length ≤ 90) (res : List Int) (hnext : Ev (fun k => impl_groupNumbers.l1 k (List.replicate l.length (-1)) 0 l (l.length : Int) 0 (R : Int) (C : Int) l) res) :
  ∀ (d i : Nat), l.length - i = d → i ≤ l.length →
  Ev (fun k => impl_groupNumbers.l0 k ((List.replicate l.length (-1)).take i ++ (List.replicate l.length (0 : Int)).drop i) (l.length : Int) (i : Int) (R : Int) (C : Int) l) res := by
 intro d
 induction d with
 | zero =>
  intro i hd hi
  obtain rfl : i = l.length := by omega
  refine ev_next 0 hnext fun k _ => ?_
  simp only [impl_groupNumbers.l0]
  rw [if_neg (by omega), List.take_of_length_le (by simp), List.drop_of_length_le (by simp), List.append_nil]
 | succ d ih =>
  intro i hd hi
  have hlt : i < l.length := by omega
  have hm := mix_set (List.replicate l.length (-1 : Int)) (List.replicate l.length (0 : Int)) (-1) (n := i) (by simpa using hlt) (by simp)
  rw [show (List.replicate l.length (-1 : Int)).getD i (-1) = -1 by simp [List.getD_eq_getElem?_getD, hlt]] at hm
  refine ev_next 0 (ih (i + 1) (by omega) (by omega)) fun k _ => ?_
  simp only [impl_groupNumbers.l0]
  rw [if_pos (by omega), if_pos (by omega), if_pos (by simp; omega), Int.toNat_natCast, hm, wrap_succ hlt (by omega)]
theorem groupNumbers_ev (l : List S71) (R C : Nat) (hlen : l.length = R * C) (hR : R ≤ 10) (hC1 : 1 ≤ C) (hC : C ≤ 9) (h90 : l.length ≤ 90) : Ev (fun k => impl_groupNumbers.f k (R : Int) (C : Int) l) (groupsOf l R C) := by
 have h1 := groupNumbers_l1 l R C hlen hR hC1 hC h90 l.length 0 (List.replicate l.length (-1)) 0 (by omega) (by omega) (by simp) (by omega) (by omega)
 have h0 := groupNumbers_l0 l R C h90 _ h1 l.length 0 (by omega) (by omega)
 refine ev_same 0 h0 fun k _ => ?_
 simp only [impl_groupNumbers.f]
 rw [if_pos (by omega), if_pos (by omega), Option.bind_some, Int.toNat_natCast, List.length_replicate]
 simp

theorem ggNear_ev (R C a : Nat) (l : List S71) (hR : R ≤ 10) (hC1 : 1 ≤ C) (hC : C ≤ 9) (ha : a < R * C) (h90 : R * C ≤ 90) : Ev (fun k => spec_ggNear.f k (R : Int) (C : Int) l (a : Int)) (castL (near R C a)) := by
 have hm := Nat.mod_lt a (show C > 0 by omega)
 have hr : a / C < R := by
  apply Nat.div_lt_of_lt_mul
  rwa [Nat.mul_comm]
 have e1 : Int.tdiv (a : Int) (C : Int) = ((a / C : Nat) : Int) := rfl
 have e2 : Int.tmod (a : Int) (C : Int) = ((a % C : Nat) : Int) := rfl
 have hsub : a / C > 0 → C ≤ a := fun h => by
  have hd := Nat.div_add_mod a C
  have : C * 1 ≤ C * (a / C) := Nat.mul_le_mul_left C h
  omega
 refine ⟨2, fun k hk => ?_⟩
 obtain ⟨k, rfl⟩ : ∃ m, k = m + 1 + 1 := ⟨k - 2, by omega⟩
 simp only [spec_ggNear.f]
 rw [e1, e2]
 clear e1 e2
 have hpa : a % C > 0 → 1 ≤ a := fun h => by
  have := Nat.mod_le a C
  omega
 unfold near
 generalize a / C = q at *
 generalize a % C = p at *
 rw [if_neg (by omega), wrap_id (x := (q : Int)) (by omega) (by omega)]
 have j1 : ∀ (x : List Int), x.length ≤ 2 → spec_ggNear.j1 (k + 1) (a : Int) (q : Int) (p : Int) x (R : Int) (C : Int) l = some (x ++ castL ((if p + 1 < C then [a + 1] else []) ++ (if q + 1 < R then [a + C] else []))) := by
  intro x hx
  simp only [spec_ggNear.j1]
  rw [wrap_id (x := (p : Int) + 1) (by omega) (by omega), wrap_id (x := (q : Int) + 1) (by omega) (by omega), wrap_id (x := (a : Int) + 1) (by omega) (by omega), wrap_id (x := (a : Int) + (C : Int)) (by omega) (by omega)]
  by_cases h1 : p + 1 < C
  ·rw [if_pos (by omega), if_pos (by omega), if_pos h1, Option.bind_some]
   by_cases h2 : q + 1 < R
   ·rw [if_pos (by omega), if_pos h2, if_pos (by simp; omega)]
    simp [castL]
   ·rw [if_neg (by omega), if_neg h2]
    simp [castL]
  ·rw [if_neg (by omega), if_neg h1]
   by_cases h2 : q + 1 < R
   ·rw [if_pos (by omega), if_pos h2, if_pos (by omega)]
    simp [castL]
   ·rw [if_neg (by omega), if_neg h2]
    simp [castL]
 have j0 : ∀ (x : List Int), x.length ≤ 1 → spec_ggNear.j0 (k + 1 + 1) (a : Int) (q : Int) (p : Int) x (R : Int) (C : Int) l = some (x ++ castL ((if p > 0 then [a - 1] else []) ++ ((if p + 1 < C then [a + 1] else []) ++ (if q + 1 < R then [a + C] else [])))) := by
  intro x hx
  simp only [spec_ggNear.j0]
  by_cases h1 : p > 0
  ·rw [if_pos (by omega), if_pos (by omega), if_pos h1, j1 _ (by simp; omega), wrap_id (x := (a : Int) - 1) (by omega) (by omega)]
   have : ((a : Int) - 1) = ((a - 1 : Nat) : Int) := by have := hpa h1; omega
   rw [this]
   simp [castL]
  ·rw [if_neg (by omega), if_neg h1, j1 _ (by omega)]
   simp [castL]
 by_cases h0 : q > 0
 ·have := hsub h0
  rw [if_pos (by omega), if_pos (by simp), if_pos h0, j0 _ (by simp), wrap_id (x := (a : Int) - (C : Int)) (by omega) (by omega), show (a : Int) - (C : Int) = ((a - C : Nat) : Int) by omega]
  simp [castL]
 ·rw [if_neg (by omega), if_neg h0, j0 _ (by simp)]
  simp [castL]

theorem ggGear_eq (x : S71) : spec_ggGear.f x.f0 x.f1 = some (gearB x) := by
 unfold spec_ggGear.f gearB
 by_cases h : x.f0 = 6
 ·simp [h]
 ·rw [if_neg h]
  by_cases h7 : x.f0 = 7 <;> simp [h, h7]
theorem ggGroups_l3 (l : List S71) (R C : Nat) (c : Int) (hc : 0 ≤ c) (i : Nat) (ns : List Nat) (hns : ∀ n ∈ ns, n < l.length) (h90 : l.length ≤ 90) (hns4 : ns.length ≤ 4) (x : Nat) (hx : x < l.length) (res : List Int) :
  ∀ (d j : Nat) (out : List Int) (q : List Nat), ns.length - j = d → j ≤ ns.length → out.length = l.length → q.length + neg out ≤ l.length →
  Ev (fun k => spec_ggGroups.l2 k (push l c out (ns.drop j)).1 c (castL (q ++ (push l c out (ns.drop j)).2)) ((x + 1 : Nat) : Int) l (l.length : Int) (i : Int) (R : Int) (C : Int) l) res →
  Ev (fun k => spec_ggGroups.l3 k out c (castL q) (x : Int) l (l.length : Int) (i : Int) (castL ns) (ns.length : Int) (j : Int) (R : Int) (C : Int) l) res := by
 intro d
 induction d with
 | zero =>
  intro j out q hd hj ho hq hnext
  rw [List.drop_of_length_le (by omega)] at hnext
  simp only [push, List.append_nil] at hnext
  refine ev_next 0 hnext fun k _ => ?_
  simp only [spec_ggGroups.l3]
  rw [if_neg (by omega), wrap_succ hx (by omega)]
 | succ d ih =>
  intro j out q hd hj ho hq hnext
  have hlt : j < ns.length := by omega
  have hn : ns.getD j 0 < l.length := by
   rw [List.getD_eq_getElem?_getD, List.getElem?_eq_getElem hlt]
   exact hns _ (List.getElem_mem hlt)
  rw [drop_cons ns 0 hlt] at hnext
  have hg := ggGear_eq (l.getD (ns.getD j 0) z71)
  by_cases h : (gearB (l.getD (ns.getD j 0) z71) && decide (out.getD (ns.getD j 0) 0 < 0)) = true
  ·simp only [push, if_pos h] at hnext
   simp only [Bool.and_eq_true, decide_eq_true_eq] at h
   have hneg := neg_set (by omega) h.2 hc
   have h2 := ih (j + 1) (out.set (ns.getD j 0) c) (q ++ [ns.getD j 0]) (by omega) (by omega) (by simpa using ho) (by simp only [List.length_append, List.length_singleton]; omega) (by simpa [List.append_assoc] using hnext)
   refine ev_next 0 h2 fun k _ => ?_
   simp only [spec_ggGroups.l3]
   rw [if_pos (by omega), if_pos (by omega), if_pos (by rw [castL_length]; omega), castL_rd ns hlt, if_pos (by omega), if_pos (by omega), rdD_nat, bindE hg, if_pos h.1, if_pos (by omega), getD_rd, if_pos h.2, if_pos (by rw [castL_length]; omega), wrap_succ hlt (by omega), Int.toNat_natCast, castL_append]
   rfl
  ·simp only [push, if_neg h] at hnext
   have h2 := ih (j + 1) out q (by omega) (by omega) ho hq hnext
   refine ev_next 0 h2 fun k _ => ?_
   simp only [spec_ggGroups.l3]
   rw [if_pos (by omega), if_pos (by omega), if_pos (by rw [castL_length]; omega), castL_rd ns hlt, if_pos (by omega), if_pos (by omega), rdD_nat, bindE hg, wrap_succ hlt (by omega)]
   by_cases h1 : gearB (l.getD (ns.getD j 0) z71) = true
   ·rw [if_pos h1, if_pos (by omega), getD_rd, if_neg (fun h3 => h (by simp only [Bool.and_eq_true, decide_eq_true_eq]; exact ⟨h1, h3⟩))]
   ·rw [if_neg h1]
theorem ggGroups_l2 (l : List S71) (R C : Nat) (hlen : l.length = R * C) (hR : R ≤ 10) (hC1 : 1 ≤ C) (hC : C ≤ 9) (h90 : l.length ≤ 90) (c : Int) (hc : 0 ≤ c) (i : Nat) (hi : i < l.length) (hci : c ≤ i) (res : List Int) :
  ∀ (f : Nat) (out : List Int) (q : List Nat) (x : Nat), (∀ n ∈ q, n < l.length) → out.length = l.length → x ≤ q.length → q.length + neg out ≤ l.length → q.length - x + neg out < f →
  Ev (fun k => spec_ggGroups.l1 k (bfs l R C c f out (q.drop x)) (c + 1) l (l.length : Int) ((i + 1 : Nat) : Int) (R : Int) (C : Int) l) res →
  Ev (fun k => spec_ggGroups.l2 k out c (castL q) (x : Int) l (l.length : Int) (i : Int) (R : Int) (C : Int) l) res := by
 intro f
 induction f with
 | zero => intro out q x _ _ _ _ h; omega
 | succ f ih =>
  intro out q x hq ho hx hm hf hnext
  by_cases hxl : x < q.length
  ·have ha : q.getD x 0 < l.length := by
    rw [List.getD_eq_getElem?_getD, List.getElem?_eq_getElem hxl]
    exact hq _ (List.getElem_mem hxl)
   rw [drop_cons q 0 hxl, bfs] at hnext
   generalize hae : q.getD x 0 = a at *
   have hnl : ∀ n ∈ near R C a, n < l.length := fun n hn => by
    have := near_lt hC1 (by omega) n hn
    omega
   have hp := push_neg l hc (near R C a) out (fun n hn => by rw [ho]; exact hnl n hn)
   have h2 := ih (push l c out (near R C a)).1 (q ++ (push l c out (near R C a)).2) (x + 1) (fun n hn => by
    rcases List.mem_append.1 hn with h | h
    ·exact hq n h
    ·exact hnl n (push_mem l c _ out n h)) (by rw [push_length]; exact ho) (by rw [List.length_append]; omega) (by rw [List.length_append]; omega) (by rw [List.length_append]; omega) (by rw [List.drop_append_of_le_length (by omega)]; exact hnext)
   have h3 := ggGroups_l3 l R C c hc i (near R C a) hnl h90 (near_length R C a) x (by omega) res (near R C a).length 0 out q (by omega) (by omega) ho (by omega) h2
   obtain ⟨K, hK⟩ := ev_get (ggNear_ev R C a l hR hC1 hC (by omega) (by omega))
   refine ev_next K h3 fun k hk => ?_
   simp only [spec_ggGroups.l2]
   rw [if_pos (by rw [castL_length]; omega), if_pos (by omega), castL_rd q hxl, hae, bindE (hK k hk), castL_length]
   rfl
  ·rw [List.drop_of_length_le (by omega), bfs] at hnext
   refine ev_next 0 hnext fun k _ => ?_
   simp only [spec_ggGroups.l2]
   rw [if_neg (by rw [castL_length]; omega), wrap_succ hi (by omega), wrap_id (x := c + 1) (by omega) (by omega)]
theorem ggGroups_l1 (l : List S71) (R C : Nat) (hlen : l.length = R * C) (hR : R ≤ 10) (hC1 : 1 ≤ C) (hC : C ≤ 9) (h90 : l.length ≤ 90) :
  ∀ (d i : Nat) (out : List Int) (c : Int), l.length - i = d → i ≤ l.length → out.length = l.length → 0 ≤ c → c ≤ i →
  Ev (fun k => spec_ggGroups.l1 k out c l (l.length : Int) (i : Int) (R : Int) (C : Int) l) (groupsFrom l R C d i out c) := by
 intro d
 induction d with
 | zero =>
  intro i out c hd hi ho h0 hc
  refine ev_done 0 fun k _ => ?_
  simp only [spec_ggGroups.l1]
  rw [if_neg (by omega)]
  rfl
 | succ d ih =>
  intro i out c hd hi ho h0 hc
  have hlt : i < l.length := by omega
  have hg := ggGear_eq (l.getD i z71)
  rw [groupsFrom]
  by_cases h : (gearB (l.getD i z71) && decide (out.getD i 0 < 0)) = true
  ·rw [if_pos h]
   simp only [Bool.and_eq_true, decide_eq_true_eq] at h
   have hneg := neg_set (by omega) h.2 h0
   have hle := neg_le out
   have h1 := ih (i + 1) (bfs l R C c (l.length + 1) (out.set i c) [i]) (c + 1) (by omega) (by omega) (by rw [bfs_length, List.length_set]; exact ho) (by omega) (by omega)
   have h2 := ggGroups_l2 l R C hlen hR hC1 hC h90 c h0 i hlt hc _ (l.length + 1) (out.set i c) [i] 0 (fun n hn => by simp at hn; omega) (by simpa using ho) (by omega) (by simp only [List.length_singleton]; omega) (by simp only [List.length_singleton]; omega) h1
   obtain ⟨K, hK⟩ := ev_get h2
   refine ⟨K + 2, fun k hk => ?_⟩
   obtain ⟨k, rfl⟩ : ∃ m, k = m + 1 + 1 := ⟨k - 2, by omega⟩
   simp only [spec_ggGroups.l1]
   rw [if_pos (by omega), if_pos (by omega), if_pos (by omega), rdD_nat, bindE hg, if_pos h.1, if_pos (by omega), getD_rd, decide_eq_false (by omega)]
   simp only [spec_ggGroups.j2]
   rw [if_neg (by simp), if_pos (by omega), if_pos (by omega), Int.toNat_natCast]
   exact hK k (by omega)
  ·rw [if_neg h]
   obtain ⟨K, hK⟩ := ev_get (ih (i + 1) out c (by omega) (by omega) ho h0 (by omega))
   refine ⟨K + 2, fun k hk => ?_⟩
   obtain ⟨k, rfl⟩ : ∃ m, k = m + 1 + 1 := ⟨k - 2, by omega⟩
   simp only [spec_ggGroups.l1]
   rw [if_pos (by omega), if_pos (by omega), if_pos (by omega), rdD_nat, bindE hg]
   have e : spec_ggGroups.j2 (k + 1) out c (i : Int) l (l.length : Int) (i : Int) true (R : Int) (C : Int) l = some (groupsFrom l R C d (i + 1) out c) := by
    simp only [spec_ggGroups.j2]
    rw [if_pos trivial, wrap_succ hlt (by omega)]
    exact hK k (by omega)
   by_cases h1 : gearB (l.getD i z71) = true
   ·have h2 : ¬ out.getD i 0 < 0 := fun h3 => h (by simp only [Bool.and_eq_true, decide_eq_true_eq]; exact ⟨h1, h3⟩)
    rw [if_pos h1, if_pos (by omega), getD_rd, decide_eq_true (show out.getD i 0 ≥ 0 by omega), e]
   ·rw [if_neg h1, e]
theorem ggGroups_l0 (l : List S71) (R C : Nat) (h90 : l.length ≤ 90) (res : List Int) (hnext : Ev (fun k => spec_ggGroups.l1 k (List.replicate l.length (-1)) 0 l (l.length : Int) 0 (R : Int) (C : Int) l) res) :
  ∀ (d i : Nat), l.length - i = d → i ≤ l.length →
  Ev (fun k => spec_ggGroups.l0 k ((List.replicate l.length (-1)).take i ++ (List.replicate l.length (0 : Int)).drop i) (l.length : Int) (i : Int) (R : Int) (C : Int) l) res := by
 intro d
 induction d with
 | zero =>
  intro i hd hi
  obtain rfl : i = l.length := by omega
  refine ev_next 0 hnext fun k _ => ?_
  simp only [spec_ggGroups.l0]
  rw [if_neg (by omega), List.take_of_length_le (by simp), List.drop_of_length_le (by simp), List.append_nil]
 | succ d ih =>
  intro i hd hi
  have hlt : i < l.length := by omega
  have hm := mix_set (List.replicate l.length (-1 : Int)) (List.replicate l.length (0 : Int)) (-1) (n := i) (by simpa using hlt) (by simp)
  rw [show (List.replicate l.length (-1 : Int)).getD i (-1) = -1 by simp [List.getD_eq_getElem?_getD, hlt]] at hm
  refine ev_next 0 (ih (i + 1) (by omega) (by omega)) fun k _ => ?_
  simp only [spec_ggGroups.l0]
  rw [if_pos (by omega), if_pos (by omega), if_pos (by simp; omega), Int.toNat_natCast, hm, wrap_succ hlt (by omega)]
theorem ggGroups_ev (l : List S71) (R C : Nat) (hlen : l.length = R * C) (hR : R ≤ 10) (hC1 : 1 ≤ C) (hC : C ≤ 9) (h90 : l.length ≤ 90) : Ev (fun k => spec_ggGroups.f k (R : Int) (C : Int) l) (groupsOf l R C) := by
 have h1 := ggGroups_l1 l R C hlen hR hC1 hC h90 l.length 0 (List.replicate l.length (-1)) 0 (by omega) (by omega) (by simp) (by omega) (by omega)
 have h0 := ggGroups_l0 l R C h90 _ h1 l.length 0 (by omega) (by omega)
 refine ev_same 0 h0 fun k _ => ?_
 simp only [spec_ggGroups.f]
 rw [if_pos (by omega), if_pos (by omega), Option.bind_some, Int.toNat_natCast, List.length_replicate]
 simp

theorem getD_set (out : List Int) (n j : Nat) (v : Int) : (out.set n v).getD j 0 = if n = j ∧ n < out.length then v else out.getD j 0 := by
 rw [List.getD_eq_getElem?_getD, List.getD_eq_getElem?_getD, List.getElem?_set]
 by_cases h : n = j
 ·subst h
  by_cases hl : n < out.length
  ·simp [hl]
  ·simp [hl]
 ·simp [h]
structure Marked (l : List S71) (c : Int) (out : List Int) : Prop where
 len : out.length = l.length
 lo : ∀ j, j < l.length → -1 ≤ out.getD j 0
 hi : ∀ j, j < l.length → out.getD j 0 < c
 ng : ∀ j, j < l.length → gearB (l.getD j z71) = false → out.getD j 0 < 0
theorem marked_set {l : List S71} {c : Int} {out : List Int} (h : Marked l (c + 1) out) (hc : 0 ≤ c) {n : Nat} (hn : n < l.length) (hg : gearB (l.getD n z71) = true) : Marked l (c + 1) (out.set n c) := by
 refine ⟨by rw [List.length_set]; exact h.len, fun j hj => ?_, fun j hj => ?_, fun j hj hf => ?_⟩
 ·rw [getD_set]
  split
  ·omega
  ·exact h.lo j hj
 ·rw [getD_set]
  split
  ·omega
  ·exact h.hi j hj
 ·rw [getD_set]
  split
  ·rename_i e
   rw [e.1, hf] at hg
   cases hg
  ·exact h.ng j hj hf
theorem push_marked {l : List S71} {c : Int} (hc : 0 ≤ c) : ∀ (ns : List Nat) (out : List Int), (∀ n ∈ ns, n < l.length) → Marked l (c + 1) out → Marked l (c + 1) (push l c out ns).1 ∧ ∀ j, 0 ≤ out.getD j 0 → 0 ≤ (push l c out ns).1.getD j 0
 | [], out, _, h => ⟨h, fun _ h => h⟩
 | n :: ns, out, hns, h => by
  have hns' : ∀ m ∈ ns, m < l.length := fun m hm => hns m (List.mem_cons_of_mem _ hm)
  unfold push
  split
  ·rename_i hg
   simp only [Bool.and_eq_true, decide_eq_true_eq] at hg
   obtain ⟨h1, h2⟩ := push_marked hc ns (out.set n c) hns' (marked_set h hc (hns n List.mem_cons_self) hg.1)
   refine ⟨h1, fun j hj => h2 j ?_⟩
   rw [getD_set]
   split
   ·exact hc
   ·exact hj
  ·exact push_marked hc ns out hns' h
theorem bfs_marked {l : List S71} {R C : Nat} (hlen : l.length = R * C) (hC : 1 ≤ C) {c : Int} (hc : 0 ≤ c) : ∀ (f : Nat) (out : List Int) (q : List Nat), (∀ n ∈ q, n < l.length) → Marked l (c + 1) out → Marked l (c + 1) (bfs l R C c f out q) ∧ ∀ j, 0 ≤ out.getD j 0 → 0 ≤ (bfs l R C c f out q).getD j 0
 | 0, out, _, _, h => ⟨h, fun _ h => h⟩
 | _ + 1, out, [], _, h => ⟨h, fun _ h => h⟩
 | f + 1, out, a :: q, hq, h => by
  have hnl : ∀ n ∈ near R C a, n < l.length := fun n hn => by
   have := near_lt hC (by rw [← hlen]; exact hq a List.mem_cons_self) n hn
   omega
  obtain ⟨h1, h2⟩ := push_marked hc (near R C a) out hnl h
  obtain ⟨h3, h4⟩ := bfs_marked hlen hC hc f (push l c out (near R C a)).1 (q ++ (push l c out (near R C a)).2) (fun n hn => by
   rcases List.mem_append.1 hn with h | h
   ·exact hq n (List.mem_cons_of_mem _ h)
   ·exact hnl n (push_mem l c _ out n h)) h1
  exact ⟨h3, fun j hj => h4 j (h2 j hj)⟩
theorem marked_mono {l : List S71} {c c' : Int} {out : List Int} (h : Marked l c out) (hc : c ≤ c') : Marked l c' out := ⟨h.len, h.lo, fun j hj => by have := h.hi j hj; omega, h.ng⟩
theorem groupsFrom_marked {l : List S71} {R C : Nat} (hlen : l.length = R * C) (hC : 1 ≤ C) : ∀ (d i : Nat) (out : List Int) (c : Int), i + d = l.length → 0 ≤ c → Marked l c out → (∀ j, j < i → gearB (l.getD j z71) = true → 0 ≤ out.getD j 0) →
  Marked l (c + d) (groupsFrom l R C d i out c) ∧ ∀ j, j < l.length → gearB (l.getD j z71) = true → 0 ≤ (groupsFrom l R C d i out c).getD j 0
 | 0, i, out, c, hi, _, h, hd => ⟨by simpa [groupsFrom] using h, fun j hj => hd j (by omega)⟩
 | d + 1, i, out, c, hi, hc, h, hd => by
  unfold groupsFrom
  split
  ·rename_i hg
   simp only [Bool.and_eq_true, decide_eq_true_eq] at hg
   have hs := marked_set (marked_mono h (show c ≤ c + 1 by omega)) hc (show i < l.length by omega) hg.1
   obtain ⟨h1, h2⟩ := bfs_marked hlen hC hc (l.length + 1) (out.set i c) [i] (fun n hn => by simp at hn; omega) hs
   have e : out.getD i 0 < 0 := hg.2
   obtain ⟨h3, h4⟩ := groupsFrom_marked hlen hC d (i + 1) (bfs l R C c (l.length + 1) (out.set i c) [i]) (c + 1) (by omega) (by omega) h1 (fun j hj hgj => h2 j (by
    rw [getD_set]
    split
    ·exact hc
    ·rename_i hne
     have : j ≠ i := fun e => hne ⟨e.symm, by rw [h.len]; omega⟩
     exact hd j (by omega) hgj))
   exact ⟨marked_mono h3 (by omega), h4⟩
  ·rename_i hg
   obtain ⟨h3, h4⟩ := groupsFrom_marked hlen hC d (i + 1) out c (by omega) hc h (fun j hj hgj => by
    by_cases e : j = i
    ·subst e
     simp only [Bool.and_eq_true, decide_eq_true_eq, hgj, true_and] at hg
     omega
    ·exact hd j (by omega) hgj)
   exact ⟨marked_mono h3 (by omega), h4⟩
theorem groupsOf_marked {l : List S71} {R C : Nat} (hlen : l.length = R * C) (hC : 1 ≤ C) : Marked l l.length (groupsOf l R C) ∧ ∀ j, j < l.length → gearB (l.getD j z71) = true → 0 ≤ (groupsOf l R C).getD j 0 := by
 have e : ∀ j, j < l.length → (List.replicate l.length (-1 : Int)).getD j 0 = -1 := fun j hj => by simp [List.getD_eq_getElem?_getD, hj]
 have h : Marked l 0 (List.replicate l.length (-1)) := ⟨by simp, fun j hj => by rw [e j hj]; omega, fun j hj => by rw [e j hj]; omega, fun j hj _ => by rw [e j hj]; omega⟩
 obtain ⟨h1, h2⟩ := groupsFrom_marked hlen hC l.length 0 (List.replicate l.length (-1)) 0 (by omega) (by omega) h (fun j hj => by omega)
 exact ⟨by simpa [groupsOf] using h1, h2⟩
/-- A cell has a group just where it is a gear or a cog. -/
theorem groups_neg {l : List S71} {R C : Nat} (hlen : l.length = R * C) (hC : 1 ≤ C) {j : Nat} (hj : j < l.length) : decide ((groupsOf l R C).getD j 0 < 0) = !gearB (l.getD j z71) := by
 obtain ⟨h1, h2⟩ := groupsOf_marked hlen hC
 cases hg : gearB (l.getD j z71)
 ·simpa using h1.ng j hj hg
 ·simpa using h2 j hj hg

theorem groups_both {r c : Int} {l : List S71} (b : Brd r c l) : Ev (fun k => impl_groupNumbers.f k r c l) (groupsOf l r.toNat c.toNat) ∧ Ev (fun k => spec_ggGroups.f k r c l) (groupsOf l r.toNat c.toNat) := by
 have b9 := b.le
 obtain ⟨R, C, rfl, rfl, hlen, _, hR, hC1, hC⟩ := brd_nat b
 exact ⟨groupNumbers_ev l R C hlen hR hC1 hC b9, ggGroups_ev l R C hlen hR hC1 hC b9⟩
theorem brd_len {r c : Int} {l : List S71} (b : Brd r c l) : l.length = r.toNat * c.toNat ∧ 1 ≤ c.toNat := by
 obtain ⟨R, C, rfl, rfl, hlen, _, hR, hC1, hC⟩ := brd_nat b
 exact ⟨hlen, hC1⟩

def extL (x : List Int) (g : Int) : List Int := x ++ List.replicate (g + 1 - x.length).toNat 0
theorem extL_length (x : List Int) (g : Int) : ((extL x g).length : Int) = if (x.length : Int) > g + 1 then (x.length : Int) else if g + 1 > x.length then g + 1 else x.length := by
 unfold extL
 rw [List.length_append, List.length_replicate]
 split
 ·omega
 ·split <;> omega
def countStep (k6 : Bool) (x : List Int) (g : Int) : List Int := if k6 = true then (extL x g).set g.toNat (wrap64 (rd (extL x g) g + 1)) else extL x g
def countsFrom (l : List S71) (G : List Int) : Nat → Nat → List Int → List Int
 | 0, _, x => x
 | d + 1, i, x => countsFrom l G d (i + 1) (countStep (decide ((l.getD i z71).f0 = 6)) x (G.getD i 0))
def countsOf (l : List S71) (G : List Int) : List Int := countsFrom l G l.length 0 []
theorem countStep_length (k6 : Bool) (x : List Int) (g : Int) : (countStep k6 x g).length = (extL x g).length := by
 unfold countStep
 split
 ·rw [List.length_set]
 ·rfl
theorem gearCounts_l1 (l : List S71) (G : List Int) (r c : Int) (i : Nat) (hi : i < l.length) (hn : l.length ≤ 90) (g : Int) (hg : -1 ≤ g ∧ g < l.length) (h6 : (l.getD i z71).f0 = 6 → 0 ≤ g) (res : List Int) : ∀ (d : Nat) (x : List Int), (g + 1 - x.length).toNat = d →
  Ev (fun k => impl_gearCounts.l0 k (countStep (decide ((l.getD i z71).f0 = 6)) x g) G (l.length : Int) ((i + 1 : Nat) : Int) r c l) res →
  Ev (fun k => impl_gearCounts.l1 k x (i : Int) g G (l.length : Int) (i : Int) r c l) res := by
 intro d
 induction d with
 | zero =>
  intro x hx hnext
  have e : extL x g = x := by
   unfold extL
   rw [hx]
   simp
  refine ev_next 0 hnext fun k _ => ?_
  simp only [impl_gearCounts.l1]
  rw [if_neg (by omega), if_pos (by omega), if_pos (by omega), rdD_nat, wrap_succ hi (by omega)]
  unfold countStep
  rw [e]
  by_cases h : (l.getD i z71).f0 = 6
  ·rw [if_pos h, if_pos (h6 h), if_pos (by omega), decide_eq_true h, ite_true']
  ·rw [if_neg h, decide_eq_false h]
   rfl
 | succ d ih =>
  intro x hx hnext
  have e : extL (x ++ [0]) g = extL x g := by
   unfold extL
   rw [List.length_append, List.length_singleton, hx, show (g + 1 - ((x.length + 1 : Nat) : Int)).toNat = d by omega, List.replicate_succ, List.append_assoc]
   rfl
  refine ev_next 0 (ih (x ++ [0]) (by rw [List.length_append, List.length_singleton]; omega) (by unfold countStep at hnext ⊢; rw [e]; exact hnext)) fun k _ => ?_
  simp only [impl_gearCounts.l1]
  rw [if_pos (by omega), if_pos (by omega)]
theorem gearCounts_l0 (l : List S71) (G : List Int) (r c : Int) (hG : G.length = l.length) (hn : l.length ≤ 90) (hg : ∀ j, j < l.length → -1 ≤ G.getD j 0 ∧ G.getD j 0 < l.length) (h6 : ∀ j, j < l.length → (l.getD j z71).f0 = 6 → 0 ≤ G.getD j 0) : ∀ (d i : Nat) (x : List Int), l.length - i = d → i ≤ l.length →
  Ev (fun k => impl_gearCounts.l0 k x G (l.length : Int) (i : Int) r c l) (countsFrom l G d i x) := by
 intro d
 induction d with
 | zero =>
  intro i x hd hi
  refine ev_done 0 fun k _ => ?_
  simp only [impl_gearCounts.l0]
  rw [if_neg (by omega)]
  rfl
 | succ d ih =>
  intro i x hd hi
  have hlt : i < l.length := by omega
  have h1 := gearCounts_l1 l G r c i hlt hn (G.getD i 0) (hg i hlt) (h6 i hlt) _ _ x rfl (ih (i + 1) (countStep (decide ((l.getD i z71).f0 = 6)) x (G.getD i 0)) (by omega) (by omega))
  refine ev_next 0 h1 fun k _ => ?_
  simp only [impl_gearCounts.l0]
  rw [if_pos (by omega), if_pos (by omega), if_pos (by omega), getD_rd]

theorem gear6 {x : S71} (h : x.f0 = 6) : gearB x = true := by simp [gearB, h]
theorem groups_bounds {r c : Int} {l : List S71} (b : Brd r c l) : (∀ j, j < l.length → -1 ≤ (groupsOf l r.toNat c.toNat).getD j 0 ∧ (groupsOf l r.toNat c.toNat).getD j 0 < l.length) ∧ ∀ j, j < l.length → (l.getD j z71).f0 = 6 → 0 ≤ (groupsOf l r.toNat c.toNat).getD j 0 := by
 obtain ⟨hlen, hC⟩ := brd_len b
 obtain ⟨h1, h2⟩ := groupsOf_marked hlen hC
 exact ⟨fun j hj => ⟨h1.lo j hj, h1.hi j hj⟩, fun j hj h6 => h2 j hj (gear6 h6)⟩
theorem gearCounts_ev {r c : Int} {l : List S71} (b : Brd r c l) : Ev (fun k => impl_gearCounts.f k r c l) (countsOf l (groupsOf l r.toNat c.toNat)) := by
 have b9 := b.le
 obtain ⟨K, hK⟩ := ev_get (groups_both b).1
 obtain ⟨h1, h2⟩ := groups_bounds b
 have hGl := groupsOf_length l r.toNat c.toNat
 have h := gearCounts_l0 l (groupsOf l r.toNat c.toNat) r c hGl b9 h1 h2 l.length 0 [] (by omega) (by omega)
 refine ev_same K h fun k hk => ?_
 simp only [impl_gearCounts.f]
 rw [bindE (hK k hk), hGl]
 rfl

def cmax : List Int → Int → Int
 | [], a => a
 | g :: G, a => cmax G (if a > g + 1 then a else g + 1)
theorem ggCount_l0 (G : List Int) (hn : G.length ≤ 90) (hg : ∀ j, j < G.length → -1 ≤ G.getD j 0 ∧ G.getD j 0 < 1048576) : ∀ (d i : Nat) (a : Int), G.length - i = d → i ≤ G.length →
  Ev (fun k => spec_ggCount.l0 k a G (G.length : Int) (i : Int)) (cmax (G.drop i) a) := by
 intro d
 induction d with
 | zero =>
  intro i a hd hi
  refine ev_done 0 fun k _ => ?_
  simp only [spec_ggCount.l0]
  rw [if_neg (by omega), List.drop_of_length_le (by omega)]
  rfl
 | succ d ih =>
  intro i a hd hi
  have hlt : i < G.length := by omega
  have hgi := hg i hlt
  rw [drop_cons G 0 hlt, cmax]
  have hm : spec_l1Most.f a (G.getD i 0 + 1) = some (if a > G.getD i 0 + 1 then a else G.getD i 0 + 1) := by
   unfold spec_l1Most.f
   split <;> rfl
  refine ev_next 0 (ih (i + 1) _ (by omega) (by omega)) fun k _ => ?_
  simp only [spec_ggCount.l0]
  rw [if_pos (by omega), if_pos (by omega), if_pos (by omega), getD_rd, wrap_id (x := G.getD i 0 + 1) (by omega) (by omega), bindE hm, wrap_succ hlt (by omega)]
theorem counts_cmax (l : List S71) (G : List Int) (hG : G.length = l.length) (hg : ∀ j, j < l.length → -1 ≤ G.getD j 0) : ∀ (d i : Nat) (x : List Int), l.length - i = d → i ≤ l.length → ((countsFrom l G d i x).length : Int) = cmax (G.drop i) x.length := by
 intro d
 induction d with
 | zero =>
  intro i x hd hi
  rw [List.drop_of_length_le (by omega)]
  rfl
 | succ d ih =>
  intro i x hd hi
  have hlt : i < l.length := by omega
  have hgi := hg i hlt
  rw [drop_cons G 0 (by omega), cmax, countsFrom, ih (i + 1) _ (by omega) (by omega), countStep_length, extL_length]
  congr 1
  by_cases h1 : (x.length : Int) > G.getD i 0 + 1
  ·rw [if_pos h1, if_pos h1]
  ·rw [if_neg h1, if_neg h1]
   split <;> omega
theorem ggCount_ev {r c : Int} {l : List S71} (b : Brd r c l) : Ev (fun k => spec_ggCount.f k (groupsOf l r.toNat c.toNat)) ((countsOf l (groupsOf l r.toNat c.toNat)).length : Int) := by
 have b9 := b.le
 obtain ⟨h1, h2⟩ := groups_bounds b
 have hGl := groupsOf_length l r.toNat c.toNat
 have e := counts_cmax l (groupsOf l r.toNat c.toNat) hGl (fun j hj => (h1 j hj).1) l.length 0 [] (by omega) (by omega)
 rw [show ((countsOf l (groupsOf l r.toNat c.toNat)).length : Int) = cmax ((groupsOf l r.toNat c.toNat).drop 0) 0 from e]
 exact ggCount_l0 (groupsOf l r.toNat c.toNat) (by omega) (fun j hj => by have := h1 j (by omega); omega) _ 0 0 rfl (by omega)

theorem cmax_ge : ∀ (G : List Int) (a : Int), a ≤ cmax G a
 | [], a => Int.le_refl a
 | g :: G, a => by
  unfold cmax
  refine Int.le_trans ?_ (cmax_ge G _)
  split <;> omega
theorem cmax_mem : ∀ (G : List Int) (a : Int) (j : Nat), j < G.length → G.getD j 0 + 1 ≤ cmax G a
 | [], _, j, h => by simp at h
 | g :: G, a, 0, _ => by
  unfold cmax
  refine Int.le_trans ?_ (cmax_ge G _)
  show g + 1 ≤ _
  split <;> omega
 | g :: G, a, j + 1, h => by
  unfold cmax
  exact cmax_mem G _ j (by simpa using h)
theorem counts_top {r c : Int} {l : List S71} (b : Brd r c l) : ∀ j, j < l.length → (groupsOf l r.toNat c.toNat).getD j 0 < ((countsOf l (groupsOf l r.toNat c.toNat)).length : Int) := by
 intro j hj
 obtain ⟨h1, h2⟩ := groups_bounds b
 have hGl := groupsOf_length l r.toNat c.toNat
 have e := counts_cmax l (groupsOf l r.toNat c.toNat) hGl (fun j hj => (h1 j hj).1) l.length 0 [] (by omega) (by omega)
 have h3 := cmax_mem (groupsOf l r.toNat c.toNat) 0 j (by omega)
 rw [show ((countsOf l (groupsOf l r.toNat c.toNat)).length : Int) = cmax ((groupsOf l r.toNat c.toNat).drop 0) 0 from e, List.drop_zero]
 omega
theorem cmax_le : ∀ (G : List Int) (a m : Int), a ≤ m → (∀ j, j < G.length → G.getD j 0 + 1 ≤ m) → cmax G a ≤ m
 | [], a, m, h, _ => h
 | g :: G, a, m, h, hg => by
  unfold cmax
  refine cmax_le G _ m ?_ fun j hj => hg (j + 1) (by simpa using hj)
  have := hg 0 (by simp)
  simp only [List.getD_cons_zero] at this
  split <;> omega
theorem counts_small {r c : Int} {l : List S71} (b : Brd r c l) : ((countsOf l (groupsOf l r.toNat c.toNat)).length : Int) ≤ l.length := by
 obtain ⟨h1, h2⟩ := groups_bounds b
 have hGl := groupsOf_length l r.toNat c.toNat
 have e := counts_cmax l (groupsOf l r.toNat c.toNat) hGl (fun j hj => (h1 j hj).1) l.length 0 [] (by omega) (by omega)
 rw [show ((countsOf l (groupsOf l r.toNat c.toNat)).length : Int) = cmax ((groupsOf l r.toNat c.toNat).drop 0) 0 from e, List.drop_zero]
 exact cmax_le _ 0 _ (by omega) fun j hj => by have := h1 j (by omega); omega

def loneFrom (l : List S71) (G N : List Int) : Nat → Nat → List Int
 | 0, _ => []
 | d + 1, i => if (decide ((l.getD i z71).f0 = 6) && decide (N.getD (G.getD i 0).toNat 0 = 1)) = true then (i : Int) :: loneFrom l G N d (i + 1) else loneFrom l G N d (i + 1)
theorem loneFrom_length (l : List S71) (G N : List Int) : ∀ (d i : Nat), (loneFrom l G N d i).length ≤ d := by
 intro d
 induction d with
 | zero => intro i; exact Nat.le_refl _
 | succ d ih =>
  intro i
  have := ih (i + 1)
  unfold loneFrom
  split
  ·rw [List.length_cons]; omega
  ·omega
def loneOf (r c : Int) (l : List S71) : List Int × Bool := if goodBoard r c l = true then (loneFrom l (groupsOf l r.toNat c.toNat) (countsOf l (groupsOf l r.toNat c.toNat)) l.length 0, true) else ([], false)
theorem loneOf_length (r c : Int) (l : List S71) (hn : l.length ≤ 1048576) : (loneOf r c l).1.length ≤ 1048576 := by
 unfold loneOf
 split
 ·exact Nat.le_trans (loneFrom_length _ _ _ _ _) hn
 ·simp
theorem LoneGears_l0 (l : List S71) (G N : List Int) (hn : l.length ≤ 90) (hG : G.length = l.length) (h6 : ∀ j, j < l.length → (l.getD j z71).f0 = 6 → 0 ≤ G.getD j 0) (hm : ∀ j, j < l.length → G.getD j 0 < (N.length : Int)) : ∀ (d i : Nat) (acc : List Int), l.length - i = d → i ≤ l.length → acc.length ≤ i →
  Ev (fun k => impl_LoneGears.l0 k G N acc l (l.length : Int) (i : Int)) (acc ++ loneFrom l G N d i, true) := by
 intro d
 induction d with
 | zero =>
  intro i acc hd hi ha
  refine ev_done 0 fun k _ => ?_
  simp only [impl_LoneGears.l0]
  rw [if_neg (by omega)]
  simp [loneFrom]
 | succ d ih =>
  intro i acc hd hi ha
  have hlt : i < l.length := by omega
  unfold loneFrom
  by_cases h : (l.getD i z71).f0 = 6
  ·have h0 := h6 i hlt h
   have hmi := hm i hlt
   obtain ⟨g, hgg⟩ : ∃ g : Nat, G.getD i 0 = (g : Int) := ⟨(G.getD i 0).toNat, by omega⟩
   rw [decide_eq_true h, Bool.true_and, hgg, Int.toNat_natCast]
   by_cases h1 : N.getD g 0 = 1
   ·rw [decide_eq_true h1, if_pos rfl, show acc ++ (i : Int) :: loneFrom l G N d (i + 1) = (acc ++ [(i : Int)]) ++ loneFrom l G N d (i + 1) by simp]
    refine ev_next 0 (ih (i + 1) (acc ++ [(i : Int)]) (by omega) (by omega) (by rw [List.length_append, List.length_singleton]; omega)) fun k _ => ?_
    simp only [impl_LoneGears.l0]
    rw [if_pos (by omega), if_pos (by omega), if_pos (by omega), rdD_nat, if_pos h, if_pos (by omega), getD_rd, hgg, if_pos (by omega), if_pos (by omega), getD_rd, if_pos h1, if_pos (by omega), wrap_succ hlt (by omega)]
   ·rw [decide_eq_false h1, if_neg (by simp)]
    refine ev_next 0 (ih (i + 1) acc (by omega) (by omega) (by omega)) fun k _ => ?_
    simp only [impl_LoneGears.l0]
    rw [if_pos (by omega), if_pos (by omega), if_pos (by omega), rdD_nat, if_pos h, if_pos (by omega), getD_rd, hgg, if_pos (by omega), if_pos (by omega), getD_rd, if_neg h1, wrap_succ hlt (by omega)]
  ·rw [decide_eq_false h, Bool.false_and, if_neg (by simp)]
   refine ev_next 0 (ih (i + 1) acc (by omega) (by omega) (by omega)) fun k _ => ?_
   simp only [impl_LoneGears.l0]
   rw [if_pos (by omega), if_pos (by omega), if_pos (by omega), rdD_nat, if_neg h, wrap_succ hlt (by omega)]
theorem LoneGears_ev (r c : Int) (l : List S71) (hn : l.length ≤ 1048576) : Ev (fun k => impl_LoneGears.f k r c l) (loneOf r c l) := by
 obtain ⟨K, hK⟩ := ev_get (IsBoard_ev r c l hn)
 unfold loneOf
 by_cases h : goodBoard r c l = true
 ·have b := brd_of h
  obtain ⟨K2, hK2⟩ := ev_get (groups_both b).1
  obtain ⟨K3, hK3⟩ := ev_get (gearCounts_ev b)
  obtain ⟨K4, hK4⟩ := ev_get (LoneGears_l0 l (groupsOf l r.toNat c.toNat) (countsOf l (groupsOf l r.toNat c.toNat)) b.le (groupsOf_length _ _ _) (groups_bounds b).2 (counts_top b) l.length 0 [] (by omega) (by omega) (by simp))
  refine ⟨K + K2 + K3 + K4, fun k hk => ?_⟩
  simp only [impl_LoneGears.f]
  rw [bindE (hK k (by omega)), h, ite_true', bindE (hK2 k (by omega)), bindE (hK3 k (by omega)), ite_true']
  exact hK4 k (by omega)
 ·refine ⟨K, fun k hk => ?_⟩
  simp only [impl_LoneGears.f]
  rw [bindE (hK k hk), if_neg h, if_neg h]

/-- How many of the first i cells are gears of group g whose state is as asked. -/
def cntTo (l : List S71) (G : List Int) (p : Int → Bool) (g : Int) : Nat → Nat
 | 0 => 0
 | i + 1 => cntTo l G p g i + (if (decide ((l.getD i z71).f0 = 6) && (decide (G.getD i 0 = g) && p (l.getD i z71).f1)) = true then 1 else 0)
theorem cntTo_le (l : List S71) (G : List Int) (p : Int → Bool) (g : Int) : ∀ i, cntTo l G p g i ≤ i
 | 0 => Nat.le_refl _
 | i + 1 => by
  have h := cntTo_le l G p g i
  unfold cntTo
  split <;> omega
def isS (s : Int) (x : Int) : Bool := decide (x = s)
theorem cntTo_both {l : List S71} (hl : l.all goodC = true) (G : List Int) (g : Int) : ∀ i, i ≤ l.length → cntTo l G (fun _ => true) g i = cntTo l G (isS 0) g i + cntTo l G (isS 1) g i
 | 0, _ => rfl
 | i + 1, h => by
  have ih := cntTo_both hl G g i (by omega)
  unfold cntTo
  rw [ih]
  have hg : goodC (l.getD i z71) = true := by
   rw [List.getD_eq_getElem?_getD, List.getElem?_eq_getElem (show i < l.length by omega)]
   exact List.all_eq_true.1 hl _ (List.getElem_mem _)
  simp only [goodC, goodB, decide_eq_true_eq] at hg
  by_cases h6 : (l.getD i z71).f0 = 6
  ·by_cases hG : G.getD i 0 = g
   ·rw [decide_eq_true h6, decide_eq_true hG]
    rcases hg.2 with h0 | h1
    ·simp only [isS, h0, Bool.true_and]
     simp
     omega
    ·simp only [isS, h1.1, Bool.true_and]
     simp
     omega
   ·rw [decide_eq_false hG]
    simp only [Bool.false_and, Bool.and_false, Bool.false_eq_true, if_false, Nat.add_zero]
  ·rw [decide_eq_false h6]
   simp only [Bool.false_and, Bool.false_eq_true, if_false, Nat.add_zero]
def countsTo (l : List S71) (G : List Int) : Nat → List Int
 | 0 => []
 | i + 1 => countStep (decide ((l.getD i z71).f0 = 6)) (countsTo l G i) (G.getD i 0)
theorem countsFrom_to (l : List S71) (G : List Int) : ∀ d i, countsFrom l G d i (countsTo l G i) = countsTo l G (i + d)
 | 0, _ => rfl
 | d + 1, i => by
  rw [countsFrom, show countStep (decide ((l.getD i z71).f0 = 6)) (countsTo l G i) (G.getD i 0) = countsTo l G (i + 1) from rfl, countsFrom_to l G d (i + 1)]
  congr 1
  omega
theorem countsOf_to (l : List S71) (G : List Int) : countsOf l G = countsTo l G l.length := by
 have h := countsFrom_to l G l.length 0
 rw [Nat.zero_add] at h
 exact h
theorem getD_ext (x : List Int) (g : Int) (j : Nat) : (extL x g).getD j 0 = x.getD j 0 := by
 unfold extL
 rw [List.getD_eq_getElem?_getD, List.getD_eq_getElem?_getD, List.getElem?_append]
 split
 ·rfl
 ·rename_i h
  rw [List.getElem?_eq_none (show x.length ≤ j by omega), List.getElem?_replicate]
  split <;> rfl
theorem countsTo_at {l : List S71} {G : List Int} (hn : l.length ≤ 90) (h6 : ∀ j, j < l.length → (l.getD j z71).f0 = 6 → 0 ≤ G.getD j 0) : ∀ i, i ≤ l.length → ∀ g : Nat, (countsTo l G i).getD g 0 = (cntTo l G (fun _ => true) g i : Int)
 | 0, _, g => by simp [countsTo, cntTo]
 | i + 1, hi, g => by
  have ih := countsTo_at hn h6 i (by omega)
  have hle := cntTo_le l G (fun _ => true) (G.getD i 0) i
  unfold countsTo countStep cntTo
  by_cases h : (l.getD i z71).f0 = 6
  ·have h0 := h6 i (by omega) h
   rw [decide_eq_true h, ite_true', Bool.true_and, Bool.and_true]
   have hlen : (G.getD i 0).toNat < (extL (countsTo l G i) (G.getD i 0)).length := by
    have := extL_length (countsTo l G i) (G.getD i 0)
    split at this
    ·omega
    ·split at this <;> omega
   have hrd : rd (extL (countsTo l G i) (G.getD i 0)) (G.getD i 0) = (cntTo l G (fun _ => true) (G.getD i 0) i : Int) := by
    unfold rd
    rw [getD_ext, ih]
    congr 2
    omega
   rw [hrd, wrap_id (by omega) (by omega), getD_set, getD_ext, ih]
   by_cases e : G.getD i 0 = (g : Int)
   ·rw [if_pos ⟨by omega, hlen⟩, decide_eq_true e, ite_true', e]
    omega
   ·rw [if_neg (fun h => e (by omega)), decide_eq_false e]
    simp
  ·rw [decide_eq_false h, if_neg (by simp), getD_ext, ih]
   simp

theorem counts_at {r c : Int} {l : List S71} (b : Brd r c l) (g : Nat) : (countsOf l (groupsOf l r.toNat c.toNat)).getD g 0 = (cntTo l (groupsOf l r.toNat c.toNat) (fun _ => true) g l.length : Int) := by
 rw [countsOf_to]
 exact countsTo_at b.le (groups_bounds b).2 l.length (Nat.le_refl _) g

def gears2 (l : List S71) (G : List Int) (i : Nat) (g : Nat) : List Int := [(cntTo l G (isS 0) g i : Int), (cntTo l G (isS 1) g i : Int)]
def gearsL (l : List S71) (G : List Int) (m : Nat) (i : Nat) : List (List Int) := (List.range m).map (gears2 l G i)
theorem gearsL_length (l : List S71) (G : List Int) (m i : Nat) : (gearsL l G m i).length = m := by simp [gearsL]
theorem gearsL_rd (l : List S71) (G : List Int) (m i : Nat) {g : Nat} (h : g < m) : rd_L3 (gearsL l G m i) (g : Int) = gears2 l G i g := by
 unfold rd_L3 gearsL
 rw [Int.toNat_natCast, map_range_getD _ _ h]
theorem gearsL_step {l : List S71} {G : List Int} {m i g s : Nat} (hg : g < m) (h6 : (l.getD i z71).f0 = 6) (hG : G.getD i 0 = (g : Int)) (hs : (l.getD i z71).f1 = (s : Int)) (hs1 : s ≤ 1) : (gearsL l G m i).set g ((gears2 l G i g).set s ((cntTo l G (isS s) g i : Int) + 1)) = gearsL l G m (i + 1) := by
 apply List.ext_getElem?
 intro j
 rw [List.getElem?_set, gearsL_length]
 unfold gearsL
 rw [List.getElem?_map, List.getElem?_map]
 by_cases hj : j < m
 ·rw [List.getElem?_range hj]
  simp only [Option.map_some]
  by_cases e : g = j
  ·subst e
   rw [if_pos rfl, if_pos hg]
   have h01 : s = 0 ∨ s = 1 := by omega
   simp only [gears2, cntTo]
   rw [decide_eq_true h6, decide_eq_true hG, hs]
   rcases h01 with rfl | rfl
   ·simp only [isS, Bool.true_and]
    simp
   ·simp only [isS, Bool.true_and]
    simp
  ·rw [if_neg e]
   have e2 : ¬ G.getD i 0 = (j : Int) := by omega
   simp only [gears2, cntTo, decide_eq_false e2, Bool.false_and, Bool.and_false, Bool.false_eq_true, if_false, Nat.add_zero]
 ·rw [List.getElem?_eq_none (by simpa using hj)]
  simp only [Option.map_none]
  split
  ·omega
  ·rfl
theorem gearsL_skip {l : List S71} {G : List Int} {m i : Nat} (h6 : ¬ (l.getD i z71).f0 = 6) : gearsL l G m i = gearsL l G m (i + 1) := by
 unfold gearsL
 apply List.map_congr_left
 intro g _
 simp only [gears2, cntTo, decide_eq_false h6, Bool.false_and, Bool.false_eq_true, if_false, Nat.add_zero]
theorem ggGears_l1 (l : List S71) (G : List Int) (r c : Int) (m : Nat) (hn : l.length ≤ 90) (hl : l.all goodC = true) (hG : G.length = l.length) (h6 : ∀ j, j < l.length → (l.getD j z71).f0 = 6 → 0 ≤ G.getD j 0) (hm : ∀ j, j < l.length → G.getD j 0 < m) : ∀ (d i : Nat), l.length - i = d → i ≤ l.length →
  Ev (fun k => spec_ggGears.l1 k (gearsL l G m i) G (l.length : Int) (i : Int) r c l) (gearsL l G m l.length) := by
 intro d
 induction d with
 | zero =>
  intro i hd hi
  obtain rfl : i = l.length := by omega
  refine ev_done 0 fun k _ => ?_
  simp only [spec_ggGears.l1]
  rw [if_neg (by omega)]
 | succ d ih =>
  intro i hd hi
  have hlt : i < l.length := by omega
  have hgood : goodC (l.getD i z71) = true := by
   rw [List.getD_eq_getElem?_getD, List.getElem?_eq_getElem hlt]
   exact List.all_eq_true.1 hl _ (List.getElem_mem _)
  simp only [goodC, goodB, decide_eq_true_eq] at hgood
  have h2 := ih (i + 1) (by omega) (by omega)
  by_cases h : (l.getD i z71).f0 = 6
  ·have h0 := h6 i hlt h
   have hmi := hm i hlt
   obtain ⟨g, hgg⟩ : ∃ g : Nat, G.getD i 0 = (g : Int) := ⟨(G.getD i 0).toNat, by omega⟩
   obtain ⟨s, hss⟩ : ∃ s : Nat, (l.getD i z71).f1 = (s : Int) := ⟨(l.getD i z71).f1.toNat, by omega⟩
   have hs1 : s ≤ 1 := by omega
   have hgm : g < m := by omega
   have hstep := gearsL_step (m := m) hgm h hgg hss hs1
   have hc := cntTo_le l G (isS s) g i
   have hrd : rd (gears2 l G i g) (s : Int) = (cntTo l G (isS s) g i : Int) := by
    have h01 : s = 0 ∨ s = 1 := by omega
    rcases h01 with rfl | rfl <;> rfl
   refine ev_next 0 h2 fun k _ => ?_
   simp only [spec_ggGears.l1]
   rw [if_pos (by omega), if_pos (by omega), if_pos (by omega), if_pos (by omega), rdD_nat, if_pos h, getD_rd, hgg, gearsL_rd l G m i hgm, hss, if_pos (by omega), if_pos (by rw [gearsL_length]; omega), if_pos (by omega), if_pos (by simp [gears2]; omega), hrd, wrap_id (x := (cntTo l G (isS s) g i : Int) + 1) (by omega) (by omega), Int.toNat_natCast, Int.toNat_natCast, hstep, wrap_succ hlt (by omega)]
  ·refine ev_next 0 h2 fun k _ => ?_
   simp only [spec_ggGears.l1]
   rw [if_pos (by omega), if_pos (by omega), if_pos (by omega), if_pos (by omega), rdD_nat, if_neg h, gearsL_skip h, wrap_succ hlt (by omega)]
theorem gearsL_zero (l : List S71) (G : List Int) (m : Nat) : gearsL l G m 0 = List.replicate m [0, 0] := by
 apply List.ext_getElem?
 intro j
 unfold gearsL
 rw [List.getElem?_map]
 by_cases hj : j < m
 ·rw [List.getElem?_range hj, List.getElem?_replicate, if_pos hj]
  rfl
 ·rw [List.getElem?_eq_none (by simpa using hj), List.getElem?_replicate, if_neg hj]
  rfl
theorem ggGears_l0 (l : List S71) (G : List Int) (r c : Int) (m : Nat) (hm : m ≤ 90) (res : List (List Int)) (hnext : Ev (fun k => spec_ggGears.l1 k (List.replicate m [0, 0]) G (G.length : Int) 0 r c l) res) : ∀ (d i : Nat), m - i = d → i ≤ m →
  Ev (fun k => spec_ggGears.l0 k G ((List.replicate m ([0, 0] : List Int)).take i ++ (List.replicate m ([] : List Int)).drop i) (m : Int) (i : Int) r c l) res := by
 intro d
 induction d with
 | zero =>
  intro i hd hi
  obtain rfl : i = m := by omega
  refine ev_next 0 hnext fun k _ => ?_
  simp only [spec_ggGears.l0]
  rw [if_neg (by omega), List.take_of_length_le (by simp), List.drop_of_length_le (by simp), List.append_nil]
 | succ d ih =>
  intro i hd hi
  have hlt : i < m := by omega
  have hset := mix_set (List.replicate m ([0, 0] : List Int)) (List.replicate m ([] : List Int)) [] (n := i) (by simpa using hlt) (by simp)
  rw [show (List.replicate m ([0, 0] : List Int)).getD i [] = [0, 0] by simp [List.getD_eq_getElem?_getD, hlt]] at hset
  refine ev_next 0 (ih (i + 1) (by omega) (by omega)) fun k _ => ?_
  simp only [spec_ggGears.l0]
  rw [if_pos (by omega), if_pos (by omega), if_pos (by simp; omega), Int.toNat_natCast, hset, wrap_succ hlt (by omega)]
def gearsOf (l : List S71) (R C : Nat) : List (List Int) := gearsL l (groupsOf l R C) (countsOf l (groupsOf l R C)).length l.length
theorem ggGears_ev {r c : Int} {l : List S71} (b : Brd r c l) : Ev (fun k => spec_ggGears.f k r c l) (gearsOf l r.toNat c.toNat) := by
 have b9 := b.le
 obtain ⟨K2, hK2⟩ := ev_get (groups_both b).2
 obtain ⟨K3, hK3⟩ := ev_get (ggCount_ev b)
 have hGl := groupsOf_length l r.toNat c.toNat
 have ht := counts_top b
 have hs := counts_small b
 obtain ⟨_, hb6⟩ := groups_bounds b
 unfold gearsOf
 generalize countsOf l (groupsOf l r.toNat c.toNat) = N at *
 generalize groupsOf l r.toNat c.toNat = G at *
 have h1 := ggGears_l1 l G r c N.length b9 b.all hGl hb6 ht l.length 0 (by omega) (by omega)
 rw [gearsL_zero, ← hGl] at h1
 obtain ⟨K4, hK4⟩ := ev_get (ggGears_l0 l G r c N.length (by omega) _ h1 N.length 0 (by omega) (by omega))
 refine ⟨K2 + K3 + K4, fun k hk => ?_⟩
 simp only [spec_ggGears.f]
 rw [bindE (hK2 k (by omega)), bindE (hK3 k (by omega)), if_pos (by omega), if_pos (by omega), Option.bind_some, Int.toNat_natCast, List.length_replicate]
 rw [← hGl]
 exact hK4 k (by omega)
/-- What a group's two numbers come to. -/
theorem gears_sum {r c : Int} {l : List S71} (b : Brd r c l) {g : Nat} (hg : g < (countsOf l (groupsOf l r.toNat c.toNat)).length) : wrap64 (rd (rd_L3 (gearsOf l r.toNat c.toNat) (g : Int)) 0 + rd (rd_L3 (gearsOf l r.toNat c.toNat) (g : Int)) 1) = (countsOf l (groupsOf l r.toNat c.toNat)).getD g 0 ∧ (rd_L3 (gearsOf l r.toNat c.toNat) (g : Int)).length = 2 := by
 have b9 := b.le
 have h1 := cntTo_le l (groupsOf l r.toNat c.toNat) (isS 0) g l.length
 have h2 := cntTo_le l (groupsOf l r.toNat c.toNat) (isS 1) g l.length
 have h3 := cntTo_both b.all (groupsOf l r.toNat c.toNat) g l.length (Nat.le_refl _)
 rw [counts_at b g, h3]
 unfold gearsOf
 rw [gearsL_rd _ _ _ _ hg]
 have e0 : rd (gears2 l (groupsOf l r.toNat c.toNat) l.length g) 0 = (cntTo l (groupsOf l r.toNat c.toNat) (isS 0) g l.length : Int) := rfl
 have e1 : rd (gears2 l (groupsOf l r.toNat c.toNat) l.length g) 1 = (cntTo l (groupsOf l r.toNat c.toNat) (isS 1) g l.length : Int) := rfl
 rw [e0, e1, wrap_id (by omega) (by omega)]
 exact ⟨by omega, rfl⟩

theorem gearsOf_len (l : List S71) (R C : Nat) : (gearsOf l R C).length = (countsOf l (groupsOf l R C)).length := by
 unfold gearsOf
 exact gearsL_length _ _ _ _

theorem specLoneGears_l0 (l : List S71) (G N : List Int) (Q : List (List Int)) (hQ : Q.length = N.length) (hs : ∀ g : Nat, g < N.length → wrap64 (rd (rd_L3 Q (g : Int)) 0 + rd (rd_L3 Q (g : Int)) 1) = N.getD g 0 ∧ (rd_L3 Q (g : Int)).length = 2) (hn : l.length ≤ 90) (hG : G.length = l.length) (h6 : ∀ j, j < l.length → (l.getD j z71).f0 = 6 → 0 ≤ G.getD j 0) (hm : ∀ j, j < l.length → G.getD j 0 < (N.length : Int)) : ∀ (d i : Nat) (acc : List Int), l.length - i = d → i ≤ l.length → acc.length ≤ i →
  Ev (fun k => spec_LoneGears.l0 k G Q acc l (l.length : Int) (i : Int)) (acc ++ loneFrom l G N d i, true) := by
 intro d
 induction d with
 | zero =>
  intro i acc hd hi ha
  refine ev_done 0 fun k _ => ?_
  simp only [spec_LoneGears.l0]
  rw [if_neg (by omega)]
  simp [loneFrom]
 | succ d ih =>
  intro i acc hd hi ha
  have hlt : i < l.length := by omega
  unfold loneFrom
  by_cases h : (l.getD i z71).f0 = 6
  ·have h0 := h6 i hlt h
   have hmi := hm i hlt
   obtain ⟨g, hgg⟩ : ∃ g : Nat, G.getD i 0 = (g : Int) := ⟨(G.getD i 0).toNat, by omega⟩
   obtain ⟨hsum, h2⟩ := hs g (by omega)
   have hsum : Hid _ := ⟨hsum⟩
   rw [decide_eq_true h, Bool.true_and, hgg, Int.toNat_natCast]
   by_cases h1 : N.getD g 0 = 1
   ·rw [decide_eq_true h1, if_pos rfl, show acc ++ (i : Int) :: loneFrom l G N d (i + 1) = (acc ++ [(i : Int)]) ++ loneFrom l G N d (i + 1) by simp]
    refine ev_next 0 (ih (i + 1) (acc ++ [(i : Int)]) (by omega) (by omega) (by rw [List.length_append, List.length_singleton]; omega)) fun k _ => ?_
    simp only [spec_LoneGears.l0]
    rw [if_pos (by omega), if_pos (by omega), if_pos (by omega), rdD_nat, if_pos h, if_pos (by omega), getD_rd, hgg, if_pos (by omega), if_pos (by omega), if_pos (by omega), if_pos (by omega), hsum.out, if_pos h1, if_pos (by omega), wrap_succ hlt (by omega)]
   ·rw [decide_eq_false h1, if_neg (by simp)]
    refine ev_next 0 (ih (i + 1) acc (by omega) (by omega) (by omega)) fun k _ => ?_
    simp only [spec_LoneGears.l0]
    rw [if_pos (by omega), if_pos (by omega), if_pos (by omega), rdD_nat, if_pos h, if_pos (by omega), getD_rd, hgg, if_pos (by omega), if_pos (by omega), if_pos (by omega), if_pos (by omega), hsum.out, if_neg h1, wrap_succ hlt (by omega)]
  ·rw [decide_eq_false h, Bool.false_and, if_neg (by simp)]
   refine ev_next 0 (ih (i + 1) acc (by omega) (by omega) (by omega)) fun k _ => ?_
   simp only [spec_LoneGears.l0]
   rw [if_pos (by omega), if_pos (by omega), if_pos (by omega), rdD_nat, if_neg h, wrap_succ hlt (by omega)]
theorem specLoneGears_ev (r c : Int) (l : List S71) (hn : l.length ≤ 1048576) : Ev (fun k => spec_LoneGears.f k r c l) (loneOf r c l) := by
 obtain ⟨K, hK⟩ := ev_get (boGood_ev r c l hn)
 unfold loneOf
 by_cases h : goodBoard r c l = true
 ·have b := brd_of h
  obtain ⟨K2, hK2⟩ := ev_get (groups_both b).2
  obtain ⟨K3, hK3⟩ := ev_get (ggGears_ev b)
  obtain ⟨K4, hK4⟩ := ev_get (specLoneGears_l0 l (groupsOf l r.toNat c.toNat) (countsOf l (groupsOf l r.toNat c.toNat)) (gearsOf l r.toNat c.toNat) (gearsOf_len _ _ _) (fun g hg => gears_sum b hg) b.le (groupsOf_length _ _ _) (groups_bounds b).2 (counts_top b) l.length 0 [] (by omega) (by omega) (by simp))
  refine ⟨K + K2 + K3 + K4, fun k hk => ?_⟩
  simp only [spec_LoneGears.f]
  rw [bindE (hK k (by omega)), h, ite_true', bindE (hK2 k (by omega)), bindE (hK3 k (by omega)), ite_true']
  exact hK4 k (by omega)
 ·refine ⟨K, fun k hk => ?_⟩
  simp only [spec_LoneGears.f]
  rw [bindE (hK k hk), if_neg h, if_neg h]

def marks : Nat → Int → List S71
 | 0, _ => []
 | n + 1, s => ⟨s, s + 1⟩ :: marks n (s + 2)
theorem marks_length : ∀ (n : Nat) (s : Int), (marks n s).length = n
 | 0, _ => rfl
 | n + 1, s => by simp [marks, marks_length n]
theorem markCellS_l0 (N : Nat) (hN : N ≤ 1048576) : ∀ (d i : Nat) (s : Int) (x : List S71), x.length = N → N - i = d → i ≤ N → 0 ≤ s → s ≤ 4194304 + 2 * i →
  Ev (fun k => laws_markCellS.l0 k x s (i : Int)) (s + 2 * d, x.take i ++ marks d s) := by
 intro d
 induction d with
 | zero =>
  intro i s x hx hd hi h0 h1
  refine ev_done 0 fun k _ => ?_
  simp only [laws_markCellS.l0]
  rw [if_neg (by omega)]
  simp [marks, List.take_of_length_le (show x.length ≤ i by omega)]
 | succ d ih =>
  intro i s x hx hd hi h0 h1
  have hlt : i < x.length := by omega
  have e : ((x.set i (⟨s, (rd_T71 x i).f1⟩ : S71)).set i ⟨(rd_T71 (x.set i (⟨s, (rd_T71 x i).f1⟩ : S71)) i).f0, s + 1⟩) = x.set i (⟨s, s + 1⟩ : S71) := by
   rw [List.set_set]
   simp [rd_T71, hlt]
  refine ev_next 0 (f := fun k => laws_markCellS.l0 k (x.set i (⟨s, s + 1⟩ : S71)) (s + 2) ((i + 1 : Nat) : Int)) ?_ fun k _ => ?_
  ·have h := ih (i + 1) (s + 2) (x.set i (⟨s, s + 1⟩ : S71)) (by simpa using hx) (by omega) (by omega) (by omega) (by omega)
   rw [take_set x _ (by omega)] at h
   have e2 : s + 2 + 2 * (d : Int) = s + 2 * ((d + 1 : Nat) : Int) := by omega
   rw [e2, List.append_assoc] at h
   exact h
  ·simp only [laws_markCellS.l0]
   rw [if_pos (by omega), if_pos (by omega)]
   simp only [Option.bind_some, Int.toNat_natCast]
   rw [wrap_succ hlt (by omega), wrap_id (x := s + 1) (by omega) (by omega), wrap_id (x := s + 1 + 1) (by omega) (by omega), e]
   rw [show s + 1 + 1 = s + 2 by omega]
theorem markCellS_ev (x : List S71) (s : Int) (hn : x.length ≤ 1048576) (h0 : 0 ≤ s) (h1 : s ≤ 4194304) : Ev (fun k => laws_markCellS.f k x s) (s + 2 * x.length, marks x.length s) := by
 have h := markCellS_l0 x.length hn x.length 0 s x rfl (by omega) (by omega) h0 (by omega)
 simpa [laws_markCellS.f] using h

theorem markBoard_ev (r c : Int) (x : List S71) (s : Int) (hn : x.length ≤ 1048576) (h0 : 0 ≤ s) (h1 : s ≤ 4194304) : Ev (fun k => laws_markBoard.f k r c x s) (s + 2 * x.length, marks x.length s) := by
 obtain ⟨K, hK⟩ := ev_get (markCellS_ev x s hn h0 h1)
 refine ⟨K, fun k hk => ?_⟩
 simp only [laws_markBoard.f]
 rw [bindE (hK k hk)]



theorem eqIntS_l0 (a : List Int) (hn : a.length ≤ 1048576) : ∀ (d i : Nat), a.length - i = d → i ≤ a.length → Ev (fun k => laws_eqIntS.l0 k a a (i : Int)) true := by
 intro d
 induction d with
 | zero =>
  intro i hd hi
  refine ev_done 0 fun k _ => ?_
  simp only [laws_eqIntS.l0]
  rw [if_neg (by omega)]
 | succ d ih =>
  intro i hd hi
  have hlt : i < a.length := by omega
  refine ev_next 0 (ih (i + 1) (by omega) (by omega)) fun k _ => ?_
  simp only [laws_eqIntS.l0]
  rw [if_pos (by omega), if_pos (by omega), if_pos (by omega), if_pos trivial, wrap_succ hlt (by omega)]
theorem eqIntS_ev (a : List Int) (hn : a.length ≤ 1048576) : Ev (fun k => laws_eqIntS.f k a a) true := by
 refine ev_same 0 (eqIntS_l0 a hn a.length 0 (by omega) (by omega)) fun k _ => ?_
 simp only [laws_eqIntS.f, if_true]
 rfl

def marksI : Nat → Int → List Int
 | 0, _ => []
 | n + 1, s => s :: marksI n (s + 1)
theorem marksI_length : ∀ (n : Nat) (s : Int), (marksI n s).length = n
 | 0, _ => rfl
 | n + 1, s => by simp [marksI, marksI_length n]
theorem markIntS_l0 (N : Nat) (hN : N ≤ 1048576) : ∀ (d i : Nat) (s : Int) (x : List Int), x.length = N → N - i = d → i ≤ N → 0 ≤ s → s ≤ 4194304 + i →
  Ev (fun k => laws_markIntS.l0 k x s (i : Int)) (s + d, x.take i ++ marksI d s) := by
 intro d
 induction d with
 | zero =>
  intro i s x hx hd hi h0 h1
  refine ev_done 0 fun k _ => ?_
  simp only [laws_markIntS.l0]
  rw [if_neg (by omega)]
  simp [marksI, List.take_of_length_le (show x.length ≤ i by omega)]
 | succ d ih =>
  intro i s x hx hd hi h0 h1
  have hlt : i < x.length := by omega
  refine ev_next 0 (f := fun k => laws_markIntS.l0 k (x.set i s) (s + 1) ((i + 1 : Nat) : Int)) ?_ fun k _ => ?_
  ·have h := ih (i + 1) (s + 1) (x.set i s) (by simpa using hx) (by omega) (by omega) (by omega) (by omega)
   rw [take_set x _ (by omega)] at h
   have e2 : s + 1 + (d : Int) = s + ((d + 1 : Nat) : Int) := by omega
   rw [e2, List.append_assoc] at h
   exact h
  ·simp only [laws_markIntS.l0]
   rw [if_pos (by omega), if_pos (by omega), wrap_succ hlt (by omega), wrap_id (x := s + 1) (by omega) (by omega), Int.toNat_natCast]
theorem markIntS_ev (x : List Int) (s : Int) (hn : x.length ≤ 1048576) (h0 : 0 ≤ s) (h1 : s ≤ 4194304) : Ev (fun k => laws_markIntS.f k x s) (s + x.length, marksI x.length s) := by
 have h := markIntS_l0 x.length hn x.length 0 s x rfl (by omega) (by omega) h0 (by omega)
 simpa [laws_markIntS.f] using h

theorem heldIntS_l0 (y : List Int) (N : Nat) (hN : N ≤ 1048576) (hy : y.length = N) : ∀ (d i : Nat) (s : Int), N - i = d → i ≤ N → 0 ≤ s → s ≤ 4194304 + i → y.drop i = marksI d s →
  Ev (fun k => laws_heldIntS.l0 k y s (i : Int)) (s + d) := by
 intro d
 induction d with
 | zero =>
  intro i s hd hi h0 h1 hm
  refine ev_done 0 fun k _ => ?_
  simp only [laws_heldIntS.l0]
  rw [if_neg (by omega)]
  simp
 | succ d ih =>
  intro i s hd hi h0 h1 hm
  have hlt : i < y.length := by omega
  rw [drop_cons y 0 hlt, marksI] at hm
  injection hm with hm1 hm2
  have h := ih (i + 1) (s + 1) (by omega) (by omega) (by omega) (by omega) hm2
  have e2 : s + 1 + (d : Int) = s + ((d + 1 : Nat) : Int) := by omega
  rw [e2] at h
  refine ev_next 0 h fun k _ => ?_
  simp only [laws_heldIntS.l0, rd, Int.toNat_natCast, hm1]
  rw [if_pos (by omega), if_pos (by omega), if_pos trivial, wrap_succ hlt (by omega), wrap_id (x := s + 1) (by omega) (by omega)]
theorem heldIntS_ev (n : Nat) (s : Int) (hn : n ≤ 1048576) (h0 : 0 ≤ s) (h1 : s ≤ 4194304) : Ev (fun k => laws_heldIntS.f k (marksI n s) s) (s + n) := by
 have h := heldIntS_l0 (marksI n s) n hn (marksI_length n s) n 0 s (by omega) (by omega) h0 (by omega) rfl
 simpa [laws_heldIntS.f] using h



theorem FnExactLoneGears (r0 c0 : Int) (a0 : List S84) (hn0 : a0.length ≤ 9223372036854775807) : ∃ k, laws_FnExactLoneGears.f k r0 c0 a0 = some true := by
 unfold laws_FnExactLoneGears.f
 simp only [bindE (szBoard_eq r0 c0 a0 (1048576) (by omega) (by omega) hn0)]
 by_cases hs0 : (a0.length : Int) ≤ 1048576
 case neg =>
  exact ⟨0, by rw [if_neg hs0]; rfl⟩
 have hq0 : ¬ (1048576 - (a0.length : Int) < 0) := by omega
 simp only [if_pos hs0, if_neg hq0]
 have hl0 : (a0.map conv).length ≤ 1048576 := by rw [List.length_map]; omega
 obtain ⟨K1, h1⟩ := ev_get (toBoard_ev r0 c0 a0 (by omega))
 obtain ⟨K2, h2⟩ := ev_get (LoneGears_ev r0 c0 (a0.map conv) hl0)
 obtain ⟨K3, h3⟩ := ev_get (specLoneGears_ev r0 c0 (a0.map conv) hl0)
 have hr := loneOf_length r0 c0 (a0.map conv) hl0
 revert h2 h3 hr
 generalize loneOf r0 c0 (a0.map conv) = r
 intro h2 h3 hr
 obtain ⟨K4, h4⟩ := ev_get (eqBoard_ev r0 c0 (a0.map conv) hl0)
 obtain ⟨K5, h5⟩ := ev_get (eqIntS_ev r.1 (by omega))
 obtain ⟨K6, h6⟩ := ev_get (markBoard_ev r0 c0 (a0.map conv) (1) hl0 (by omega) (by omega))
 have q1 : ¬ (1 + 2 * (a0.map conv).length < (0 : Int)) := by omega
 obtain ⟨K7, h7⟩ := ev_get (markIntS_ev r.1 (1) (by omega) (by omega) (by omega))
 obtain ⟨K8, h8⟩ := ev_get (heldIntS_ev r.1.length (1) (by omega) (by omega) (by omega))
 have q2 : ¬ (1 + r.1.length < (0 : Int)) := by omega
 refine ⟨K1 + K2 + K3 + K4 + K5 + K6 + K7 + K8 + 1 + 1 + 1, ?_⟩
 repeat (first | rw [bindE (h1 _ (by omega))] | rw [bindE (h2 _ (by omega))] | rw [bindE (h3 _ (by omega))] | rw [bindE (h4 _ (by omega))] | rw [bindE (h5 _ (by omega))] | rw [bindE (h6 _ (by omega))] | rw [bindE (h7 _ (by omega))] | rw [bindE (h8 _ (by omega))] | rw [Option.bind_some] | rw [ite_true'] | rw [ite_bneB] | rw [ite_bneI] | rw [if_neg q1] | rw [if_neg q2] | rw [if_pos rfl] | rw [laws_FnExactLoneGears.j0] | rw [laws_FnExactLoneGears.j1] | rw [laws_FnExactLoneGears.j2])

end Go.Proofs.Ytlkiakpipcnijaa.Pure
