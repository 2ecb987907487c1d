/- For all arguments the program's WithoutCogs answers as the reference's does (the plain law, over the printed functions). Conditions: none. -/
import Derived.Test.YtlkiakpipcnijaaG20
set_option linter.unusedVariables false
set_option linter.unusedSimpArgs false
namespace Go.Proofs.Ytlkiakpipcnijaa.Pure
open Go.RowKit Go.Proofs.Ytlkiakpipcnijaa.PAll Go.Proofs.YtlkiakpipcnijaaW.PrintWords Go.Proofs.YtlkiakpipcnijaaW.PrintLast Go.Proofs.YtlkiakpipcnijaaW.PrintMore

theorem a3 {x : Int} (h0 : -9223372036854775808 ≤ x) (h1 : x < 9223372036854775808) : wrap64 x = x := by unfold wrap64; omega
theorem a2 {i n : Nat} (h : i < n) (hn : n ≤ 4611686018427387904) : wrap64 ((i : Int) + 1) = ((i + 1 : Nat) : Int) := by unfold wrap64; omega
theorem ct : wrap64 (-1) = -1 := by decide +kernel
theorem cy : wrap64 0 = 0 := by decide +kernel
theorem cx : wrap64 1 = 1 := by decide +kernel
theorem cz : wrap64 2 = 2 := by decide +kernel
structure Hid (p : Prop) : Prop where
 out : p
theorem af {α : Type} {g : Nat → Option α} {r : α} (K : Nat) (h : ∀ k, K ≤ k → g (k + 1) = some r) : Ev g r := by
 refine ⟨K + 1, fun k hk => ?_⟩
 obtain ⟨m, rfl⟩ : ∃ m, k = m + 1 := ⟨k - 1, by omega⟩
 exact h m (by omega)
theorem a4 {α : Type} {g f : Nat → Option α} {r : α} (K : Nat) (hf : Ev f r) (h : ∀ k, K ≤ k → g (k + 1) = f k) : Ev g r := by
 obtain ⟨K', hf⟩ := hf
 refine ⟨K + K' + 1, fun k hk => ?_⟩
 obtain ⟨m, rfl⟩ : ∃ m, k = m + 1 := ⟨k - 1, by omega⟩
 rw [h m (by omega)]
 exact hf m (by omega)
theorem a7 {α : Type} {g : Nat → Option α} {r : α} (h : Ev g r) : ∃ K, ∀ k, K ≤ k → g k = some r := h
theorem cn {α : Type} {g : Nat → Option α} {r : α} (h : ∀ k, g k = some r) : Ev g r := ⟨0, fun k _ => h k⟩
theorem aI {α : Type} {g f : Nat → Option α} {r : α} (K : Nat) (hf : Ev f r) (h : ∀ k, K ≤ k → g k = f k) : Ev g r := by
 obtain ⟨K', hf⟩ := hf
 exact ⟨K + K', fun k hk => (h k (by omega)).trans (hf k (by omega))⟩
theorem bindE {α β : Type} {o : Option α} {v : α} {f : α → Option β} (h : o = some v) : o.bind f = f v := by rw [h]; rfl
theorem ck {β : Type} (x : Bool) (a b : β) : (if (x != x) = true then a else b) = b := by simp
theorem cf {β : Type} (x : Int) (a b : β) : (if (x != x) = true then a else b) = b := by simp
theorem ad {β : Type} (a b : β) : (if true = true then a else b) = a := rfl
theorem ae {α : Type} (l : List α) (z : α) {i : Nat} (h : i < l.length) : l.drop i = l.getD i z :: l.drop (i + 1) := by
 rw [List.drop_eq_getElem_cons h, List.getD_eq_getElem?_getD, List.getElem?_eq_getElem h]; rfl
theorem bE {α : Type} (l : List α) (v : α) {i : Nat} (h : i < l.length) : (l.set i v).take (i + 1) = l.take i ++ [v] := by
 rw [List.take_succ_eq_append_getElem (by simpa using h)]
 simp [List.take_set_of_le]
theorem cv {α : Type} (l : List α) (i : Nat) (z : α) : l.getD ((i : Int).toNat) z = l.getD i z := by rw [Int.toNat_natCast]

def conv (x : S84) : S71 := ⟨x.f0, x.f1⟩
theorem bZ (a : List S84) (hn : a.length ≤ 1048576) : ∀ (d i : Nat) (x : List S71), a.length - i = d → i ≤ a.length → x.length = a.length →
 Ev (fun k => laws_toCellS.l0 k a x (i : Int)) (x.take i ++ (a.drop i).map conv) := by
 intro d
 induction d with
 | zero =>
  intro i x hd hi hx
  obtain rfl : i = a.length := by omega
  refine af 0 fun k _ => ?_
  simp only [laws_toCellS.l0]
  rw [if_neg (by omega)]
  simp [← hx]
 | succ d ih =>
  intro i x hd hi hx
  have hlt : i < a.length := by omega
  refine a4 0 (f := fun k => laws_toCellS.l0 k a (x.set i (conv (a.getD i z84))) ((i + 1 : Nat) : Int)) ?_ fun k _ => ?_
  ·have h := ih (i + 1) (x.set i (conv (a.getD i z84))) (by omega) (by omega) (by simpa using hx)
   rwa [bE x _ (by omega), List.append_assoc, List.singleton_append, ← List.map_cons, ← ae a z84 hlt] at h
  ·simp only [laws_toCellS.l0]
   rw [if_pos (by omega), if_pos (by omega)]
   simp only [laws_toCell.f, Option.bind_some]
   rw [if_pos (by omega), a2 hlt (by omega), Int.toNat_natCast]
   simp only [rd_T84, Int.toNat_natCast]
   rfl
theorem bX (a : List S84) (hn : a.length ≤ 1048576) : Ev (fun k => laws_toCellS.f k a) (a.map conv) := by
 refine aI 0 (f := fun k => laws_toCellS.l0 k a (List.replicate a.length z71) ((0 : Nat) : Int)) ?_ fun k _ => ?_
 ·have h := bZ a hn a.length 0 (List.replicate a.length z71) (by omega) (by omega) (by simp)
  simpa using h
 ·simp only [laws_toCellS.f]
  rw [if_pos (by omega), if_pos (by omega)]
  simp

theorem bN (r c : Int) (a : List S84) (hn : a.length ≤ 1048576) : Ev (fun k => laws_toBoard.f k r c a) (r, c, a.map conv) := by
 obtain ⟨K, hK⟩ := a7 (bX a hn)
 refine ⟨K, fun k hk => ?_⟩
 simp only [laws_toBoard.f]
 rw [bindE (hK k hk)]

theorem bY (a : List S84) (left : Int) (h0 : 0 ≤ left) (h1 : left ≤ 1048576) (hn : a.length ≤ 9223372036854775807) :
 laws_szCellS.f a left = some (if (a.length : Int) ≤ left then left - a.length else -1) := by
 unfold laws_szCellS.f
 rw [a3 (by omega) (by omega)]
 by_cases h : (a.length : Int) ≤ left
 ·rw [if_neg (by omega), if_pos h]
 ·rw [if_pos (by omega), if_neg h]

theorem bV (r c : Int) (a : List S84) (left : Int) (h0 : 0 ≤ left) (h1 : left ≤ 1048576) (hn : a.length ≤ 9223372036854775807) :
 laws_szBoard.f r c a left = some (if (a.length : Int) ≤ left then left - a.length else -1) := by
 unfold laws_szBoard.f
 rw [bindE (bY a left h0 h1 hn)]
 by_cases h : (a.length : Int) ≤ left
 ·rw [if_pos h, if_neg (by omega)]
 ·rw [if_neg h, if_pos (by omega)]

theorem bW (a : List S71) (hn : a.length ≤ 1048576) : ∀ (d i : Nat), a.length - i = d → i ≤ a.length → Ev (fun k => laws_eqCellS.l0 k a a (i : Int)) true := by
 intro d
 induction d with
 | zero =>
  intro i hd hi
  refine af 0 fun k _ => ?_
  simp only [laws_eqCellS.l0]
  rw [if_neg (by omega)]
 | succ d ih =>
  intro i hd hi
  have hlt : i < a.length := by omega
  refine a4 0 (ih (i + 1) (by omega) (by omega)) fun k _ => ?_
  simp only [laws_eqCellS.l0]
  rw [if_pos (by omega), if_pos (by omega), if_pos (by omega), a2 hlt (by omega)]
  simp [laws_eqCell.f]
theorem bS (a : List S71) (hn : a.length ≤ 1048576) : Ev (fun k => laws_eqCellS.f k a a) true := by
 refine aI 0 (bW a hn a.length 0 (by omega) (by omega)) fun k _ => ?_
 simp only [laws_eqCellS.f, if_true]
 rfl

theorem bd (r c : Int) (a : List S71) (hn : a.length ≤ 1048576) : Ev (fun k => laws_eqBoard.f k r c a r c a) true := by
 obtain ⟨K, hK⟩ := a7 (bS a hn)
 refine ⟨K, fun k hk => ?_⟩
 simp only [laws_eqBoard.f]
 rw [if_pos trivial, if_pos trivial, bindE (hK k hk), ad]

def goodB (a b : Int) : Bool := decide ((0 ≤ a ∧ a ≤ 7) ∧ (b = 0 ∨ b = 1 ∧ (a = 3 ∨ a = 6)))
theorem cl {a b : Int} (h : goodB a b = true) : (a = 0 ∧ b = 0) ∨ (a = 1 ∧ b = 0) ∨ (a = 2 ∧ b = 0) ∨ (a = 3 ∧ b = 0) ∨ (a = 3 ∧ b = 1) ∨ (a = 4 ∧ b = 0) ∨ (a = 5 ∧ b = 0) ∨ (a = 6 ∧ b = 0) ∨ (a = 6 ∧ b = 1) ∨ (a = 7 ∧ b = 0) := by
 simp only [goodB, decide_eq_true_eq] at h
 obtain ⟨⟨h0, h7⟩, hb⟩ := h
 have ha : a = 0 ∨ a = 1 ∨ a = 2 ∨ a = 3 ∨ a = 4 ∨ a = 5 ∨ a = 6 ∨ a = 7 := by
  clear hb
  omega
 rcases ha with rfl | rfl | rfl | rfl | rfl | rfl | rfl | rfl <;> simp_all

theorem ak (l : List S71) (i : Nat) : rd_T71 l (i : Int) = l.getD i z71 := by rw [rd_T71, Int.toNat_natCast]
def goodC (x : S71) : Bool := goodB x.f0 x.f1

def sizeB (r c : Int) (n : Nat) : Bool := decide ((1 ≤ r ∧ r ≤ 10) ∧ (1 ≤ c ∧ c ≤ 9) ∧ (n : Int) = r * c)
def a6 (r c : Int) (l : List S71) : Bool := sizeB r c l.length && l.all goodC
theorem aU {r c : Int} (h1 : 1 ≤ r) (h2 : r ≤ 10) (h3 : 1 ≤ c) (h4 : c ≤ 9) : 1 ≤ r * c ∧ r * c ≤ 90 := by
 have hr : r = 1 ∨ r = 2 ∨ r = 3 ∨ r = 4 ∨ r = 5 ∨ r = 6 ∨ r = 7 ∨ r = 8 ∨ r = 9 ∨ r = 10 := by omega
 rcases hr with rfl | rfl | rfl | rfl | rfl | rfl | rfl | rfl | rfl | rfl <;> omega
structure Brd (r c : Int) (l : List S71) : Prop where
 r1 : 1 ≤ r
 r2 : r ≤ 10
 c1 : 1 ≤ c
 c2 : c ≤ 9
 len : (l.length : Int) = r * c
 all : l.all goodC = true
 le : l.length ≤ 90
 pos : 1 ≤ l.length
theorem cj {r c : Int} {l : List S71} (h : a6 r c l = true) : Brd r c l := by
 simp only [a6, sizeB, Bool.and_eq_true, decide_eq_true_eq] at h
 obtain ⟨⟨⟨h1, h2⟩, ⟨h3, h4⟩, h5⟩, h6⟩ := h
 have := aU h1 h2 h3 h4
 exact ⟨h1, h2, h3, h4, h5, h6, by omega, by omega⟩
theorem cA {r c : Int} {l : List S71} (h : Brd r c l) : a6 r c l = true := by
 simp only [a6, sizeB, Bool.and_eq_true, decide_eq_true_eq]
 exact ⟨⟨⟨h.r1, h.r2⟩, ⟨h.c1, h.c2⟩, h.len⟩, h.all⟩
theorem cp {r c i j : Int} (h0 : 0 ≤ i) (h1 : i < r) (h2 : 0 ≤ j) (h3 : j < c) : 0 ≤ i * c + j ∧ i * c + j < r * c := by
 have a : 0 ≤ i * c := Int.mul_nonneg h0 (by omega)
 have b : (i + 1) * c ≤ r * c := Int.mul_le_mul_of_nonneg_right (by omega) (by omega)
 rw [Int.add_mul, Int.one_mul] at b
 omega

theorem c8 (a b : Int) : impl_IsCell.f a b = some (goodB a b) := by
 unfold impl_IsCell.f goodB
 by_cases h0 : a < 0
 ·rw [if_pos h0]; simp; omega
 rw [if_neg h0]
 by_cases h1 : a > 7
 ·rw [if_pos h1]; simp; omega
 rw [if_neg h1]
 by_cases h2 : b < 0
 ·rw [if_pos h2]; simp; omega
 rw [if_neg h2]
 by_cases h3 : b > 1
 ·rw [if_pos h3]; simp; omega
 rw [if_neg h3]
 by_cases h4 : b = 0
 ·rw [if_pos h4]; simp; omega
 rw [if_neg h4]
 by_cases h5 : a = 3
 ·rw [if_pos h5]; simp; omega
 rw [if_neg h5]
 by_cases h6 : a = 6
 ·simp [h6]; omega
 ·simp [h5, h6, h4]

theorem ba (x : S71) : impl_IsCell.f x.f0 x.f1 = some (goodC x) := c8 _ _
theorem bi (a : List S71) (hn : a.length ≤ 1048576) : ∀ (d i : Nat), a.length - i = d → i ≤ a.length →
 Ev (fun k => impl_validCells.l0 k a (a.length : Int) (i : Int)) ((a.drop i).all goodC) := by
 intro d
 induction d with
 | zero =>
  intro i hd hi
  refine af 0 fun k _ => ?_
  simp only [impl_validCells.l0]
  rw [if_neg (by omega), List.drop_of_length_le (by omega)]
  simp
 | succ d ih =>
  intro i hd hi
  have hlt : i < a.length := by omega
  have h := ih (i + 1) (by omega) (by omega)
  rw [ae a z71 hlt, List.all_cons]
  by_cases hg : goodC (a.getD i z71) = true
  ·rw [hg, Bool.true_and]
   refine a4 0 h fun k _ => ?_
   simp only [impl_validCells.l0, rd_T71, Int.toNat_natCast, ba, Option.bind_some]
   rw [if_pos (by omega), if_pos (by omega), if_pos (by omega), if_pos hg, a2 hlt (by omega)]
  ·rw [Bool.eq_false_iff.2 hg, Bool.false_and]
   refine af 0 fun k _ => ?_
   simp only [impl_validCells.l0, rd_T71, Int.toNat_natCast, ba, Option.bind_some]
   rw [if_pos (by omega), if_pos (by omega), if_pos (by omega), if_neg hg]
theorem bk (a : List S71) (hn : a.length ≤ 1048576) : Ev (fun k => impl_validCells.f k a) (a.all goodC && decide (a.length ≤ 90)) := by
 by_cases h : a.length ≤ 90
 ·rw [decide_eq_true h, Bool.and_true]
  refine aI 0 (bi a hn a.length 0 (by omega) (by omega)) fun k _ => ?_
  simp only [impl_validCells.f]
  rw [if_neg (by omega)]
  rfl
 ·rw [decide_eq_false h, Bool.and_false]
  refine cn fun k => ?_
  simp only [impl_validCells.f]
  rw [if_pos (by omega)]

theorem bO (r c : Int) (l : List S71) (hn : l.length ≤ 1048576) : Ev (fun k => impl_IsBoard.f k r c l) (a6 r c l) := by
 obtain ⟨K, hK⟩ := a7 (bk l hn)
 refine ⟨K, fun k hk => ?_⟩
 simp only [impl_IsBoard.f]
 by_cases h1 : r ≥ 1
 ·rw [if_pos h1]
  by_cases h2 : r ≤ 10
  ·rw [if_pos h2]
   by_cases h3 : c ≥ 1
   ·rw [if_pos h3]
    by_cases h4 : c ≤ 9
    ·have hm := aU h1 h2 h3 h4
     rw [if_pos h4, a3 (by omega) (by omega)]
     by_cases h5 : (l.length : Int) = r * c
     ·rw [if_pos h5, bindE (hK k hk)]
      have h6 : l.length ≤ 90 := by omega
      have h7 : 1 ≤ r := h1
      have h8 : 1 ≤ c := h3
      simp [a6, sizeB, h7, h2, h8, h4, h5, h6]
     ·rw [if_neg h5]
      simp [a6, sizeB, h5]
    ·rw [if_neg h4]
     simp [a6, sizeB, h4]
   ·rw [if_neg h3]
    have h3' : ¬ 1 ≤ c := h3
    simp [a6, sizeB, h3']
  ·rw [if_neg h2]
   simp [a6, sizeB, h2]
 ·rw [if_neg h1]
  have h1' : ¬ 1 ≤ r := h1
  simp [a6, sizeB, h1']

theorem c5 (a lo hi : Int) : spec_l1In.f a lo hi = some (decide (lo ≤ a ∧ a ≤ hi)) := by
 unfold spec_l1In.f
 by_cases h : a ≥ lo
 ·rw [if_pos h]
  simp [show lo ≤ a from h]
 ·rw [if_neg h]
  simp [show ¬ lo ≤ a from h]

def turnB (a : Int) : Bool := decide (a = 3 ∨ a = 6)
theorem bt (a b : Int) : spec_paTurning.f a b = some (turnB a) := by
 unfold spec_paTurning.f turnB
 by_cases h : a = 3
 ·simp [h]
 ·rw [if_neg h]
  by_cases h6 : a = 6 <;> simp [h, h6]

theorem cb (a b : Int) : spec_paGood.f a b = some (goodB a b) := by
 unfold spec_paGood.f
 rw [c5, Option.bind_some]
 by_cases h : 0 ≤ a ∧ a ≤ 7
 ·rw [decide_eq_true h, if_pos rfl]
  by_cases h0 : b = 0
  ·rw [if_pos h0]
   simp [goodB, h, h0]
  ·rw [if_neg h0]
   by_cases h1 : b = 1
   ·rw [if_pos h1, bt, Option.bind_some]
    simp [goodB, turnB, h, h1]
   ·rw [if_neg h1]
    simp [goodB, h0, h1]
 ·rw [decide_eq_false h, if_neg (by simp)]
  simp [goodB, h]

theorem bf (x : S71) : spec_paGood.f x.f0 x.f1 = some (goodC x) := cb _ _
theorem cc (a : List S71) (hn : a.length ≤ 1048576) : ∀ (d i : Nat), a.length - i = d → i ≤ a.length →
 Ev (fun k => spec_boGood.l0 k a (a.length : Int) (i : Int)) ((a.drop i).all goodC) := by
 intro d
 induction d with
 | zero =>
  intro i hd hi
  refine af 0 fun k _ => ?_
  simp only [spec_boGood.l0]
  rw [if_neg (by omega), List.drop_of_length_le (by omega)]
  simp
 | succ d ih =>
  intro i hd hi
  have hlt : i < a.length := by omega
  have h := ih (i + 1) (by omega) (by omega)
  rw [ae a z71 hlt, List.all_cons]
  by_cases hg : goodC (a.getD i z71) = true
  ·rw [hg, Bool.true_and]
   refine a4 0 h fun k _ => ?_
   simp only [spec_boGood.l0, rd_T71, Int.toNat_natCast, bf, Option.bind_some]
   rw [if_pos (by omega), if_pos (by omega), if_pos (by omega), if_pos hg, a2 hlt (by omega)]
  ·rw [Bool.eq_false_iff.2 hg, Bool.false_and]
   refine af 0 fun k _ => ?_
   simp only [spec_boGood.l0, rd_T71, Int.toNat_natCast, bf, Option.bind_some]
   rw [if_pos (by omega), if_pos (by omega), if_pos (by omega), if_neg hg]
theorem cd (r c : Int) (l : List S71) (hn : l.length ≤ 1048576) : Ev (fun k => spec_boGood.f k r c l) (a6 r c l) := by
 obtain ⟨K, hK⟩ := a7 (cc l hn l.length 0 (by omega) (by omega))
 refine ⟨K + 1, fun k hk => ?_⟩
 obtain ⟨k, rfl⟩ : ∃ m, k = m + 1 := ⟨k - 1, by omega⟩
 have hK' := hK k (by omega)
 simp only [spec_boGood.f, c5, Option.bind_some, spec_boGood.j0, ad]
 by_cases h1 : 1 ≤ r ∧ r ≤ 10
 ·rw [decide_eq_true h1, ad]
  by_cases h2 : 1 ≤ c ∧ c ≤ 9
  ·rw [decide_eq_true h2, ad]
   have hm := aU h1.1 h1.2 h2.1 h2.2
   rw [a3 (by omega) (by omega)]
   by_cases h5 : (l.length : Int) = r * c
   ·have h6 : ((l.length : Int) != r * c) = false := by simp [h5]
    rw [h6, if_neg (by simp)]
    refine hK'.trans ?_
    simp [a6, sizeB, h1, h2, h5]
   ·have h6 : ((l.length : Int) != r * c) = true := by simp [h5]
    rw [h6, ad]
    simp [a6, sizeB, h5]
  ·rw [decide_eq_false h2, if_neg (by simp)]
   simp [a6, sizeB, h2]
 ·rw [decide_eq_false h1, if_neg (by simp)]
  simp [a6, sizeB, h1]



theorem cs {i j C : Nat} (h : i * C + j ≤ 1000000) : wrap64 (wrap64 ((i : Int) * (C : Int)) + (j : Int)) = ((i * C + j : Nat) : Int) := by
 rw [show (i : Int) * (C : Int) = ((i * C : Nat) : Int) by simp]
 generalize i * C = n at h ⊢
 rw [a3 (x := (n : Int)) (by omega) (by omega), a3 (x := (n : Int) + (j : Int)) (by omega) (by omega)]
 omega
theorem cr {i j C : Nat} (hj : j < C) (h : i * C + C ≤ 1000000) : wrap64 (wrap64 (wrap64 (wrap64 ((i : Int) * (C : Int)) + (C : Int)) - 1) - (j : Int)) = ((i * C + (C - 1 - j) : Nat) : Int) := by
 rw [show (i : Int) * (C : Int) = ((i * C : Nat) : Int) by simp]
 generalize i * C = n at h ⊢
 rw [a3 (x := (n : Int)) (by omega) (by omega), a3 (x := (n : Int) + (C : Int)) (by omega) (by omega), a3 (x := (n : Int) + (C : Int) - 1) (by omega) (by omega), a3 (x := (n : Int) + (C : Int) - 1 - (j : Int)) (by omega) (by omega)]
 omega
theorem cg {R C i j : Nat} (hi : i < R) (hj : j < C) : i * C + j < R * C := by
 have h : (i + 1) * C ≤ R * C := Nat.mul_le_mul_right C hi
 rw [Nat.succ_mul] at h
 omega
theorem cu {C i j : Nat} (hj : j < C) : (i * C + j) / C = i := by
 rw [Nat.add_comm, Nat.mul_comm, Nat.add_mul_div_left _ _ (by omega), Nat.div_eq_of_lt hj, Nat.zero_add]
theorem cw {C i j : Nat} (hj : j < C) : (i * C + j) % C = j := by
 rw [Nat.add_comm, Nat.mul_comm, Nat.add_mul_mod_self_left, Nat.mod_eq_of_lt hj]
theorem c3 {r c : Int} {l : List S71} (b : Brd r c l) : ∃ R C : Nat, r = R ∧ c = C ∧ l.length = R * C ∧ 1 ≤ R ∧ R ≤ 10 ∧ 1 ≤ C ∧ C ≤ 9 := by
 have h1 := b.r1; have h2 := b.r2; have h3 := b.c1; have h4 := b.c2; have h5 := b.len
 obtain ⟨R, rfl⟩ : ∃ R : Nat, r = R := ⟨r.toNat, by omega⟩
 obtain ⟨C, rfl⟩ : ∃ C : Nat, c = C := ⟨c.toNat, by omega⟩
 refine ⟨R, C, rfl, rfl, ?_, by omega, by omega, by omega, by omega⟩
 have : ((l.length : Nat) : Int) = ((R * C : Nat) : Int) := by rw [h5]; simp
 exact Int.ofNat.inj this

def near (R C a : Nat) : List Nat :=
 (if a / C > 0 then [a - C] else []) ++ ((if a % C > 0 then [a - 1] else []) ++ ((if a % C + 1 < C then [a + 1] else []) ++ (if a / C + 1 < R then [a + C] else [])))
theorem bp {R C a : Nat} (hC : 1 ≤ C) (ha : a < R * C) : ∀ n ∈ near R C a, n < R * C := by
 intro n hn
 have hd := Nat.div_add_mod a C
 have hm := Nat.mod_lt a (show C > 0 by omega)
 rw [Nat.mul_comm] at hd
 have hr : a / C < R := by
  apply Nat.div_lt_of_lt_mul
  rwa [Nat.mul_comm]
 simp only [near, List.mem_append] at hn
 rcases hn with h | h | h | h
 ·split at h
  ·simp at h; omega
  ·simp at h
 ·split at h
  ·simp at h; omega
  ·simp at h
 ·split at h
  ·rename_i h1
   simp at h
   have := cg (R := R) hr h1
   omega
  ·simp at h
 ·split at h
  ·rename_i h1
   simp at h
   have := cg (R := R) h1 hm
   rw [Nat.succ_mul] at this
   omega
  ·simp at h
theorem aY (R C a : Nat) : (near R C a).length ≤ 4 := by
 unfold near
 split <;> split <;> split <;> split <;> simp
def castL (l : List Nat) : List Int := l.map fun n : Nat => ((n : Nat) : Int)
theorem a5 (l : List Nat) : (castL l).length = l.length := by simp [castL]
theorem aO (a b : List Nat) : castL (a ++ b) = castL a ++ castL b := by simp [castL]
theorem aH (l : List Nat) {j : Nat} (h : j < l.length) : rd (castL l) (j : Int) = ((l.getD j 0 : Nat) : Int) := by
 simp [rd, castL, List.getD_eq_getElem?_getD, h]
theorem cm (l : List Nat) (j : Nat) : (castL l).drop j = castL (l.drop j) := by simp [castL]

def gearB (x : S71) : Bool := decide (x.f0 = 6 ∨ x.f0 = 7)
def neg (out : List Int) : Nat := out.countP fun x => decide (x < 0)
theorem aR {out : List Int} {n : Nat} (h : n < out.length) (hn : out.getD n 0 < 0) {c : Int} (hc : 0 ≤ c) : neg (out.set n c) + 1 = neg out := by
 unfold neg
 rw [List.countP_set h]
 rw [List.getD_eq_getElem?_getD, List.getElem?_eq_getElem h] at hn
 have hn' : out[n] < 0 := hn
 have hp : 0 < out.countP (fun x => decide (x < 0)) := List.countP_pos_iff.2 ⟨out[n], List.getElem_mem h, by simp [hn']⟩
 rw [if_pos (by simp [hn']), if_neg (by simp; omega)]
 omega
def push (l : List S71) (c : Int) : List Int → List Nat → List Int × List Nat
 | out, [] => (out, [])
 | out, n :: ns => if (gearB (l.getD n z71) && decide (out.getD n 0 < 0)) = true then ((push l c (out.set n c) ns).1, n :: (push l c (out.set n c) ns).2) else push l c out ns
theorem aq (l : List S71) (c : Int) : ∀ (ns : List Nat) (out : List Int), (push l c out ns).1.length = out.length
 | [], _ => rfl
 | n :: ns, out => by
  unfold push
  split
  ·simp [aq l c ns]
  ·exact aq l c ns out
theorem aN (l : List S71) {c : Int} (hc : 0 ≤ c) : ∀ (ns : List Nat) (out : List Int), (∀ n ∈ ns, n < out.length) → neg (push l c out ns).1 + (push l c out ns).2.length = neg out
 | [], _, _ => rfl
 | n :: ns, out, h => by
  unfold push
  split
  ·rename_i hg
   simp only [Bool.and_eq_true, decide_eq_true_eq] at hg
   have h1 := aN l hc ns (out.set n c) (fun m hm => by rw [List.length_set]; exact h m (List.mem_cons_of_mem _ hm))
   have h2 := aR (h n List.mem_cons_self) hg.2 hc
   simp only [List.length_cons]
   omega
  ·exact aN l hc ns out fun m hm => h m (List.mem_cons_of_mem _ hm)
theorem aE (l : List S71) (c : Int) : ∀ (ns : List Nat) (out : List Int), ∀ m ∈ (push l c out ns).2, m ∈ ns
 | [], _, m, hm => by simp [push] at hm
 | n :: ns, out, m, hm => by
  unfold push at hm
  split at hm
  ·rcases List.mem_cons.1 hm with rfl | h
   ·exact List.mem_cons_self
   ·exact List.mem_cons_of_mem _ (aE l c ns _ m h)
  ·exact List.mem_cons_of_mem _ (aE l c ns _ m hm)
def bfs (l : List S71) (R C : Nat) (c : Int) : Nat → List Int → List Nat → List Int
 | 0, out, _ => out
 | _ + 1, out, [] => out
 | f + 1, out, a :: q => bfs l R C c f (push l c out (near R C a)).1 (q ++ (push l c out (near R C a)).2)
theorem aB (l : List S71) (R C : Nat) (c : Int) : ∀ (f : Nat) (out : List Int) (q : List Nat), (bfs l R C c f out q).length = out.length
 | 0, _, _ => rfl
 | _ + 1, _, [] => rfl
 | f + 1, out, a :: q => by rw [bfs, aB l R C c f, aq]
def a8 (l : List S71) (R C : Nat) : Nat → Nat → List Int → Int → List Int
 | 0, _, out, _ => out
 | d + 1, i, out, c => if (gearB (l.getD i z71) && decide (out.getD i 0 < 0)) = true then a8 l R C d (i + 1) (bfs l R C c (l.length + 1) (out.set i c) [i]) (c + 1) else a8 l R C d (i + 1) out c
def a1 (l : List S71) (R C : Nat) : List Int := a8 l R C l.length 0 (List.replicate l.length (-1)) 0
theorem an (l : List S71) (R C : Nat) : ∀ (d i : Nat) (out : List Int) (c : Int), (a8 l R C d i out c).length = out.length
 | 0, _, _, _ => rfl
 | d + 1, i, out, c => by
  unfold a8
  split
  ·rw [an l R C d, aB, List.length_set]
  ·exact an l R C d _ _ _
theorem ab (l : List S71) (R C : Nat) : (a1 l R C).length = l.length := by
 rw [a1, an, List.length_replicate]
theorem ch (out : List Int) : neg out ≤ out.length := List.countP_le_length
theorem aj (out : List Int) (n : Nat) : rd out (n : Int) = out.getD n 0 := by rw [rd, Int.toNat_natCast]

theorem bK (R C a : Nat) (l : List S71) (hR : R ≤ 10) (hC1 : 1 ≤ C) (hC : C ≤ 9) (ha : a < R * C) (h90 : R * C ≤ 90) : Ev (fun k => impl_besideOf.f k (R : Int) (C : Int) l (a : Int)) (castL (near R C a)) := by
 have hm := Nat.mod_lt a (show C > 0 by omega)
 have hr : a / C < R := by
  apply Nat.div_lt_of_lt_mul
  rwa [Nat.mul_comm]
 have e1 : Int.tdiv (a : Int) (C : Int) = ((a / C : Nat) : Int) := rfl
 have e2 : Int.tmod (a : Int) (C : Int) = ((a % C : Nat) : Int) := rfl
 have hsub : a / C > 0 → C ≤ a := fun h => by
  have hd := Nat.div_add_mod a C
  have : C * 1 ≤ C * (a / C) := Nat.mul_le_mul_left C h
  omega
 refine ⟨2, fun k hk => ?_⟩
 obtain ⟨k, rfl⟩ : ∃ m, k = m + 1 + 1 := ⟨k - 2, by omega⟩
 simp only [impl_besideOf.f, Option.bind_some]
 rw [e1, e2]
 clear e1 e2
 have hpa : a % C > 0 → 1 ≤ a := fun h => by
  have := Nat.mod_le a C
  omega
 unfold near
 generalize a / C = q at *
 generalize a % C = p at *
 rw [if_neg (by omega), a3 (x := (q : Int)) (by omega) (by omega)]
 have j1 : ∀ (x : List Int), x.length ≤ 2 → impl_besideOf.j1 (k + 1) (a : Int) x (q : Int) (p : Int) (R : Int) (C : Int) l = some (x ++ castL ((if p + 1 < C then [a + 1] else []) ++ (if q + 1 < R then [a + C] else []))) := by
  intro x hx
  simp only [impl_besideOf.j1]
  rw [a3 (x := (p : Int) + 1) (by omega) (by omega), a3 (x := (q : Int) + 1) (by omega) (by omega), a3 (x := (a : Int) + 1) (by omega) (by omega), a3 (x := (a : Int) + (C : Int)) (by omega) (by omega)]
  by_cases h1 : p + 1 < C
  ·rw [if_pos (by omega), if_pos (by omega), if_pos h1, Option.bind_some]
   by_cases h2 : q + 1 < R
   ·rw [if_pos (by omega), if_pos h2, if_pos (by simp; omega)]
    simp [castL]
   ·rw [if_neg (by omega), if_neg h2]
    simp [castL]
  ·rw [if_neg (by omega), if_neg h1]
   by_cases h2 : q + 1 < R
   ·rw [if_pos (by omega), if_pos h2, if_pos (by omega)]
    simp [castL]
   ·rw [if_neg (by omega), if_neg h2]
    simp [castL]
 have j0 : ∀ (x : List Int), x.length ≤ 1 → impl_besideOf.j0 (k + 1 + 1) (a : Int) x (q : Int) (p : Int) (R : Int) (C : Int) l = some (x ++ castL ((if p > 0 then [a - 1] else []) ++ ((if p + 1 < C then [a + 1] else []) ++ (if q + 1 < R then [a + C] else [])))) := by
  intro x hx
  simp only [impl_besideOf.j0]
  by_cases h1 : p > 0
  ·rw [if_pos (by omega), if_pos (by omega), if_pos h1, j1 _ (by simp; omega), a3 (x := (a : Int) - 1) (by omega) (by omega)]
   have : ((a : Int) - 1) = ((a - 1 : Nat) : Int) := by have := hpa h1; omega
   rw [this]
   simp [castL]
  ·rw [if_neg (by omega), if_neg h1, j1 _ (by omega)]
   simp [castL]
 by_cases h0 : q > 0
 ·have := hsub h0
  rw [if_pos (by omega), if_pos (by simp), if_pos h0, j0 _ (by simp), a3 (x := (a : Int) - (C : Int)) (by omega) (by omega), show (a : Int) - (C : Int) = ((a - C : Nat) : Int) by omega]
  simp [castL]
 ·rw [if_neg (by omega), if_neg h0, j0 _ (by simp)]
  simp [castL]

theorem aP {α : Type} (T l : List α) (z : α) {n : Nat} (h : n < T.length) (hl : T.length = l.length) : (T.take n ++ l.drop n).set n (T.getD n z) = T.take (n + 1) ++ l.drop (n + 1) := by
 have e1 : (T.take n).length = n := by simp; omega
 rw [List.set_append_right _ _ (by omega), e1, Nat.sub_self, ae l z (by omega), List.set_cons_zero]
 rw [List.take_succ_eq_append_getElem h, List.append_assoc, List.getD_eq_getElem?_getD, List.getElem?_eq_getElem h]
 rfl
theorem ce {α : Type} (T : List α) (z : α) {n : Nat} (h : n < T.length) : T.take n ++ [T.getD n z] = T.take (n + 1) := by
 rw [List.take_succ_eq_append_getElem h, List.getD_eq_getElem?_getD, List.getElem?_eq_getElem h]
 rfl
theorem aw {α : Type} (f : Nat → α) (z : α) {n m : Nat} (h : n < m) : ((List.range m).map f).getD n z = f n := by
 rw [List.getD_eq_getElem?_getD, List.getElem?_eq_getElem (by simpa using h)]
 simp

theorem aZ (x : S71) : impl_isGeared.f x.f0 x.f1 = some (gearB x) := by
 unfold impl_isGeared.f gearB
 by_cases h : x.f0 = 6
 ·simp [h]
 ·rw [if_neg h]
  by_cases h7 : x.f0 = 7 <;> simp [h, h7]
theorem b2 (l : List S71) (R C : Nat) (c : Int) (hc : 0 ≤ c) (i : Nat) (ns : List Nat) (hns : ∀ n ∈ ns, n < l.length) (h90 : l.length ≤ 90) (hns4 : ns.length ≤ 4) (res : List Int) :
 ∀ (d j : Nat) (out : List Int) (q : List Nat), ns.length - j = d → j ≤ ns.length → out.length = l.length → q.length + neg out ≤ l.length →
 Ev (fun k => impl_groupNumbers.l2 k (push l c out (ns.drop j)).1 c (castL (q ++ (push l c out (ns.drop j)).2)) l (l.length : Int) (i : Int) (R : Int) (C : Int) l) res →
 Ev (fun k => impl_groupNumbers.l3 k out c (castL q) l (l.length : Int) (i : Int) (castL ns) (ns.length : Int) (j : Int) (R : Int) (C : Int) l) res := by
 intro d
 induction d with
 | zero =>
  intro j out q hd hj ho hq hnext
  rw [List.drop_of_length_le (by omega)] at hnext
  simp only [push, List.append_nil] at hnext
  refine a4 0 hnext fun k _ => ?_
  simp only [impl_groupNumbers.l3]
  rw [if_neg (by omega)]
 | succ d ih =>
  intro j out q hd hj ho hq hnext
  have hlt : j < ns.length := by omega
  have hn : ns.getD j 0 < l.length := by
   rw [List.getD_eq_getElem?_getD, List.getElem?_eq_getElem hlt]
   exact hns _ (List.getElem_mem hlt)
  rw [ae ns 0 hlt] at hnext
  have hg := aZ (l.getD (ns.getD j 0) z71)
  by_cases h : (gearB (l.getD (ns.getD j 0) z71) && decide (out.getD (ns.getD j 0) 0 < 0)) = true
  ·simp only [push, if_pos h] at hnext
   simp only [Bool.and_eq_true, decide_eq_true_eq] at h
   have hneg := aR (by omega) h.2 hc
   have h2 := ih (j + 1) (out.set (ns.getD j 0) c) (q ++ [ns.getD j 0]) (by omega) (by omega) (by simpa using ho) (by simp only [List.length_append, List.length_singleton]; omega) (by simpa [List.append_assoc] using hnext)
   refine a4 0 h2 fun k _ => ?_
   simp only [impl_groupNumbers.l3]
   rw [if_pos (by omega), if_pos (by omega), if_pos (by rw [a5]; omega), aH ns hlt, if_pos (by omega), if_pos (by omega), ak, bindE hg, if_pos h.1, if_pos (by omega), aj, if_pos h.2, if_pos (by rw [a5]; omega), a2 hlt (by omega), Int.toNat_natCast, aO]
   rfl
  ·simp only [push, if_neg h] at hnext
   have h2 := ih (j + 1) out q (by omega) (by omega) ho hq hnext
   refine a4 0 h2 fun k _ => ?_
   simp only [impl_groupNumbers.l3]
   rw [if_pos (by omega), if_pos (by omega), if_pos (by rw [a5]; omega), aH ns hlt, if_pos (by omega), if_pos (by omega), ak, bindE hg, a2 hlt (by omega)]
   by_cases h1 : gearB (l.getD (ns.getD j 0) z71) = true
   ·rw [if_pos h1, if_pos (by omega), aj, if_neg (fun h3 => h (by simp only [Bool.and_eq_true, decide_eq_true_eq]; exact ⟨h1, h3⟩))]
   ·rw [if_neg h1]
theorem b4 (l : List S71) (R C : Nat) (hlen : l.length = R * C) (hR : R ≤ 10) (hC1 : 1 ≤ C) (hC : C ≤ 9) (h90 : l.length ≤ 90) (c : Int) (hc : 0 ≤ c) (i : Nat) (hi : i < l.length) (hci : c ≤ i) (res : List Int) :
 ∀ (f : Nat) (out : List Int) (q : List Nat), (∀ n ∈ q, n < l.length) → out.length = l.length → q.length + neg out ≤ l.length → q.length + neg out < f →
 Ev (fun k => impl_groupNumbers.l1 k (bfs l R C c f out q) (c + 1) l (l.length : Int) ((i + 1 : Nat) : Int) (R : Int) (C : Int) l) res →
 Ev (fun k => impl_groupNumbers.l2 k out c (castL q) l (l.length : Int) (i : Int) (R : Int) (C : Int) l) res := by
 intro f
 induction f with
 | zero => intro out q _ _ _ h; omega
 | succ f ih =>
  intro out q hq ho hm hf hnext
  cases q with
  | nil =>
   rw [bfs] at hnext
   refine a4 0 hnext fun k _ => ?_
   simp only [impl_groupNumbers.l2]
   rw [if_neg (by simp [castL]), a2 hi (by omega), a3 (x := c + 1) (by omega) (by omega)]
  | cons a q =>
   have ha : a < l.length := hq a List.mem_cons_self
   have hnl : ∀ n ∈ near R C a, n < l.length := fun n hn => by
    have := bp hC1 (by omega) n hn
    omega
   rw [bfs] at hnext
   have hp := aN l hc (near R C a) out (fun n hn => by rw [ho]; exact hnl n hn)
   simp only [List.length_cons] at hm hf
   have h2 := ih (push l c out (near R C a)).1 (q ++ (push l c out (near R C a)).2) (fun n hn => by
    rcases List.mem_append.1 hn with h | h
    ·exact hq n (List.mem_cons_of_mem _ h)
    ·exact hnl n (aE l c _ out n h)) (by rw [aq]; exact ho) (by rw [List.length_append]; omega) (by rw [List.length_append]; omega) hnext
   have h3 := b2 l R C c hc i (near R C a) hnl h90 (aY R C a) res (near R C a).length 0 out q (by omega) (by omega) ho (by omega) h2
   obtain ⟨K, hK⟩ := a7 (bK R C a l hR hC1 hC (by omega) (by omega))
   refine a4 K h3 fun k hk => ?_
   simp only [impl_groupNumbers.l2]
   rw [if_pos (by rw [a5, List.length_cons]; omega), if_pos (by rw [a5, List.length_cons]; omega), if_pos (by rw [a5, List.length_cons]; omega), show rd (castL (a :: q)) 0 = (a : Int) from rfl, bindE (hK k hk), a5]
   rfl
theorem b0 (l : List S71) (R C : Nat) (hlen : l.length = R * C) (hR : R ≤ 10) (hC1 : 1 ≤ C) (hC : C ≤ 9) (h90 : l.length ≤ 90) :
 ∀ (d i : Nat) (out : List Int) (c : Int), l.length - i = d → i ≤ l.length → out.length = l.length → 0 ≤ c → c ≤ i →
 Ev (fun k => impl_groupNumbers.l1 k out c l (l.length : Int) (i : Int) (R : Int) (C : Int) l) (a8 l R C d i out c) := by
 intro d
 induction d with
 | zero =>
  intro i out c hd hi ho h0 hc
  refine af 0 fun k _ => ?_
  simp only [impl_groupNumbers.l1]
  rw [if_neg (by omega)]
  rfl
 | succ d ih =>
  intro i out c hd hi ho h0 hc
  have hlt : i < l.length := by omega
  have hg := aZ (l.getD i z71)
  rw [a8]
  by_cases h : (gearB (l.getD i z71) && decide (out.getD i 0 < 0)) = true
  ·rw [if_pos h]
   simp only [Bool.and_eq_true, decide_eq_true_eq] at h
   have hneg := aR (by omega) h.2 h0
   have hle := ch out
   have h1 := ih (i + 1) (bfs l R C c (l.length + 1) (out.set i c) [i]) (c + 1) (by omega) (by omega) (by rw [aB, List.length_set]; exact ho) (by omega) (by omega)
   have h2 := b4 l R C hlen hR hC1 hC h90 c h0 i hlt hc _ (l.length + 1) (out.set i c) [i] (fun n hn => by simp at hn; omega) (by simpa using ho) (by simp only [List.length_singleton]; omega) (by simp only [List.length_singleton]; omega) h1
   obtain ⟨K, hK⟩ := a7 h2
   refine ⟨K + 2, fun k hk => ?_⟩
   obtain ⟨k, rfl⟩ : ∃ m, k = m + 1 + 1 := ⟨k - 2, by omega⟩
   simp only [impl_groupNumbers.l1]
   rw [if_pos (by omega), if_pos (by omega), if_pos (by omega), ak, bindE hg, if_pos h.1, if_pos (by omega), aj, decide_eq_false (by omega)]
   simp only [impl_groupNumbers.j2]
   rw [if_neg (by simp), if_pos (by omega), if_pos (by omega), Int.toNat_natCast]
   exact hK k (by omega)
  ·rw [if_neg h]
   obtain ⟨K, hK⟩ := a7 (ih (i + 1) out c (by omega) (by omega) ho h0 (by omega))
   refine ⟨K + 2, fun k hk => ?_⟩
   obtain ⟨k, rfl⟩ : ∃ m, k = m + 1 + 1 := ⟨k - 2, by omega⟩
   simp only [impl_groupNumbers.l1]
   rw [if_pos (by omega), if_pos (by omega), if_pos (by omega), ak, bindE hg]
   have e : impl_groupNumbers.j2 (k + 1) out c (i : Int) l (l.length : Int) (i : Int) true (R : Int) (C : Int) l = some (a8 l R C d (i + 1) out c) := by
    simp only [impl_groupNumbers.j2]
    rw [if_pos trivial, a2 hlt (by omega)]
    exact hK k (by omega)
   by_cases h1 : gearB (l.getD i z71) = true
   ·have h2 : ¬ out.getD i 0 < 0 := fun h3 => h (by simp only [Bool.and_eq_true, decide_eq_true_eq]; exact ⟨h1, h3⟩)
    rw [if_pos h1, if_pos (by omega), aj, decide_eq_true (show out.getD i 0 ≥ 0 by omega), e]
   ·rw [if_neg h1, e]
theorem b3 (l : List S71) (R C : Nat) (h90 : l.length ≤ 90) (res : List Int) (hnext : Ev (fun k => impl_groupNumbers.l1 k (List.replicate l.length (-1)) 0 l (l.length : Int) 0 (R : Int) (C : Int) l) res) :
 ∀ (d i : Nat), l.length - i = d → i ≤ l.length →
 Ev (fun k => impl_groupNumbers.l0 k ((List.replicate l.length (-1)).take i ++ (List.replicate l.length (0 : Int)).drop i) (l.length : Int) (i : Int) (R : Int) (C : Int) l) res := by
 intro d
 induction d with
 | zero =>
  intro i hd hi
  obtain rfl : i = l.length := by omega
  refine a4 0 hnext fun k _ => ?_
  simp only [impl_groupNumbers.l0]
  rw [if_neg (by omega), List.take_of_length_le (by simp), List.drop_of_length_le (by simp), List.append_nil]
 | succ d ih =>
  intro i hd hi
  have hlt : i < l.length := by omega
  have hm := aP (List.replicate l.length (-1 : Int)) (List.replicate l.length (0 : Int)) (-1) (n := i) (by simpa using hlt) (by simp)
  rw [show (List.replicate l.length (-1 : Int)).getD i (-1) = -1 by simp [List.getD_eq_getElem?_getD, hlt]] at hm
  refine a4 0 (ih (i + 1) (by omega) (by omega)) fun k _ => ?_
  simp only [impl_groupNumbers.l0]
  rw [if_pos (by omega), if_pos (by omega), if_pos (by simp; omega), Int.toNat_natCast, hm, a2 hlt (by omega)]
theorem b1 (l : List S71) (R C : Nat) (hlen : l.length = R * C) (hR : R ≤ 10) (hC1 : 1 ≤ C) (hC : C ≤ 9) (h90 : l.length ≤ 90) : Ev (fun k => impl_groupNumbers.f k (R : Int) (C : Int) l) (a1 l R C) := by
 have h1 := b0 l R C hlen hR hC1 hC h90 l.length 0 (List.replicate l.length (-1)) 0 (by omega) (by omega) (by simp) (by omega) (by omega)
 have h0 := b3 l R C h90 _ h1 l.length 0 (by omega) (by omega)
 refine aI 0 h0 fun k _ => ?_
 simp only [impl_groupNumbers.f]
 rw [if_pos (by omega), if_pos (by omega), Option.bind_some, Int.toNat_natCast, List.length_replicate]
 simp

theorem c9 (R C a : Nat) (l : List S71) (hR : R ≤ 10) (hC1 : 1 ≤ C) (hC : C ≤ 9) (ha : a < R * C) (h90 : R * C ≤ 90) : Ev (fun k => spec_ggNear.f k (R : Int) (C : Int) l (a : Int)) (castL (near R C a)) := by
 have hm := Nat.mod_lt a (show C > 0 by omega)
 have hr : a / C < R := by
  apply Nat.div_lt_of_lt_mul
  rwa [Nat.mul_comm]
 have e1 : Int.tdiv (a : Int) (C : Int) = ((a / C : Nat) : Int) := rfl
 have e2 : Int.tmod (a : Int) (C : Int) = ((a % C : Nat) : Int) := rfl
 have hsub : a / C > 0 → C ≤ a := fun h => by
  have hd := Nat.div_add_mod a C
  have : C * 1 ≤ C * (a / C) := Nat.mul_le_mul_left C h
  omega
 refine ⟨2, fun k hk => ?_⟩
 obtain ⟨k, rfl⟩ : ∃ m, k = m + 1 + 1 := ⟨k - 2, by omega⟩
 simp only [spec_ggNear.f]
 rw [e1, e2]
 clear e1 e2
 have hpa : a % C > 0 → 1 ≤ a := fun h => by
  have := Nat.mod_le a C
  omega
 unfold near
 generalize a / C = q at *
 generalize a % C = p at *
 rw [if_neg (by omega), a3 (x := (q : Int)) (by omega) (by omega)]
 have j1 : ∀ (x : List Int), x.length ≤ 2 → spec_ggNear.j1 (k + 1) (a : Int) (q : Int) (p : Int) x (R : Int) (C : Int) l = some (x ++ castL ((if p + 1 < C then [a + 1] else []) ++ (if q + 1 < R then [a + C] else []))) := by
  intro x hx
  simp only [spec_ggNear.j1]
  rw [a3 (x := (p : Int) + 1) (by omega) (by omega), a3 (x := (q : Int) + 1) (by omega) (by omega), a3 (x := (a : Int) + 1) (by omega) (by omega), a3 (x := (a : Int) + (C : Int)) (by omega) (by omega)]
  by_cases h1 : p + 1 < C
  ·rw [if_pos (by omega), if_pos (by omega), if_pos h1, Option.bind_some]
   by_cases h2 : q + 1 < R
   ·rw [if_pos (by omega), if_pos h2, if_pos (by simp; omega)]
    simp [castL]
   ·rw [if_neg (by omega), if_neg h2]
    simp [castL]
  ·rw [if_neg (by omega), if_neg h1]
   by_cases h2 : q + 1 < R
   ·rw [if_pos (by omega), if_pos h2, if_pos (by omega)]
    simp [castL]
   ·rw [if_neg (by omega), if_neg h2]
    simp [castL]
 have j0 : ∀ (x : List Int), x.length ≤ 1 → spec_ggNear.j0 (k + 1 + 1) (a : Int) (q : Int) (p : Int) x (R : Int) (C : Int) l = some (x ++ castL ((if p > 0 then [a - 1] else []) ++ ((if p + 1 < C then [a + 1] else []) ++ (if q + 1 < R then [a + C] else [])))) := by
  intro x hx
  simp only [spec_ggNear.j0]
  by_cases h1 : p > 0
  ·rw [if_pos (by omega), if_pos (by omega), if_pos h1, j1 _ (by simp; omega), a3 (x := (a : Int) - 1) (by omega) (by omega)]
   have : ((a : Int) - 1) = ((a - 1 : Nat) : Int) := by have := hpa h1; omega
   rw [this]
   simp [castL]
  ·rw [if_neg (by omega), if_neg h1, j1 _ (by omega)]
   simp [castL]
 by_cases h0 : q > 0
 ·have := hsub h0
  rw [if_pos (by omega), if_pos (by simp), if_pos h0, j0 _ (by simp), a3 (x := (a : Int) - (C : Int)) (by omega) (by omega), show (a : Int) - (C : Int) = ((a - C : Nat) : Int) by omega]
  simp [castL]
 ·rw [if_neg (by omega), if_neg h0, j0 _ (by simp)]
  simp [castL]

theorem bm (x : S71) : spec_ggGear.f x.f0 x.f1 = some (gearB x) := by
 unfold spec_ggGear.f gearB
 by_cases h : x.f0 = 6
 ·simp [h]
 ·rw [if_neg h]
  by_cases h7 : x.f0 = 7 <;> simp [h, h7]
theorem bL (l : List S71) (R C : Nat) (c : Int) (hc : 0 ≤ c) (i : Nat) (ns : List Nat) (hns : ∀ n ∈ ns, n < l.length) (h90 : l.length ≤ 90) (hns4 : ns.length ≤ 4) (x : Nat) (hx : x < l.length) (res : List Int) :
 ∀ (d j : Nat) (out : List Int) (q : List Nat), ns.length - j = d → j ≤ ns.length → out.length = l.length → q.length + neg out ≤ l.length →
 Ev (fun k => spec_ggGroups.l2 k (push l c out (ns.drop j)).1 c (castL (q ++ (push l c out (ns.drop j)).2)) ((x + 1 : Nat) : Int) l (l.length : Int) (i : Int) (R : Int) (C : Int) l) res →
 Ev (fun k => spec_ggGroups.l3 k out c (castL q) (x : Int) l (l.length : Int) (i : Int) (castL ns) (ns.length : Int) (j : Int) (R : Int) (C : Int) l) res := by
 intro d
 induction d with
 | zero =>
  intro j out q hd hj ho hq hnext
  rw [List.drop_of_length_le (by omega)] at hnext
  simp only [push, List.append_nil] at hnext
  refine a4 0 hnext fun k _ => ?_
  simp only [spec_ggGroups.l3]
  rw [if_neg (by omega), a2 hx (by omega)]
 | succ d ih =>
  intro j out q hd hj ho hq hnext
  have hlt : j < ns.length := by omega
  have hn : ns.getD j 0 < l.length := by
   rw [List.getD_eq_getElem?_getD, List.getElem?_eq_getElem hlt]
   exact hns _ (List.getElem_mem hlt)
  rw [ae ns 0 hlt] at hnext
  have hg := bm (l.getD (ns.getD j 0) z71)
  by_cases h : (gearB (l.getD (ns.getD j 0) z71) && decide (out.getD (ns.getD j 0) 0 < 0)) = true
  ·simp only [push, if_pos h] at hnext
   simp only [Bool.and_eq_true, decide_eq_true_eq] at h
   have hneg := aR (by omega) h.2 hc
   have h2 := ih (j + 1) (out.set (ns.getD j 0) c) (q ++ [ns.getD j 0]) (by omega) (by omega) (by simpa using ho) (by simp only [List.length_append, List.length_singleton]; omega) (by simpa [List.append_assoc] using hnext)
   refine a4 0 h2 fun k _ => ?_
   simp only [spec_ggGroups.l3]
   rw [if_pos (by omega), if_pos (by omega), if_pos (by rw [a5]; omega), aH ns hlt, if_pos (by omega), if_pos (by omega), ak, bindE hg, if_pos h.1, if_pos (by omega), aj, if_pos h.2, if_pos (by rw [a5]; omega), a2 hlt (by omega), Int.toNat_natCast, aO]
   rfl
  ·simp only [push, if_neg h] at hnext
   have h2 := ih (j + 1) out q (by omega) (by omega) ho hq hnext
   refine a4 0 h2 fun k _ => ?_
   simp only [spec_ggGroups.l3]
   rw [if_pos (by omega), if_pos (by omega), if_pos (by rw [a5]; omega), aH ns hlt, if_pos (by omega), if_pos (by omega), ak, bindE hg, a2 hlt (by omega)]
   by_cases h1 : gearB (l.getD (ns.getD j 0) z71) = true
   ·rw [if_pos h1, if_pos (by omega), aj, if_neg (fun h3 => h (by simp only [Bool.and_eq_true, decide_eq_true_eq]; exact ⟨h1, h3⟩))]
   ·rw [if_neg h1]
theorem bA (l : List S71) (R C : Nat) (hlen : l.length = R * C) (hR : R ≤ 10) (hC1 : 1 ≤ C) (hC : C ≤ 9) (h90 : l.length ≤ 90) (c : Int) (hc : 0 ≤ c) (i : Nat) (hi : i < l.length) (hci : c ≤ i) (res : List Int) :
 ∀ (f : Nat) (out : List Int) (q : List Nat) (x : Nat), (∀ n ∈ q, n < l.length) → out.length = l.length → x ≤ q.length → q.length + neg out ≤ l.length → q.length - x + neg out < f →
 Ev (fun k => spec_ggGroups.l1 k (bfs l R C c f out (q.drop x)) (c + 1) l (l.length : Int) ((i + 1 : Nat) : Int) (R : Int) (C : Int) l) res →
 Ev (fun k => spec_ggGroups.l2 k out c (castL q) (x : Int) l (l.length : Int) (i : Int) (R : Int) (C : Int) l) res := by
 intro f
 induction f with
 | zero => intro out q x _ _ _ _ h; omega
 | succ f ih =>
  intro out q x hq ho hx hm hf hnext
  by_cases hxl : x < q.length
  ·have ha : q.getD x 0 < l.length := by
    rw [List.getD_eq_getElem?_getD, List.getElem?_eq_getElem hxl]
    exact hq _ (List.getElem_mem hxl)
   rw [ae q 0 hxl, bfs] at hnext
   generalize hae : q.getD x 0 = a at *
   have hnl : ∀ n ∈ near R C a, n < l.length := fun n hn => by
    have := bp hC1 (by omega) n hn
    omega
   have hp := aN l hc (near R C a) out (fun n hn => by rw [ho]; exact hnl n hn)
   have h2 := ih (push l c out (near R C a)).1 (q ++ (push l c out (near R C a)).2) (x + 1) (fun n hn => by
    rcases List.mem_append.1 hn with h | h
    ·exact hq n h
    ·exact hnl n (aE l c _ out n h)) (by rw [aq]; exact ho) (by rw [List.length_append]; omega) (by rw [List.length_append]; omega) (by rw [List.length_append]; omega) (by rw [List.drop_append_of_le_length (by omega)]; exact hnext)
   have h3 := bL l R C c hc i (near R C a) hnl h90 (aY R C a) x (by omega) res (near R C a).length 0 out q (by omega) (by omega) ho (by omega) h2
   obtain ⟨K, hK⟩ := a7 (c9 R C a l hR hC1 hC (by omega) (by omega))
   refine a4 K h3 fun k hk => ?_
   simp only [spec_ggGroups.l2]
   rw [if_pos (by rw [a5]; omega), if_pos (by omega), aH q hxl, hae, bindE (hK k hk), a5]
   rfl
  ·rw [List.drop_of_length_le (by omega), bfs] at hnext
   refine a4 0 hnext fun k _ => ?_
   simp only [spec_ggGroups.l2]
   rw [if_neg (by rw [a5]; omega), a2 hi (by omega), a3 (x := c + 1) (by omega) (by omega)]
theorem bI (l : List S71) (R C : Nat) (hlen : l.length = R * C) (hR : R ≤ 10) (hC1 : 1 ≤ C) (hC : C ≤ 9) (h90 : l.length ≤ 90) :
 ∀ (d i : Nat) (out : List Int) (c : Int), l.length - i = d → i ≤ l.length → out.length = l.length → 0 ≤ c → c ≤ i →
 Ev (fun k => spec_ggGroups.l1 k out c l (l.length : Int) (i : Int) (R : Int) (C : Int) l) (a8 l R C d i out c) := by
 intro d
 induction d with
 | zero =>
  intro i out c hd hi ho h0 hc
  refine af 0 fun k _ => ?_
  simp only [spec_ggGroups.l1]
  rw [if_neg (by omega)]
  rfl
 | succ d ih =>
  intro i out c hd hi ho h0 hc
  have hlt : i < l.length := by omega
  have hg := bm (l.getD i z71)
  rw [a8]
  by_cases h : (gearB (l.getD i z71) && decide (out.getD i 0 < 0)) = true
  ·rw [if_pos h]
   simp only [Bool.and_eq_true, decide_eq_true_eq] at h
   have hneg := aR (by omega) h.2 h0
   have hle := ch out
   have h1 := ih (i + 1) (bfs l R C c (l.length + 1) (out.set i c) [i]) (c + 1) (by omega) (by omega) (by rw [aB, List.length_set]; exact ho) (by omega) (by omega)
   have h2 := bA l R C hlen hR hC1 hC h90 c h0 i hlt hc _ (l.length + 1) (out.set i c) [i] 0 (fun n hn => by simp at hn; omega) (by simpa using ho) (by omega) (by simp only [List.length_singleton]; omega) (by simp only [List.length_singleton]; omega) h1
   obtain ⟨K, hK⟩ := a7 h2
   refine ⟨K + 2, fun k hk => ?_⟩
   obtain ⟨k, rfl⟩ : ∃ m, k = m + 1 + 1 := ⟨k - 2, by omega⟩
   simp only [spec_ggGroups.l1]
   rw [if_pos (by omega), if_pos (by omega), if_pos (by omega), ak, bindE hg, if_pos h.1, if_pos (by omega), aj, decide_eq_false (by omega)]
   simp only [spec_ggGroups.j2]
   rw [if_neg (by simp), if_pos (by omega), if_pos (by omega), Int.toNat_natCast]
   exact hK k (by omega)
  ·rw [if_neg h]
   obtain ⟨K, hK⟩ := a7 (ih (i + 1) out c (by omega) (by omega) ho h0 (by omega))
   refine ⟨K + 2, fun k hk => ?_⟩
   obtain ⟨k, rfl⟩ : ∃ m, k = m + 1 + 1 := ⟨k - 2, by omega⟩
   simp only [spec_ggGroups.l1]
   rw [if_pos (by omega), if_pos (by omega), if_pos (by omega), ak, bindE hg]
   have e : spec_ggGroups.j2 (k + 1) out c (i : Int) l (l.length : Int) (i : Int) true (R : Int) (C : Int) l = some (a8 l R C d (i + 1) out c) := by
    simp only [spec_ggGroups.j2]
    rw [if_pos trivial, a2 hlt (by omega)]
    exact hK k (by omega)
   by_cases h1 : gearB (l.getD i z71) = true
   ·have h2 : ¬ out.getD i 0 < 0 := fun h3 => h (by simp only [Bool.and_eq_true, decide_eq_true_eq]; exact ⟨h1, h3⟩)
    rw [if_pos h1, if_pos (by omega), aj, decide_eq_true (show out.getD i 0 ≥ 0 by omega), e]
   ·rw [if_neg h1, e]
theorem bC (l : List S71) (R C : Nat) (h90 : l.length ≤ 90) (res : List Int) (hnext : Ev (fun k => spec_ggGroups.l1 k (List.replicate l.length (-1)) 0 l (l.length : Int) 0 (R : Int) (C : Int) l) res) :
 ∀ (d i : Nat), l.length - i = d → i ≤ l.length →
 Ev (fun k => spec_ggGroups.l0 k ((List.replicate l.length (-1)).take i ++ (List.replicate l.length (0 : Int)).drop i) (l.length : Int) (i : Int) (R : Int) (C : Int) l) res := by
 intro d
 induction d with
 | zero =>
  intro i hd hi
  obtain rfl : i = l.length := by omega
  refine a4 0 hnext fun k _ => ?_
  simp only [spec_ggGroups.l0]
  rw [if_neg (by omega), List.take_of_length_le (by simp), List.drop_of_length_le (by simp), List.append_nil]
 | succ d ih =>
  intro i hd hi
  have hlt : i < l.length := by omega
  have hm := aP (List.replicate l.length (-1 : Int)) (List.replicate l.length (0 : Int)) (-1) (n := i) (by simpa using hlt) (by simp)
  rw [show (List.replicate l.length (-1 : Int)).getD i (-1) = -1 by simp [List.getD_eq_getElem?_getD, hlt]] at hm
  refine a4 0 (ih (i + 1) (by omega) (by omega)) fun k _ => ?_
  simp only [spec_ggGroups.l0]
  rw [if_pos (by omega), if_pos (by omega), if_pos (by simp; omega), Int.toNat_natCast, hm, a2 hlt (by omega)]
theorem bG (l : List S71) (R C : Nat) (hlen : l.length = R * C) (hR : R ≤ 10) (hC1 : 1 ≤ C) (hC : C ≤ 9) (h90 : l.length ≤ 90) : Ev (fun k => spec_ggGroups.f k (R : Int) (C : Int) l) (a1 l R C) := by
 have h1 := bI l R C hlen hR hC1 hC h90 l.length 0 (List.replicate l.length (-1)) 0 (by omega) (by omega) (by simp) (by omega) (by omega)
 have h0 := bC l R C h90 _ h1 l.length 0 (by omega) (by omega)
 refine aI 0 h0 fun k _ => ?_
 simp only [spec_ggGroups.f]
 rw [if_pos (by omega), if_pos (by omega), Option.bind_some, Int.toNat_natCast, List.length_replicate]
 simp

theorem aA (out : List Int) (n j : Nat) (v : Int) : (out.set n v).getD j 0 = if n = j ∧ n < out.length then v else out.getD j 0 := by
 rw [List.getD_eq_getElem?_getD, List.getD_eq_getElem?_getD, List.getElem?_set]
 by_cases h : n = j
 ·subst h
  by_cases hl : n < out.length
  ·simp [hl]
  ·simp [hl]
 ·simp [h]
structure Marked (l : List S71) (c : Int) (out : List Int) : Prop where
 len : out.length = l.length
 lo : ∀ j, j < l.length → -1 ≤ out.getD j 0
 hi : ∀ j, j < l.length → out.getD j 0 < c
 ng : ∀ j, j < l.length → gearB (l.getD j z71) = false → out.getD j 0 < 0
theorem bb {l : List S71} {c : Int} {out : List Int} (h : Marked l (c + 1) out) (hc : 0 ≤ c) {n : Nat} (hn : n < l.length) (hg : gearB (l.getD n z71) = true) : Marked l (c + 1) (out.set n c) := by
 refine ⟨by rw [List.length_set]; exact h.len, fun j hj => ?_, fun j hj => ?_, fun j hj hf => ?_⟩
 ·rw [aA]
  split
  ·omega
  ·exact h.lo j hj
 ·rw [aA]
  split
  ·omega
  ·exact h.hi j hj
 ·rw [aA]
  split
  ·rename_i e
   rw [e.1, hf] at hg
   cases hg
  ·exact h.ng j hj hf
theorem aC {l : List S71} {c : Int} (hc : 0 ≤ c) : ∀ (ns : List Nat) (out : List Int), (∀ n ∈ ns, n < l.length) → Marked l (c + 1) out → Marked l (c + 1) (push l c out ns).1 ∧ ∀ j, 0 ≤ out.getD j 0 → 0 ≤ (push l c out ns).1.getD j 0
 | [], out, _, h => ⟨h, fun _ h => h⟩
 | n :: ns, out, hns, h => by
  have hns' : ∀ m ∈ ns, m < l.length := fun m hm => hns m (List.mem_cons_of_mem _ hm)
  unfold push
  split
  ·rename_i hg
   simp only [Bool.and_eq_true, decide_eq_true_eq] at hg
   obtain ⟨h1, h2⟩ := aC hc ns (out.set n c) hns' (bb h hc (hns n List.mem_cons_self) hg.1)
   refine ⟨h1, fun j hj => h2 j ?_⟩
   rw [aA]
   split
   ·exact hc
   ·exact hj
  ·exact aC hc ns out hns' h
theorem be {l : List S71} {R C : Nat} (hlen : l.length = R * C) (hC : 1 ≤ C) {c : Int} (hc : 0 ≤ c) : ∀ (f : Nat) (out : List Int) (q : List Nat), (∀ n ∈ q, n < l.length) → Marked l (c + 1) out → Marked l (c + 1) (bfs l R C c f out q) ∧ ∀ j, 0 ≤ out.getD j 0 → 0 ≤ (bfs l R C c f out q).getD j 0
 | 0, out, _, _, h => ⟨h, fun _ h => h⟩
 | _ + 1, out, [], _, h => ⟨h, fun _ h => h⟩
 | f + 1, out, a :: q, hq, h => by
  have hnl : ∀ n ∈ near R C a, n < l.length := fun n hn => by
   have := bp hC (by rw [← hlen]; exact hq a List.mem_cons_self) n hn
   omega
  obtain ⟨h1, h2⟩ := aC hc (near R C a) out hnl h
  obtain ⟨h3, h4⟩ := be hlen hC hc f (push l c out (near R C a)).1 (q ++ (push l c out (near R C a)).2) (fun n hn => by
   rcases List.mem_append.1 hn with h | h
   ·exact hq n (List.mem_cons_of_mem _ h)
   ·exact hnl n (aE l c _ out n h)) h1
  exact ⟨h3, fun j hj => h4 j (h2 j hj)⟩
theorem aF {l : List S71} {c c' : Int} {out : List Int} (h : Marked l c out) (hc : c ≤ c') : Marked l c' out := ⟨h.len, h.lo, fun j hj => by have := h.hi j hj; omega, h.ng⟩
theorem ao {l : List S71} {R C : Nat} (hlen : l.length = R * C) (hC : 1 ≤ C) : ∀ (d i : Nat) (out : List Int) (c : Int), i + d = l.length → 0 ≤ c → Marked l c out → (∀ j, j < i → gearB (l.getD j z71) = true → 0 ≤ out.getD j 0) →
 Marked l (c + d) (a8 l R C d i out c) ∧ ∀ j, j < l.length → gearB (l.getD j z71) = true → 0 ≤ (a8 l R C d i out c).getD j 0
 | 0, i, out, c, hi, _, h, hd => ⟨by simpa [a8] using h, fun j hj => hd j (by omega)⟩
 | d + 1, i, out, c, hi, hc, h, hd => by
  unfold a8
  split
  ·rename_i hg
   simp only [Bool.and_eq_true, decide_eq_true_eq] at hg
   have hs := bb (aF h (show c ≤ c + 1 by omega)) hc (show i < l.length by omega) hg.1
   obtain ⟨h1, h2⟩ := be hlen hC hc (l.length + 1) (out.set i c) [i] (fun n hn => by simp at hn; omega) hs
   have e : out.getD i 0 < 0 := hg.2
   obtain ⟨h3, h4⟩ := ao hlen hC d (i + 1) (bfs l R C c (l.length + 1) (out.set i c) [i]) (c + 1) (by omega) (by omega) h1 (fun j hj hgj => h2 j (by
    rw [aA]
    split
    ·exact hc
    ·rename_i hne
     have : j ≠ i := fun e => hne ⟨e.symm, by rw [h.len]; omega⟩
     exact hd j (by omega) hgj))
   exact ⟨aF h3 (by omega), h4⟩
  ·rename_i hg
   obtain ⟨h3, h4⟩ := ao hlen hC d (i + 1) out c (by omega) hc h (fun j hj hgj => by
    by_cases e : j = i
    ·subst e
     simp only [Bool.and_eq_true, decide_eq_true_eq, hgj, true_and] at hg
     omega
    ·exact hd j (by omega) hgj)
   exact ⟨aF h3 (by omega), h4⟩
theorem au {l : List S71} {R C : Nat} (hlen : l.length = R * C) (hC : 1 ≤ C) : Marked l l.length (a1 l R C) ∧ ∀ j, j < l.length → gearB (l.getD j z71) = true → 0 ≤ (a1 l R C).getD j 0 := by
 have e : ∀ j, j < l.length → (List.replicate l.length (-1 : Int)).getD j 0 = -1 := fun j hj => by simp [List.getD_eq_getElem?_getD, hj]
 have h : Marked l 0 (List.replicate l.length (-1)) := ⟨by simp, fun j hj => by rw [e j hj]; omega, fun j hj => by rw [e j hj]; omega, fun j hj _ => by rw [e j hj]; omega⟩
 obtain ⟨h1, h2⟩ := ao hlen hC l.length 0 (List.replicate l.length (-1)) 0 (by omega) (by omega) h (fun j hj => by omega)
 exact ⟨by simpa [a1] using h1, h2⟩
theorem co {l : List S71} {R C : Nat} (hlen : l.length = R * C) (hC : 1 ≤ C) {j : Nat} (hj : j < l.length) : decide ((a1 l R C).getD j 0 < 0) = !gearB (l.getD j z71) := by
 obtain ⟨h1, h2⟩ := au hlen hC
 cases hg : gearB (l.getD j z71)
 ·simpa using h1.ng j hj hg
 ·simpa using h2 j hj hg

theorem ax {r c : Int} {l : List S71} (b : Brd r c l) : Ev (fun k => impl_groupNumbers.f k r c l) (a1 l r.toNat c.toNat) ∧ Ev (fun k => spec_ggGroups.f k r c l) (a1 l r.toNat c.toNat) := by
 have b9 := b.le
 obtain ⟨R, C, rfl, rfl, hlen, _, hR, hC1, hC⟩ := c3 b
 exact ⟨b1 l R C hlen hR hC1 hC b9, bG l R C hlen hR hC1 hC b9⟩
theorem bv {r c : Int} {l : List S71} (b : Brd r c l) : l.length = r.toNat * c.toNat ∧ 1 ≤ c.toNat := by
 obtain ⟨R, C, rfl, rfl, hlen, _, hR, hC1, hC⟩ := c3 b
 exact ⟨hlen, hC1⟩

def extL (x : List Int) (g : Int) : List Int := x ++ List.replicate (g + 1 - x.length).toNat 0
theorem aX (x : List Int) (g : Int) : ((extL x g).length : Int) = if (x.length : Int) > g + 1 then (x.length : Int) else if g + 1 > x.length then g + 1 else x.length := by
 unfold extL
 rw [List.length_append, List.length_replicate]
 split
 ·omega
 ·split <;> omega
def ai (k6 : Bool) (x : List Int) (g : Int) : List Int := if k6 = true then (extL x g).set g.toNat (wrap64 (rd (extL x g) g + 1)) else extL x g
def al (l : List S71) (G : List Int) : Nat → Nat → List Int → List Int
 | 0, _, x => x
 | d + 1, i, x => al l G d (i + 1) (ai (decide ((l.getD i z71).f0 = 6)) x (G.getD i 0))
def aa (l : List S71) (G : List Int) : List Int := al l G l.length 0 []
theorem aT (k6 : Bool) (x : List Int) (g : Int) : (ai k6 x g).length = (extL x g).length := by
 unfold ai
 split
 ·rw [List.length_set]
 ·rfl
theorem bj (l : List S71) (G : List Int) (r c : Int) (i : Nat) (hi : i < l.length) (hn : l.length ≤ 90) (g : Int) (hg : -1 ≤ g ∧ g < l.length) (h6 : (l.getD i z71).f0 = 6 → 0 ≤ g) (res : List Int) : ∀ (d : Nat) (x : List Int), (g + 1 - x.length).toNat = d →
 Ev (fun k => impl_gearCounts.l0 k (ai (decide ((l.getD i z71).f0 = 6)) x g) G (l.length : Int) ((i + 1 : Nat) : Int) r c l) res →
 Ev (fun k => impl_gearCounts.l1 k x (i : Int) g G (l.length : Int) (i : Int) r c l) res := by
 intro d
 induction d with
 | zero =>
  intro x hx hnext
  have e : extL x g = x := by
   unfold extL
   rw [hx]
   simp
  refine a4 0 hnext fun k _ => ?_
  simp only [impl_gearCounts.l1]
  rw [if_neg (by omega), if_pos (by omega), if_pos (by omega), ak, a2 hi (by omega)]
  unfold ai
  rw [e]
  by_cases h : (l.getD i z71).f0 = 6
  ·rw [if_pos h, if_pos (h6 h), if_pos (by omega), decide_eq_true h, ad]
  ·rw [if_neg h, decide_eq_false h]
   rfl
 | succ d ih =>
  intro x hx hnext
  have e : extL (x ++ [0]) g = extL x g := by
   unfold extL
   rw [List.length_append, List.length_singleton, hx, show (g + 1 - ((x.length + 1 : Nat) : Int)).toNat = d by omega, List.replicate_succ, List.append_assoc]
   rfl
  refine a4 0 (ih (x ++ [0]) (by rw [List.length_append, List.length_singleton]; omega) (by unfold ai at hnext ⊢; rw [e]; exact hnext)) fun k _ => ?_
  simp only [impl_gearCounts.l1]
  rw [if_pos (by omega), if_pos (by omega)]
theorem bh (l : List S71) (G : List Int) (r c : Int) (hG : G.length = l.length) (hn : l.length ≤ 90) (hg : ∀ j, j < l.length → -1 ≤ G.getD j 0 ∧ G.getD j 0 < l.length) (h6 : ∀ j, j < l.length → (l.getD j z71).f0 = 6 → 0 ≤ G.getD j 0) : ∀ (d i : Nat) (x : List Int), l.length - i = d → i ≤ l.length →
 Ev (fun k => impl_gearCounts.l0 k x G (l.length : Int) (i : Int) r c l) (al l G d i x) := by
 intro d
 induction d with
 | zero =>
  intro i x hd hi
  refine af 0 fun k _ => ?_
  simp only [impl_gearCounts.l0]
  rw [if_neg (by omega)]
  rfl
 | succ d ih =>
  intro i x hd hi
  have hlt : i < l.length := by omega
  have h1 := bj l G r c i hlt hn (G.getD i 0) (hg i hlt) (h6 i hlt) _ _ x rfl (ih (i + 1) (ai (decide ((l.getD i z71).f0 = 6)) x (G.getD i 0)) (by omega) (by omega))
  refine a4 0 h1 fun k _ => ?_
  simp only [impl_gearCounts.l0]
  rw [if_pos (by omega), if_pos (by omega), if_pos (by omega), aj]

theorem gear6 {x : S71} (h : x.f0 = 6) : gearB x = true := by simp [gearB, h]
theorem ah {r c : Int} {l : List S71} (b : Brd r c l) : (∀ j, j < l.length → -1 ≤ (a1 l r.toNat c.toNat).getD j 0 ∧ (a1 l r.toNat c.toNat).getD j 0 < l.length) ∧ ∀ j, j < l.length → (l.getD j z71).f0 = 6 → 0 ≤ (a1 l r.toNat c.toNat).getD j 0 := by
 obtain ⟨hlen, hC⟩ := bv b
 obtain ⟨h1, h2⟩ := au hlen hC
 exact ⟨fun j hj => ⟨h1.lo j hj, h1.hi j hj⟩, fun j hj h6 => h2 j hj (gear6 h6)⟩
theorem bl {r c : Int} {l : List S71} (b : Brd r c l) : Ev (fun k => impl_gearCounts.f k r c l) (aa l (a1 l r.toNat c.toNat)) := by
 have b9 := b.le
 obtain ⟨K, hK⟩ := a7 (ax b).1
 obtain ⟨h1, h2⟩ := ah b
 have hGl := ab l r.toNat c.toNat
 have h := bh l (a1 l r.toNat c.toNat) r c hGl b9 h1 h2 l.length 0 [] (by omega) (by omega)
 refine aI K h fun k hk => ?_
 simp only [impl_gearCounts.f]
 rw [bindE (hK k hk), hGl]
 rfl

def cmax : List Int → Int → Int
 | [], a => a
 | g :: G, a => cmax G (if a > g + 1 then a else g + 1)
theorem bU (G : List Int) (hn : G.length ≤ 90) (hg : ∀ j, j < G.length → -1 ≤ G.getD j 0 ∧ G.getD j 0 < 1048576) : ∀ (d i : Nat) (a : Int), G.length - i = d → i ≤ G.length →
 Ev (fun k => spec_ggCount.l0 k a G (G.length : Int) (i : Int)) (cmax (G.drop i) a) := by
 intro d
 induction d with
 | zero =>
  intro i a hd hi
  refine af 0 fun k _ => ?_
  simp only [spec_ggCount.l0]
  rw [if_neg (by omega), List.drop_of_length_le (by omega)]
  rfl
 | succ d ih =>
  intro i a hd hi
  have hlt : i < G.length := by omega
  have hgi := hg i hlt
  rw [ae G 0 hlt, cmax]
  have hm : spec_l1Most.f a (G.getD i 0 + 1) = some (if a > G.getD i 0 + 1 then a else G.getD i 0 + 1) := by
   unfold spec_l1Most.f
   split <;> rfl
  refine a4 0 (ih (i + 1) _ (by omega) (by omega)) fun k _ => ?_
  simp only [spec_ggCount.l0]
  rw [if_pos (by omega), if_pos (by omega), if_pos (by omega), aj, a3 (x := G.getD i 0 + 1) (by omega) (by omega), bindE hm, a2 hlt (by omega)]
theorem aD (l : List S71) (G : List Int) (hG : G.length = l.length) (hg : ∀ j, j < l.length → -1 ≤ G.getD j 0) : ∀ (d i : Nat) (x : List Int), l.length - i = d → i ≤ l.length → ((al l G d i x).length : Int) = cmax (G.drop i) x.length := by
 intro d
 induction d with
 | zero =>
  intro i x hd hi
  rw [List.drop_of_length_le (by omega)]
  rfl
 | succ d ih =>
  intro i x hd hi
  have hlt : i < l.length := by omega
  have hgi := hg i hlt
  rw [ae G 0 (by omega), cmax, al, ih (i + 1) _ (by omega) (by omega), aT, aX]
  congr 1
  by_cases h1 : (x.length : Int) > G.getD i 0 + 1
  ·rw [if_pos h1, if_pos h1]
  ·rw [if_neg h1, if_neg h1]
   split <;> omega
theorem bR {r c : Int} {l : List S71} (b : Brd r c l) : Ev (fun k => spec_ggCount.f k (a1 l r.toNat c.toNat)) ((aa l (a1 l r.toNat c.toNat)).length : Int) := by
 have b9 := b.le
 obtain ⟨h1, h2⟩ := ah b
 have hGl := ab l r.toNat c.toNat
 have e := aD l (a1 l r.toNat c.toNat) hGl (fun j hj => (h1 j hj).1) l.length 0 [] (by omega) (by omega)
 rw [show ((aa l (a1 l r.toNat c.toNat)).length : Int) = cmax ((a1 l r.toNat c.toNat).drop 0) 0 from e]
 exact bU (a1 l r.toNat c.toNat) (by omega) (fun j hj => by have := h1 j (by omega); omega) _ 0 0 rfl (by omega)

theorem c4 : ∀ (G : List Int) (a : Int), a ≤ cmax G a
 | [], a => Int.le_refl a
 | g :: G, a => by
  unfold cmax
  refine Int.le_trans ?_ (c4 G _)
  split <;> omega
theorem bz : ∀ (G : List Int) (a : Int) (j : Nat), j < G.length → G.getD j 0 + 1 ≤ cmax G a
 | [], _, j, h => by simp at h
 | g :: G, a, 0, _ => by
  unfold cmax
  refine Int.le_trans ?_ (c4 G _)
  show g + 1 ≤ _
  split <;> omega
 | g :: G, a, j + 1, h => by
  unfold cmax
  exact bz G _ j (by simpa using h)
theorem aK {r c : Int} {l : List S71} (b : Brd r c l) : ∀ j, j < l.length → (a1 l r.toNat c.toNat).getD j 0 < ((aa l (a1 l r.toNat c.toNat)).length : Int) := by
 intro j hj
 obtain ⟨h1, h2⟩ := ah b
 have hGl := ab l r.toNat c.toNat
 have e := aD l (a1 l r.toNat c.toNat) hGl (fun j hj => (h1 j hj).1) l.length 0 [] (by omega) (by omega)
 have h3 := bz (a1 l r.toNat c.toNat) 0 j (by omega)
 rw [show ((aa l (a1 l r.toNat c.toNat)).length : Int) = cmax ((a1 l r.toNat c.toNat).drop 0) 0 from e, List.drop_zero]
 omega
theorem c6 : ∀ (G : List Int) (a m : Int), a ≤ m → (∀ j, j < G.length → G.getD j 0 + 1 ≤ m) → cmax G a ≤ m
 | [], a, m, h, _ => h
 | g :: G, a, m, h, hg => by
  unfold cmax
  refine c6 G _ m ?_ fun j hj => hg (j + 1) (by simpa using hj)
  have := hg 0 (by simp)
  simp only [List.getD_cons_zero] at this
  split <;> omega
theorem bq {r c : Int} {l : List S71} (b : Brd r c l) : ((aa l (a1 l r.toNat c.toNat)).length : Int) ≤ l.length := by
 obtain ⟨h1, h2⟩ := ah b
 have hGl := ab l r.toNat c.toNat
 have e := aD l (a1 l r.toNat c.toNat) hGl (fun j hj => (h1 j hj).1) l.length 0 [] (by omega) (by omega)
 rw [show ((aa l (a1 l r.toNat c.toNat)).length : Int) = cmax ((a1 l r.toNat c.toNat).drop 0) 0 from e, List.drop_zero]
 exact c6 _ 0 _ (by omega) fun j hj => by have := h1 j (by omega); omega

theorem b8 {r c : Int} {l : List S71} (b : Brd r c l) : ∀ j, j < l.length → gearB (l.getD j z71) = true → 0 ≤ (a1 l r.toNat c.toNat).getD j 0 := (au (bv b).1 (bv b).2).2
theorem gear7 {x : S71} (h : x.f0 = 7) : gearB x = true := by simp [gearB, h]

theorem bx (r c : Int) (l : List S71) (hn : l.length ≤ 1048576) : impl_copyBoard.f r c l = some (r, c, l) := by
 unfold impl_copyBoard.f
 rw [Option.bind_some, if_pos (by simp; omega), List.nil_append]

theorem bB {α : Type} (T l : List α) (z : α) {n : Nat} (h : n < T.length) (hl : T.length = l.length) (he : T.getD n z = l.getD n z) : T.take n ++ l.drop n = T.take (n + 1) ++ l.drop (n + 1) := by
 rw [← ce T z h, ae l z (by omega), he, List.append_assoc]
 rfl
theorem cq {α : Type} (T l : List α) (z : α) {n : Nat} (h : n < T.length) (hl : T.length = l.length) : (T.take n ++ l.drop n).getD n z = l.getD n z := by
 have e1 : (T.take n).length = n := by simp; omega
 rw [List.getD_eq_getElem?_getD, List.getElem?_append_right (by omega), e1, Nat.sub_self, ae l z (by omega)]
 rfl
theorem bg {α : Type} (T l : List α) {n : Nat} (h : n ≤ T.length) (hl : T.length = l.length) : (T.take n ++ l.drop n).length = l.length := by
 rw [List.length_append, List.length_take, List.length_drop]
 omega

def ac (l : List S71) (G N : List Int) (i : Nat) : S71 := if (decide ((l.getD i z71).f0 = 7) && decide (N.getD (G.getD i 0).toNat 0 ≤ 1)) = true then ⟨0, 0⟩ else l.getD i z71
def a9 (l : List S71) (G N : List Int) : List S71 := (List.range l.length).map (ac l G N)
theorem ar (l : List S71) (G N : List Int) : (a9 l G N).length = l.length := by simp [a9]
def ap (r c : Int) (l : List S71) : Int × Int × List S71 × Bool := if a6 r c l = true then (r, c, a9 l (a1 l r.toNat c.toNat) (aa l (a1 l r.toNat c.toNat)), true) else (0, 0, [], false)
theorem aV (r c : Int) (l : List S71) (hn : l.length ≤ 1048576) : (ap r c l).2.2.1.length ≤ 1048576 := by
 unfold ap
 split
 ·simp only [ar]; exact hn
 ·simp
theorem b6 (l : List S71) (G N : List Int) (r c : Int) (hn : l.length ≤ 90) (hG : G.length = l.length) (h7 : ∀ j, j < l.length → gearB (l.getD j z71) = true → 0 ≤ G.getD j 0) (hm : ∀ j, j < l.length → G.getD j 0 < (N.length : Int)) : ∀ (d i : Nat), l.length - i = d → i ≤ l.length →
 Ev (fun k => impl_WithoutCogs.l0 k G N l (l.length : Int) (i : Int) r c ((a9 l G N).take i ++ l.drop i)) (r, c, a9 l G N, true) := by
 have hT := ar l G N
 intro d
 induction d with
 | zero =>
  intro i hd hi
  refine af 0 fun k _ => ?_
  simp only [impl_WithoutCogs.l0]
  rw [if_neg (by omega), List.take_of_length_le (by omega), List.drop_of_length_le (by omega), List.append_nil]
 | succ d ih =>
  intro i hd hi
  have hlt : i < l.length := by omega
  have hml := bg (a9 l G N) l (n := i) (by omega) hT
  have hTi : (a9 l G N).getD i z71 = ac l G N i := aw _ _ hlt
  have h2 := ih (i + 1) (by omega) (by omega)
  have same : ac l G N i = l.getD i z71 → (a9 l G N).take i ++ l.drop i = (a9 l G N).take (i + 1) ++ l.drop (i + 1) := fun h => bB _ l z71 (by omega) hT (hTi.trans h)
  refine a4 0 h2 fun k _ => ?_
  simp only [impl_WithoutCogs.l0]
  rw [if_pos (by omega), if_pos (by omega), if_pos (by omega), ak, a2 hlt (by omega)]
  by_cases h : (l.getD i z71).f0 = 7
  ·have h0 := h7 i hlt (gear7 h)
   have hmi := hm i hlt
   obtain ⟨g, hgg⟩ : ∃ g : Nat, G.getD i 0 = (g : Int) := ⟨(G.getD i 0).toNat, by omega⟩
   rw [if_pos h, if_pos (by omega), aj, hgg, if_pos (by omega), if_pos (by omega), aj]
   by_cases h1 : N.getD g 0 ≤ 1
   ·have e : ac l G N i = ⟨0, 0⟩ := by
     unfold ac
     rw [hgg, Int.toNat_natCast, if_pos (by simp only [Bool.and_eq_true, decide_eq_true_eq]; exact ⟨h, h1⟩)]
    rw [if_pos h1, if_pos (by omega), Int.toNat_natCast, show (⟨0, 0⟩ : S71) = (a9 l G N).getD i z71 from (hTi.trans e).symm, aP _ l z71 (by omega) hT]
   ·rw [if_neg h1, same (by unfold ac; rw [hgg, Int.toNat_natCast, if_neg (by simp only [Bool.and_eq_true, decide_eq_true_eq]; exact fun q => h1 q.2)])]
  ·rw [if_neg h, same (by unfold ac; rw [if_neg (by simp only [Bool.and_eq_true, decide_eq_true_eq]; exact fun q => h q.1)])]
theorem b5 (r c : Int) (l : List S71) (hn : l.length ≤ 1048576) : Ev (fun k => impl_WithoutCogs.f k r c l) (ap r c l) := by
 obtain ⟨K, hK⟩ := a7 (bO r c l hn)
 unfold ap
 by_cases h : a6 r c l = true
 ·have b := cj h
  obtain ⟨K2, hK2⟩ := a7 (ax b).1
  obtain ⟨K3, hK3⟩ := a7 (bl b)
  obtain ⟨K4, hK4⟩ := a7 (b6 l (a1 l r.toNat c.toNat) (aa l (a1 l r.toNat c.toNat)) r c b.le (ab _ _ _) (b8 b) (aK b) l.length 0 (by omega) (by omega))
  refine ⟨K + K2 + K3 + K4, fun k hk => ?_⟩
  simp only [impl_WithoutCogs.f]
  rw [bindE (hK k (by omega)), h, ad, bindE (bx r c l hn), bindE (hK2 k (by omega)), bindE (hK3 k (by omega)), ad]
  exact hK4 k (by omega)
 ·refine ⟨K, fun k hk => ?_⟩
  simp only [impl_WithoutCogs.f]
  rw [bindE (hK k hk), if_neg h, if_neg h]

def cntTo (l : List S71) (G : List Int) (p : Int → Bool) (g : Int) : Nat → Nat
 | 0 => 0
 | i + 1 => cntTo l G p g i + (if (decide ((l.getD i z71).f0 = 6) && (decide (G.getD i 0 = g) && p (l.getD i z71).f1)) = true then 1 else 0)
theorem aG (l : List S71) (G : List Int) (p : Int → Bool) (g : Int) : ∀ i, cntTo l G p g i ≤ i
 | 0 => Nat.le_refl _
 | i + 1 => by
  have h := aG l G p g i
  unfold cntTo
  split <;> omega
def isS (s : Int) (x : Int) : Bool := decide (x = s)
theorem bc {l : List S71} (hl : l.all goodC = true) (G : List Int) (g : Int) : ∀ i, i ≤ l.length → cntTo l G (fun _ => true) g i = cntTo l G (isS 0) g i + cntTo l G (isS 1) g i
 | 0, _ => rfl
 | i + 1, h => by
  have ih := bc hl G g i (by omega)
  unfold cntTo
  rw [ih]
  have hg : goodC (l.getD i z71) = true := by
   rw [List.getD_eq_getElem?_getD, List.getElem?_eq_getElem (show i < l.length by omega)]
   exact List.all_eq_true.1 hl _ (List.getElem_mem _)
  simp only [goodC, goodB, decide_eq_true_eq] at hg
  by_cases h6 : (l.getD i z71).f0 = 6
  ·by_cases hG : G.getD i 0 = g
   ·rw [decide_eq_true h6, decide_eq_true hG]
    rcases hg.2 with h0 | h1
    ·simp only [isS, h0, Bool.true_and]
     simp
     omega
    ·simp only [isS, h1.1, Bool.true_and]
     simp
     omega
   ·rw [decide_eq_false hG]
    simp only [Bool.false_and, Bool.and_false, Bool.false_eq_true, if_false, Nat.add_zero]
  ·rw [decide_eq_false h6]
   simp only [Bool.false_and, Bool.false_eq_true, if_false, Nat.add_zero]
def ag (l : List S71) (G : List Int) : Nat → List Int
 | 0 => []
 | i + 1 => ai (decide ((l.getD i z71).f0 = 6)) (ag l G i) (G.getD i 0)
theorem aJ (l : List S71) (G : List Int) : ∀ d i, al l G d i (ag l G i) = ag l G (i + d)
 | 0, _ => rfl
 | d + 1, i => by
  rw [al, show ai (decide ((l.getD i z71).f0 = 6)) (ag l G i) (G.getD i 0) = ag l G (i + 1) from rfl, aJ l G d (i + 1)]
  congr 1
  omega
theorem bH (l : List S71) (G : List Int) : aa l G = ag l G l.length := by
 have h := aJ l G l.length 0
 rw [Nat.zero_add] at h
 exact h
theorem b7 (x : List Int) (g : Int) (j : Nat) : (extL x g).getD j 0 = x.getD j 0 := by
 unfold extL
 rw [List.getD_eq_getElem?_getD, List.getD_eq_getElem?_getD, List.getElem?_append]
 split
 ·rfl
 ·rename_i h
  rw [List.getElem?_eq_none (show x.length ≤ j by omega), List.getElem?_replicate]
  split <;> rfl
theorem aW {l : List S71} {G : List Int} (hn : l.length ≤ 90) (h6 : ∀ j, j < l.length → (l.getD j z71).f0 = 6 → 0 ≤ G.getD j 0) : ∀ i, i ≤ l.length → ∀ g : Nat, (ag l G i).getD g 0 = (cntTo l G (fun _ => true) g i : Int)
 | 0, _, g => by simp [ag, cntTo]
 | i + 1, hi, g => by
  have ih := aW hn h6 i (by omega)
  have hle := aG l G (fun _ => true) (G.getD i 0) i
  unfold ag ai cntTo
  by_cases h : (l.getD i z71).f0 = 6
  ·have h0 := h6 i (by omega) h
   rw [decide_eq_true h, ad, Bool.true_and, Bool.and_true]
   have hlen : (G.getD i 0).toNat < (extL (ag l G i) (G.getD i 0)).length := by
    have := aX (ag l G i) (G.getD i 0)
    split at this
    ·omega
    ·split at this <;> omega
   have hrd : rd (extL (ag l G i) (G.getD i 0)) (G.getD i 0) = (cntTo l G (fun _ => true) (G.getD i 0) i : Int) := by
    unfold rd
    rw [b7, ih]
    congr 2
    omega
   rw [hrd, a3 (by omega) (by omega), aA, b7, ih]
   by_cases e : G.getD i 0 = (g : Int)
   ·rw [if_pos ⟨by omega, hlen⟩, decide_eq_true e, ad, e]
    omega
   ·rw [if_neg (fun h => e (by omega)), decide_eq_false e]
    simp
  ·rw [decide_eq_false h, if_neg (by simp), b7, ih]
   simp

theorem c7 {r c : Int} {l : List S71} (b : Brd r c l) (g : Nat) : (aa l (a1 l r.toNat c.toNat)).getD g 0 = (cntTo l (a1 l r.toNat c.toNat) (fun _ => true) g l.length : Int) := by
 rw [bH]
 exact aW b.le (ah b).2 l.length (Nat.le_refl _) g

def ay (l : List S71) (G : List Int) (i : Nat) (g : Nat) : List Int := [(cntTo l G (isS 0) g i : Int), (cntTo l G (isS 1) g i : Int)]
def am (l : List S71) (G : List Int) (m : Nat) (i : Nat) : List (List Int) := (List.range m).map (ay l G i)
theorem az (l : List S71) (G : List Int) (m i : Nat) : (am l G m i).length = m := by simp [am]
theorem bn (l : List S71) (G : List Int) (m i : Nat) {g : Nat} (h : g < m) : rd_L3 (am l G m i) (g : Int) = ay l G i g := by
 unfold rd_L3 am
 rw [Int.toNat_natCast, aw _ _ h]
theorem bM {l : List S71} {G : List Int} {m i g s : Nat} (hg : g < m) (h6 : (l.getD i z71).f0 = 6) (hG : G.getD i 0 = (g : Int)) (hs : (l.getD i z71).f1 = (s : Int)) (hs1 : s ≤ 1) : (am l G m i).set g ((ay l G i g).set s ((cntTo l G (isS s) g i : Int) + 1)) = am l G m (i + 1) := by
 apply List.ext_getElem?
 intro j
 rw [List.getElem?_set, az]
 unfold am
 rw [List.getElem?_map, List.getElem?_map]
 by_cases hj : j < m
 ·rw [List.getElem?_range hj]
  simp only [Option.map_some]
  by_cases e : g = j
  ·subst e
   rw [if_pos rfl, if_pos hg]
   have h01 : s = 0 ∨ s = 1 := by omega
   simp only [ay, cntTo]
   rw [decide_eq_true h6, decide_eq_true hG, hs]
   rcases h01 with rfl | rfl
   ·simp only [isS, Bool.true_and]
    simp
   ·simp only [isS, Bool.true_and]
    simp
  ·rw [if_neg e]
   have e2 : ¬ G.getD i 0 = (j : Int) := by omega
   simp only [ay, cntTo, decide_eq_false e2, Bool.false_and, Bool.and_false, Bool.false_eq_true, if_false, Nat.add_zero]
 ·rw [List.getElem?_eq_none (by simpa using hj)]
  simp only [Option.map_none]
  split
  ·omega
  ·rfl
theorem bF {l : List S71} {G : List Int} {m i : Nat} (h6 : ¬ (l.getD i z71).f0 = 6) : am l G m i = am l G m (i + 1) := by
 unfold am
 apply List.map_congr_left
 intro g _
 simp only [ay, cntTo, decide_eq_false h6, Bool.false_and, Bool.false_eq_true, if_false, Nat.add_zero]
theorem bT (l : List S71) (G : List Int) (r c : Int) (m : Nat) (hn : l.length ≤ 90) (hl : l.all goodC = true) (hG : G.length = l.length) (h6 : ∀ j, j < l.length → (l.getD j z71).f0 = 6 → 0 ≤ G.getD j 0) (hm : ∀ j, j < l.length → G.getD j 0 < m) : ∀ (d i : Nat), l.length - i = d → i ≤ l.length →
 Ev (fun k => spec_ggGears.l1 k (am l G m i) G (l.length : Int) (i : Int) r c l) (am l G m l.length) := by
 intro d
 induction d with
 | zero =>
  intro i hd hi
  obtain rfl : i = l.length := by omega
  refine af 0 fun k _ => ?_
  simp only [spec_ggGears.l1]
  rw [if_neg (by omega)]
 | succ d ih =>
  intro i hd hi
  have hlt : i < l.length := by omega
  have hgood : goodC (l.getD i z71) = true := by
   rw [List.getD_eq_getElem?_getD, List.getElem?_eq_getElem hlt]
   exact List.all_eq_true.1 hl _ (List.getElem_mem _)
  simp only [goodC, goodB, decide_eq_true_eq] at hgood
  have h2 := ih (i + 1) (by omega) (by omega)
  by_cases h : (l.getD i z71).f0 = 6
  ·have h0 := h6 i hlt h
   have hmi := hm i hlt
   obtain ⟨g, hgg⟩ : ∃ g : Nat, G.getD i 0 = (g : Int) := ⟨(G.getD i 0).toNat, by omega⟩
   obtain ⟨s, hss⟩ : ∃ s : Nat, (l.getD i z71).f1 = (s : Int) := ⟨(l.getD i z71).f1.toNat, by omega⟩
   have hs1 : s ≤ 1 := by omega
   have hgm : g < m := by omega
   have hstep := bM (m := m) hgm h hgg hss hs1
   have hc := aG l G (isS s) g i
   have hrd : rd (ay l G i g) (s : Int) = (cntTo l G (isS s) g i : Int) := by
    have h01 : s = 0 ∨ s = 1 := by omega
    rcases h01 with rfl | rfl <;> rfl
   refine a4 0 h2 fun k _ => ?_
   simp only [spec_ggGears.l1]
   rw [if_pos (by omega), if_pos (by omega), if_pos (by omega), if_pos (by omega), ak, if_pos h, aj, hgg, bn l G m i hgm, hss, if_pos (by omega), if_pos (by rw [az]; omega), if_pos (by omega), if_pos (by simp [ay]; omega), hrd, a3 (x := (cntTo l G (isS s) g i : Int) + 1) (by omega) (by omega), Int.toNat_natCast, Int.toNat_natCast, hstep, a2 hlt (by omega)]
  ·refine a4 0 h2 fun k _ => ?_
   simp only [spec_ggGears.l1]
   rw [if_pos (by omega), if_pos (by omega), if_pos (by omega), if_pos (by omega), ak, if_neg h, bF h, a2 hlt (by omega)]
theorem bD (l : List S71) (G : List Int) (m : Nat) : am l G m 0 = List.replicate m [0, 0] := by
 apply List.ext_getElem?
 intro j
 unfold am
 rw [List.getElem?_map]
 by_cases hj : j < m
 ·rw [List.getElem?_range hj, List.getElem?_replicate, if_pos hj]
  rfl
 ·rw [List.getElem?_eq_none (by simpa using hj), List.getElem?_replicate, if_neg hj]
  rfl
theorem bQ (l : List S71) (G : List Int) (r c : Int) (m : Nat) (hm : m ≤ 90) (res : List (List Int)) (hnext : Ev (fun k => spec_ggGears.l1 k (List.replicate m [0, 0]) G (G.length : Int) 0 r c l) res) : ∀ (d i : Nat), m - i = d → i ≤ m →
 Ev (fun k => spec_ggGears.l0 k G ((List.replicate m ([0, 0] : List Int)).take i ++ (List.replicate m ([] : List Int)).drop i) (m : Int) (i : Int) r c l) res := by
 intro d
 induction d with
 | zero =>
  intro i hd hi
  obtain rfl : i = m := by omega
  refine a4 0 hnext fun k _ => ?_
  simp only [spec_ggGears.l0]
  rw [if_neg (by omega), List.take_of_length_le (by simp), List.drop_of_length_le (by simp), List.append_nil]
 | succ d ih =>
  intro i hd hi
  have hlt : i < m := by omega
  have hset := aP (List.replicate m ([0, 0] : List Int)) (List.replicate m ([] : List Int)) [] (n := i) (by simpa using hlt) (by simp)
  rw [show (List.replicate m ([0, 0] : List Int)).getD i [] = [0, 0] by simp [List.getD_eq_getElem?_getD, hlt]] at hset
  refine a4 0 (ih (i + 1) (by omega) (by omega)) fun k _ => ?_
  simp only [spec_ggGears.l0]
  rw [if_pos (by omega), if_pos (by omega), if_pos (by simp; omega), Int.toNat_natCast, hset, a2 hlt (by omega)]
def av (l : List S71) (R C : Nat) : List (List Int) := am l (a1 l R C) (aa l (a1 l R C)).length l.length
theorem bP {r c : Int} {l : List S71} (b : Brd r c l) : Ev (fun k => spec_ggGears.f k r c l) (av l r.toNat c.toNat) := by
 have b9 := b.le
 obtain ⟨K2, hK2⟩ := a7 (ax b).2
 obtain ⟨K3, hK3⟩ := a7 (bR b)
 have hGl := ab l r.toNat c.toNat
 have ht := aK b
 have hs := bq b
 obtain ⟨_, hb6⟩ := ah b
 unfold av
 generalize aa l (a1 l r.toNat c.toNat) = N at *
 generalize a1 l r.toNat c.toNat = G at *
 have h1 := bT l G r c N.length b9 b.all hGl hb6 ht l.length 0 (by omega) (by omega)
 rw [bD, ← hGl] at h1
 obtain ⟨K4, hK4⟩ := a7 (bQ l G r c N.length (by omega) _ h1 N.length 0 (by omega) (by omega))
 refine ⟨K2 + K3 + K4, fun k hk => ?_⟩
 simp only [spec_ggGears.f]
 rw [bindE (hK2 k (by omega)), bindE (hK3 k (by omega)), if_pos (by omega), if_pos (by omega), Option.bind_some, Int.toNat_natCast, List.length_replicate]
 rw [← hGl]
 exact hK4 k (by omega)
theorem ca {r c : Int} {l : List S71} (b : Brd r c l) {g : Nat} (hg : g < (aa l (a1 l r.toNat c.toNat)).length) : wrap64 (rd (rd_L3 (av l r.toNat c.toNat) (g : Int)) 0 + rd (rd_L3 (av l r.toNat c.toNat) (g : Int)) 1) = (aa l (a1 l r.toNat c.toNat)).getD g 0 ∧ (rd_L3 (av l r.toNat c.toNat) (g : Int)).length = 2 := by
 have b9 := b.le
 have h1 := aG l (a1 l r.toNat c.toNat) (isS 0) g l.length
 have h2 := aG l (a1 l r.toNat c.toNat) (isS 1) g l.length
 have h3 := bc b.all (a1 l r.toNat c.toNat) g l.length (Nat.le_refl _)
 rw [c7 b g, h3]
 unfold av
 rw [bn _ _ _ _ hg]
 have e0 : rd (ay l (a1 l r.toNat c.toNat) l.length g) 0 = (cntTo l (a1 l r.toNat c.toNat) (isS 0) g l.length : Int) := rfl
 have e1 : rd (ay l (a1 l r.toNat c.toNat) l.length g) 1 = (cntTo l (a1 l r.toNat c.toNat) (isS 1) g l.length : Int) := rfl
 rw [e0, e1, a3 (by omega) (by omega)]
 exact ⟨by omega, rfl⟩

theorem bJ (l : List S71) (R C : Nat) : (av l R C).length = (aa l (a1 l R C)).length := by
 unfold av
 exact az _ _ _ _

theorem ci (r c : Int) (l : List S71) (hn : l.length ≤ 1048576) : spec_boOwn.f r c l = some (r, c, l) := by
 unfold spec_boOwn.f
 rw [Option.bind_some, if_pos (by simp; omega), List.nil_append]

theorem aM (l : List S71) (G N : List Int) (Q : List (List Int)) (r c : Int) (hQ : Q.length = N.length) (hs : ∀ g : Nat, g < N.length → wrap64 (rd (rd_L3 Q (g : Int)) 0 + rd (rd_L3 Q (g : Int)) 1) = N.getD g 0 ∧ (rd_L3 Q (g : Int)).length = 2) (hn : l.length ≤ 90) (hG : G.length = l.length) (h7 : ∀ j, j < l.length → gearB (l.getD j z71) = true → 0 ≤ G.getD j 0) (hm : ∀ j, j < l.length → G.getD j 0 < (N.length : Int)) : ∀ (d i : Nat), l.length - i = d → i ≤ l.length →
 Ev (fun k => spec_WithoutCogs.l0 k G Q l (l.length : Int) (i : Int) r c ((a9 l G N).take i ++ l.drop i)) (r, c, a9 l G N, true) := by
 have hT := ar l G N
 intro d
 induction d with
 | zero =>
  intro i hd hi
  refine af 0 fun k _ => ?_
  simp only [spec_WithoutCogs.l0]
  rw [if_neg (by omega), List.take_of_length_le (by omega), List.drop_of_length_le (by omega), List.append_nil]
 | succ d ih =>
  intro i hd hi
  have hlt : i < l.length := by omega
  have hml := bg (a9 l G N) l (n := i) (by omega) hT
  have hTi : (a9 l G N).getD i z71 = ac l G N i := aw _ _ hlt
  have h2 := ih (i + 1) (by omega) (by omega)
  have same : ac l G N i = l.getD i z71 → (a9 l G N).take i ++ l.drop i = (a9 l G N).take (i + 1) ++ l.drop (i + 1) := fun h => bB _ l z71 (by omega) hT (hTi.trans h)
  refine a4 0 h2 fun k _ => ?_
  simp only [spec_WithoutCogs.l0]
  rw [if_pos (by omega), if_pos (by omega), if_pos (by omega), ak, a2 hlt (by omega)]
  by_cases h : (l.getD i z71).f0 = 7
  ·have h0 := h7 i hlt (gear7 h)
   have hmi := hm i hlt
   obtain ⟨g, hgg⟩ : ∃ g : Nat, G.getD i 0 = (g : Int) := ⟨(G.getD i 0).toNat, by omega⟩
   obtain ⟨hsum, hq2⟩ := hs g (by omega)
   have hsum : Hid _ := ⟨hsum⟩
   rw [if_pos h, if_pos (by omega), aj, hgg, if_pos (by omega), if_pos (by omega), if_pos (by omega), if_pos (by omega), hsum.out]
   by_cases h1 : N.getD g 0 ≤ 1
   ·have e : ac l G N i = ⟨0, 0⟩ := by
     unfold ac
     rw [hgg, Int.toNat_natCast, if_pos (by simp only [Bool.and_eq_true, decide_eq_true_eq]; exact ⟨h, h1⟩)]
    rw [if_pos h1, if_pos (by omega), Int.toNat_natCast, show (⟨0, 0⟩ : S71) = (a9 l G N).getD i z71 from (hTi.trans e).symm, aP _ l z71 (by omega) hT]
   ·rw [if_neg h1, same (by unfold ac; rw [hgg, Int.toNat_natCast, if_neg (by simp only [Bool.and_eq_true, decide_eq_true_eq]; exact fun q => h1 q.2)])]
  ·rw [if_neg h, same (by unfold ac; rw [if_neg (by simp only [Bool.and_eq_true, decide_eq_true_eq]; exact fun q => h q.1)])]
theorem aL (r c : Int) (l : List S71) (hn : l.length ≤ 1048576) : Ev (fun k => spec_WithoutCogs.f k r c l) (ap r c l) := by
 obtain ⟨K, hK⟩ := a7 (cd r c l hn)
 unfold ap
 by_cases h : a6 r c l = true
 ·have b := cj h
  obtain ⟨K2, hK2⟩ := a7 (ax b).2
  obtain ⟨K3, hK3⟩ := a7 (bP b)
  obtain ⟨K4, hK4⟩ := a7 (aM l (a1 l r.toNat c.toNat) (aa l (a1 l r.toNat c.toNat)) (av l r.toNat c.toNat) r c (bJ _ _ _) (fun g hg => ca b hg) b.le (ab _ _ _) (b8 b) (aK b) l.length 0 (by omega) (by omega))
  refine ⟨K + K2 + K3 + K4, fun k hk => ?_⟩
  simp only [spec_WithoutCogs.f]
  rw [bindE (hK k (by omega)), h, ad, bindE (hK2 k (by omega)), bindE (hK3 k (by omega)), bindE (ci r c l hn), ad]
  exact hK4 k (by omega)
 ·refine ⟨K, fun k hk => ?_⟩
  simp only [spec_WithoutCogs.f]
  rw [bindE (hK k hk), if_neg h, if_neg h]

def marks : Nat → Int → List S71
 | 0, _ => []
 | n + 1, s => ⟨s, s + 1⟩ :: marks n (s + 2)
theorem aS : ∀ (n : Nat) (s : Int), (marks n s).length = n
 | 0, _ => rfl
 | n + 1, s => by simp [marks, aS n]
theorem bo (N : Nat) (hN : N ≤ 1048576) : ∀ (d i : Nat) (s : Int) (x : List S71), x.length = N → N - i = d → i ≤ N → 0 ≤ s → s ≤ 4194304 + 2 * i →
 Ev (fun k => laws_markCellS.l0 k x s (i : Int)) (s + 2 * d, x.take i ++ marks d s) := by
 intro d
 induction d with
 | zero =>
  intro i s x hx hd hi h0 h1
  refine af 0 fun k _ => ?_
  simp only [laws_markCellS.l0]
  rw [if_neg (by omega)]
  simp [marks, List.take_of_length_le (show x.length ≤ i by omega)]
 | succ d ih =>
  intro i s x hx hd hi h0 h1
  have hlt : i < x.length := by omega
  have e : ((x.set i (⟨s, (rd_T71 x i).f1⟩ : S71)).set i ⟨(rd_T71 (x.set i (⟨s, (rd_T71 x i).f1⟩ : S71)) i).f0, s + 1⟩) = x.set i (⟨s, s + 1⟩ : S71) := by
   rw [List.set_set]
   simp [rd_T71, hlt]
  refine a4 0 (f := fun k => laws_markCellS.l0 k (x.set i (⟨s, s + 1⟩ : S71)) (s + 2) ((i + 1 : Nat) : Int)) ?_ fun k _ => ?_
  ·have h := ih (i + 1) (s + 2) (x.set i (⟨s, s + 1⟩ : S71)) (by simpa using hx) (by omega) (by omega) (by omega) (by omega)
   rw [bE x _ (by omega)] at h
   have e2 : s + 2 + 2 * (d : Int) = s + 2 * ((d + 1 : Nat) : Int) := by omega
   rw [e2, List.append_assoc] at h
   exact h
  ·simp only [laws_markCellS.l0]
   rw [if_pos (by omega), if_pos (by omega)]
   simp only [Option.bind_some, Int.toNat_natCast]
   rw [a2 hlt (by omega), a3 (x := s + 1) (by omega) (by omega), a3 (x := s + 1 + 1) (by omega) (by omega), e]
   rw [show s + 1 + 1 = s + 2 by omega]
theorem bu (x : List S71) (s : Int) (hn : x.length ≤ 1048576) (h0 : 0 ≤ s) (h1 : s ≤ 4194304) : Ev (fun k => laws_markCellS.f k x s) (s + 2 * x.length, marks x.length s) := by
 have h := bo x.length hn x.length 0 s x rfl (by omega) (by omega) h0 (by omega)
 simpa [laws_markCellS.f] using h

theorem aQ (r c : Int) (x : List S71) (s : Int) (hn : x.length ≤ 1048576) (h0 : 0 ≤ s) (h1 : s ≤ 4194304) : Ev (fun k => laws_markBoard.f k r c x s) (s + 2 * x.length, marks x.length s) := by
 obtain ⟨K, hK⟩ := a7 (bu x s hn h0 h1)
 refine ⟨K, fun k hk => ?_⟩
 simp only [laws_markBoard.f]
 rw [bindE (hK k hk)]



theorem br (y : List S71) (N : Nat) (hN : N ≤ 1048576) (hy : y.length = N) : ∀ (d i : Nat) (s : Int), N - i = d → i ≤ N → 0 ≤ s → s ≤ 4194304 + 2 * i → y.drop i = marks d s →
 Ev (fun k => laws_heldCellS.l0 k y s (i : Int)) (s + 2 * d) := by
 intro d
 induction d with
 | zero =>
  intro i s hd hi h0 h1 hm
  refine af 0 fun k _ => ?_
  simp only [laws_heldCellS.l0]
  rw [if_neg (by omega)]
  simp
 | succ d ih =>
  intro i s hd hi h0 h1 hm
  have hlt : i < y.length := by omega
  rw [ae y z71 hlt, marks] at hm
  injection hm with hm1 hm2
  have h := ih (i + 1) (s + 2) (by omega) (by omega) (by omega) (by omega) hm2
  have e2 : s + 2 + 2 * (d : Int) = s + 2 * ((d + 1 : Nat) : Int) := by omega
  rw [e2] at h
  refine a4 0 h fun k _ => ?_
  simp only [laws_heldCellS.l0, rd_T71, Int.toNat_natCast, hm1]
  rw [if_pos (by omega), if_pos (by omega), if_pos trivial, a2 hlt (by omega), a3 (x := s + 1) (by omega) (by omega), a3 (x := s + 1 + 1) (by omega) (by omega), if_pos rfl]
  rw [show s + 1 + 1 = s + 2 by omega]
theorem bs (n : Nat) (s : Int) (hn : n ≤ 1048576) (h0 : 0 ≤ s) (h1 : s ≤ 4194304) : Ev (fun k => laws_heldCellS.f k (marks n s) s) (s + 2 * n) := by
 have h := br (marks n s) n hn (aS n s) n 0 s (by omega) (by omega) h0 (by omega) rfl
 simpa [laws_heldCellS.f] using h

theorem bw (r c : Int) (n : Nat) (s : Int) (hn : n ≤ 1048576) (h0 : 0 ≤ s) (h1 : s ≤ 4194304) : Ev (fun k => laws_heldBoard.f k r c (marks n s) s) (s + 2 * n) := by
 obtain ⟨K, hK⟩ := a7 (bs n s hn h0 h1)
 refine ⟨K, fun k hk => ?_⟩
 simp only [laws_heldBoard.f]
 rw [bindE (hK k hk), if_neg (by omega)]



theorem FnExactWithoutCogs (r0 c0 : Int) (a0 : List S84) (hn0 : a0.length ≤ 9223372036854775807) : ∃ k, laws_FnExactWithoutCogs.f k r0 c0 a0 = some true := by
 unfold laws_FnExactWithoutCogs.f
 simp only [bindE (bV r0 c0 a0 (1048576) (by omega) (by omega) hn0)]
 by_cases hs0 : (a0.length : Int) ≤ 1048576
 case neg =>
  exact ⟨0, by rw [if_neg hs0]; rfl⟩
 have hq0 : ¬ (1048576 - (a0.length : Int) < 0) := by omega
 simp only [if_pos hs0, if_neg hq0]
 have hl0 : (a0.map conv).length ≤ 1048576 := by rw [List.length_map]; omega
 obtain ⟨K1, h1⟩ := a7 (bN r0 c0 a0 (by omega))
 obtain ⟨K2, h2⟩ := a7 (b5 r0 c0 (a0.map conv) hl0)
 obtain ⟨K3, h3⟩ := a7 (aL r0 c0 (a0.map conv) hl0)
 have hr := aV r0 c0 (a0.map conv) hl0
 revert h2 h3 hr
 generalize ap r0 c0 (a0.map conv) = r
 intro h2 h3 hr
 obtain ⟨K4, h4⟩ := a7 (bd r0 c0 (a0.map conv) hl0)
 obtain ⟨K5, h5⟩ := a7 (bd r.1 r.2.1 r.2.2.1 (by omega))
 obtain ⟨K6, h6⟩ := a7 (aQ r0 c0 (a0.map conv) (1) hl0 (by omega) (by omega))
 have q1 : ¬ (1 + 2 * (a0.map conv).length < (0 : Int)) := by omega
 obtain ⟨K7, h7⟩ := a7 (aQ r.1 r.2.1 r.2.2.1 (1) (by omega) (by omega) (by omega))
 obtain ⟨K8, h8⟩ := a7 (bw r.1 r.2.1 r.2.2.1.length (1) (by omega) (by omega) (by omega))
 have q2 : ¬ (1 + 2 * r.2.2.1.length < (0 : Int)) := by omega
 refine ⟨K1 + K2 + K3 + K4 + K5 + K6 + K7 + K8 + 1 + 1 + 1, ?_⟩
 repeat (first | rw [bindE (h1 _ (by omega))] | rw [bindE (h2 _ (by omega))] | rw [bindE (h3 _ (by omega))] | rw [bindE (h4 _ (by omega))] | rw [bindE (h5 _ (by omega))] | rw [bindE (h6 _ (by omega))] | rw [bindE (h7 _ (by omega))] | rw [bindE (h8 _ (by omega))] | rw [Option.bind_some] | rw [ad] | rw [ck] | rw [cf] | rw [if_neg q1] | rw [if_neg q2] | rw [if_pos rfl] | rw [laws_FnExactWithoutCogs.j0] | rw [laws_FnExactWithoutCogs.j1] | rw [laws_FnExactWithoutCogs.j2])

end Go.Proofs.Ytlkiakpipcnijaa.Pure
