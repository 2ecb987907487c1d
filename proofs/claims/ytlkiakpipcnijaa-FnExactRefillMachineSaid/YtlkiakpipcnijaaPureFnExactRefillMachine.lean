/- For all arguments the program's RefillMachine answers as the reference's does (the plain law, over the printed functions). Conditions: none. -/
import Derived.Test.YtlkiakpipcnijaaG27
set_option linter.unusedVariables false
set_option linter.unusedSimpArgs false
namespace Go.Proofs.Ytlkiakpipcnijaa.Pure
open Go.RowKit Go.Proofs.Ytlkiakpipcnijaa.PAll Go.Proofs.YtlkiakpipcnijaaW.PrintWords Go.Proofs.YtlkiakpipcnijaaW.PrintLast Go.Proofs.YtlkiakpipcnijaaW.PrintMore

theorem a4 {x : Int} (h0 : -9223372036854775808 ≤ x) (h1 : x < 9223372036854775808) : wrap64 x = x := by unfold wrap64; omega
theorem a5 {i n : Nat} (h : i < n) (hn : n ≤ 4611686018427387904) : wrap64 ((i : Int) + 1) = ((i + 1 : Nat) : Int) := by unfold wrap64; omega
theorem b4 : wrap64 (-1) = -1 := by decide +kernel
theorem ba : wrap64 0 = 0 := by decide +kernel
theorem b8 : wrap64 1 = 1 := by decide +kernel
theorem b7 : wrap64 2 = 2 := by decide +kernel
structure Hid (p : Prop) : Prop where
 out : p
theorem a7 {α : Type} {g : Nat → Option α} {r : α} (K : Nat) (h : ∀ k, K ≤ k → g (k + 1) = some r) : Ev g r := by
 refine ⟨K + 1, fun k hk => ?_⟩
 obtain ⟨m, rfl⟩ : ∃ m, k = m + 1 := ⟨k - 1, by omega⟩
 exact h m (by omega)
theorem ac {α : Type} {g f : Nat → Option α} {r : α} (K : Nat) (hf : Ev f r) (h : ∀ k, K ≤ k → g (k + 1) = f k) : Ev g r := by
 obtain ⟨K', hf⟩ := hf
 refine ⟨K + K' + 1, fun k hk => ?_⟩
 obtain ⟨m, rfl⟩ : ∃ m, k = m + 1 := ⟨k - 1, by omega⟩
 rw [h m (by omega)]
 exact hf m (by omega)
theorem a3 {α : Type} {g : Nat → Option α} {r : α} (h : Ev g r) : ∃ K, ∀ k, K ≤ k → g k = some r := h
theorem aZ {α : Type} {g : Nat → Option α} {r : α} (h : ∀ k, g k = some r) : Ev g r := ⟨0, fun k _ => h k⟩
theorem aA {α : Type} {g f : Nat → Option α} {r : α} (K : Nat) (hf : Ev f r) (h : ∀ k, K ≤ k → g k = f k) : Ev g r := by
 obtain ⟨K', hf⟩ := hf
 exact ⟨K + K', fun k hk => (h k (by omega)).trans (hf k (by omega))⟩
theorem bindE {α β : Type} {o : Option α} {v : α} {f : α → Option β} (h : o = some v) : o.bind f = f v := by rw [h]; rfl
theorem aW {β : Type} (x : Bool) (a b : β) : (if (x != x) = true then a else b) = b := by simp
theorem aU {β : Type} (x : Int) (a b : β) : (if (x != x) = true then a else b) = b := by simp
theorem a1 {β : Type} (a b : β) : (if true = true then a else b) = a := rfl
theorem ab {α : Type} (l : List α) (z : α) {i : Nat} (h : i < l.length) : l.drop i = l.getD i z :: l.drop (i + 1) := by
 rw [List.drop_eq_getElem_cons h, List.getD_eq_getElem?_getD, List.getElem?_eq_getElem h]; rfl
theorem aG {α : Type} (l : List α) (v : α) {i : Nat} (h : i < l.length) : (l.set i v).take (i + 1) = l.take i ++ [v] := by
 rw [List.take_succ_eq_append_getElem (by simpa using h)]
 simp [List.take_set_of_le]
theorem b6 {α : Type} (l : List α) (i : Nat) (z : α) : l.getD ((i : Int).toNat) z = l.getD i z := by rw [Int.toNat_natCast]

theorem aI (a : List S84) (left : Int) (h0 : 0 ≤ left) (h1 : left ≤ 1048576) (hn : a.length ≤ 9223372036854775807) :
 laws_szCellS.f a left = some (if (a.length : Int) ≤ left then left - a.length else -1) := by
 unfold laws_szCellS.f
 rw [a4 (by omega) (by omega)]
 by_cases h : (a.length : Int) ≤ left
 ·rw [if_neg (by omega), if_pos h]
 ·rw [if_pos (by omega), if_neg h]

theorem aN (r c : Int) (a : List S84) (left : Int) (h0 : 0 ≤ left) (h1 : left ≤ 1048576) (hn : a.length ≤ 9223372036854775807) :
 laws_szBoard.f r c a left = some (if (a.length : Int) ≤ left then left - a.length else -1) := by
 unfold laws_szBoard.f
 rw [bindE (aI a left h0 h1 hn)]
 by_cases h : (a.length : Int) ≤ left
 ·rw [if_pos h, if_neg (by omega)]
 ·rw [if_neg h, if_pos (by omega)]

theorem ay (r c : Int) (a : List S84) (m1 m2 m3 m4 m5 : Int) (left : Int) (h0 : 0 ≤ left) (h1 : left ≤ 1048576) (hn : a.length ≤ 9223372036854775807) :
 laws_szMachine.f r c a m1 m2 m3 m4 m5 left = some (if (a.length : Int) ≤ left then left - a.length else -1) := by
 unfold laws_szMachine.f
 rw [bindE (aN r c a left h0 h1 hn)]
 by_cases h : (a.length : Int) ≤ left
 ·rw [if_pos h, if_neg (by omega)]
 ·rw [if_neg h, if_pos (by omega)]

def conv (x : S84) : S71 := ⟨x.f0, x.f1⟩
theorem aK (a : List S84) (hn : a.length ≤ 1048576) : ∀ (d i : Nat) (x : List S71), a.length - i = d → i ≤ a.length → x.length = a.length →
 Ev (fun k => laws_toCellS.l0 k a x (i : Int)) (x.take i ++ (a.drop i).map conv) := by
 intro d
 induction d with
 | zero =>
  intro i x hd hi hx
  obtain rfl : i = a.length := by omega
  refine a7 0 fun k _ => ?_
  simp only [laws_toCellS.l0]
  rw [if_neg (by omega)]
  simp [← hx]
 | succ d ih =>
  intro i x hd hi hx
  have hlt : i < a.length := by omega
  refine ac 0 (f := fun k => laws_toCellS.l0 k a (x.set i (conv (a.getD i z84))) ((i + 1 : Nat) : Int)) ?_ fun k _ => ?_
  ·have h := ih (i + 1) (x.set i (conv (a.getD i z84))) (by omega) (by omega) (by simpa using hx)
   rwa [aG x _ (by omega), List.append_assoc, List.singleton_append, ← List.map_cons, ← ab a z84 hlt] at h
  ·simp only [laws_toCellS.l0]
   rw [if_pos (by omega), if_pos (by omega)]
   simp only [laws_toCell.f, Option.bind_some]
   rw [if_pos (by omega), a5 hlt (by omega), Int.toNat_natCast]
   simp only [rd_T84, Int.toNat_natCast]
   rfl
theorem aH (a : List S84) (hn : a.length ≤ 1048576) : Ev (fun k => laws_toCellS.f k a) (a.map conv) := by
 refine aA 0 (f := fun k => laws_toCellS.l0 k a (List.replicate a.length z71) ((0 : Nat) : Int)) ?_ fun k _ => ?_
 ·have h := aK a hn a.length 0 (List.replicate a.length z71) (by omega) (by omega) (by simp)
  simpa using h
 ·simp only [laws_toCellS.f]
  rw [if_pos (by omega), if_pos (by omega)]
  simp

theorem aJ (r c : Int) (a : List S84) (hn : a.length ≤ 1048576) : Ev (fun k => laws_toBoard.f k r c a) (r, c, a.map conv) := by
 obtain ⟨K, hK⟩ := a3 (aH a hn)
 refine ⟨K, fun k hk => ?_⟩
 simp only [laws_toBoard.f]
 rw [bindE (hK k hk)]

theorem aE (r c : Int) (a : List S84) (m1 m2 m3 m4 m5 : Int) (hn : a.length ≤ 1048576) : Ev (fun k => laws_toMachine.f k r c a m1 m2 m3 m4 m5) (r, c, a.map conv, m1, m2, m3, m4, m5) := by
 obtain ⟨K, hK⟩ := a3 (aJ r c a hn)
 refine ⟨K, fun k hk => ?_⟩
 simp only [laws_toMachine.f]
 rw [bindE (hK k hk)]

theorem aO (a : List S71) (hn : a.length ≤ 1048576) : ∀ (d i : Nat), a.length - i = d → i ≤ a.length → Ev (fun k => laws_eqCellS.l0 k a a (i : Int)) true := by
 intro d
 induction d with
 | zero =>
  intro i hd hi
  refine a7 0 fun k _ => ?_
  simp only [laws_eqCellS.l0]
  rw [if_neg (by omega)]
 | succ d ih =>
  intro i hd hi
  have hlt : i < a.length := by omega
  refine ac 0 (ih (i + 1) (by omega) (by omega)) fun k _ => ?_
  simp only [laws_eqCellS.l0]
  rw [if_pos (by omega), if_pos (by omega), if_pos (by omega), a5 hlt (by omega)]
  simp [laws_eqCell.f]
theorem aP (a : List S71) (hn : a.length ≤ 1048576) : Ev (fun k => laws_eqCellS.f k a a) true := by
 refine aA 0 (aO a hn a.length 0 (by omega) (by omega)) fun k _ => ?_
 simp only [laws_eqCellS.f, if_true]
 rfl

theorem aL (r c : Int) (a : List S71) (hn : a.length ≤ 1048576) : Ev (fun k => laws_eqBoard.f k r c a r c a) true := by
 obtain ⟨K, hK⟩ := a3 (aP a hn)
 refine ⟨K, fun k hk => ?_⟩
 simp only [laws_eqBoard.f]
 rw [if_pos trivial, if_pos trivial, bindE (hK k hk), a1]

theorem ae (r c : Int) (a : List S71) (m1 m2 m3 m4 m5 : Int) (hn : a.length ≤ 1048576) : Ev (fun k => laws_eqMachine.f k r c a m1 m2 m3 m4 m5 r c a m1 m2 m3 m4 m5) true := by
 obtain ⟨K, hK⟩ := a3 (aL r c a hn)
 refine ⟨K, fun k hk => ?_⟩
 simp only [laws_eqMachine.f]
 rw [bindE (hK k hk)]
 simp



def marks : Nat → Int → List S71
 | 0, _ => []
 | n + 1, s => ⟨s, s + 1⟩ :: marks n (s + 2)
theorem af : ∀ (n : Nat) (s : Int), (marks n s).length = n
 | 0, _ => rfl
 | n + 1, s => by simp [marks, af n]
theorem ar (N : Nat) (hN : N ≤ 1048576) : ∀ (d i : Nat) (s : Int) (x : List S71), x.length = N → N - i = d → i ≤ N → 0 ≤ s → s ≤ 4194304 + 2 * i →
 Ev (fun k => laws_markCellS.l0 k x s (i : Int)) (s + 2 * d, x.take i ++ marks d s) := by
 intro d
 induction d with
 | zero =>
  intro i s x hx hd hi h0 h1
  refine a7 0 fun k _ => ?_
  simp only [laws_markCellS.l0]
  rw [if_neg (by omega)]
  simp [marks, List.take_of_length_le (show x.length ≤ i by omega)]
 | succ d ih =>
  intro i s x hx hd hi h0 h1
  have hlt : i < x.length := by omega
  have e : ((x.set i (⟨s, (rd_T71 x i).f1⟩ : S71)).set i ⟨(rd_T71 (x.set i (⟨s, (rd_T71 x i).f1⟩ : S71)) i).f0, s + 1⟩) = x.set i (⟨s, s + 1⟩ : S71) := by
   rw [List.set_set]
   simp [rd_T71, hlt]
  refine ac 0 (f := fun k => laws_markCellS.l0 k (x.set i (⟨s, s + 1⟩ : S71)) (s + 2) ((i + 1 : Nat) : Int)) ?_ fun k _ => ?_
  ·have h := ih (i + 1) (s + 2) (x.set i (⟨s, s + 1⟩ : S71)) (by simpa using hx) (by omega) (by omega) (by omega) (by omega)
   rw [aG x _ (by omega)] at h
   have e2 : s + 2 + 2 * (d : Int) = s + 2 * ((d + 1 : Nat) : Int) := by omega
   rw [e2, List.append_assoc] at h
   exact h
  ·simp only [laws_markCellS.l0]
   rw [if_pos (by omega), if_pos (by omega)]
   simp only [Option.bind_some, Int.toNat_natCast]
   rw [a5 hlt (by omega), a4 (x := s + 1) (by omega) (by omega), a4 (x := s + 1 + 1) (by omega) (by omega), e]
   rw [show s + 1 + 1 = s + 2 by omega]
theorem aD (x : List S71) (s : Int) (hn : x.length ≤ 1048576) (h0 : 0 ≤ s) (h1 : s ≤ 4194304) : Ev (fun k => laws_markCellS.f k x s) (s + 2 * x.length, marks x.length s) := by
 have h := ar x.length hn x.length 0 s x rfl (by omega) (by omega) h0 (by omega)
 simpa [laws_markCellS.f] using h

theorem au (r c : Int) (x : List S71) (s : Int) (hn : x.length ≤ 1048576) (h0 : 0 ≤ s) (h1 : s ≤ 4194304) : Ev (fun k => laws_markBoard.f k r c x s) (s + 2 * x.length, marks x.length s) := by
 obtain ⟨K, hK⟩ := a3 (aD x s hn h0 h1)
 refine ⟨K, fun k hk => ?_⟩
 simp only [laws_markBoard.f]
 rw [bindE (hK k hk)]

theorem aa (r c : Int) (x : List S71) (m1 m2 m3 m4 m5 s : Int) (hn : x.length ≤ 1048576) (h0 : 0 ≤ s) (h1 : s ≤ 4194304) : Ev (fun k => laws_markMachine.f k r c x m1 m2 m3 m4 m5 s) (s + 2 * x.length, marks x.length s) := by
 obtain ⟨K, hK⟩ := a3 (au r c x s hn h0 h1)
 refine ⟨K, fun k hk => ?_⟩
 simp only [laws_markMachine.f]
 rw [bindE (hK k hk)]

theorem aw (y : List S71) (N : Nat) (hN : N ≤ 1048576) (hy : y.length = N) : ∀ (d i : Nat) (s : Int), N - i = d → i ≤ N → 0 ≤ s → s ≤ 4194304 + 2 * i → y.drop i = marks d s →
 Ev (fun k => laws_heldCellS.l0 k y s (i : Int)) (s + 2 * d) := by
 intro d
 induction d with
 | zero =>
  intro i s hd hi h0 h1 hm
  refine a7 0 fun k _ => ?_
  simp only [laws_heldCellS.l0]
  rw [if_neg (by omega)]
  simp
 | succ d ih =>
  intro i s hd hi h0 h1 hm
  have hlt : i < y.length := by omega
  rw [ab y z71 hlt, marks] at hm
  injection hm with hm1 hm2
  have h := ih (i + 1) (s + 2) (by omega) (by omega) (by omega) (by omega) hm2
  have e2 : s + 2 + 2 * (d : Int) = s + 2 * ((d + 1 : Nat) : Int) := by omega
  rw [e2] at h
  refine ac 0 h fun k _ => ?_
  simp only [laws_heldCellS.l0, rd_T71, Int.toNat_natCast, hm1]
  rw [if_pos (by omega), if_pos (by omega), if_pos trivial, a5 hlt (by omega), a4 (x := s + 1) (by omega) (by omega), a4 (x := s + 1 + 1) (by omega) (by omega), if_pos rfl]
  rw [show s + 1 + 1 = s + 2 by omega]
theorem aC (n : Nat) (s : Int) (hn : n ≤ 1048576) (h0 : 0 ≤ s) (h1 : s ≤ 4194304) : Ev (fun k => laws_heldCellS.f k (marks n s) s) (s + 2 * n) := by
 have h := aw (marks n s) n hn (af n s) n 0 s (by omega) (by omega) h0 (by omega) rfl
 simpa [laws_heldCellS.f] using h

theorem ax (r c : Int) (n : Nat) (s : Int) (hn : n ≤ 1048576) (h0 : 0 ≤ s) (h1 : s ≤ 4194304) : Ev (fun k => laws_heldBoard.f k r c (marks n s) s) (s + 2 * n) := by
 obtain ⟨K, hK⟩ := a3 (aC n s hn h0 h1)
 refine ⟨K, fun k hk => ?_⟩
 simp only [laws_heldBoard.f]
 rw [bindE (hK k hk), if_neg (by omega)]

theorem ak (r c : Int) (n : Nat) (m1 m2 m3 m4 m5 s : Int) (hn : n ≤ 1048576) (h0 : 0 ≤ s) (h1 : s ≤ 4194304) : Ev (fun k => laws_heldMachine.f k r c (marks n s) m1 m2 m3 m4 m5 s) (s + 2 * n) := by
 obtain ⟨K, hK⟩ := a3 (ax r c n s hn h0 h1)
 refine ⟨K, fun k hk => ?_⟩
 simp only [laws_heldMachine.f]
 rw [bindE (hK k hk), if_neg (by omega)]

def goodB (a b : Int) : Bool := decide ((0 ≤ a ∧ a ≤ 7) ∧ (b = 0 ∨ b = 1 ∧ (a = 3 ∨ a = 6)))
theorem aY {a b : Int} (h : goodB a b = true) : (a = 0 ∧ b = 0) ∨ (a = 1 ∧ b = 0) ∨ (a = 2 ∧ b = 0) ∨ (a = 3 ∧ b = 0) ∨ (a = 3 ∧ b = 1) ∨ (a = 4 ∧ b = 0) ∨ (a = 5 ∧ b = 0) ∨ (a = 6 ∧ b = 0) ∨ (a = 6 ∧ b = 1) ∨ (a = 7 ∧ b = 0) := by
 simp only [goodB, decide_eq_true_eq] at h
 obtain ⟨⟨h0, h7⟩, hb⟩ := h
 have ha : a = 0 ∨ a = 1 ∨ a = 2 ∨ a = 3 ∨ a = 4 ∨ a = 5 ∨ a = 6 ∨ a = 7 := by
  clear hb
  omega
 rcases ha with rfl | rfl | rfl | rfl | rfl | rfl | rfl | rfl <;> simp_all

theorem b5 (l : List S71) (i : Nat) : rd_T71 l (i : Int) = l.getD i z71 := by rw [rd_T71, Int.toNat_natCast]
def goodC (x : S71) : Bool := goodB x.f0 x.f1

def sizeB (r c : Int) (n : Nat) : Bool := decide ((1 ≤ r ∧ r ≤ 10) ∧ (1 ≤ c ∧ c ≤ 9) ∧ (n : Int) = r * c)
def a2 (r c : Int) (l : List S71) : Bool := sizeB r c l.length && l.all goodC
theorem ah {r c : Int} (h1 : 1 ≤ r) (h2 : r ≤ 10) (h3 : 1 ≤ c) (h4 : c ≤ 9) : 1 ≤ r * c ∧ r * c ≤ 90 := by
 have hr : r = 1 ∨ r = 2 ∨ r = 3 ∨ r = 4 ∨ r = 5 ∨ r = 6 ∨ r = 7 ∨ r = 8 ∨ r = 9 ∨ r = 10 := by omega
 rcases hr with rfl | rfl | rfl | rfl | rfl | rfl | rfl | rfl | rfl | rfl <;> omega
structure Brd (r c : Int) (l : List S71) : Prop where
 r1 : 1 ≤ r
 r2 : r ≤ 10
 c1 : 1 ≤ c
 c2 : c ≤ 9
 len : (l.length : Int) = r * c
 all : l.all goodC = true
 le : l.length ≤ 90
 pos : 1 ≤ l.length
theorem b0 {r c : Int} {l : List S71} (h : a2 r c l = true) : Brd r c l := by
 simp only [a2, sizeB, Bool.and_eq_true, decide_eq_true_eq] at h
 obtain ⟨⟨⟨h1, h2⟩, ⟨h3, h4⟩, h5⟩, h6⟩ := h
 have := ah h1 h2 h3 h4
 exact ⟨h1, h2, h3, h4, h5, h6, by omega, by omega⟩
theorem b9 {r c : Int} {l : List S71} (h : Brd r c l) : a2 r c l = true := by
 simp only [a2, sizeB, Bool.and_eq_true, decide_eq_true_eq]
 exact ⟨⟨⟨h.r1, h.r2⟩, ⟨h.c1, h.c2⟩, h.len⟩, h.all⟩
theorem b3 {r c i j : Int} (h0 : 0 ≤ i) (h1 : i < r) (h2 : 0 ≤ j) (h3 : j < c) : 0 ≤ i * c + j ∧ i * c + j < r * c := by
 have a : 0 ≤ i * c := Int.mul_nonneg h0 (by omega)
 have b : (i + 1) * c ≤ r * c := Int.mul_le_mul_of_nonneg_right (by omega) (by omega)
 rw [Int.add_mul, Int.one_mul] at b
 omega

def colB (r c : Int) (l : List S71) (j : Int) : Bool := a2 r c l && decide (0 ≤ j ∧ j < c)

theorem aR (a b : Int) : impl_IsCell.f a b = some (goodB a b) := by
 unfold impl_IsCell.f goodB
 by_cases h0 : a < 0
 ·rw [if_pos h0]; simp; omega
 rw [if_neg h0]
 by_cases h1 : a > 7
 ·rw [if_pos h1]; simp; omega
 rw [if_neg h1]
 by_cases h2 : b < 0
 ·rw [if_pos h2]; simp; omega
 rw [if_neg h2]
 by_cases h3 : b > 1
 ·rw [if_pos h3]; simp; omega
 rw [if_neg h3]
 by_cases h4 : b = 0
 ·rw [if_pos h4]; simp; omega
 rw [if_neg h4]
 by_cases h5 : a = 3
 ·rw [if_pos h5]; simp; omega
 rw [if_neg h5]
 by_cases h6 : a = 6
 ·simp [h6]; omega
 ·simp [h5, h6, h4]

theorem al (x : S71) : impl_IsCell.f x.f0 x.f1 = some (goodC x) := aR _ _
theorem ao (a : List S71) (hn : a.length ≤ 1048576) : ∀ (d i : Nat), a.length - i = d → i ≤ a.length →
 Ev (fun k => impl_validCells.l0 k a (a.length : Int) (i : Int)) ((a.drop i).all goodC) := by
 intro d
 induction d with
 | zero =>
  intro i hd hi
  refine a7 0 fun k _ => ?_
  simp only [impl_validCells.l0]
  rw [if_neg (by omega), List.drop_of_length_le (by omega)]
  simp
 | succ d ih =>
  intro i hd hi
  have hlt : i < a.length := by omega
  have h := ih (i + 1) (by omega) (by omega)
  rw [ab a z71 hlt, List.all_cons]
  by_cases hg : goodC (a.getD i z71) = true
  ·rw [hg, Bool.true_and]
   refine ac 0 h fun k _ => ?_
   simp only [impl_validCells.l0, rd_T71, Int.toNat_natCast, al, Option.bind_some]
   rw [if_pos (by omega), if_pos (by omega), if_pos (by omega), if_pos hg, a5 hlt (by omega)]
  ·rw [Bool.eq_false_iff.2 hg, Bool.false_and]
   refine a7 0 fun k _ => ?_
   simp only [impl_validCells.l0, rd_T71, Int.toNat_natCast, al, Option.bind_some]
   rw [if_pos (by omega), if_pos (by omega), if_pos (by omega), if_neg hg]
theorem ap (a : List S71) (hn : a.length ≤ 1048576) : Ev (fun k => impl_validCells.f k a) (a.all goodC && decide (a.length ≤ 90)) := by
 by_cases h : a.length ≤ 90
 ·rw [decide_eq_true h, Bool.and_true]
  refine aA 0 (ao a hn a.length 0 (by omega) (by omega)) fun k _ => ?_
  simp only [impl_validCells.f]
  rw [if_neg (by omega)]
  rfl
 ·rw [decide_eq_false h, Bool.and_false]
  refine aZ fun k => ?_
  simp only [impl_validCells.f]
  rw [if_pos (by omega)]

theorem aM (r c : Int) (l : List S71) (hn : l.length ≤ 1048576) : Ev (fun k => impl_IsBoard.f k r c l) (a2 r c l) := by
 obtain ⟨K, hK⟩ := a3 (ap l hn)
 refine ⟨K, fun k hk => ?_⟩
 simp only [impl_IsBoard.f]
 by_cases h1 : r ≥ 1
 ·rw [if_pos h1]
  by_cases h2 : r ≤ 10
  ·rw [if_pos h2]
   by_cases h3 : c ≥ 1
   ·rw [if_pos h3]
    by_cases h4 : c ≤ 9
    ·have hm := ah h1 h2 h3 h4
     rw [if_pos h4, a4 (by omega) (by omega)]
     by_cases h5 : (l.length : Int) = r * c
     ·rw [if_pos h5, bindE (hK k hk)]
      have h6 : l.length ≤ 90 := by omega
      have h7 : 1 ≤ r := h1
      have h8 : 1 ≤ c := h3
      simp [a2, sizeB, h7, h2, h8, h4, h5, h6]
     ·rw [if_neg h5]
      simp [a2, sizeB, h5]
    ·rw [if_neg h4]
     simp [a2, sizeB, h4]
   ·rw [if_neg h3]
    have h3' : ¬ 1 ≤ c := h3
    simp [a2, sizeB, h3']
  ·rw [if_neg h2]
   simp [a2, sizeB, h2]
 ·rw [if_neg h1]
  have h1' : ¬ 1 ≤ r := h1
  simp [a2, sizeB, h1']

theorem ad (r c : Int) (l : List S71) (j : Int) (hn : l.length ≤ 1048576) : Ev (fun k => impl_validEntry.f k r c l j) (colB r c l j) := by
 obtain ⟨K, hK⟩ := a3 (aM r c l hn)
 refine ⟨K, fun k hk => ?_⟩
 simp only [impl_validEntry.f]
 rw [bindE (hK k hk)]
 unfold colB
 by_cases hg : a2 r c l = true
 ·rw [hg, a1, Bool.true_and]
  by_cases h : j ≥ 0
  ·rw [if_pos h]
   simp [show (0 : Int) ≤ j from h]
  ·rw [if_neg h]
   simp [show ¬ (0 : Int) ≤ j from h]
 ·rw [Bool.eq_false_iff.2 hg]
  rfl

def machB (r c : Int) (l : List S71) (m1 m2 m3 m4 m5 : Int) : Bool := colB r c l m1 && (colB r c l m2 && decide ((0 ≤ m3 ∧ m3 ≤ 30) ∧ (0 ≤ m4 ∧ m4 ≤ 30) ∧ 0 ≤ m5 ∧ m5 ≤ 2))
theorem aB (r c : Int) (l : List S71) (m1 m2 m3 m4 m5 : Int) (hn : l.length ≤ 1048576) : Ev (fun k => impl_IsMachine.f k r c l m1 m2 m3 m4 m5) (machB r c l m1 m2 m3 m4 m5) := by
 obtain ⟨K, hK⟩ := a3 (ad r c l m1 hn)
 obtain ⟨K2, hK2⟩ := a3 (ad r c l m2 hn)
 refine ⟨K + K2, fun k hk => ?_⟩
 simp only [impl_IsMachine.f]
 rw [bindE (hK k (by omega))]
 unfold machB
 cases colB r c l m1
 ·rfl
 rw [a1, bindE (hK2 k (by omega)), Bool.true_and]
 cases colB r c l m2
 ·rfl
 rw [a1, Bool.true_and]
 by_cases h1 : m3 ≥ 0
 case neg => rw [if_neg h1, decide_eq_false (by omega)]
 rw [if_pos h1]
 by_cases h2 : m3 ≤ 30
 case neg => rw [if_neg h2, decide_eq_false (by omega)]
 rw [if_pos h2]
 by_cases h3 : m4 ≥ 0
 case neg => rw [if_neg h3, decide_eq_false (by omega)]
 rw [if_pos h3]
 by_cases h4 : m4 ≤ 30
 case neg => rw [if_neg h4, decide_eq_false (by omega)]
 rw [if_pos h4]
 by_cases h5 : m5 ≥ 0
 case neg => rw [if_neg h5, decide_eq_false (by omega)]
 rw [if_pos h5]
 congr 1
 apply decide_eq_decide.2
 omega

theorem ag {r c : Int} {l : List S71} {m1 m2 m3 m4 m5 : Int} (h : machB r c l m1 m2 m3 m4 m5 = true) : (0 ≤ m3 ∧ m3 ≤ 30) ∧ (0 ≤ m4 ∧ m4 ≤ 30) ∧ 0 ≤ m5 ∧ m5 ≤ 2 := by
 simp only [machB, Bool.and_eq_true, decide_eq_true_eq] at h
 exact h.2.2

theorem az (r c : Int) (l : List S71) (hn : l.length ≤ 1048576) : impl_copyBoard.f r c l = some (r, c, l) := by
 unfold impl_copyBoard.f
 rw [Option.bind_some, if_pos (by simp; omega), List.nil_append]

theorem an (r c : Int) (l : List S71) (m1 m2 m3 m4 m5 : Int) (hn : l.length ≤ 1048576) : impl_copyMachine.f r c l m1 m2 m3 m4 m5 = some (r, c, l, m1, m2, m3, m4, m5) := by
 unfold impl_copyMachine.f
 rw [bindE (az r c l hn)]

def refB (r c : Int) (l : List S71) (m1 m2 m3 m4 m5 x y : Int) : Bool := machB r c l m1 m2 m3 m4 m5 && decide ((0 ≤ x ∧ x ≤ 30) ∧ (0 ≤ y ∧ y ≤ 30) ∧ m3 + x ≤ 30 ∧ m4 + y ≤ 30)
def a6 (r c : Int) (l : List S71) (m1 m2 m3 m4 m5 x y : Int) : Int × Int × List S71 × Int × Int × Int × Int × Int × Bool := if refB r c l m1 m2 m3 m4 m5 x y = true then (r, c, l, m1, m2, m3 + x, m4 + y, m5, true) else (0, 0, [], 0, 0, 0, 0, 0, false)
theorem aj (r c : Int) (l : List S71) (m1 m2 m3 m4 m5 x y : Int) (hn : l.length ≤ 1048576) : (a6 r c l m1 m2 m3 m4 m5 x y).2.2.1.length ≤ 1048576 := by
 unfold a6
 split
 ·exact hn
 ·simp
theorem ai (r c : Int) (l : List S71) (m1 m2 m3 m4 m5 x y : Int) (hn : l.length ≤ 1048576) : Ev (fun k => impl_RefillMachine.f k r c l m1 m2 m3 m4 m5 x y) (a6 r c l m1 m2 m3 m4 m5 x y) := by
 obtain ⟨K, hK⟩ := a3 (aB r c l m1 m2 m3 m4 m5 hn)
 refine ⟨K, fun k hk => ?_⟩
 simp only [impl_RefillMachine.f]
 rw [bindE (hK k hk)]
 unfold a6 refB
 by_cases h : machB r c l m1 m2 m3 m4 m5 = true
 case neg =>
  rw [if_neg h, Bool.eq_false_iff.2 h]
  rfl
 have hm := ag h
 rw [h, a1, Bool.true_and]
 by_cases h1 : x < 0
 case pos => rw [if_pos h1, decide_eq_false (by omega)]; rfl
 rw [if_neg h1]
 by_cases h2 : x > 30
 case pos => rw [if_pos h2, decide_eq_false (by omega)]; rfl
 rw [if_neg h2]
 by_cases h3 : y < 0
 case pos => rw [if_pos h3, decide_eq_false (by omega)]; rfl
 rw [if_neg h3]
 by_cases h4 : y > 30
 case pos => rw [if_pos h4, decide_eq_false (by omega)]; rfl
 rw [if_neg h4, a4 (x := m3 + x) (by omega) (by omega), a4 (x := m4 + y) (by omega) (by omega)]
 by_cases h5 : m3 + x > 30
 case pos => rw [if_pos h5, decide_eq_false (by omega)]; rfl
 rw [if_neg h5]
 by_cases h6 : m4 + y > 30
 case pos => rw [if_pos h6, decide_eq_false (by omega)]; rfl
 rw [if_neg h6, bindE (an r c l m1 m2 m3 m4 m5 hn), decide_eq_true (by omega), a1, a4 (x := m3 + x) (by omega) (by omega), a4 (x := m4 + y) (by omega) (by omega)]

theorem a8 (a lo hi : Int) : spec_l1In.f a lo hi = some (decide (lo ≤ a ∧ a ≤ hi)) := by
 unfold spec_l1In.f
 by_cases h : a ≥ lo
 ·rw [if_pos h]
  simp [show lo ≤ a from h]
 ·rw [if_neg h]
  simp [show ¬ lo ≤ a from h]

def turnB (a : Int) : Bool := decide (a = 3 ∨ a = 6)
theorem av (a b : Int) : spec_paTurning.f a b = some (turnB a) := by
 unfold spec_paTurning.f turnB
 by_cases h : a = 3
 ·simp [h]
 ·rw [if_neg h]
  by_cases h6 : a = 6 <;> simp [h, h6]

theorem aS (a b : Int) : spec_paGood.f a b = some (goodB a b) := by
 unfold spec_paGood.f
 rw [a8, Option.bind_some]
 by_cases h : 0 ≤ a ∧ a ≤ 7
 ·rw [decide_eq_true h, if_pos rfl]
  by_cases h0 : b = 0
  ·rw [if_pos h0]
   simp [goodB, h, h0]
  ·rw [if_neg h0]
   by_cases h1 : b = 1
   ·rw [if_pos h1, av, Option.bind_some]
    simp [goodB, turnB, h, h1]
   ·rw [if_neg h1]
    simp [goodB, h0, h1]
 ·rw [decide_eq_false h, if_neg (by simp)]
  simp [goodB, h]

theorem am (x : S71) : spec_paGood.f x.f0 x.f1 = some (goodC x) := aS _ _
theorem aT (a : List S71) (hn : a.length ≤ 1048576) : ∀ (d i : Nat), a.length - i = d → i ≤ a.length →
 Ev (fun k => spec_boGood.l0 k a (a.length : Int) (i : Int)) ((a.drop i).all goodC) := by
 intro d
 induction d with
 | zero =>
  intro i hd hi
  refine a7 0 fun k _ => ?_
  simp only [spec_boGood.l0]
  rw [if_neg (by omega), List.drop_of_length_le (by omega)]
  simp
 | succ d ih =>
  intro i hd hi
  have hlt : i < a.length := by omega
  have h := ih (i + 1) (by omega) (by omega)
  rw [ab a z71 hlt, List.all_cons]
  by_cases hg : goodC (a.getD i z71) = true
  ·rw [hg, Bool.true_and]
   refine ac 0 h fun k _ => ?_
   simp only [spec_boGood.l0, rd_T71, Int.toNat_natCast, am, Option.bind_some]
   rw [if_pos (by omega), if_pos (by omega), if_pos (by omega), if_pos hg, a5 hlt (by omega)]
  ·rw [Bool.eq_false_iff.2 hg, Bool.false_and]
   refine a7 0 fun k _ => ?_
   simp only [spec_boGood.l0, rd_T71, Int.toNat_natCast, am, Option.bind_some]
   rw [if_pos (by omega), if_pos (by omega), if_pos (by omega), if_neg hg]
theorem aQ (r c : Int) (l : List S71) (hn : l.length ≤ 1048576) : Ev (fun k => spec_boGood.f k r c l) (a2 r c l) := by
 obtain ⟨K, hK⟩ := a3 (aT l hn l.length 0 (by omega) (by omega))
 refine ⟨K + 1, fun k hk => ?_⟩
 obtain ⟨k, rfl⟩ : ∃ m, k = m + 1 := ⟨k - 1, by omega⟩
 have hK' := hK k (by omega)
 simp only [spec_boGood.f, a8, Option.bind_some, spec_boGood.j0, a1]
 by_cases h1 : 1 ≤ r ∧ r ≤ 10
 ·rw [decide_eq_true h1, a1]
  by_cases h2 : 1 ≤ c ∧ c ≤ 9
  ·rw [decide_eq_true h2, a1]
   have hm := ah h1.1 h1.2 h2.1 h2.2
   rw [a4 (by omega) (by omega)]
   by_cases h5 : (l.length : Int) = r * c
   ·have h6 : ((l.length : Int) != r * c) = false := by simp [h5]
    rw [h6, if_neg (by simp)]
    refine hK'.trans ?_
    simp [a2, sizeB, h1, h2, h5]
   ·have h6 : ((l.length : Int) != r * c) = true := by simp [h5]
    rw [h6, a1]
    simp [a2, sizeB, h5]
  ·rw [decide_eq_false h2, if_neg (by simp)]
   simp [a2, sizeB, h2]
 ·rw [decide_eq_false h1, if_neg (by simp)]
  simp [a2, sizeB, h1]

theorem aF (r c : Int) (l : List S71) (j : Int) (hn : l.length ≤ 1048576) : Ev (fun k => spec_flHas.f k r c l j) (colB r c l j) := by
 obtain ⟨K, hK⟩ := a3 (aQ r c l hn)
 refine ⟨K, fun k hk => ?_⟩
 simp only [spec_flHas.f]
 rw [bindE (hK k hk)]
 unfold colB
 by_cases hg : a2 r c l = true
 ·have b := b0 hg
  have b1 := b.c1; have b2 := b.c2
  rw [hg, a1, Bool.true_and, a4 (x := c - 1) (by omega) (by omega), a8, show decide (0 ≤ j ∧ j ≤ c - 1) = decide (0 ≤ j ∧ j < c) from decide_eq_decide.2 (by omega)]
  try rfl
 ·rw [Bool.eq_false_iff.2 hg]
  rfl

theorem aq (r c : Int) (l : List S71) (m1 m2 m3 m4 m5 : Int) (hn : l.length ≤ 1048576) : Ev (fun k => spec_maGood.f k r c l m1 m2 m3 m4 m5) (machB r c l m1 m2 m3 m4 m5) := by
 obtain ⟨K, hK⟩ := a3 (aF r c l m1 hn)
 obtain ⟨K2, hK2⟩ := a3 (aF r c l m2 hn)
 refine ⟨K + K2, fun k hk => ?_⟩
 simp only [spec_maGood.f]
 rw [bindE (hK k (by omega))]
 unfold machB
 cases colB r c l m1
 ·rfl
 rw [a1, bindE (hK2 k (by omega)), Bool.true_and]
 cases colB r c l m2
 ·rfl
 rw [a1, Bool.true_and, a8, a8, a8, Option.bind_some]
 by_cases h1 : 0 ≤ m3 ∧ m3 ≤ 30
 case neg => rw [decide_eq_false h1, decide_eq_false (show ¬ ((0 ≤ m3 ∧ m3 ≤ 30) ∧ (0 ≤ m4 ∧ m4 ≤ 30) ∧ 0 ≤ m5 ∧ m5 ≤ 2) from fun h => h1 h.1)]; rfl
 rw [decide_eq_true h1, a1, Option.bind_some]
 by_cases h2 : 0 ≤ m4 ∧ m4 ≤ 30
 case neg => rw [decide_eq_false h2, decide_eq_false (show ¬ ((0 ≤ m3 ∧ m3 ≤ 30) ∧ (0 ≤ m4 ∧ m4 ≤ 30) ∧ 0 ≤ m5 ∧ m5 ≤ 2) from fun h => h2 h.2.1)]; rfl
 rw [decide_eq_true h2, a1, Option.bind_some]
 congr 1
 apply decide_eq_decide.2
 omega

theorem aV (r c : Int) (l : List S71) (hn : l.length ≤ 1048576) : spec_boOwn.f r c l = some (r, c, l) := by
 unfold spec_boOwn.f
 rw [Option.bind_some, if_pos (by simp; omega), List.nil_append]

theorem aX {r c : Int} {l : List S71} {m1 m2 m3 m4 m5 x y : Int} (h : machB r c l m1 m2 m3 m4 m5 = true) (hx : 0 ≤ x ∧ x ≤ 30) (hy : 0 ≤ y ∧ y ≤ 30) : machB r c l m1 m2 (m3 + x) (m4 + y) m5 = decide (m3 + x ≤ 30 ∧ m4 + y ≤ 30) := by
 have hm := ag h
 simp only [machB, Bool.and_eq_true] at h
 unfold machB
 rw [h.1, h.2.1, Bool.true_and, Bool.true_and]
 exact decide_eq_decide.2 (by omega)
theorem a9 (r c : Int) (l : List S71) (m1 m2 m3 m4 m5 x y : Int) (hn : l.length ≤ 1048576) : Ev (fun k => spec_RefillMachine.f k r c l m1 m2 m3 m4 m5 x y) (a6 r c l m1 m2 m3 m4 m5 x y) := by
 obtain ⟨K, hK⟩ := a3 (aq r c l m1 m2 m3 m4 m5 hn)
 obtain ⟨K2, hK2⟩ := a3 (aq r c l m1 m2 (m3 + x) (m4 + y) m5 hn)
 refine ⟨K + K2 + 1, fun k hk => ?_⟩
 obtain ⟨k, rfl⟩ : ∃ q, k = q + 1 := ⟨k - 1, by omega⟩
 have bad : spec_RefillMachine.j0 (k + 1) x y true r c l m1 m2 m3 m4 m5 = some (0, 0, [], 0, 0, 0, 0, 0, false) := by simp [spec_RefillMachine.j0]
 simp only [spec_RefillMachine.f]
 rw [bindE (hK _ (by omega))]
 unfold a6 refB
 by_cases h : machB r c l m1 m2 m3 m4 m5 = true
 case neg =>
  rw [if_neg h, bad, Bool.eq_false_iff.2 h]
  rfl
 have hm := ag h
 rw [h, a1, Bool.true_and, bindE (a8 _ _ _)]
 by_cases hx : 0 ≤ x ∧ x ≤ 30
 case neg =>
  rw [decide_eq_false hx, if_neg (by simp), bad, decide_eq_false (fun q => hx q.1)]
  rfl
 rw [decide_eq_true hx, a1, bindE (a8 _ _ _)]
 by_cases hy : 0 ≤ y ∧ y ≤ 30
 case neg =>
  rw [decide_eq_false hy, show (!false) = true from rfl, bad, decide_eq_false (fun q => hy q.2.1)]
  rfl
 rw [decide_eq_true hy, show (!true) = false from rfl]
 simp only [spec_RefillMachine.j0]
 have hk2 := hK2 k (by omega)
 rw [aX h hx hy] at hk2
 rw [if_neg (by simp), bindE (aV r c l hn), a4 (x := m3 + x) (by omega) (by omega), a4 (x := m4 + y) (by omega) (by omega), bindE hk2]
 by_cases h30 : m3 + x ≤ 30 ∧ m4 + y ≤ 30
 ·rw [decide_eq_true h30, a1, decide_eq_true ⟨hx, hy, h30⟩, a1]
 ·rw [decide_eq_false h30, decide_eq_false (fun q => h30 q.2.2)]
  rfl

theorem FnExactRefillMachine (r0 c0 : Int) (a0 : List S84) (m0_1 m0_2 m0_3 m0_4 m0_5 : Int) (i1 : Int) (i2 : Int) (hn0 : a0.length ≤ 9223372036854775807) : ∃ k, laws_FnExactRefillMachine.f k r0 c0 a0 m0_1 m0_2 m0_3 m0_4 m0_5 i1 i2 = some true := by
 unfold laws_FnExactRefillMachine.f
 simp only [bindE (ay r0 c0 a0 m0_1 m0_2 m0_3 m0_4 m0_5 (1048576) (by omega) (by omega) hn0)]
 by_cases hs0 : (a0.length : Int) ≤ 1048576
 case neg =>
  exact ⟨0, by rw [if_neg hs0]; rfl⟩
 have hq0 : ¬ (1048576 - (a0.length : Int) < 0) := by omega
 simp only [if_pos hs0, if_neg hq0]
 have hl0 : (a0.map conv).length ≤ 1048576 := by rw [List.length_map]; omega
 obtain ⟨K1, h1⟩ := a3 (aE r0 c0 a0 m0_1 m0_2 m0_3 m0_4 m0_5 (by omega))
 obtain ⟨K2, h2⟩ := a3 (ai r0 c0 (a0.map conv) m0_1 m0_2 m0_3 m0_4 m0_5 i1 i2 hl0)
 obtain ⟨K3, h3⟩ := a3 (a9 r0 c0 (a0.map conv) m0_1 m0_2 m0_3 m0_4 m0_5 i1 i2 hl0)
 have hr := aj r0 c0 (a0.map conv) m0_1 m0_2 m0_3 m0_4 m0_5 i1 i2 hl0
 revert h2 h3 hr
 generalize a6 r0 c0 (a0.map conv) m0_1 m0_2 m0_3 m0_4 m0_5 i1 i2 = r
 intro h2 h3 hr
 obtain ⟨K4, h4⟩ := a3 (ae r0 c0 (a0.map conv) m0_1 m0_2 m0_3 m0_4 m0_5 hl0)
 obtain ⟨K5, h5⟩ := a3 (ae r.1 r.2.1 r.2.2.1 r.2.2.2.1 r.2.2.2.2.1 r.2.2.2.2.2.1 r.2.2.2.2.2.2.1 r.2.2.2.2.2.2.2.1 (by omega))
 obtain ⟨K6, h6⟩ := a3 (aa r0 c0 (a0.map conv) m0_1 m0_2 m0_3 m0_4 m0_5 (1) hl0 (by omega) (by omega))
 have q1 : ¬ (1 + 2 * (a0.map conv).length < (0 : Int)) := by omega
 obtain ⟨K7, h7⟩ := a3 (aa r.1 r.2.1 r.2.2.1 r.2.2.2.1 r.2.2.2.2.1 r.2.2.2.2.2.1 r.2.2.2.2.2.2.1 r.2.2.2.2.2.2.2.1 (1) (by omega) (by omega) (by omega))
 obtain ⟨K8, h8⟩ := a3 (ak r.1 r.2.1 r.2.2.1.length r.2.2.2.1 r.2.2.2.2.1 r.2.2.2.2.2.1 r.2.2.2.2.2.2.1 r.2.2.2.2.2.2.2.1 (1) (by omega) (by omega) (by omega))
 have q2 : ¬ (1 + 2 * r.2.2.1.length < (0 : Int)) := by omega
 refine ⟨K1 + K2 + K3 + K4 + K5 + K6 + K7 + K8 + 1 + 1 + 1, ?_⟩
 repeat (first | rw [bindE (h1 _ (by omega))] | rw [bindE (h2 _ (by omega))] | rw [bindE (h3 _ (by omega))] | rw [bindE (h4 _ (by omega))] | rw [bindE (h5 _ (by omega))] | rw [bindE (h6 _ (by omega))] | rw [bindE (h7 _ (by omega))] | rw [bindE (h8 _ (by omega))] | rw [Option.bind_some] | rw [a1] | rw [aW] | rw [aU] | rw [if_neg q1] | rw [if_neg q2] | rw [if_pos rfl] | rw [laws_FnExactRefillMachine.j0] | rw [laws_FnExactRefillMachine.j1] | rw [laws_FnExactRefillMachine.j2])

end Go.Proofs.Ytlkiakpipcnijaa.Pure
