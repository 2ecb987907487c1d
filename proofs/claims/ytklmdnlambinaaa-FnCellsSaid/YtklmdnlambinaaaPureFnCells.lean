/- For all bytes the law FnCells answers true: letters are read back, mirrored and turned cells come back, and a marble goes the other way through a mirrored cell. Conditions: none. (The plain law, over the functions' Lean forms.) -/
import Derived.Test.YtklmdnlambinaaaG13
set_option linter.unusedVariables false
set_option linter.unusedSimpArgs false
namespace Go.Proofs.Ytklmdnlambinaaa.Pure
open Go Go.RowKit Go.Proofs.Ytklmdnlambinaaa.PAll Go.Proofs.YtklmdnlambinaaaW.PrintWords Go.Proofs.YtklmdnlambinaaaW.PrintLast Go.Proofs.YtklmdnlambinaaaW.PrintMore

theorem aE {x : Int} (h0 : -9223372036854775808 ≤ x) (h1 : x < 9223372036854775808) : wrap64 x = x := by unfold wrap64; omega
theorem az {i n : Nat} (h : i < n) (hn : n ≤ 4611686018427387904) : wrap64 ((i : Int) + 1) = ((i + 1 : Nat) : Int) := by unfold wrap64; omega
theorem ar : wrap64 (-1) = -1 := by decide +kernel
theorem b7 : wrap64 0 = 0 := by decide +kernel
theorem af : wrap64 1 = 1 := by decide +kernel
theorem aq : wrap64 2 = 2 := by decide +kernel
structure Hid (p : Prop) : Prop where
 out : p
theorem aK {α : Type} {g : Nat → Option α} {r : α} (K : Nat) (h : ∀ k, K ≤ k → g (k + 1) = some r) : Ev g r := by
 refine ⟨K + 1, fun k hk => ?_⟩
 obtain ⟨m, rfl⟩ : ∃ m, k = m + 1 := ⟨k - 1, by omega⟩
 exact h m (by omega)
theorem ag {α : Type} {g f : Nat → Option α} {r : α} (K : Nat) (hf : Ev f r) (h : ∀ k, K ≤ k → g (k + 1) = f k) : Ev g r := by
 obtain ⟨K', hf⟩ := hf
 refine ⟨K + K' + 1, fun k hk => ?_⟩
 obtain ⟨m, rfl⟩ : ∃ m, k = m + 1 := ⟨k - 1, by omega⟩
 rw [h m (by omega)]
 exact hf m (by omega)
theorem a7 {α : Type} {g : Nat → Option α} {r : α} (h : Ev g r) : ∃ K, ∀ k, K ≤ k → g k = some r := h
theorem bM {α : Type} {g : Nat → Option α} {r : α} (h : ∀ k, g k = some r) : Ev g r := ⟨0, fun k _ => h k⟩
theorem bC {α : Type} {g f : Nat → Option α} {r : α} (K : Nat) (hf : Ev f r) (h : ∀ k, K ≤ k → g k = f k) : Ev g r := by
 obtain ⟨K', hf⟩ := hf
 exact ⟨K + K', fun k hk => (h k (by omega)).trans (hf k (by omega))⟩
theorem bindE {α β : Type} {o : Option α} {v : α} {f : α → Option β} (h : o = some v) : o.bind f = f v := by rw [h]; rfl
theorem bJ {β : Type} (x : Bool) (a b : β) : (if (x != x) = true then a else b) = b := by simp
theorem bI {β : Type} (x : Int) (a b : β) : (if (x != x) = true then a else b) = b := by simp
theorem bG {β : Type} (a b : β) : (if true = true then a else b) = a := rfl
theorem aw {α : Type} (l : List α) (z : α) {i : Nat} (h : i < l.length) : l.drop i = l.getD i z :: l.drop (i + 1) := by
 rw [List.drop_eq_getElem_cons h, List.getD_eq_getElem?_getD, List.getElem?_eq_getElem h]; rfl
theorem bH {α : Type} (l : List α) (v : α) {i : Nat} (h : i < l.length) : (l.set i v).take (i + 1) = l.take i ++ [v] := by
 rw [List.take_succ_eq_append_getElem (by simpa using h)]
 simp [List.take_set_of_le]
theorem bK {α : Type} (l : List α) (i : Nat) (z : α) : l.getD ((i : Int).toNat) z = l.getD i z := by rw [Int.toNat_natCast]

def goodB (a b : Int) : Bool := decide ((0 ≤ a ∧ a ≤ 7) ∧ (b = 0 ∨ b = 1 ∧ (a = 3 ∨ a = 6)))
theorem a4 {a b : Int} (h : goodB a b = true) : (a = 0 ∧ b = 0) ∨ (a = 1 ∧ b = 0) ∨ (a = 2 ∧ b = 0) ∨ (a = 3 ∧ b = 0) ∨ (a = 3 ∧ b = 1) ∨ (a = 4 ∧ b = 0) ∨ (a = 5 ∧ b = 0) ∨ (a = 6 ∧ b = 0) ∨ (a = 6 ∧ b = 1) ∨ (a = 7 ∧ b = 0) := by
 simp only [goodB, decide_eq_true_eq] at h
 obtain ⟨⟨h0, h7⟩, hb⟩ := h
 have ha : a = 0 ∨ a = 1 ∨ a = 2 ∨ a = 3 ∨ a = 4 ∨ a = 5 ∨ a = 6 ∨ a = 7 := by
  clear hb
  omega
 rcases ha with rfl | rfl | rfl | rfl | rfl | rfl | rfl | rfl <;> simp_all

def a5 (a b : Int) : ByteArray := if b = 1 then (if a = 3 then ⟨#[70]⟩ else ⟨#[71]⟩) else ⟨#[[46, 108, 114, 102, 120, 111, 103, 99].getD a.toNat 46]⟩
theorem bA (a b : Int) : (a5 a b).size = 1 := by
 unfold a5
 split
 ·split <;> rfl
 ·rfl

def turnB (a : Int) : Bool := decide (a = 3 ∨ a = 6)
theorem a8 (a b : Int) : spec_paTurning.f a b = some (turnB a) := by
 unfold spec_paTurning.f turnB
 by_cases h : a = 3
 ·simp [h]
 ·rw [if_neg h]
  by_cases h6 : a = 6 <;> simp [h, h6]

def hitB (a b : Int) (s : ByteArray) : Bool := goodB a b && decide ((a5 a b).toList = s.toList)
def aB : Nat → Int → ByteArray → Int × Int × Bool
 | 0, _, _ => (0, 0, false)
 | n + 1, a, s => if hitB a 0 s = true then (a, 0, true) else if hitB a 1 s = true then (a, 1, true) else aB n (a + 1) s
def ap (s : ByteArray) : Int × Int × Bool := aB 8 0 s
theorem ae {a : Int} (h0 : 0 ≤ a) (h7 : a ≤ 7) : goodB a 0 = true := by simp [goodB, h0, h7]
theorem am {a : Int} (h0 : 0 ≤ a) (h7 : a ≤ 7) : goodB a 1 = turnB a := by simp [goodB, turnB, h0, h7]

def a0 : Nat → Int → List S25
 | 0, _ => []
 | n + 1, a => (⟨a, 0⟩ : S25) :: ((if turnB a = true then [(⟨a, 1⟩ : S25)] else []) ++ a0 n (a + 1))
theorem b2 : ∀ (n : Nat) (a : Int) (x : List S25), 0 ≤ a → a + n = 8 → x.length ≤ 2 * a → Ev (fun k => spec_paAll.l0 k x a) (x ++ a0 n a) := by
 intro n
 induction n with
 | zero =>
  intro a x h0 h8 hx
  refine aK 0 fun k _ => ?_
  simp only [spec_paAll.l0]
  rw [if_neg (by omega)]
  simp [a0]
 | succ n ih =>
  intro a x h0 h8 hx
  simp only [a0]
  by_cases ht : turnB a = true
  ·refine ag 0 (f := fun k => spec_paAll.l0 k (x ++ [(⟨a, 0⟩ : S25)] ++ [(⟨a, 1⟩ : S25)]) (a + 1)) ?_ fun k _ => ?_
   ·have h := ih (a + 1) (x ++ [(⟨a, 0⟩ : S25)] ++ [(⟨a, 1⟩ : S25)]) (by omega) (by omega) (by simp; omega)
    simpa [ht] using h
   ·simp only [spec_paAll.l0, a8, Option.bind_some]
    rw [if_pos (by omega), if_pos (by omega), if_pos ht, if_pos (by simp; omega), aE (by omega) (by omega)]
  ·refine ag 0 (f := fun k => spec_paAll.l0 k (x ++ [(⟨a, 0⟩ : S25)]) (a + 1)) ?_ fun k _ => ?_
   ·have h := ih (a + 1) (x ++ [(⟨a, 0⟩ : S25)]) (by omega) (by omega) (by simp; omega)
    simpa [ht] using h
   ·simp only [spec_paAll.l0, a8, Option.bind_some]
    rw [if_pos (by omega), if_pos (by omega), if_neg ht, aE (by omega) (by omega)]
theorem aj : Ev (fun k => spec_paAll.f k) (a0 8 0) := by
 have h := b2 8 0 [] (by omega) (by omega) (by simp)
 simpa [spec_paAll.f] using h

theorem aS (a b : Int) (h : goodB a b = true) : spec_paLetter.f a b = some (a5 a b) := by
 rcases a4 h with ⟨rfl, rfl⟩ | ⟨rfl, rfl⟩ | ⟨rfl, rfl⟩ | ⟨rfl, rfl⟩ | ⟨rfl, rfl⟩ | ⟨rfl, rfl⟩ | ⟨rfl, rfl⟩ | ⟨rfl, rfl⟩ | ⟨rfl, rfl⟩ | ⟨rfl, rfl⟩ <;> decide +kernel

theorem bL (l : List S25) (i : Nat) : rd_T25 l (i : Int) = l.getD i z25 := by rw [rd_T25, Int.toNat_natCast]
def goodC (x : S25) : Bool := goodB x.f0 x.f1

def aQ : List S25 → ByteArray → Int × Int × Bool
 | [], _ => (0, 0, false)
 | x :: l, s => if (a5 x.f0 x.f1).toList = s.toList then (x.f0, x.f1, true) else aQ l s
theorem aD : ∀ (n : Nat) (a : Int), 0 ≤ a → a + n = 8 → (a0 n a).all goodC = true
 | 0, _, _, _ => rfl
 | n + 1, a, h0, h8 => by
  simp only [a0, List.all_cons, List.all_append, aD n (a + 1) (by omega) (by omega), Bool.and_true]
  rw [show goodC (⟨a, 0⟩ : S25) = true from ae h0 (show a ≤ 7 by omega), Bool.true_and]
  by_cases ht : turnB a = true
  ·rw [if_pos ht]
   simp [goodC, am h0 (show a ≤ 7 by omega), ht]
  ·rw [if_neg ht]
   rfl
theorem aH (s : ByteArray) : ∀ (n : Nat) (a : Int), 0 ≤ a → a + n = 8 → aQ (a0 n a) s = aB n a s
 | 0, _, _, _ => rfl
 | n + 1, a, h0, h8 => by
  have ih := aH s n (a + 1) (by omega) (by omega)
  simp only [a0, aQ, aB, hitB, ae h0 (show a ≤ 7 by omega), am h0 (show a ≤ 7 by omega), Bool.true_and, decide_eq_true_eq]
  by_cases h1 : (a5 a 0).toList = s.toList
  ·rw [if_pos h1, if_pos h1]
  ·rw [if_neg h1, if_neg h1]
   by_cases ht : turnB a = true
   ·rw [if_pos ht, ht, List.singleton_append, aQ, ih]
    by_cases h2 : (a5 a 1).toList = s.toList
    ·simp [h2]
    ·simp [h2]
   ·rw [if_neg ht, List.nil_append, ih]
    simp [ht]
theorem b0 (s : ByteArray) (l : List S25) (hl : l.all goodC = true) (hn : l.length ≤ 1048576) : ∀ (d i : Nat), l.length - i = d → i ≤ l.length →
 Ev (fun k => spec_paRead.l0 k s l (l.length : Int) (i : Int)) (aQ (l.drop i) s) := by
 intro d
 induction d with
 | zero =>
  intro i hd hi
  refine aK 0 fun k _ => ?_
  simp only [spec_paRead.l0]
  rw [if_neg (by omega), List.drop_of_length_le (by omega)]
  rfl
 | succ d ih =>
  intro i hd hi
  have hlt : i < l.length := by omega
  have h := ih (i + 1) (by omega) (by omega)
  have hg : goodC (l.getD i z25) = true := by
   rw [List.getD_eq_getElem?_getD, List.getElem?_eq_getElem hlt]
   exact List.all_eq_true.1 hl _ (List.getElem_mem hlt)
  have hp := aS _ _ hg
  rw [aw l z25 hlt, aQ]
  by_cases he : (a5 (l.getD i z25).f0 (l.getD i z25).f1).toList = s.toList
  ·rw [if_pos he]
   refine aK 0 fun k _ => ?_
   simp only [spec_paRead.l0, rd_T25, Int.toNat_natCast, hp, Option.bind_some]
   rw [if_pos (by omega), if_pos (by omega), if_pos (by omega), if_pos he]
  ·rw [if_neg he]
   refine ag 0 h fun k _ => ?_
   simp only [spec_paRead.l0, rd_T25, Int.toNat_natCast, hp, Option.bind_some]
   rw [if_pos (by omega), if_pos (by omega), if_pos (by omega), if_neg he, az hlt (by omega)]
theorem av (s : ByteArray) : Ev (fun k => spec_paRead.f k s) (ap s) := by
 obtain ⟨K, hK⟩ := a7 (aj)
 refine bC K (f := fun k => spec_paRead.l0 k s (a0 8 0) ((a0 8 0).length : Int) ((0 : Nat) : Int)) ?_ fun k hk => ?_
 ·have h := b0 s (a0 8 0) (aD 8 0 (by omega) (by omega)) (by decide) _ 0 rfl (by omega)
  rw [List.drop_zero, aH s 8 0 (by omega) (by omega)] at h
  exact h
 ·simp only [spec_paRead.f]
  rw [hK k hk, Option.bind_some]
  rfl

def a6 (s : List Int) : Prop := ∀ x ∈ s, 0 ≤ x ∧ x ≤ 255
theorem al {s : List Int} (h : ∀ x ∈ s, (Lit.int .u8 x).wf = true) : a6 s := by
 intro x hx
 have := h x hx
 simp only [Lit.wf, Bool.and_eq_true, decide_eq_true_eq] at this
 simpa [IntKind.min, IntKind.max, IntKind.signed, IntKind.bits] using this
theorem ai (n : Int) : IntKind.u64.wrap n = n % 18446744073709551616 := by simp [IntKind.wrap, IntKind.bits, IntKind.signed]
theorem low8 (y : Int) : 0 ≤ Go.bits .and .u64 (IntKind.u64.wrap y / 1099511627776) 255 ∧ Go.bits .and .u64 (IntKind.u64.wrap y / 1099511627776) 255 ≤ 255 := by
 have h := ai y
 have e := bits_mask .u64 64 (by decide) (fun n h0 h1 => by rw [ai]; omega) 8 (by decide) (IntKind.u64.wrap y / 1099511627776) (by rw [h]; omega) (by rw [h]; omega)
 rw [show (2 : Int) ^ 8 - 1 = 255 by decide, show (2 : Int) ^ 8 = 256 by decide] at e
 rw [e]
 omega
theorem bE {s : List Int} (hs : a6 s) {a : Int} (h0 : 0 ≤ a) (h1 : a < s.length) : 0 ≤ rd s a ∧ rd s a ≤ 255 := by
 have hlt : a.toNat < s.length := by omega
 have : rd s a = s[a.toNat] := by rw [rd, List.getD_eq_getElem?_getD, List.getElem?_eq_getElem hlt]; rfl
 rw [this]
 exact hs _ (List.getElem_mem hlt)
theorem au {s : List Int} (hs : a6 s) {a v : Int} (h0 : 0 ≤ a) (h1 : a ≤ 4611686018427387904) : ∃ r v', spec_l1Cur_next.f s a v = some (r, a + 1, v') ∧ 0 ≤ r ∧ r ≤ 255 := by
 have e1 : wrap64 (a + 1) = a + 1 := aE (by omega) (by omega)
 unfold spec_l1Cur_next.f
 simp only [e1]
 by_cases h : a < (s.length : Int)
 ·have hb := bE hs h0 h
  have e2 : wrap64 (rd s a) = rd s a := aE (by omega) (by omega)
  rw [if_pos h, if_pos h0, if_pos (show a + 1 ≤ (s.length : Int) by omega), e2]
  exact ⟨_, _, rfl, hb⟩
 ·rw [if_neg h, if_neg (show ¬ (a + 1 ≤ (s.length : Int)) by omega)]
  refine ⟨_, _, rfl, ?_⟩
  have hb := low8 ((IntKind.u64.wrap ((IntKind.u64.wrap (v * 6364136223846793005)) + 0)) + 1442695040888963407)
  rw [aE (by omega) (by omega)]
  exact hb
theorem aJ {s : List Int} (hs : a6 s) {a v n : Int} (h0 : 0 ≤ a) (h1 : a ≤ 2305843009213693952) (hn : 1 ≤ n) : ∃ r a' v', spec_l1Cur_pick.f s a v n = some (r, a', v') ∧ 0 ≤ r ∧ r < n ∧ 0 ≤ a' ∧ a' ≤ a + 2 := by
 unfold spec_l1Cur_pick.f
 by_cases hq : n ≤ 1
 ·rw [if_pos hq]
  exact ⟨_, _, _, rfl, by omega, by omega, by omega, by omega⟩
 rw [if_neg hq]
 obtain ⟨r1, v1, e1, p1, p2⟩ := au hs (v := v) h0 (show a ≤ 4611686018427387904 by omega)
 rw [bindE e1]
 simp only []
 by_cases hb : n > 200
 ·rw [if_pos hb]
  obtain ⟨r2, v2, e2, p3, p4⟩ := au hs (v := v1) (show 0 ≤ a + 1 by omega) (show a + 1 ≤ 4611686018427387904 by omega)
  rw [bindE e2]
  simp only []
  rw [if_neg (show ¬ n = 0 by omega), aE (x := r1 * 256) (by omega) (by omega), aE (x := r1 * 256 + r2) (by omega) (by omega)]
  refine ⟨_, _, _, rfl, Int.tmod_nonneg _ (by omega), Int.tmod_lt_of_pos _ (by omega), by omega, by omega⟩
 ·rw [if_neg hb, if_neg (show ¬ n = 0 by omega)]
  exact ⟨_, _, _, rfl, Int.tmod_nonneg _ (by omega), Int.tmod_lt_of_pos _ (by omega), by omega, by omega⟩
theorem aN {s : List Int} (hs : a6 s) {a v : Int} (l : List Int) (h0 : 0 ≤ a) (h1 : a ≤ 2305843009213693952) (hl : 1 ≤ l.length) : ∃ r a' v', spec_l1Cur_among.f s a v l = some (r, a', v') ∧ r ∈ l ∧ 0 ≤ a' ∧ a' ≤ a + 2 := by
 obtain ⟨r, a', v', e, p1, p2, p3, p4⟩ := aJ hs (v := v) (n := (l.length : Int)) h0 h1 (by omega)
 unfold spec_l1Cur_among.f
 rw [bindE e]
 simp only []
 rw [if_pos p1, if_pos p2]
 refine ⟨_, _, _, rfl, ?_, p3, p4⟩
 have hlt : r.toNat < l.length := by omega
 rw [rd, List.getD_eq_getElem?_getD, List.getElem?_eq_getElem hlt]
 exact List.getElem_mem hlt
theorem bB {s : List Int} (hs : a6 s) {a v : Int} (h0 : 0 ≤ a) (h1 : a ≤ 2305843009213693952) : ∃ x y a' v', Ev (fun k => spec_l1Cur_cell.f k s a v) (x, y, a', v') ∧ goodB x y = true ∧ 0 ≤ a' ∧ a' ≤ a + 2 := by
 obtain ⟨K, hK⟩ := a7 aj
 have hlen : (a0 8 0).length = 10 := by decide
 have hg := aD 8 0 (by omega) (by omega)
 generalize a0 8 0 = l at hK hlen hg
 obtain ⟨r, a', v', e, p1, p2, p3, p4⟩ := aJ hs (v := v) (n := (l.length : Int)) h0 h1 (by omega)
 have hlt : r.toNat < l.length := by omega
 refine ⟨(l.getD r.toNat z25).f0, (l.getD r.toNat z25).f1, a', v', ⟨K, fun k hk => ?_⟩, ?_, p3, p4⟩
 ·simp only [spec_l1Cur_cell.f]
  rw [bindE (hK k hk), bindE e]
  simp only []
  rw [if_pos p1, if_pos p2]
  rfl
 ·have := List.all_eq_true.1 hg _ (List.getElem_mem hlt)
  rw [List.getD_eq_getElem?_getD, List.getElem?_eq_getElem hlt]
  exact this
theorem aX {s : List Int} (hs : a6 s) {a v : Int} (h0 : 0 ≤ a) (h1 : a ≤ 1152921504606846976) : ∃ x y a' v', Ev (fun k => spec_l1Cur_anyCell.f k s a v) (x, y, a', v') ∧ 0 ≤ a' ∧ a' ≤ a + 6 := by
 obtain ⟨x, y, a1, v1, hc, _, p1, p2⟩ := bB hs (v := v) h0 (show a ≤ 2305843009213693952 by omega)
 obtain ⟨K, hK⟩ := a7 hc
 obtain ⟨r, a2, v2, e2, _, _, p3, p4⟩ := aJ hs (v := v1) (n := 20) p1 (show a1 ≤ 2305843009213693952 by omega) (by omega)
 by_cases hr0 : r = 0
 ·obtain ⟨r3, a3, v3, e3, _, p5, p6⟩ := aN hs (v := v2) [(-1), 8] p3 (show a2 ≤ 2305843009213693952 by omega) (by decide)
  refine ⟨r3, y, a3, v3, ⟨K, fun k hk => ?_⟩, p5, by omega⟩
  simp only [spec_l1Cur_anyCell.f]
  rw [bindE (hK k hk)]
  simp only []
  rw [bindE e2]
  simp only []
  rw [if_pos hr0, bindE e3]
 by_cases hr1 : r = 1
 ·obtain ⟨r3, a3, v3, e3, _, p5, p6⟩ := aN hs (v := v2) [(-1), 1, 2] p3 (show a2 ≤ 2305843009213693952 by omega) (by decide)
  refine ⟨x, r3, a3, v3, ⟨K, fun k hk => ?_⟩, p5, by omega⟩
  simp only [spec_l1Cur_anyCell.f]
  rw [bindE (hK k hk)]
  simp only []
  rw [bindE e2]
  simp only []
  rw [if_neg hr0, if_pos hr1, bindE e3]
 ·refine ⟨x, y, a2, v2, ⟨K, fun k hk => ?_⟩, p3, by omega⟩
  simp only [spec_l1Cur_anyCell.f]
  rw [bindE (hK k hk)]
  simp only []
  rw [bindE e2]
  simp only []
  rw [if_neg hr0, if_neg hr1]
theorem aO (s : List Int) : spec_mkCur.f s = some (s, 0, 0) := rfl
theorem aa {s : List Int} (hs : a6 s) : ∃ x y, Ev (fun k => spec_DrawIsCell.f k s) (x, y) := by
 obtain ⟨x, y, a, v, hc, _, _⟩ := aX hs (a := 0) (v := 0) (by omega) (by omega)
 obtain ⟨K, hK⟩ := a7 hc
 refine ⟨x, y, K, fun k hk => ?_⟩
 simp only [spec_DrawIsCell.f]
 rw [bindE (aO s)]
 simp only []
 rw [bindE (hK k hk)]

theorem aP {s : List Int} (hs : a6 s) : ∃ x y, Ev (fun k => spec_DrawCellLetter.f k s) (x, y) := by
 obtain ⟨x, y, hc⟩ := aa hs
 obtain ⟨K, hK⟩ := a7 hc
 refine ⟨x, y, K, fun k hk => ?_⟩
 simp only [spec_DrawCellLetter.f]
 rw [bindE (hK k hk)]
theorem aZ {s : List Int} (hs : a6 s) : ∃ x y d, Ev (fun k => spec_DrawGoesTo.f k s) (x, y, d) ∧ -2 ≤ d ∧ d ≤ 2 := by
 obtain ⟨x, y, a, v, hc, p1, p2⟩ := aX hs (a := 0) (v := 0) (by omega) (by omega)
 obtain ⟨K, hK⟩ := a7 hc
 obtain ⟨r, a2, v2, e2, m2, p3, p4⟩ := aN hs (v := v) [2, (-2)] p1 (show a ≤ 2305843009213693952 by omega) (by decide)
 obtain ⟨d, a3, v3, e3, m3, p5, p6⟩ := aN hs (v := v2) [(-1), 0, 1, (-1), 0, 1, r] p3 (show a2 ≤ 2305843009213693952 by omega) (by simp)
 refine ⟨x, y, d, ⟨K, fun k hk => ?_⟩, ?_⟩
 ·simp only [spec_DrawGoesTo.f]
  rw [bindE (aO s)]
  simp only []
  rw [bindE (hK k hk)]
  simp only []
  rw [bindE e2]
  simp only []
  rw [bindE e3]
 ·simp only [List.mem_cons, List.mem_singleton, List.not_mem_nil, or_false] at m2 m3
  omega
theorem aU {s : List Int} (hs : a6 s) : ∃ n, spec_DrawKindName.f s = some n := by
 obtain ⟨r, a, v, e, _, _, p1, p2⟩ := aJ hs (a := 0) (v := 0) (n := 9) (by omega) (by omega) (by omega)
 obtain ⟨r2, a2, v2, e2, _, _, p3, p4⟩ := aJ hs (v := v) (n := 12) p1 (show a ≤ 2305843009213693952 by omega) (by omega)
 unfold spec_DrawKindName.f
 rw [bindE (aO s)]
 simp only []
 rw [bindE e]
 simp only []
 rw [bindE e2]
 exact ⟨_, rfl⟩
theorem aV {s : List Int} (hs : a6 s) : ∃ t, spec_DrawReadCell.f s = some t := by
 unfold spec_DrawReadCell.f
 rw [bindE (aO s)]
 simp only []
 generalize hl : [(⟨#[46]⟩ : ByteArray), (⟨#[108]⟩ : ByteArray), (⟨#[114]⟩ : ByteArray), (⟨#[102]⟩ : ByteArray), (⟨#[70]⟩ : ByteArray), (⟨#[120]⟩ : ByteArray), (⟨#[111]⟩ : ByteArray), (⟨#[103]⟩ : ByteArray), (⟨#[71]⟩ : ByteArray), (⟨#[99]⟩ : ByteArray), (⟨#[]⟩ : ByteArray), (⟨#[76]⟩ : ByteArray), (⟨#[102, 102]⟩ : ByteArray), (⟨#[63]⟩ : ByteArray)] = l
 have hlen : l.length = 14 := by rw [← hl]; rfl
 obtain ⟨r, a, v, e, p0, p1, _, _⟩ := aJ hs (a := 0) (v := 0) (n := (l.length : Int)) (by omega) (by omega) (by omega)
 simp only [spec_l1Cur_of.f]
 rw [bindE e]
 simp only []
 rw [if_pos p0, if_pos p1]
 exact ⟨_, rfl⟩

theorem a9 (a b : Int) : impl_IsCell.f a b = some (goodB a b) := by
 unfold impl_IsCell.f goodB
 by_cases h0 : a < 0
 ·rw [if_pos h0]; simp; omega
 rw [if_neg h0]
 by_cases h1 : a > 7
 ·rw [if_pos h1]; simp; omega
 rw [if_neg h1]
 by_cases h2 : b < 0
 ·rw [if_pos h2]; simp; omega
 rw [if_neg h2]
 by_cases h3 : b > 1
 ·rw [if_pos h3]; simp; omega
 rw [if_neg h3]
 by_cases h4 : b = 0
 ·rw [if_pos h4]; simp; omega
 rw [if_neg h4]
 by_cases h5 : a = 3
 ·rw [if_pos h5]; simp; omega
 rw [if_neg h5]
 by_cases h6 : a = 6
 ·simp [h6]; omega
 ·simp [h5, h6, h4]

theorem aL (a b : Int) : impl_CellLetter.f a b = some (if goodB a b = true then (a5 a b, true) else (⟨#[]⟩, false)) := by
 unfold impl_CellLetter.f
 rw [a9, Option.bind_some]
 by_cases h : goodB a b = true
 ·rw [if_pos h, if_pos h]
  rcases a4 h with ⟨rfl, rfl⟩ | ⟨rfl, rfl⟩ | ⟨rfl, rfl⟩ | ⟨rfl, rfl⟩ | ⟨rfl, rfl⟩ | ⟨rfl, rfl⟩ | ⟨rfl, rfl⟩ | ⟨rfl, rfl⟩ | ⟨rfl, rfl⟩ | ⟨rfl, rfl⟩ <;> decide +kernel
 ·rw [if_neg h, if_neg h]

theorem aA (k : Nat) (s : ByteArray) (a b : Int) (h : b < 2) : impl_ReadCell.l1 (k + 1) s a b = if hitB a b s = true then some (a, b, true) else impl_ReadCell.l1 k s a (wrap64 (b + 1)) := by
 simp only [impl_ReadCell.l1]
 rw [if_pos h, aL, Option.bind_some]
 by_cases hg : goodB a b = true
 ·by_cases hl : (a5 a b).toList = s.toList
  ·simp [hitB, hg, hl]
  ·simp [hitB, hg, hl]
 ·simp [hitB, hg]
theorem ah (s : ByteArray) : ∀ (n : Nat) (a : Int), 0 ≤ a → a + n = 8 → Ev (fun k => impl_ReadCell.l0 k s a) (aB n a s) := by
 intro n
 induction n with
 | zero =>
  intro a h0 h8
  refine aK 0 fun k _ => ?_
  simp only [impl_ReadCell.l0]
  rw [if_neg (by omega)]
  rfl
 | succ n ih =>
  intro a h0 h8
  have e0 : ∀ k, impl_ReadCell.l0 (k + 1) s a = impl_ReadCell.l1 k s a 0 := fun k => by
   simp only [impl_ReadCell.l0]
   rw [if_pos (by omega)]
  by_cases h1 : hitB a 0 s = true
  ·refine aK 1 fun k hk => ?_
   obtain ⟨k, rfl⟩ : ∃ m, k = m + 1 := ⟨k - 1, by omega⟩
   simp only [aB]
   rw [e0, aA _ _ _ _ (by omega), if_pos h1, if_pos h1]
  by_cases h2 : hitB a 1 s = true
  ·refine aK 2 fun k hk => ?_
   obtain ⟨k, rfl⟩ : ∃ m, k = m + 1 + 1 := ⟨k - 2, by omega⟩
   simp only [aB]
   rw [e0, aA _ _ _ _ (by omega), if_neg h1, if_neg h1, show wrap64 (0 + 1) = 1 from af, aA _ _ _ _ (by omega), if_pos h2, if_pos h2]
  ·have h := ih (a + 1) (by omega) (by omega)
   simp only [aB, if_neg h1, if_neg h2]
   obtain ⟨K, hK⟩ := a7 (h)
   refine ⟨K + 4, fun k hk => ?_⟩
   obtain ⟨k, rfl⟩ : ∃ m, k = m + 1 + 1 + 1 + 1 := ⟨k - 4, by omega⟩
   simp only []
   rw [e0, aA _ _ _ _ (by omega), if_neg h1, show wrap64 (0 + 1) = 1 from af, aA _ _ _ _ (by omega), if_neg h2, show wrap64 (1 + 1) = 2 from aq]
   simp only [impl_ReadCell.l1]
   rw [if_neg (by omega), aE (by omega) (by omega)]
   exact hK k (by omega)
theorem aT (s : ByteArray) : Ev (fun k => impl_ReadCell.f k s) (ap s) := ah s 8 0 (by omega) (by omega)

theorem aW (a lo hi : Int) : spec_l1In.f a lo hi = some (decide (lo ≤ a ∧ a ≤ hi)) := by
 unfold spec_l1In.f
 by_cases h : a ≥ lo
 ·rw [if_pos h]
  simp [show lo ≤ a from h]
 ·rw [if_neg h]
  simp [show ¬ lo ≤ a from h]

theorem aI (a b : Int) : spec_paGood.f a b = some (goodB a b) := by
 unfold spec_paGood.f
 rw [aW, Option.bind_some]
 by_cases h : 0 ≤ a ∧ a ≤ 7
 ·rw [decide_eq_true h, if_pos rfl]
  by_cases h0 : b = 0
  ·rw [if_pos h0]
   simp [goodB, h, h0]
  ·rw [if_neg h0]
   by_cases h1 : b = 1
   ·rw [if_pos h1, a8, Option.bind_some]
    simp [goodB, turnB, h, h1]
   ·rw [if_neg h1]
    simp [goodB, h0, h1]
 ·rw [decide_eq_false h, if_neg (by simp)]
  simp [goodB, h]

theorem aC (a b : Int) : impl_IsTurning.f a b = some (goodB a b && turnB a) := by
 unfold impl_IsTurning.f
 rw [a9, Option.bind_some]
 by_cases h : goodB a b = true
 ·rw [h, if_pos rfl, Bool.true_and, ← a8 a b]
  rfl
 ·rw [if_neg h, Bool.eq_false_iff.2 h, Bool.false_and]

def aF (a b side : Int) : Int := if a = 1 then -1 else if a = 2 then 1 else if a = 3 ∨ a = 6 then 2 * b - 1 else if a = 4 then -side else 0
def goesB (a b side : Int) : Bool := goodB a b && decide (-1 ≤ side ∧ side ≤ 1) && decide (a ≠ 5)
theorem ad (k : Nat) (a b side : Int) : impl_GoesTo.f (k + 2) a b side = some (if goesB a b side = true then (aF a b side, true) else (0, false)) := by
 simp only [impl_GoesTo.f, a9, Option.bind_some]
 by_cases h : goodB a b = true
 ·rw [if_pos h]
  by_cases h1 : side < -1
  ·rw [if_pos h1]
   simp [impl_GoesTo.j0, goesB]
   omega
  rw [if_neg h1]
  by_cases h2 : side > 1
  ·rw [if_pos h2]
   simp [impl_GoesTo.j0, goesB]
   omega
  rw [if_neg h2]
  have hs : side = -1 ∨ side = 0 ∨ side = 1 := by omega
  rcases a4 h with ⟨rfl, rfl⟩ | ⟨rfl, rfl⟩ | ⟨rfl, rfl⟩ | ⟨rfl, rfl⟩ | ⟨rfl, rfl⟩ | ⟨rfl, rfl⟩ | ⟨rfl, rfl⟩ | ⟨rfl, rfl⟩ | ⟨rfl, rfl⟩ | ⟨rfl, rfl⟩ <;>
   rcases hs with rfl | rfl | rfl <;> simp [impl_GoesTo.j0, impl_GoesTo.j1, goesB, aF, goodB, ar, b7, af, aq]
 ·rw [if_neg h]
  simp [impl_GoesTo.j0, goesB, h]

theorem ay (k : Nat) (a b side : Int) (h : goesB a b side = true) : spec_paGoes.f (k + 1) a b side = some (aF a b side) := by
 simp only [goesB, Bool.and_eq_true, decide_eq_true_eq] at h
 obtain ⟨⟨h, h1⟩, h5⟩ := h
 have hs : side = -1 ∨ side = 0 ∨ side = 1 := by omega
 rcases a4 h with ⟨rfl, rfl⟩ | ⟨rfl, rfl⟩ | ⟨rfl, rfl⟩ | ⟨rfl, rfl⟩ | ⟨rfl, rfl⟩ | ⟨rfl, rfl⟩ | ⟨rfl, rfl⟩ | ⟨rfl, rfl⟩ | ⟨rfl, rfl⟩ | ⟨rfl, rfl⟩ <;>
  first | exact absurd rfl h5 | (rcases hs with rfl | rfl | rfl <;> simp [spec_paGoes.f, spec_paGoes.j0, aF, ar, b7, af, aq])

def mirOf (a b : Int) : Int × Int := if a = 1 then (2, 0) else if a = 2 then (1, 0) else if a = 3 ∨ a = 6 then (a, 1 - b) else (a, b)
theorem aG (a b : Int) : impl_MirrorCell.f a b = some (if goodB a b = true then ((mirOf a b).1, (mirOf a b).2, true) else (0, 0, false)) := by
 unfold impl_MirrorCell.f
 rw [a9, Option.bind_some]
 by_cases h : goodB a b = true
 ·rw [if_pos h, if_pos h]
  rcases a4 h with ⟨rfl, rfl⟩ | ⟨rfl, rfl⟩ | ⟨rfl, rfl⟩ | ⟨rfl, rfl⟩ | ⟨rfl, rfl⟩ | ⟨rfl, rfl⟩ | ⟨rfl, rfl⟩ | ⟨rfl, rfl⟩ | ⟨rfl, rfl⟩ | ⟨rfl, rfl⟩ <;> decide +kernel
 ·rw [if_neg h, if_neg h]

theorem ao (a b : Int) (h : goodB a b = true) : spec_paMirror.f a b = some (mirOf a b) := by
 rcases a4 h with ⟨rfl, rfl⟩ | ⟨rfl, rfl⟩ | ⟨rfl, rfl⟩ | ⟨rfl, rfl⟩ | ⟨rfl, rfl⟩ | ⟨rfl, rfl⟩ | ⟨rfl, rfl⟩ | ⟨rfl, rfl⟩ | ⟨rfl, rfl⟩ | ⟨rfl, rfl⟩ <;> decide +kernel

theorem bF (a b : List Int) : ∃ t, laws_big.f a b = some t := by
 unfold laws_big.f
 split
 ·exact ⟨_, rfl⟩
 ·exact ⟨_, rfl⟩
theorem ak {a b : Int} (h : goodB a b = true) : ap (a5 a b) = (a, b, true) := by
 rcases a4 h with ⟨rfl, rfl⟩ | ⟨rfl, rfl⟩ | ⟨rfl, rfl⟩ | ⟨rfl, rfl⟩ | ⟨rfl, rfl⟩ | ⟨rfl, rfl⟩ | ⟨rfl, rfl⟩ | ⟨rfl, rfl⟩ | ⟨rfl, rfl⟩ | ⟨rfl, rfl⟩ <;> decide +kernel

theorem ac (a b : Int) : spec_CellLetter.f a b = some (if goodB a b = true then (a5 a b, true) else (⟨#[]⟩, false)) := by
 unfold spec_CellLetter.f
 rw [bindE (aI a b)]
 by_cases h : goodB a b = true
 ·rw [if_pos h, bindE (aS a b h), if_pos h]
 ·rw [if_neg h, if_neg h]
theorem aM (a b : Int) : spec_MirrorCell.f a b = some (if goodB a b = true then ((mirOf a b).1, (mirOf a b).2, true) else (0, 0, false)) := by
 unfold spec_MirrorCell.f
 rw [bindE (aI a b)]
 by_cases h : goodB a b = true
 ·rw [if_pos h, bindE (ao a b h), if_pos h]
 ·rw [if_neg h, if_neg h]
theorem aR (a b : Int) : impl_TurnCell.f a b = some (if (goodB a b && turnB a) = true then (a, wrap64 (1 - b), true) else (0, 0, false)) := by
 unfold impl_TurnCell.f
 rw [bindE (aC a b)]
 by_cases h : (goodB a b && turnB a) = true
 ·rw [if_pos h, if_pos h]
 ·rw [if_neg h, if_neg h]
theorem an (a b : Int) : spec_TurnCell.f a b = some (if (goodB a b && turnB a) = true then (a, wrap64 (1 - b), true) else (0, 0, false)) := by
 unfold spec_TurnCell.f spec_paTurn.f
 rw [bindE (aI a b), a8]
 cases goodB a b <;> cases turnB a <;> simp
theorem ab (k : Nat) (a b d : Int) : spec_GoesTo.f (k + 1) a b d = some (if goesB a b d = true then (aF a b d, true) else (0, false)) := by
 unfold spec_GoesTo.f
 rw [bindE (aI a b)]
 by_cases h : goesB a b d = true
 ·rw [bindE (aW _ _ _), bindE (ay k a b d h), if_pos h]
  simp only [goesB, Bool.and_eq_true, decide_eq_true_eq] at h
  simp [h]
 ·rw [if_neg h, bindE (aW _ _ _)]
  simp only [goesB, Bool.and_eq_true, decide_eq_true_eq] at h
  by_cases h0 : goodB a b = true
  ·by_cases h1 : -1 ≤ d ∧ d ≤ 1
   ·have h5 : a = 5 := by
     by_cases h5 : a = 5
     ·exact h5
     ·exact absurd ⟨⟨h0, h1⟩, h5⟩ h
    simp [h0, h1, h5]
   ·simp [h0, h1]
  ·simp [h0]
theorem aY (n : Int) : ∃ r, impl_KindName.f n = some r ∧ spec_KindName.f n = some r := by
 unfold impl_KindName.f spec_KindName.f
 rw [bindE (aW n 0 7)]
 by_cases h0 : n < 0
 ·rw [if_pos h0, decide_eq_false (by omega), if_neg (by simp)]
  exact ⟨_, rfl, rfl⟩
 rw [if_neg h0]
 by_cases h1 : n > 7
 ·rw [if_pos h1, decide_eq_false (by omega), if_neg (by simp)]
  exact ⟨_, rfl, rfl⟩
 rw [if_neg h1, decide_eq_true (by omega), if_pos rfl]
 simp only [Option.bind_some]
 rw [if_pos (by omega), if_pos (by simp; omega)]
 exact ⟨_, rfl, rfl⟩
theorem b1 {a b : Int} (h : goodB a b = true) : goodB (mirOf a b).1 (mirOf a b).2 = true := by
 rcases a4 h with ⟨rfl, rfl⟩ | ⟨rfl, rfl⟩ | ⟨rfl, rfl⟩ | ⟨rfl, rfl⟩ | ⟨rfl, rfl⟩ | ⟨rfl, rfl⟩ | ⟨rfl, rfl⟩ | ⟨rfl, rfl⟩ | ⟨rfl, rfl⟩ | ⟨rfl, rfl⟩ <;> decide +kernel
theorem bD {a b : Int} (h : goodB a b = true) : mirOf (mirOf a b).1 (mirOf a b).2 = (a, b) := by
 rcases a4 h with ⟨rfl, rfl⟩ | ⟨rfl, rfl⟩ | ⟨rfl, rfl⟩ | ⟨rfl, rfl⟩ | ⟨rfl, rfl⟩ | ⟨rfl, rfl⟩ | ⟨rfl, rfl⟩ | ⟨rfl, rfl⟩ | ⟨rfl, rfl⟩ | ⟨rfl, rfl⟩ <;> decide +kernel
theorem ax {a b : Int} (h : goodB a b = true) (ht : turnB a = true) : goodB a (wrap64 (1 - b)) = true ∧ wrap64 (1 - wrap64 (1 - b)) = b := by
 rcases a4 h with ⟨rfl, rfl⟩ | ⟨rfl, rfl⟩ | ⟨rfl, rfl⟩ | ⟨rfl, rfl⟩ | ⟨rfl, rfl⟩ | ⟨rfl, rfl⟩ | ⟨rfl, rfl⟩ | ⟨rfl, rfl⟩ | ⟨rfl, rfl⟩ | ⟨rfl, rfl⟩ <;> first | exact absurd ht (by decide) | decide +kernel
theorem b4 {a b d : Int} (h : goesB a b d = true) : goesB (mirOf a b).1 (mirOf a b).2 (wrap64 (-d)) = true ∧ aF (mirOf a b).1 (mirOf a b).2 (wrap64 (-d)) = wrap64 (-(aF a b d)) ∧ ¬ aF a b d < -1 ∧ ¬ aF a b d > 1 := by
 simp only [goesB, Bool.and_eq_true, decide_eq_true_eq] at h
 obtain ⟨⟨h, h1⟩, h5⟩ := h
 have hs : d = -1 ∨ d = 0 ∨ d = 1 := by omega
 rcases a4 h with ⟨rfl, rfl⟩ | ⟨rfl, rfl⟩ | ⟨rfl, rfl⟩ | ⟨rfl, rfl⟩ | ⟨rfl, rfl⟩ | ⟨rfl, rfl⟩ | ⟨rfl, rfl⟩ | ⟨rfl, rfl⟩ | ⟨rfl, rfl⟩ | ⟨rfl, rfl⟩ <;>
  first | exact absurd rfl h5 | (rcases hs with rfl | rfl | rfl <;> decide +kernel)
theorem b9 {s : List Int} (hs : a6 s) : Ev (fun k => laws_FnCells.j4 k s) true := by
 obtain ⟨n, hn⟩ := aU hs
 obtain ⟨r, h1, h2⟩ := aY n
 obtain ⟨t, ht⟩ := aV hs
 obtain ⟨K1, hK1⟩ := a7 (aT t)
 obtain ⟨K2, hK2⟩ := a7 (av t)
 refine ⟨K1 + K2 + 1, fun k hk => ?_⟩
 obtain ⟨k, rfl⟩ : ∃ m, k = m + 1 := ⟨k - 1, by omega⟩
 simp only [laws_FnCells.j4, spec_ReadCell.f]
 rw [bindE hn, bindE h1, bindE h2, bindE ht, bindE (hK1 k (by omega)), hK2 k (by omega)]
 simp
theorem b5 {s : List Int} (hs : a6 s) (a b d : Int) : Ev (fun k => laws_FnCells.j3 k s d (goesB a b d) (if goesB a b d = true then aF a b d else 0) false a b) true := by
 obtain ⟨K, hK⟩ := a7 (b9 hs)
 refine ⟨K + 4, fun k hk => ?_⟩
 obtain ⟨k, rfl⟩ : ∃ m, k = m + 1 + 1 + 1 := ⟨k - 3, by omega⟩
 have h4 := hK (k + 1 + 1) (by omega)
 simp only [laws_FnCells.j3]
 rw [if_neg (by simp)]
 by_cases h : goesB a b d = true
 ·have hg : goodB a b = true := by
   simp only [goesB, Bool.and_eq_true] at h
   exact h.1.1
  obtain ⟨m1, m2, m3, m4⟩ := b4 h
  rw [if_pos h, if_pos h, bindE (aG a b), bindE (aM a b), if_pos hg]
  simp only []
  rw [bindE (ad k _ _ _), if_pos m1]
  simp only []
  simp only [if_true]
  rw [if_neg (by simp), if_pos m2, if_neg m3, if_neg m4]
  exact h4
 ·rw [if_neg h]
  exact h4
theorem b8 {s : List Int} (hs : a6 s) : Ev (fun k => laws_FnCells.j2 k s) true := by
 obtain ⟨a, b, d, hd, _, _⟩ := aZ hs
 obtain ⟨K, hK⟩ := a7 hd
 obtain ⟨K3, hK3⟩ := a7 (b5 hs a b d)
 refine ⟨K + K3 + 4, fun k hk => ?_⟩
 obtain ⟨k, rfl⟩ : ∃ m, k = m + 1 + 1 + 1 := ⟨k - 3, by omega⟩
 have h3 := hK3 (k + 1 + 1) (by omega)
 simp only [laws_FnCells.j2]
 rw [bindE (hK (k + 1 + 1) (by omega))]
 simp only []
 rw [bindE (ad k a b d), bindE (ab (k + 1) a b d)]
 by_cases h : goesB a b d = true
 ·rw [h, if_pos rfl] at h3
  rw [if_pos h]
  simp only [bne_self_eq_false, if_neg Bool.false_ne_true]
  exact h3
 ·rw [Bool.eq_false_iff.2 h, if_neg (by simp)] at h3
  rw [if_neg h]
  simp only [bne_self_eq_false, if_neg Bool.false_ne_true]
  exact h3
theorem b6 {s : List Int} (hs : a6 s) (a b : Int) : Ev (fun k => laws_FnCells.j1 k s (goodB a b && turnB a) a b (if (goodB a b && turnB a) = true then a else 0) (if (goodB a b && turnB a) = true then wrap64 (1 - b) else 0)) true := by
 obtain ⟨K, hK⟩ := a7 (b8 hs)
 refine ⟨K + 1, fun k hk => ?_⟩
 obtain ⟨k, rfl⟩ : ∃ m, k = m + 1 := ⟨k - 1, by omega⟩
 have h2 := hK k (by omega)
 simp only [laws_FnCells.j1]
 by_cases h : (goodB a b && turnB a) = true
 ·have hq := h
  rw [Bool.and_eq_true] at hq
  obtain ⟨t1, t2⟩ := ax hq.1 hq.2
  simp only [if_pos h]
  rw [bindE (aR a (wrap64 (1 - b))), t1, hq.2, t2]
  simp only [Bool.and_true, if_true]
  rw [if_neg (by simp)]
  exact h2
 ·rw [if_neg h]
  exact h2
theorem b3 {s : List Int} (hs : a6 s) (a b : Int) : Ev (fun k => laws_FnCells.j0 k s (if goodB a b = true then a5 a b else ⟨#[]⟩) (goodB a b) (goodB a b && turnB a) false a b (if goodB a b = true then (mirOf a b).1 else 0) (if goodB a b = true then (mirOf a b).2 else 0) (if (goodB a b && turnB a) = true then a else 0) (if (goodB a b && turnB a) = true then wrap64 (1 - b) else 0)) true := by
 obtain ⟨K, hK⟩ := a7 (b6 hs a b)
 obtain ⟨KR, hKR⟩ := a7 (aT (a5 a b))
 refine ⟨K + KR + 1, fun k hk => ?_⟩
 obtain ⟨k, rfl⟩ : ∃ m, k = m + 1 := ⟨k - 1, by omega⟩
 have h1 := hK k (by omega)
 have hR := hKR k (by omega)
 simp only [laws_FnCells.j0]
 rw [if_neg (by simp)]
 by_cases h : goodB a b = true
 ·rw [ak h] at hR
  rw [if_pos h]
  simp only [if_pos h]
  rw [bindE hR, bindE (aG _ _), if_pos (b1 h), bD h]
  simp only [if_true]
  rw [if_neg (by simp), if_neg (by simp)]
  exact h1
 ·rw [if_neg h]
  exact h1
theorem FnCells : laws_FnCells.Pure := by
 intro l0 l1 _ hb0 hw0 _ _ hw1
 have s0 := al hw0
 have s1 := al hw1
 obtain ⟨t, ht⟩ := bF l0 l1
 obtain ⟨a, b, hd⟩ := aP s0
 obtain ⟨K, hK⟩ := a7 hd
 obtain ⟨K0, hK0⟩ := a7 (b3 s1 a b)
 refine ⟨K + K0, ?_⟩
 have h0 := hK0 (K + K0) (by omega)
 unfold laws_FnCells.f
 rw [bindE ht]
 by_cases hq : t = true
 ·rw [if_pos hq]
 rw [if_neg hq, bindE (hK _ (by omega))]
 simp only []
 rw [bindE (aL a b), bindE (ac a b), bindE (aG a b), bindE (aM a b), bindE (aR a b), bindE (an a b)]
 cases h : goodB a b
 ·simp only [h, Bool.false_and, if_neg Bool.false_ne_true] at h0 ⊢
  simp only [bne_self_eq_false, beq_self_eq_true, Bool.not_true, Bool.or_self, if_neg Bool.false_ne_true, if_true]
  rw [bindE (a9 a b), h, if_neg (by simp), bindE (aC a b), h]
  exact h0
 ·cases hu : turnB a
  ·simp only [h, hu, Bool.and_false, if_neg Bool.false_ne_true, if_true] at h0 ⊢
   simp only [bne_self_eq_false, beq_self_eq_true, Bool.not_true, Bool.or_self, if_neg Bool.false_ne_true, if_true]
   rw [bindE (a9 a b), h, if_neg (by simp), bindE (aC a b), h, hu]
   exact h0
  ·simp only [h, hu, Bool.and_true, if_true] at h0 ⊢
   simp only [bne_self_eq_false, beq_self_eq_true, Bool.not_true, Bool.or_self, if_neg Bool.false_ne_true, if_true]
   rw [bindE (a9 a b), h, if_neg (by simp), bindE (aC a b), h, hu]
   exact h0

end Go.Proofs.Ytklmdnlambinaaa.Pure
