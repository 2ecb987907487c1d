/- For all bytes the law FnCellLists answers true: texts of cells are read back letter by letter, and kinds are counted. Conditions: none. (The plain law, over the functions' Lean forms.) -/
import Derived.Test.YtklmdnlambinaaaG20
set_option linter.unusedVariables false
set_option linter.unusedSimpArgs false
namespace Go.Proofs.Ytklmdnlambinaaa.Pure
open Go Go.RowKit Go.Proofs.Ytklmdnlambinaaa.PAll Go.Proofs.YtklmdnlambinaaaW.PrintWords Go.Proofs.YtklmdnlambinaaaW.PrintLast Go.Proofs.YtklmdnlambinaaaW.PrintMore

theorem aC {x : Int} (h0 : -9223372036854775808 ≤ x) (h1 : x < 9223372036854775808) : wrap64 x = x := by unfold wrap64; omega
theorem a8 {i n : Nat} (h : i < n) (hn : n ≤ 4611686018427387904) : wrap64 ((i : Int) + 1) = ((i + 1 : Nat) : Int) := by unfold wrap64; omega
theorem bx : wrap64 (-1) = -1 := by decide +kernel
theorem bz : wrap64 0 = 0 := by decide +kernel
theorem bj : wrap64 1 = 1 := by decide +kernel
theorem bq : wrap64 2 = 2 := by decide +kernel
structure Hid (p : Prop) : Prop where
 out : p
theorem a7 {α : Type} {g : Nat → Option α} {r : α} (K : Nat) (h : ∀ k, K ≤ k → g (k + 1) = some r) : Ev g r := by
 refine ⟨K + 1, fun k hk => ?_⟩
 obtain ⟨m, rfl⟩ : ∃ m, k = m + 1 := ⟨k - 1, by omega⟩
 exact h m (by omega)
theorem aA {α : Type} {g f : Nat → Option α} {r : α} (K : Nat) (hf : Ev f r) (h : ∀ k, K ≤ k → g (k + 1) = f k) : Ev g r := by
 obtain ⟨K', hf⟩ := hf
 refine ⟨K + K' + 1, fun k hk => ?_⟩
 obtain ⟨m, rfl⟩ : ∃ m, k = m + 1 := ⟨k - 1, by omega⟩
 rw [h m (by omega)]
 exact hf m (by omega)
theorem a0 {α : Type} {g : Nat → Option α} {r : α} (h : Ev g r) : ∃ K, ∀ k, K ≤ k → g k = some r := h
theorem bV {α : Type} {g : Nat → Option α} {r : α} (h : ∀ k, g k = some r) : Ev g r := ⟨0, fun k _ => h k⟩
theorem aP {α : Type} {g f : Nat → Option α} {r : α} (K : Nat) (hf : Ev f r) (h : ∀ k, K ≤ k → g k = f k) : Ev g r := by
 obtain ⟨K', hf⟩ := hf
 exact ⟨K + K', fun k hk => (h k (by omega)).trans (hf k (by omega))⟩
theorem bindE {α β : Type} {o : Option α} {v : α} {f : α → Option β} (h : o = some v) : o.bind f = f v := by rw [h]; rfl
theorem bv {β : Type} (x : Bool) (a b : β) : (if (x != x) = true then a else b) = b := by simp
theorem bu {β : Type} (x : Int) (a b : β) : (if (x != x) = true then a else b) = b := by simp
theorem br {β : Type} (a b : β) : (if true = true then a else b) = a := rfl
theorem aF {α : Type} (l : List α) (z : α) {i : Nat} (h : i < l.length) : l.drop i = l.getD i z :: l.drop (i + 1) := by
 rw [List.drop_eq_getElem_cons h, List.getD_eq_getElem?_getD, List.getElem?_eq_getElem h]; rfl
theorem bs {α : Type} (l : List α) (v : α) {i : Nat} (h : i < l.length) : (l.set i v).take (i + 1) = l.take i ++ [v] := by
 rw [List.take_succ_eq_append_getElem (by simpa using h)]
 simp [List.take_set_of_le]
theorem bw {α : Type} (l : List α) (i : Nat) (z : α) : l.getD ((i : Int).toNat) z = l.getD i z := by rw [Int.toNat_natCast]

def goodB (a b : Int) : Bool := decide ((0 ≤ a ∧ a ≤ 7) ∧ (b = 0 ∨ b = 1 ∧ (a = 3 ∨ a = 6)))
theorem ab {a b : Int} (h : goodB a b = true) : (a = 0 ∧ b = 0) ∨ (a = 1 ∧ b = 0) ∨ (a = 2 ∧ b = 0) ∨ (a = 3 ∧ b = 0) ∨ (a = 3 ∧ b = 1) ∨ (a = 4 ∧ b = 0) ∨ (a = 5 ∧ b = 0) ∨ (a = 6 ∧ b = 0) ∨ (a = 6 ∧ b = 1) ∨ (a = 7 ∧ b = 0) := by
 simp only [goodB, decide_eq_true_eq] at h
 obtain ⟨⟨h0, h7⟩, hb⟩ := h
 have ha : a = 0 ∨ a = 1 ∨ a = 2 ∨ a = 3 ∨ a = 4 ∨ a = 5 ∨ a = 6 ∨ a = 7 := by
  clear hb
  omega
 rcases ha with rfl | rfl | rfl | rfl | rfl | rfl | rfl | rfl <;> simp_all

def a5 (a b : Int) : ByteArray := if b = 1 then (if a = 3 then ⟨#[70]⟩ else ⟨#[71]⟩) else ⟨#[[46, 108, 114, 102, 120, 111, 103, 99].getD a.toNat 46]⟩
theorem aM (a b : Int) : (a5 a b).size = 1 := by
 unfold a5
 split
 ·split <;> rfl
 ·rfl

def turnB (a : Int) : Bool := decide (a = 3 ∨ a = 6)
theorem aK (a b : Int) : spec_paTurning.f a b = some (turnB a) := by
 unfold spec_paTurning.f turnB
 by_cases h : a = 3
 ·simp [h]
 ·rw [if_neg h]
  by_cases h6 : a = 6 <;> simp [h, h6]

def hitB (a b : Int) (s : ByteArray) : Bool := goodB a b && decide ((a5 a b).toList = s.toList)
def aO : Nat → Int → ByteArray → Int × Int × Bool
 | 0, _, _ => (0, 0, false)
 | n + 1, a, s => if hitB a 0 s = true then (a, 0, true) else if hitB a 1 s = true then (a, 1, true) else aO n (a + 1) s
def aI (s : ByteArray) : Int × Int × Bool := aO 8 0 s
theorem b6 {a : Int} (h0 : 0 ≤ a) (h7 : a ≤ 7) : goodB a 0 = true := by simp [goodB, h0, h7]
theorem bS {a : Int} (h0 : 0 ≤ a) (h7 : a ≤ 7) : goodB a 1 = turnB a := by simp [goodB, turnB, h0, h7]

def a9 : Nat → Int → List S25
 | 0, _ => []
 | n + 1, a => (⟨a, 0⟩ : S25) :: ((if turnB a = true then [(⟨a, 1⟩ : S25)] else []) ++ a9 n (a + 1))
theorem bk : ∀ (n : Nat) (a : Int) (x : List S25), 0 ≤ a → a + n = 8 → x.length ≤ 2 * a → Ev (fun k => spec_paAll.l0 k x a) (x ++ a9 n a) := by
 intro n
 induction n with
 | zero =>
  intro a x h0 h8 hx
  refine a7 0 fun k _ => ?_
  simp only [spec_paAll.l0]
  rw [if_neg (by omega)]
  simp [a9]
 | succ n ih =>
  intro a x h0 h8 hx
  simp only [a9]
  by_cases ht : turnB a = true
  ·refine aA 0 (f := fun k => spec_paAll.l0 k (x ++ [(⟨a, 0⟩ : S25)] ++ [(⟨a, 1⟩ : S25)]) (a + 1)) ?_ fun k _ => ?_
   ·have h := ih (a + 1) (x ++ [(⟨a, 0⟩ : S25)] ++ [(⟨a, 1⟩ : S25)]) (by omega) (by omega) (by simp; omega)
    simpa [ht] using h
   ·simp only [spec_paAll.l0, aK, Option.bind_some]
    rw [if_pos (by omega), if_pos (by omega), if_pos ht, if_pos (by simp; omega), aC (by omega) (by omega)]
  ·refine aA 0 (f := fun k => spec_paAll.l0 k (x ++ [(⟨a, 0⟩ : S25)]) (a + 1)) ?_ fun k _ => ?_
   ·have h := ih (a + 1) (x ++ [(⟨a, 0⟩ : S25)]) (by omega) (by omega) (by simp; omega)
    simpa [ht] using h
   ·simp only [spec_paAll.l0, aK, Option.bind_some]
    rw [if_pos (by omega), if_pos (by omega), if_neg ht, aC (by omega) (by omega)]
theorem bN : Ev (fun k => spec_paAll.f k) (a9 8 0) := by
 have h := bk 8 0 [] (by omega) (by omega) (by simp)
 simpa [spec_paAll.f] using h

theorem ap (a b : Int) (h : goodB a b = true) : spec_paLetter.f a b = some (a5 a b) := by
 rcases ab h with ⟨rfl, rfl⟩ | ⟨rfl, rfl⟩ | ⟨rfl, rfl⟩ | ⟨rfl, rfl⟩ | ⟨rfl, rfl⟩ | ⟨rfl, rfl⟩ | ⟨rfl, rfl⟩ | ⟨rfl, rfl⟩ | ⟨rfl, rfl⟩ | ⟨rfl, rfl⟩ <;> decide +kernel

theorem bE (l : List S25) (i : Nat) : rd_T25 l (i : Int) = l.getD i z25 := by rw [rd_T25, Int.toNat_natCast]
def goodC (x : S25) : Bool := goodB x.f0 x.f1

def ai : List S25 → ByteArray → Int × Int × Bool
 | [], _ => (0, 0, false)
 | x :: l, s => if (a5 x.f0 x.f1).toList = s.toList then (x.f0, x.f1, true) else ai l s
theorem aR : ∀ (n : Nat) (a : Int), 0 ≤ a → a + n = 8 → (a9 n a).all goodC = true
 | 0, _, _, _ => rfl
 | n + 1, a, h0, h8 => by
  simp only [a9, List.all_cons, List.all_append, aR n (a + 1) (by omega) (by omega), Bool.and_true]
  rw [show goodC (⟨a, 0⟩ : S25) = true from b6 h0 (show a ≤ 7 by omega), Bool.true_and]
  by_cases ht : turnB a = true
  ·rw [if_pos ht]
   simp [goodC, bS h0 (show a ≤ 7 by omega), ht]
  ·rw [if_neg ht]
   rfl
theorem aU (s : ByteArray) : ∀ (n : Nat) (a : Int), 0 ≤ a → a + n = 8 → ai (a9 n a) s = aO n a s
 | 0, _, _, _ => rfl
 | n + 1, a, h0, h8 => by
  have ih := aU s n (a + 1) (by omega) (by omega)
  simp only [a9, ai, aO, hitB, b6 h0 (show a ≤ 7 by omega), bS h0 (show a ≤ 7 by omega), Bool.true_and, decide_eq_true_eq]
  by_cases h1 : (a5 a 0).toList = s.toList
  ·rw [if_pos h1, if_pos h1]
  ·rw [if_neg h1, if_neg h1]
   by_cases ht : turnB a = true
   ·rw [if_pos ht, ht, List.singleton_append, ai, ih]
    by_cases h2 : (a5 a 1).toList = s.toList
    ·simp [h2]
    ·simp [h2]
   ·rw [if_neg ht, List.nil_append, ih]
    simp [ht]
theorem bg (s : ByteArray) (l : List S25) (hl : l.all goodC = true) (hn : l.length ≤ 1048576) : ∀ (d i : Nat), l.length - i = d → i ≤ l.length →
 Ev (fun k => spec_paRead.l0 k s l (l.length : Int) (i : Int)) (ai (l.drop i) s) := by
 intro d
 induction d with
 | zero =>
  intro i hd hi
  refine a7 0 fun k _ => ?_
  simp only [spec_paRead.l0]
  rw [if_neg (by omega), List.drop_of_length_le (by omega)]
  rfl
 | succ d ih =>
  intro i hd hi
  have hlt : i < l.length := by omega
  have h := ih (i + 1) (by omega) (by omega)
  have hg : goodC (l.getD i z25) = true := by
   rw [List.getD_eq_getElem?_getD, List.getElem?_eq_getElem hlt]
   exact List.all_eq_true.1 hl _ (List.getElem_mem hlt)
  have hp := ap _ _ hg
  rw [aF l z25 hlt, ai]
  by_cases he : (a5 (l.getD i z25).f0 (l.getD i z25).f1).toList = s.toList
  ·rw [if_pos he]
   refine a7 0 fun k _ => ?_
   simp only [spec_paRead.l0, rd_T25, Int.toNat_natCast, hp, Option.bind_some]
   rw [if_pos (by omega), if_pos (by omega), if_pos (by omega), if_pos he]
  ·rw [if_neg he]
   refine aA 0 h fun k _ => ?_
   simp only [spec_paRead.l0, rd_T25, Int.toNat_natCast, hp, Option.bind_some]
   rw [if_pos (by omega), if_pos (by omega), if_pos (by omega), if_neg he, a8 hlt (by omega)]
theorem bc (s : ByteArray) : Ev (fun k => spec_paRead.f k s) (aI s) := by
 obtain ⟨K, hK⟩ := a0 (bN)
 refine aP K (f := fun k => spec_paRead.l0 k s (a9 8 0) ((a9 8 0).length : Int) ((0 : Nat) : Int)) ?_ fun k hk => ?_
 ·have h := bg s (a9 8 0) (aR 8 0 (by omega) (by omega)) (by decide) _ 0 rfl (by omega)
  rw [List.drop_zero, aU s 8 0 (by omega) (by omega)] at h
  exact h
 ·simp only [spec_paRead.f]
  rw [hK k hk, Option.bind_some]
  rfl

def aD (s : List Int) : Prop := ∀ x ∈ s, 0 ≤ x ∧ x ≤ 255
theorem bQ {s : List Int} (h : ∀ x ∈ s, (Lit.int .u8 x).wf = true) : aD s := by
 intro x hx
 have := h x hx
 simp only [Lit.wf, Bool.and_eq_true, decide_eq_true_eq] at this
 simpa [IntKind.min, IntKind.max, IntKind.signed, IntKind.bits] using this
theorem bG (n : Int) : IntKind.u64.wrap n = n % 18446744073709551616 := by simp [IntKind.wrap, IntKind.bits, IntKind.signed]
theorem low8 (y : Int) : 0 ≤ Go.bits .and .u64 (IntKind.u64.wrap y / 1099511627776) 255 ∧ Go.bits .and .u64 (IntKind.u64.wrap y / 1099511627776) 255 ≤ 255 := by
 have h := bG y
 have e := bits_mask .u64 64 (by decide) (fun n h0 h1 => by rw [bG]; omega) 8 (by decide) (IntKind.u64.wrap y / 1099511627776) (by rw [h]; omega) (by rw [h]; omega)
 rw [show (2 : Int) ^ 8 - 1 = 255 by decide, show (2 : Int) ^ 8 = 256 by decide] at e
 rw [e]
 omega
theorem bn {s : List Int} (hs : aD s) {a : Int} (h0 : 0 ≤ a) (h1 : a < s.length) : 0 ≤ rd s a ∧ rd s a ≤ 255 := by
 have hlt : a.toNat < s.length := by omega
 have : rd s a = s[a.toNat] := by rw [rd, List.getD_eq_getElem?_getD, List.getElem?_eq_getElem hlt]; rfl
 rw [this]
 exact hs _ (List.getElem_mem hlt)
theorem bb {s : List Int} (hs : aD s) {a v : Int} (h0 : 0 ≤ a) (h1 : a ≤ 4611686018427387904) : ∃ r v', spec_l1Cur_next.f s a v = some (r, a + 1, v') ∧ 0 ≤ r ∧ r ≤ 255 := by
 have e1 : wrap64 (a + 1) = a + 1 := aC (by omega) (by omega)
 unfold spec_l1Cur_next.f
 simp only [e1]
 by_cases h : a < (s.length : Int)
 ·have hb := bn hs h0 h
  have e2 : wrap64 (rd s a) = rd s a := aC (by omega) (by omega)
  rw [if_pos h, if_pos h0, if_pos (show a + 1 ≤ (s.length : Int) by omega), e2]
  exact ⟨_, _, rfl, hb⟩
 ·rw [if_neg h, if_neg (show ¬ (a + 1 ≤ (s.length : Int)) by omega)]
  refine ⟨_, _, rfl, ?_⟩
  have hb := low8 ((IntKind.u64.wrap ((IntKind.u64.wrap (v * 6364136223846793005)) + 0)) + 1442695040888963407)
  rw [aC (by omega) (by omega)]
  exact hb
theorem aH {s : List Int} (hs : aD s) {a v n : Int} (h0 : 0 ≤ a) (h1 : a ≤ 2305843009213693952) (hn : 1 ≤ n) : ∃ r a' v', spec_l1Cur_pick.f s a v n = some (r, a', v') ∧ 0 ≤ r ∧ r < n ∧ 0 ≤ a' ∧ a' ≤ a + 2 := by
 unfold spec_l1Cur_pick.f
 by_cases hq : n ≤ 1
 ·rw [if_pos hq]
  exact ⟨_, _, _, rfl, by omega, by omega, by omega, by omega⟩
 rw [if_neg hq]
 obtain ⟨r1, v1, e1, p1, p2⟩ := bb hs (v := v) h0 (show a ≤ 4611686018427387904 by omega)
 rw [bindE e1]
 simp only []
 by_cases hb : n > 200
 ·rw [if_pos hb]
  obtain ⟨r2, v2, e2, p3, p4⟩ := bb hs (v := v1) (show 0 ≤ a + 1 by omega) (show a + 1 ≤ 4611686018427387904 by omega)
  rw [bindE e2]
  simp only []
  rw [if_neg (show ¬ n = 0 by omega), aC (x := r1 * 256) (by omega) (by omega), aC (x := r1 * 256 + r2) (by omega) (by omega)]
  refine ⟨_, _, _, rfl, Int.tmod_nonneg _ (by omega), Int.tmod_lt_of_pos _ (by omega), by omega, by omega⟩
 ·rw [if_neg hb, if_neg (show ¬ n = 0 by omega)]
  exact ⟨_, _, _, rfl, Int.tmod_nonneg _ (by omega), Int.tmod_lt_of_pos _ (by omega), by omega, by omega⟩
theorem bM {s : List Int} (hs : aD s) {a v : Int} (l : List Int) (h0 : 0 ≤ a) (h1 : a ≤ 2305843009213693952) (hl : 1 ≤ l.length) : ∃ r a' v', spec_l1Cur_among.f s a v l = some (r, a', v') ∧ r ∈ l ∧ 0 ≤ a' ∧ a' ≤ a + 2 := by
 obtain ⟨r, a', v', e, p1, p2, p3, p4⟩ := aH hs (v := v) (n := (l.length : Int)) h0 h1 (by omega)
 unfold spec_l1Cur_among.f
 rw [bindE e]
 simp only []
 rw [if_pos p1, if_pos p2]
 refine ⟨_, _, _, rfl, ?_, p3, p4⟩
 have hlt : r.toNat < l.length := by omega
 rw [rd, List.getD_eq_getElem?_getD, List.getElem?_eq_getElem hlt]
 exact List.getElem_mem hlt
theorem bZ {s : List Int} (hs : aD s) {a v : Int} (h0 : 0 ≤ a) (h1 : a ≤ 2305843009213693952) : ∃ x y a' v', Ev (fun k => spec_l1Cur_cell.f k s a v) (x, y, a', v') ∧ goodB x y = true ∧ 0 ≤ a' ∧ a' ≤ a + 2 := by
 obtain ⟨K, hK⟩ := a0 bN
 have hlen : (a9 8 0).length = 10 := by decide
 have hg := aR 8 0 (by omega) (by omega)
 generalize a9 8 0 = l at hK hlen hg
 obtain ⟨r, a', v', e, p1, p2, p3, p4⟩ := aH hs (v := v) (n := (l.length : Int)) h0 h1 (by omega)
 have hlt : r.toNat < l.length := by omega
 refine ⟨(l.getD r.toNat z25).f0, (l.getD r.toNat z25).f1, a', v', ⟨K, fun k hk => ?_⟩, ?_, p3, p4⟩
 ·simp only [spec_l1Cur_cell.f]
  rw [bindE (hK k hk), bindE e]
  simp only []
  rw [if_pos p1, if_pos p2]
  rfl
 ·have := List.all_eq_true.1 hg _ (List.getElem_mem hlt)
  rw [List.getD_eq_getElem?_getD, List.getElem?_eq_getElem hlt]
  exact this
theorem aw {s : List Int} (hs : aD s) {a v : Int} (h0 : 0 ≤ a) (h1 : a ≤ 1152921504606846976) : ∃ x y a' v', Ev (fun k => spec_l1Cur_anyCell.f k s a v) (x, y, a', v') ∧ 0 ≤ a' ∧ a' ≤ a + 6 := by
 obtain ⟨x, y, a1, v1, hc, _, p1, p2⟩ := bZ hs (v := v) h0 (show a ≤ 2305843009213693952 by omega)
 obtain ⟨K, hK⟩ := a0 hc
 obtain ⟨r, a2, v2, e2, _, _, p3, p4⟩ := aH hs (v := v1) (n := 20) p1 (show a1 ≤ 2305843009213693952 by omega) (by omega)
 by_cases hr0 : r = 0
 ·obtain ⟨r3, a3, v3, e3, _, p5, p6⟩ := bM hs (v := v2) [(-1), 8] p3 (show a2 ≤ 2305843009213693952 by omega) (by decide)
  refine ⟨r3, y, a3, v3, ⟨K, fun k hk => ?_⟩, p5, by omega⟩
  simp only [spec_l1Cur_anyCell.f]
  rw [bindE (hK k hk)]
  simp only []
  rw [bindE e2]
  simp only []
  rw [if_pos hr0, bindE e3]
 by_cases hr1 : r = 1
 ·obtain ⟨r3, a3, v3, e3, _, p5, p6⟩ := bM hs (v := v2) [(-1), 1, 2] p3 (show a2 ≤ 2305843009213693952 by omega) (by decide)
  refine ⟨x, r3, a3, v3, ⟨K, fun k hk => ?_⟩, p5, by omega⟩
  simp only [spec_l1Cur_anyCell.f]
  rw [bindE (hK k hk)]
  simp only []
  rw [bindE e2]
  simp only []
  rw [if_neg hr0, if_pos hr1, bindE e3]
 ·refine ⟨x, y, a2, v2, ⟨K, fun k hk => ?_⟩, p3, by omega⟩
  simp only [spec_l1Cur_anyCell.f]
  rw [bindE (hK k hk)]
  simp only []
  rw [bindE e2]
  simp only []
  rw [if_neg hr0, if_neg hr1]
theorem aW (s : List Int) : spec_mkCur.f s = some (s, 0, 0) := rfl
theorem b2 {s : List Int} (hs : aD s) : ∃ x y, Ev (fun k => spec_DrawIsCell.f k s) (x, y) := by
 obtain ⟨x, y, a, v, hc, _, _⟩ := aw hs (a := 0) (v := 0) (by omega) (by omega)
 obtain ⟨K, hK⟩ := a0 hc
 refine ⟨x, y, K, fun k hk => ?_⟩
 simp only [spec_DrawIsCell.f]
 rw [bindE (aW s)]
 simp only []
 rw [bindE (hK k hk)]

def a6 (l : List S25) : List UInt8 := l.flatMap fun x => (a5 x.f0 x.f1).data.toList
theorem aG : ∀ l : List S25, (a6 l).length = l.length
 | [] => rfl
 | x :: l => by
  have h := aG l
  have h1 : (a5 x.f0 x.f1).data.toList.length = 1 := aM x.f0 x.f1
  simp only [a6, List.flatMap_cons, List.length_append, List.length_cons] at h ⊢
  omega
theorem aQ {l : List S25} (hl : l.all goodC = true) {i : Nat} (h : i < l.length) : goodC (l.getD i z25) = true := by
 rw [List.getD_eq_getElem?_getD, List.getElem?_eq_getElem h]
 exact List.all_eq_true.1 hl _ (List.getElem_mem h)
theorem bB (a b : List UInt8) : (⟨a.toArray⟩ : ByteArray) ++ (⟨b.toArray⟩ : ByteArray) = ⟨(a ++ b).toArray⟩ := by
 apply ByteArray.ext
 simp
theorem bT (b : List UInt8) : strOfNums (b.map fun x => (x.toNat : Int)) = ⟨b.toArray⟩ := by
 unfold strOfNums
 rw [List.map_map]
 congr 2
 induction b with
 | nil => rfl
 | cons x l ih => simp [ih]

theorem bf (l : List S25) (hl : l.all goodC = true) (hn : l.length ≤ 1048576) : ∀ (d i : Nat) (b : List UInt8), l.length - i = d → i ≤ l.length → b.length ≤ 1048576 + i →
 Ev (fun k => spec_paText.l0 k ⟨b.toArray⟩ l (l.length : Int) (i : Int)) ⟨(b ++ a6 (l.drop i)).toArray⟩ := by
 intro d
 induction d with
 | zero =>
  intro i b hd hi hb
  refine a7 0 fun k _ => ?_
  simp only [spec_paText.l0]
  rw [if_neg (by omega), List.drop_of_length_le (by omega)]
  simp [a6]
 | succ d ih =>
  intro i b hd hi hb
  have hlt : i < l.length := by omega
  have hp := ap _ _ (aQ hl hlt)
  have hs := aM (l.getD i z25).f0 (l.getD i z25).f1
  rw [aF l z25 hlt, a6, List.flatMap_cons, ← List.append_assoc]
  generalize hq : a5 (l.getD i z25).f0 (l.getD i z25).f1 = q at hp hs ⊢
  have hq2 : q = ⟨q.data.toList.toArray⟩ := by simp
  refine aA 0 (ih (i + 1) (b ++ q.data.toList) (by omega) (by omega) ?_) fun k _ => ?_
  ·have : q.data.toList.length = 1 := hs
   rw [List.length_append]
   omega
  ·simp only [spec_paText.l0, rd_T25, Int.toNat_natCast, hp, Option.bind_some]
   rw [if_pos (by omega), if_pos (by omega), if_pos (by omega), if_pos (by rw [hs]; show b.length + 1 ≤ _; omega), a8 hlt (by omega), ← bB]
theorem b7 (l : List S25) (hl : l.all goodC = true) (hn : l.length ≤ 1048576) : Ev (fun k => spec_paText.f k l) ⟨(a6 l).toArray⟩ := by
 have h := bf l hl hn l.length 0 [] (by omega) (by omega) (by simp)
 exact h

theorem bm (a lo hi : Int) : spec_l1In.f a lo hi = some (decide (lo ≤ a ∧ a ≤ hi)) := by
 unfold spec_l1In.f
 by_cases h : a ≥ lo
 ·rw [if_pos h]
  simp [show lo ≤ a from h]
 ·rw [if_neg h]
  simp [show ¬ lo ≤ a from h]

theorem b4 (a b : Int) : spec_paGood.f a b = some (goodB a b) := by
 unfold spec_paGood.f
 rw [bm, Option.bind_some]
 by_cases h : 0 ≤ a ∧ a ≤ 7
 ·rw [decide_eq_true h, if_pos rfl]
  by_cases h0 : b = 0
  ·rw [if_pos h0]
   simp [goodB, h, h0]
  ·rw [if_neg h0]
   by_cases h1 : b = 1
   ·rw [if_pos h1, aK, Option.bind_some]
    simp [goodB, turnB, h, h1]
   ·rw [if_neg h1]
    simp [goodB, h0, h1]
 ·rw [decide_eq_false h, if_neg (by simp)]
  simp [goodB, h]

theorem av (x : S25) : spec_paGood.f x.f0 x.f1 = some (goodC x) := b4 _ _
theorem bd (a : List S25) (hn : a.length ≤ 1048576) : ∀ (d i : Nat), a.length - i = d → i ≤ a.length →
 Ev (fun k => spec_paList.l0 k a a (a.length : Int) (i : Int)) ((a.drop i).all goodC && decide (a.length ≤ 90)) := by
 intro d
 induction d with
 | zero =>
  intro i hd hi
  refine a7 0 fun k _ => ?_
  simp only [spec_paList.l0]
  rw [if_neg (by omega), List.drop_of_length_le (by omega)]
  simp
  omega
 | succ d ih =>
  intro i hd hi
  have hlt : i < a.length := by omega
  have h := ih (i + 1) (by omega) (by omega)
  rw [aF a z25 hlt, List.all_cons]
  by_cases hg : goodC (a.getD i z25) = true
  ·rw [hg, Bool.true_and]
   refine aA 0 h fun k _ => ?_
   simp only [spec_paList.l0, rd_T25, Int.toNat_natCast, av, Option.bind_some]
   rw [if_pos (by omega), if_pos (by omega), if_pos (by omega), if_pos hg, a8 hlt (by omega)]
  ·rw [Bool.eq_false_iff.2 hg, Bool.false_and, Bool.false_and]
   refine a7 0 fun k _ => ?_
   simp only [spec_paList.l0, rd_T25, Int.toNat_natCast, av, Option.bind_some]
   rw [if_pos (by omega), if_pos (by omega), if_pos (by omega), if_neg hg]
theorem aj (a : List S25) (hn : a.length ≤ 1048576) : Ev (fun k => spec_paList.f k a) (a.all goodC && decide (a.length ≤ 90)) :=
 bd a hn a.length 0 (by omega) (by omega)

theorem an (a b : Int) : impl_IsCell.f a b = some (goodB a b) := by
 unfold impl_IsCell.f goodB
 by_cases h0 : a < 0
 ·rw [if_pos h0]; simp; omega
 rw [if_neg h0]
 by_cases h1 : a > 7
 ·rw [if_pos h1]; simp; omega
 rw [if_neg h1]
 by_cases h2 : b < 0
 ·rw [if_pos h2]; simp; omega
 rw [if_neg h2]
 by_cases h3 : b > 1
 ·rw [if_pos h3]; simp; omega
 rw [if_neg h3]
 by_cases h4 : b = 0
 ·rw [if_pos h4]; simp; omega
 rw [if_neg h4]
 by_cases h5 : a = 3
 ·rw [if_pos h5]; simp; omega
 rw [if_neg h5]
 by_cases h6 : a = 6
 ·simp [h6]; omega
 ·simp [h5, h6, h4]

theorem au (x : S25) : impl_IsCell.f x.f0 x.f1 = some (goodC x) := an _ _
theorem b3 (a : List S25) (hn : a.length ≤ 1048576) : ∀ (d i : Nat), a.length - i = d → i ≤ a.length →
 Ev (fun k => impl_validCells.l0 k a (a.length : Int) (i : Int)) ((a.drop i).all goodC) := by
 intro d
 induction d with
 | zero =>
  intro i hd hi
  refine a7 0 fun k _ => ?_
  simp only [impl_validCells.l0]
  rw [if_neg (by omega), List.drop_of_length_le (by omega)]
  simp
 | succ d ih =>
  intro i hd hi
  have hlt : i < a.length := by omega
  have h := ih (i + 1) (by omega) (by omega)
  rw [aF a z25 hlt, List.all_cons]
  by_cases hg : goodC (a.getD i z25) = true
  ·rw [hg, Bool.true_and]
   refine aA 0 h fun k _ => ?_
   simp only [impl_validCells.l0, rd_T25, Int.toNat_natCast, au, Option.bind_some]
   rw [if_pos (by omega), if_pos (by omega), if_pos (by omega), if_pos hg, a8 hlt (by omega)]
  ·rw [Bool.eq_false_iff.2 hg, Bool.false_and]
   refine a7 0 fun k _ => ?_
   simp only [impl_validCells.l0, rd_T25, Int.toNat_natCast, au, Option.bind_some]
   rw [if_pos (by omega), if_pos (by omega), if_pos (by omega), if_neg hg]
theorem aa (a : List S25) (hn : a.length ≤ 1048576) : Ev (fun k => impl_validCells.f k a) (a.all goodC && decide (a.length ≤ 90)) := by
 by_cases h : a.length ≤ 90
 ·rw [decide_eq_true h, Bool.and_true]
  refine aP 0 (b3 a hn a.length 0 (by omega) (by omega)) fun k _ => ?_
  simp only [impl_validCells.f]
  rw [if_neg (by omega)]
  rfl
 ·rw [decide_eq_false h, Bool.and_false]
  refine bV fun k => ?_
  simp only [impl_validCells.f]
  rw [if_pos (by omega)]

theorem bW {s : List Int} (hs : aD s) {a v n : Int} (h0 : 0 ≤ a) (h1 : a ≤ 2305843009213693952) (hn : 1 ≤ n) : ∃ r a' v', spec_l1Cur_one.f s a v n = some (r, a', v') ∧ 0 ≤ a' ∧ a' ≤ a + 2 := by
 obtain ⟨r, a', v', e, _, _, p3, p4⟩ := aH hs (v := v) h0 h1 hn
 unfold spec_l1Cur_one.f
 rw [bindE e]
 exact ⟨_, _, _, rfl, p3, p4⟩
theorem bJ {s : List Int} (hs : aD s) (n : Int) (hn : n ≤ 91) : ∀ (d : Nat) (x : List S25) (a v : Int), (x.length : Int) + d = n ∨ (n ≤ 0 ∧ x = [] ∧ d = 0) → 0 ≤ a → a + 2 * d ≤ 1000000 →
 ∃ l a' v', Ev (fun k => spec_l1Cur_cells.l0 k x n s a v) (l, a', v') ∧ l.length ≤ 91 ∧ 0 ≤ a' ∧ a' ≤ a + 2 * d + 10 := by
 intro d
 induction d with
 | zero =>
  intro x a v hx h0 h1
  have hlen : x.length ≤ 91 := by
   rcases hx with h | ⟨_, rfl, _⟩
   ·omega
   ·simp
  have hge : ¬ ((x.length : Int) < n) := by
   rcases hx with h | ⟨h, rfl, _⟩
   ·omega
   ·simp; omega
  by_cases hn0 : n > 0
  ·obtain ⟨r, a1, v1, e1, p1, p2⟩ := bW hs (v := v) (n := 16) h0 (by omega) (by omega)
   by_cases hr : r = true
   ·obtain ⟨r2, a2, v2, e2, q1, q2, p3, p4⟩ := aH hs (v := v1) (n := n) p1 (by omega) (by omega)
    obtain ⟨c, b, a3, v3, hc, p5, p6⟩ := aw hs (v := v2) p3 (by omega)
    obtain ⟨K, hK⟩ := a0 hc
    refine ⟨x.set r2.toNat ⟨c, b⟩, a3, v3, ⟨K + 2, fun k hk => ?_⟩, by simpa using hlen, p5, by omega⟩
    obtain ⟨k, rfl⟩ : ∃ m, k = m + 1 + 1 := ⟨k - 2, by omega⟩
    simp only [spec_l1Cur_cells.l0]
    rw [if_neg hge, if_pos hn0, bindE e1]
    simp only [spec_l1Cur_cells.j2]
    rw [if_pos hr, bindE e2]
    simp only []
    rw [bindE (hK k (by omega))]
    simp only []
    have hlt : r2 < (x.length : Int) := by rcases hx with h | ⟨h, rfl, _⟩ <;> omega
    rw [if_pos q1, if_pos hlt]
   ·refine ⟨x, a1, v1, ⟨2, fun k hk => ?_⟩, hlen, p1, by omega⟩
    obtain ⟨k, rfl⟩ : ∃ m, k = m + 1 + 1 := ⟨k - 2, by omega⟩
    simp only [spec_l1Cur_cells.l0]
    rw [if_neg hge, if_pos hn0, bindE e1]
    simp only [spec_l1Cur_cells.j2]
    rw [if_neg hr]
  ·refine ⟨x, a, v, ⟨2, fun k hk => ?_⟩, hlen, h0, by omega⟩
   obtain ⟨k, rfl⟩ : ∃ m, k = m + 1 + 1 := ⟨k - 2, by omega⟩
   simp only [spec_l1Cur_cells.l0]
   rw [if_neg hge, if_neg hn0]
   simp only [spec_l1Cur_cells.j2]
   rw [if_neg (by simp)]
 | succ d ih =>
  intro x a v hx h0 h1
  have hlt : (x.length : Int) < n := by rcases hx with h | ⟨_, _, h⟩ <;> omega
  obtain ⟨c, b, a1, v1, hc, _, p1, p2⟩ := bZ hs (v := v) h0 (by omega)
  obtain ⟨K, hK⟩ := a0 hc
  obtain ⟨l, a2, v2, h2, q1, q2, q3⟩ := ih (x ++ [(⟨c, b⟩ : S25)]) a1 v1 (by left; rcases hx with h | ⟨_, _, h⟩ <;> simp <;> omega) p1 (by omega)
  refine ⟨l, a2, v2, ?_, q1, q2, by omega⟩
  refine aA K h2 fun k hk => ?_
  simp only [spec_l1Cur_cells.l0]
  rw [if_pos hlt, bindE (hK k hk)]
  simp only []
  rw [if_pos (by omega)]
theorem bK {s : List Int} (hs : aD s) : ∃ l a' v', Ev (fun k => spec_l1Cur_cells.f k s 0 0) (l, a', v') ∧ l.length ≤ 91 ∧ 0 ≤ a' ∧ a' ≤ 1000 := by
 obtain ⟨r, a, v, e, r0, r9, p1, p2⟩ := aH hs (a := 0) (v := 0) (n := 9) (by omega) (by omega) (by omega)
 obtain ⟨r2, a2, v2, e2, p3, p4⟩ := bW hs (v := v) (n := 20) p1 (by omega) (by omega)
 by_cases hr : r2 = true
 ·obtain ⟨r3, a3, v3, e3, s0, s2, p5, p6⟩ := aH hs (v := v2) (n := 2) p3 (by omega) (by omega)
  have ew : wrap64 (90 + r3) = 90 + r3 := aC (by omega) (by omega)
  obtain ⟨l, a4, v4, h4, q1, q2, q3⟩ := bJ hs (90 + r3) (by omega) (90 + r3).toNat [] a3 v3 (by left; simp; omega) p5 (by omega)
  obtain ⟨K, hK⟩ := a0 h4
  refine ⟨l, a4, v4, ⟨K + 1, fun k hk => ?_⟩, q1, q2, by omega⟩
  obtain ⟨k, rfl⟩ : ∃ m, k = m + 1 := ⟨k - 1, by omega⟩
  simp only [spec_l1Cur_cells.f]
  rw [bindE e]
  simp only []
  rw [bindE e2]
  simp only []
  rw [if_pos hr, bindE e3]
  simp only [spec_l1Cur_cells.j0]
  rw [ew]
  exact hK k (by omega)
 ·obtain ⟨l, a4, v4, h4, q1, q2, q3⟩ := bJ hs r (by omega) r.toNat [] a2 v2 (by left; simp; omega) p3 (by omega)
  obtain ⟨K, hK⟩ := a0 h4
  refine ⟨l, a4, v4, ⟨K + 1, fun k hk => ?_⟩, q1, q2, by omega⟩
  obtain ⟨k, rfl⟩ : ∃ m, k = m + 1 := ⟨k - 1, by omega⟩
  simp only [spec_l1Cur_cells.f]
  rw [bindE e]
  simp only []
  rw [bindE e2]
  simp only []
  rw [if_neg hr]
  simp only [spec_l1Cur_cells.j0]
  exact hK k (by omega)
theorem al {s : List Int} (hs : aD s) : ∃ l, Ev (fun k => spec_DrawCellsText.f k s) l ∧ l.length ≤ 91 := by
 obtain ⟨l, a, v, h, q, _, _⟩ := bK hs
 obtain ⟨K, hK⟩ := a0 h
 refine ⟨l, ⟨K, fun k hk => ?_⟩, q⟩
 simp only [spec_DrawCellsText.f]
 rw [bindE (aW s)]
 simp only []
 rw [bindE (hK k hk)]
theorem aT (t : ByteArray) (i j : Nat) : (t.extract i j).size = min j t.size - i := by simp
theorem bi {s : List Int} (hs : aD s) (w : ByteArray) (hw : 1 ≤ w.size) (hw2 : w.size ≤ 1000) : ∀ (d : Nat) (t : ByteArray) (a v : Int), t.size + d ≤ 1000 → 0 ≤ a → a + 6 * d ≤ 1000000 →
 ∃ t' a' v', Ev (fun k => spec_l1Cur_spoilt.l0 k t w (d : Int) s a v) (t', a', v') := by
 intro d
 induction d with
 | zero =>
  intro t a v ht h0 h1
  refine ⟨t, a, v, 2, fun k hk => ?_⟩
  obtain ⟨k, rfl⟩ : ∃ m, k = m + 1 + 1 := ⟨k - 2, by omega⟩
  simp only [spec_l1Cur_spoilt.l0]
  rw [if_neg (by omega)]
  simp only [spec_l1Cur_spoilt.j1]
  rw [if_neg (by simp)]
 | succ d ih =>
  intro t a v ht h0 h1
  by_cases ht0 : (t.size : Int) > 0
  ·obtain ⟨i, a1, v1, e1, i0, i1, p1, p2⟩ := aH hs (v := v) (n := (t.size : Int)) h0 (by omega) (by omega)
   obtain ⟨j, a2, v2, e2, j0, j1, p3, p4⟩ := aH hs (v := v1) (n := (w.size : Int)) p1 (by omega) (by omega)
   obtain ⟨c, a3, v3, e3, c0, c1, p5, p6⟩ := aH hs (v := v2) (n := 3) p3 (by omega) (by omega)
   have ed : wrap64 (((d + 1 : Nat) : Int) - 1) = (d : Int) := by rw [aC (by omega) (by omega)]; omega
   have ei : wrap64 (i + 1) = i + 1 := aC (by omega) (by omega)
   have hone : (strOfNums [bt w j]).size = 1 := rfl
   have sz1 := aT t 0 i.toNat
   have sz2 := aT t i.toNat t.size
   have sz3 := aT t (i + 1).toNat t.size
   have red : ∀ k, spec_l1Cur_spoilt.l0 (k + 1 + 1) t w ((d + 1 : Nat) : Int) s a v = if c = 0 then spec_l1Cur_spoilt.l0 k (((t.extract 0 i.toNat) ++ (strOfNums [bt w j])) ++ (t.extract i.toNat t.size)) w (d : Int) s a3 v3 else if c = 1 then spec_l1Cur_spoilt.l0 k (((t.extract 0 i.toNat) ++ (strOfNums [bt w j])) ++ (t.extract (i + 1).toNat t.size)) w (d : Int) s a3 v3 else spec_l1Cur_spoilt.l0 k ((t.extract 0 i.toNat) ++ (t.extract (i + 1).toNat t.size)) w (d : Int) s a3 v3 := by
    intro k
    simp only [spec_l1Cur_spoilt.l0]
    rw [if_pos (by omega), decide_eq_true ht0]
    simp only [spec_l1Cur_spoilt.j1]
    rw [if_pos trivial, bindE e1]
    simp only []
    rw [bindE e2]
    simp only []
    rw [if_pos j0, if_pos j1, Option.bind_some, bindE e3]
    simp only []
    by_cases hc0 : c = 0
    ·rw [if_pos hc0, if_pos hc0, if_pos i0, if_pos (by omega), if_pos (by omega), if_pos (by rw [ByteArray.size_append]; omega), ed]
    rw [if_neg hc0, if_neg hc0]
    by_cases hc1 : c = 1
    ·rw [if_pos hc1, if_pos hc1, if_pos i0, if_pos (by omega), if_pos (by omega), ei, if_pos (by omega), if_pos (by omega), if_pos (by rw [ByteArray.size_append]; omega), ed]
    rw [if_neg hc1, if_neg hc1, if_pos i0, if_pos (by omega), ei, if_pos (by omega), if_pos (by omega), if_pos (by omega), ed]
   have go : ∀ T : ByteArray, T.size + d ≤ 1000 → ∃ t' a' v', Ev (fun k => spec_l1Cur_spoilt.l0 k T w (d : Int) s a3 v3) (t', a', v') := fun T hT => ih T a3 v3 hT p5 (by omega)
   have fin : ∀ T : ByteArray, T.size + d ≤ 1000 → (∀ k, spec_l1Cur_spoilt.l0 (k + 1 + 1) t w ((d + 1 : Nat) : Int) s a v = spec_l1Cur_spoilt.l0 k T w (d : Int) s a3 v3) → ∃ t' a' v', Ev (fun k => spec_l1Cur_spoilt.l0 k t w ((d + 1 : Nat) : Int) s a v) (t', a', v') := by
    intro T hT he
    obtain ⟨t', a', v', h⟩ := go T hT
    obtain ⟨K, hK⟩ := a0 h
    refine ⟨t', a', v', K + 2, fun k hk => ?_⟩
    obtain ⟨k, rfl⟩ : ∃ m, k = m + 1 + 1 := ⟨k - 2, by omega⟩
    exact (he k).trans (hK k (by omega))
   by_cases hc0 : c = 0
   ·exact fin (((t.extract 0 i.toNat) ++ (strOfNums [bt w j])) ++ (t.extract i.toNat t.size)) (by rw [ByteArray.size_append, ByteArray.size_append]; omega) fun k => by rw [red k, if_pos hc0]
   by_cases hc1 : c = 1
   ·exact fin (((t.extract 0 i.toNat) ++ (strOfNums [bt w j])) ++ (t.extract (i + 1).toNat t.size)) (by rw [ByteArray.size_append, ByteArray.size_append]; omega) fun k => by rw [red k, if_neg hc0, if_pos hc1]
   ·exact fin ((t.extract 0 i.toNat) ++ (t.extract (i + 1).toNat t.size)) (by rw [ByteArray.size_append]; omega) fun k => by rw [red k, if_neg hc0, if_neg hc1]
  ·refine ⟨t, a, v, 2, fun k hk => ?_⟩
   obtain ⟨k, rfl⟩ : ∃ m, k = m + 1 + 1 := ⟨k - 2, by omega⟩
   simp only [spec_l1Cur_spoilt.l0]
   rw [if_pos (by omega), decide_eq_false ht0]
   simp only [spec_l1Cur_spoilt.j1]
   rw [if_neg (by simp)]
theorem bh {s : List Int} (hs : aD s) (t w : ByteArray) (hw : 1 ≤ w.size) (hw2 : w.size ≤ 1000) (ht : t.size ≤ 900) {a v : Int} (h0 : 0 ≤ a) (h1 : a ≤ 10000) : ∃ t' a' v', Ev (fun k => spec_l1Cur_spoilt.f k s a v t w) (t', a', v') := by
 obtain ⟨r, a1, v1, e, r0, r1, p1, p2⟩ := aH hs (v := v) (n := 2) h0 (by omega) (by omega)
 obtain ⟨t', a', v', h⟩ := bi hs w hw hw2 (1 + r).toNat t a1 v1 (by omega) p1 (by omega)
 rw [show (((1 + r).toNat : Nat) : Int) = 1 + r by omega] at h
 obtain ⟨K, hK⟩ := a0 h
 refine ⟨t', a', v', K, fun k hk => ?_⟩
 simp only [spec_l1Cur_spoilt.f]
 rw [bindE e]
 simp only []
 rw [aC (by omega) (by omega)]
 exact hK k hk
theorem fs_l0 (n : Int) (hn : n ≤ 1000) : ∀ (d : Nat) (t : ByteArray), (t.size : Int) + d = n → ∃ t', Ev (fun k => spec_DrawReadCells.l0 k t n) t' := by
 intro d
 induction d with
 | zero =>
  intro t ht
  refine ⟨t, a7 0 fun k _ => ?_⟩
  simp only [spec_DrawReadCells.l0]
  rw [if_neg (by omega)]
 | succ d ih =>
  intro t ht
  obtain ⟨t', h⟩ := ih (t ++ ⟨#[102]⟩) (by rw [ByteArray.size_append, show (⟨#[102]⟩ : ByteArray).size = 1 from rfl]; omega)
  refine ⟨t', aA 0 h fun k _ => ?_⟩
  simp only [spec_DrawReadCells.l0]
  rw [if_pos (by omega), if_pos (by omega)]
theorem ao {s : List Int} (hs : aD s) : ∃ t, Ev (fun k => spec_DrawReadCells.f k s) t := by
 obtain ⟨l, a, v, h, q, p1, p2⟩ := bK hs
 obtain ⟨K, hK⟩ := a0 h
 obtain ⟨K2, hK2⟩ := a0 (aj l (by omega))
 by_cases hg : (l.all goodC && decide (l.length ≤ 90)) = true
 ·have hg1 := hg
  rw [Bool.and_eq_true, decide_eq_true_eq] at hg1
  obtain ⟨K3, hK3⟩ := a0 (b7 l hg1.1 (by omega))
  have hts : (⟨(a6 l).toArray⟩ : ByteArray).size ≤ 900 := by
   have := aG l
   show (a6 l).toArray.size ≤ 900
   simp
   omega
  generalize (⟨(a6 l).toArray⟩ : ByteArray) = t at hK3 hts
  obtain ⟨r, a1, v1, e1, p3, p4⟩ := bW hs (v := v) (n := 3) p1 (by omega) (by omega)
  by_cases hr : r = true
  ·obtain ⟨t', a', v', h4⟩ := bh hs t ⟨#[46, 108, 102, 70, 120, 113]⟩ (by decide) (by decide) hts (v := v1) p3 (by omega)
   obtain ⟨K4, hK4⟩ := a0 h4
   refine ⟨t', K + K2 + K3 + K4, fun k hk => ?_⟩
   simp only [spec_DrawReadCells.f]
   rw [bindE (aW s)]
   simp only []
   rw [bindE (hK k (by omega))]
   simp only []
   rw [bindE (hK2 k (by omega)), if_pos hg, bindE (hK3 k (by omega)), bindE e1]
   simp only []
   rw [if_pos hr, bindE (hK4 k (by omega))]
  ·refine ⟨t, K + K2 + K3, fun k hk => ?_⟩
   simp only [spec_DrawReadCells.f]
   rw [bindE (aW s)]
   simp only []
   rw [bindE (hK k (by omega))]
   simp only []
   rw [bindE (hK2 k (by omega)), if_pos hg, bindE (hK3 k (by omega)), bindE e1]
   simp only []
   rw [if_neg hr]
 ·obtain ⟨r, a1, v1, e1, r0, r1, _, _⟩ := aH hs (v := v) (n := 2) p1 (by omega) (by omega)
  obtain ⟨t', h4⟩ := fs_l0 (90 + r) (by omega) (90 + r).toNat ⟨#[]⟩ (by show ((0 : Nat) : Int) + _ = _; omega)
  obtain ⟨K4, hK4⟩ := a0 h4
  refine ⟨t', K + K2 + K4, fun k hk => ?_⟩
  simp only [spec_DrawReadCells.f]
  rw [bindE (aW s)]
  simp only []
  rw [bindE (hK k (by omega))]
  simp only []
  rw [bindE (hK2 k (by omega)), if_neg hg, bindE e1]
  simp only []
  rw [aC (by omega) (by omega)]
  exact hK4 k (by omega)

theorem aS (a b : Int) : impl_CellLetter.f a b = some (if goodB a b = true then (a5 a b, true) else (⟨#[]⟩, false)) := by
 unfold impl_CellLetter.f
 rw [an, Option.bind_some]
 by_cases h : goodB a b = true
 ·rw [if_pos h, if_pos h]
  rcases ab h with ⟨rfl, rfl⟩ | ⟨rfl, rfl⟩ | ⟨rfl, rfl⟩ | ⟨rfl, rfl⟩ | ⟨rfl, rfl⟩ | ⟨rfl, rfl⟩ | ⟨rfl, rfl⟩ | ⟨rfl, rfl⟩ | ⟨rfl, rfl⟩ | ⟨rfl, rfl⟩ <;> decide +kernel
 ·rw [if_neg h, if_neg h]

theorem bD (l : List S25) (hl : l.all goodC = true) (hn : l.length ≤ 1048576) : ∀ (d i : Nat) (b : List UInt8), l.length - i = d → i ≤ l.length → b.length ≤ 1048576 + i →
 Ev (fun k => impl_CellsText.l0 k (b.map fun x => (x.toNat : Int)) l (l.length : Int) (i : Int)) (⟨(b ++ a6 (l.drop i)).toArray⟩, true) := by
 intro d
 induction d with
 | zero =>
  intro i b hd hi hb
  refine a7 0 fun k _ => ?_
  simp only [impl_CellsText.l0]
  rw [if_neg (by omega), List.drop_of_length_le (by omega), bT]
  simp [a6]
 | succ d ih =>
  intro i b hd hi hb
  have hlt : i < l.length := by omega
  have hg := aQ hl hlt
  have hp := aS (l.getD i z25).f0 (l.getD i z25).f1
  rw [if_pos (show goodB (l.getD i z25).f0 (l.getD i z25).f1 = true from hg)] at hp
  have hs := aM (l.getD i z25).f0 (l.getD i z25).f1
  rw [aF l z25 hlt, a6, List.flatMap_cons, ← List.append_assoc]
  generalize a5 (l.getD i z25).f0 (l.getD i z25).f1 = q at hp hs ⊢
  refine aA 0 (ih (i + 1) (b ++ q.data.toList) (by omega) (by omega) ?_) fun k _ => ?_
  ·have : q.data.toList.length = 1 := hs
   rw [List.length_append]
   omega
  ·simp only [impl_CellsText.l0, rd_T25, Int.toNat_natCast, hp, Option.bind_some]
   rw [if_pos (by omega), if_pos (by omega), if_pos (by omega), if_pos (by rw [hs, List.length_map]; omega), a8 hlt (by omega), List.map_append]
   rfl
theorem b9 (l : List S25) (hn : l.length ≤ 1048576) : Ev (fun k => impl_CellsText.f k l) (if (l.all goodC && decide (l.length ≤ 90)) = true then (⟨(a6 l).toArray⟩, true) else (⟨#[]⟩, false)) := by
 obtain ⟨K, hK⟩ := a0 (aa l hn)
 by_cases h : (l.all goodC && decide (l.length ≤ 90)) = true
 ·rw [if_pos h]
  refine aP K (bD l (by simp only [Bool.and_eq_true] at h; exact h.1) hn l.length 0 [] (by omega) (by omega) (by simp)) fun k hk => ?_
  simp only [impl_CellsText.f]
  rw [hK k hk, Option.bind_some, if_pos h]
  rfl
 ·rw [if_neg h]
  refine ⟨K, fun k hk => ?_⟩
  simp only [impl_CellsText.f]
  rw [hK k hk, Option.bind_some, if_neg h]

def bumpK (x : List Int) (c : Int) : List Int := x.set c.toNat (wrap64 (rd x c + 1))
def aE (x : List Int) : List S25 → List Int
 | [] => x
 | c :: l => aE (bumpK x c.f0) l
theorem aV (x : List Int) (c : Int) : (bumpK x c).length = x.length := by simp [bumpK]
theorem aZ : ∀ (l : List S25) (x : List Int), (aE x l).length = x.length
 | [], _ => rfl
 | c :: l, x => by rw [aE, aZ l, aV]
theorem b0 (l : List S25) (hl : l.all goodC = true) (hn : l.length ≤ 1048576) : ∀ (d i : Nat) (x : List Int), x.length = 8 → l.length - i = d → i ≤ l.length →
 Ev (fun k => impl_CountKinds.l0 k x l (l.length : Int) (i : Int)) (aE x (l.drop i), true) := by
 intro d
 induction d with
 | zero =>
  intro i x hx hd hi
  refine a7 0 fun k _ => ?_
  simp only [impl_CountKinds.l0]
  rw [if_neg (by omega), List.drop_of_length_le (by omega)]
  rfl
 | succ d ih =>
  intro i x hx hd hi
  have hlt : i < l.length := by omega
  have hg := aQ hl hlt
  simp only [goodC, goodB, decide_eq_true_eq] at hg
  rw [aF l z25 hlt, aE]
  refine aA 0 (ih (i + 1) (bumpK x (l.getD i z25).f0) (by rw [aV, hx]) (by omega) (by omega)) fun k _ => ?_
  simp only [impl_CountKinds.l0]
  rw [bE, if_pos (by omega), if_pos (by omega), if_pos (by omega), if_pos (by omega), if_pos (by omega), a8 hlt (by omega)]
  rfl
def aJ (l : List S25) : List Int × Bool := if (l.all goodC && decide (l.length ≤ 90)) = true then (aE (List.replicate 8 0) l, true) else ([], false)
theorem ar (l : List S25) : (aJ l).1.length ≤ 8 := by
 unfold aJ
 split
 ·simp [aZ]
 ·simp
theorem b1 (l : List S25) (hn : l.length ≤ 1048576) : Ev (fun k => impl_CountKinds.f k l) (aJ l) := by
 obtain ⟨K, hK⟩ := a0 (aa l hn)
 unfold aJ
 by_cases h : (l.all goodC && decide (l.length ≤ 90)) = true
 ·rw [if_pos h]
  refine aP K (b0 l (by simp only [Bool.and_eq_true] at h; exact h.1) hn l.length 0 (List.replicate 8 0) (by simp) (by omega) (by omega)) fun k hk => ?_
  simp only [impl_CountKinds.f]
  rw [hK k hk, Option.bind_some, if_pos h]
  rfl
 ·rw [if_neg h]
  refine ⟨K, fun k hk => ?_⟩
  simp only [impl_CountKinds.f]
  rw [hK k hk, Option.bind_some, if_neg h]

theorem ad (l : List S25) (hl : l.all goodC = true) (hn : l.length ≤ 1048576) : ∀ (d i : Nat) (x : List Int), x.length = 8 → l.length - i = d → i ≤ l.length →
 Ev (fun k => spec_CountKinds.l0 k x l (l.length : Int) (i : Int)) (aE x (l.drop i), true) := by
 intro d
 induction d with
 | zero =>
  intro i x hx hd hi
  refine a7 0 fun k _ => ?_
  simp only [spec_CountKinds.l0]
  rw [if_neg (by omega), List.drop_of_length_le (by omega)]
  rfl
 | succ d ih =>
  intro i x hx hd hi
  have hlt : i < l.length := by omega
  have hg := aQ hl hlt
  simp only [goodC, goodB, decide_eq_true_eq] at hg
  rw [aF l z25 hlt, aE]
  refine aA 0 (ih (i + 1) (bumpK x (l.getD i z25).f0) (by rw [aV, hx]) (by omega) (by omega)) fun k _ => ?_
  simp only [spec_CountKinds.l0]
  rw [bE, if_pos (by omega), if_pos (by omega), if_pos (by omega), if_pos (by omega), if_pos (by omega), a8 hlt (by omega)]
  rfl
theorem ae (l : List S25) (hn : l.length ≤ 1048576) : Ev (fun k => spec_CountKinds.f k l) (aJ l) := by
 obtain ⟨K, hK⟩ := a0 (aj l hn)
 unfold aJ
 by_cases h : (l.all goodC && decide (l.length ≤ 90)) = true
 ·rw [if_pos h]
  refine aP K (ad l (by simp only [Bool.and_eq_true] at h; exact h.1) hn l.length 0 (List.replicate 8 0) (by simp) (by omega) (by omega)) fun k hk => ?_
  simp only [spec_CountKinds.f]
  rw [hK k hk, Option.bind_some, if_pos h]
  rfl
 ·rw [if_neg h]
  refine ⟨K, fun k hk => ?_⟩
  simp only [spec_CountKinds.f]
  rw [hK k hk, Option.bind_some, if_neg h]

def aB (s : ByteArray) : Nat → Nat → List S25 → List S25 × Bool
 | 0, _, acc => (acc, true)
 | d + 1, i, acc => if (aI (s.extract i (i + 1))).2.2 = true then aB s d (i + 1) (acc ++ [(⟨(aI (s.extract i (i + 1))).1, (aI (s.extract i (i + 1))).2.1⟩ : S25)]) else ([], false)
theorem aX (s : ByteArray) : ∀ (d i : Nat) (acc : List S25), (aB s d i acc).1.length ≤ acc.length + d
 | 0, _, _ => by simp [aB]
 | d + 1, i, acc => by
  unfold aB
  split
  ·have h := aX s d (i + 1) (acc ++ [(⟨(aI (s.extract i (i + 1))).1, (aI (s.extract i (i + 1))).2.1⟩ : S25)])
   simp at h
   omega
  ·simp

theorem aN (k : Nat) (s : ByteArray) (a b : Int) (h : b < 2) : impl_ReadCell.l1 (k + 1) s a b = if hitB a b s = true then some (a, b, true) else impl_ReadCell.l1 k s a (wrap64 (b + 1)) := by
 simp only [impl_ReadCell.l1]
 rw [if_pos h, aS, Option.bind_some]
 by_cases hg : goodB a b = true
 ·by_cases hl : (a5 a b).toList = s.toList
  ·simp [hitB, hg, hl]
  ·simp [hitB, hg, hl]
 ·simp [hitB, hg]
theorem bF (s : ByteArray) : ∀ (n : Nat) (a : Int), 0 ≤ a → a + n = 8 → Ev (fun k => impl_ReadCell.l0 k s a) (aO n a s) := by
 intro n
 induction n with
 | zero =>
  intro a h0 h8
  refine a7 0 fun k _ => ?_
  simp only [impl_ReadCell.l0]
  rw [if_neg (by omega)]
  rfl
 | succ n ih =>
  intro a h0 h8
  have e0 : ∀ k, impl_ReadCell.l0 (k + 1) s a = impl_ReadCell.l1 k s a 0 := fun k => by
   simp only [impl_ReadCell.l0]
   rw [if_pos (by omega)]
  by_cases h1 : hitB a 0 s = true
  ·refine a7 1 fun k hk => ?_
   obtain ⟨k, rfl⟩ : ∃ m, k = m + 1 := ⟨k - 1, by omega⟩
   simp only [aO]
   rw [e0, aN _ _ _ _ (by omega), if_pos h1, if_pos h1]
  by_cases h2 : hitB a 1 s = true
  ·refine a7 2 fun k hk => ?_
   obtain ⟨k, rfl⟩ : ∃ m, k = m + 1 + 1 := ⟨k - 2, by omega⟩
   simp only [aO]
   rw [e0, aN _ _ _ _ (by omega), if_neg h1, if_neg h1, show wrap64 (0 + 1) = 1 from bj, aN _ _ _ _ (by omega), if_pos h2, if_pos h2]
  ·have h := ih (a + 1) (by omega) (by omega)
   simp only [aO, if_neg h1, if_neg h2]
   obtain ⟨K, hK⟩ := a0 (h)
   refine ⟨K + 4, fun k hk => ?_⟩
   obtain ⟨k, rfl⟩ : ∃ m, k = m + 1 + 1 + 1 + 1 := ⟨k - 4, by omega⟩
   simp only []
   rw [e0, aN _ _ _ _ (by omega), if_neg h1, show wrap64 (0 + 1) = 1 from bj, aN _ _ _ _ (by omega), if_neg h2, show wrap64 (1 + 1) = 2 from bq]
   simp only [impl_ReadCell.l1]
   rw [if_neg (by omega), aC (by omega) (by omega)]
   exact hK k (by omega)
theorem bR (s : ByteArray) : Ev (fun k => impl_ReadCell.f k s) (aI s) := bF s 8 0 (by omega) (by omega)

theorem bA (s : ByteArray) (hn : s.size ≤ 1048576) : ∀ (d i : Nat) (acc : List S25), s.size - i = d → i ≤ s.size → acc.length ≤ i →
 Ev (fun k => impl_ReadCells.l0 k s acc (i : Int)) (aB s d i acc) := by
 intro d
 induction d with
 | zero =>
  intro i acc hd hi ha
  refine a7 0 fun k _ => ?_
  simp only [impl_ReadCells.l0]
  rw [if_neg (by omega)]
  rfl
 | succ d ih =>
  intro i acc hd hi ha
  have hlt : i < s.size := by omega
  obtain ⟨K, hK⟩ := a0 (bR (s.extract i (i + 1)))
  rw [aB]
  by_cases hr : (aI (s.extract i (i + 1))).2.2 = true
  ·rw [if_pos hr]
   refine aA K (ih (i + 1) (acc ++ [(⟨(aI (s.extract i (i + 1))).1, (aI (s.extract i (i + 1))).2.1⟩ : S25)]) (by omega) (by omega) (by simp; omega)) fun k hk => ?_
   simp only [impl_ReadCells.l0, a8 hlt (show s.size ≤ 4611686018427387904 by omega), Int.toNat_natCast]
   rw [if_pos (by omega), if_pos (by omega), if_pos (by omega), if_pos (by omega), hK k hk, Option.bind_some, if_pos hr, if_pos (by omega)]
  ·rw [if_neg hr]
   refine a7 K fun k hk => ?_
   simp only [impl_ReadCells.l0, a8 hlt (show s.size ≤ 4611686018427387904 by omega), Int.toNat_natCast]
   rw [if_pos (by omega), if_pos (by omega), if_pos (by omega), if_pos (by omega), hK k hk, Option.bind_some, if_neg hr]
theorem ag (s : ByteArray) : Ev (fun k => impl_ReadCells.f k s) (if s.size > 90 then ([], false) else aB s s.size 0 []) := by
 by_cases h : s.size > 90
 ·rw [if_pos h]
  refine bV fun k => ?_
  simp only [impl_ReadCells.f]
  rw [if_pos (by omega)]
 ·rw [if_neg h]
  refine aP 0 (bA s (by omega) s.size 0 [] (by omega) (by omega) (by simp)) fun k _ => ?_
  simp only [impl_ReadCells.f]
  rw [if_neg (by omega)]
  rfl

theorem bY (s : ByteArray) (hn : s.size ≤ 1048576) : ∀ (d i : Nat) (acc : List S25), s.size - i = d → i ≤ s.size → acc.length ≤ i →
 Ev (fun k => spec_paCells.l0 k s acc (i : Int)) (aB s d i acc) := by
 intro d
 induction d with
 | zero =>
  intro i acc hd hi ha
  refine a7 0 fun k _ => ?_
  simp only [spec_paCells.l0]
  rw [if_neg (by omega)]
  rfl
 | succ d ih =>
  intro i acc hd hi ha
  have hlt : i < s.size := by omega
  obtain ⟨K, hK⟩ := a0 (bc (s.extract i (i + 1)))
  rw [aB]
  by_cases hr : (aI (s.extract i (i + 1))).2.2 = true
  ·rw [if_pos hr]
   refine aA K (ih (i + 1) (acc ++ [(⟨(aI (s.extract i (i + 1))).1, (aI (s.extract i (i + 1))).2.1⟩ : S25)]) (by omega) (by omega) (by simp; omega)) fun k hk => ?_
   simp only [spec_paCells.l0, a8 hlt (show s.size ≤ 4611686018427387904 by omega), Int.toNat_natCast]
   rw [if_pos (by omega), if_pos (by omega), if_pos (by omega), if_pos (by omega), hK k hk, Option.bind_some, if_pos hr, if_pos (by omega)]
  ·rw [if_neg hr]
   refine a7 K fun k hk => ?_
   simp only [spec_paCells.l0, a8 hlt (show s.size ≤ 4611686018427387904 by omega), Int.toNat_natCast]
   rw [if_pos (by omega), if_pos (by omega), if_pos (by omega), if_pos (by omega), hK k hk, Option.bind_some, if_neg hr]
theorem bX (s : ByteArray) (hn : s.size ≤ 1048576) : Ev (fun k => spec_paCells.f k s) (aB s s.size 0 []) := by
 refine aP 0 (bY s hn s.size 0 [] (by omega) (by omega) (by simp)) fun k _ => ?_
 simp only [spec_paCells.f]
 rfl
theorem am (s : ByteArray) : Ev (fun k => spec_ReadCells.f k s) (if s.size > 90 then ([], false) else aB s s.size 0 []) := by
 by_cases h : s.size > 90
 ·rw [if_pos h]
  refine bV fun k => ?_
  simp only [spec_ReadCells.f]
  rw [if_pos (by omega)]
 ·rw [if_neg h]
  obtain ⟨K, hK⟩ := a0 (bX s (by omega))
  refine ⟨K, fun k hk => ?_⟩
  simp only [spec_ReadCells.f]
  rw [if_neg (by omega), hK k hk, Option.bind_some]

theorem bC (a b : Int) : impl_IsTurning.f a b = some (goodB a b && turnB a) := by
 unfold impl_IsTurning.f
 rw [an, Option.bind_some]
 by_cases h : goodB a b = true
 ·rw [h, if_pos rfl, Bool.true_and, ← aK a b]
  rfl
 ·rw [if_neg h, Bool.eq_false_iff.2 h, Bool.false_and]

theorem bp (a b : List Int) : ∃ t, laws_big.f a b = some t := by
 unfold laws_big.f
 split
 ·exact ⟨_, rfl⟩
 ·exact ⟨_, rfl⟩
theorem bO {a b : Int} (h : goodB a b = true) : aI (a5 a b) = (a, b, true) := by
 rcases ab h with ⟨rfl, rfl⟩ | ⟨rfl, rfl⟩ | ⟨rfl, rfl⟩ | ⟨rfl, rfl⟩ | ⟨rfl, rfl⟩ | ⟨rfl, rfl⟩ | ⟨rfl, rfl⟩ | ⟨rfl, rfl⟩ | ⟨rfl, rfl⟩ | ⟨rfl, rfl⟩ <;> decide +kernel

theorem ak (l : List S25) (hn : l.length ≤ 1048576) : Ev (fun k => spec_CellsText.f k l) (if (l.all goodC && decide (l.length ≤ 90)) = true then (⟨(a6 l).toArray⟩, true) else (⟨#[]⟩, false)) := by
 obtain ⟨K, hK⟩ := a0 (aj l hn)
 by_cases h : (l.all goodC && decide (l.length ≤ 90)) = true
 ·rw [if_pos h]
  obtain ⟨K2, hK2⟩ := a0 (b7 l (by simp only [Bool.and_eq_true] at h; exact h.1) hn)
  refine ⟨K + K2, fun k hk => ?_⟩
  simp only [spec_CellsText.f]
  rw [hK k (by omega), Option.bind_some, if_pos h, hK2 k (by omega), Option.bind_some]
 ·rw [if_neg h]
  refine ⟨K, fun k hk => ?_⟩
  simp only [spec_CellsText.f]
  rw [hK k hk, Option.bind_some, if_neg h]
theorem bL (x : List Int) (hn : x.length ≤ 1048576) : Ev (fun k => laws_sameInts.f k x x) true := by
 have h : ∀ (d i : Nat), x.length - i = d → i ≤ x.length → Ev (fun k => laws_sameInts.l0 k x x (x.length : Int) (i : Int)) true := by
  intro d
  induction d with
  | zero =>
   intro i hd hi
   refine a7 0 fun k _ => ?_
   simp only [laws_sameInts.l0]
   rw [if_neg (by omega)]
  | succ d ih =>
   intro i hd hi
   refine aA 0 (ih (i + 1) (by omega) (by omega)) fun k _ => ?_
   simp only [laws_sameInts.l0]
   rw [if_pos (by omega), if_pos (by omega), if_pos (by omega), if_pos (by omega), if_pos trivial, a8 (show i < x.length by omega) (by omega)]
 refine aP 0 (h x.length 0 (by omega) (by omega)) fun k _ => ?_
 simp only [laws_sameInts.f, if_true]
 rfl
theorem aY (x : List S25) (hn : x.length ≤ 1048576) : Ev (fun k => laws_pSameCells.f k x x) true := by
 have h : ∀ (d i : Nat), x.length - i = d → i ≤ x.length → Ev (fun k => laws_pSameCells.l0 k x x (x.length : Int) (i : Int)) true := by
  intro d
  induction d with
  | zero =>
   intro i hd hi
   refine a7 0 fun k _ => ?_
   simp only [laws_pSameCells.l0]
   rw [if_neg (by omega)]
  | succ d ih =>
   intro i hd hi
   refine aA 0 (ih (i + 1) (by omega) (by omega)) fun k _ => ?_
   simp only [laws_pSameCells.l0]
   rw [if_pos (by omega), if_pos (by omega), if_pos (by omega), if_pos (by omega), if_neg (by simp), a8 (show i < x.length by omega) (by omega)]
 refine aP 0 (h x.length 0 (by omega) (by omega)) fun k _ => ?_
 simp only [laws_pSameCells.f, if_true]
 rfl
def sumL (x : List Int) : Int := x.foldr (· + ·) 0
theorem aL (a : Int) (x : List Int) : sumL (a :: x) = a + sumL x := rfl
theorem bP : ∀ (x : List Int) (i : Nat) (v : Int), i < x.length → sumL (x.set i v) = sumL x - x.getD i 0 + v
 | [], i, v, h => by simp at h
 | a :: x, 0, v, _ => by rw [List.set_cons_zero, aL, aL, List.getD_cons_zero]; omega
 | a :: x, i + 1, v, h => by
  rw [List.set_cons_succ, aL, aL, List.getD_cons_succ, bP x i v (by simpa using h)]
  omega
theorem aq : ∀ (x : List Int) (i : Nat), (∀ a ∈ x, 0 ≤ a) → x.getD i 0 ≤ sumL x ∧ 0 ≤ sumL x
 | [], i, _ => by simp [sumL]
 | a :: x, 0, h => by
  have h2 := (aq x 0 (fun b hb => h b (List.mem_cons_of_mem _ hb))).2
  rw [aL, List.getD_cons_zero]
  have := h a List.mem_cons_self
  omega
 | a :: x, i + 1, h => by
  have h2 := aq x i (fun b hb => h b (List.mem_cons_of_mem _ hb))
  rw [aL, List.getD_cons_succ]
  have := h a List.mem_cons_self
  omega
structure Cnt (x : List Int) (m : Nat) : Prop where
 len : x.length = 8
 pos : ∀ a ∈ x, 0 ≤ a
 sum : sumL x = m
theorem Cnt.get {x : List Int} {m : Nat} (h : Cnt x m) (i : Nat) : 0 ≤ x.getD i 0 ∧ x.getD i 0 ≤ m := by
 constructor
 ·by_cases hi : i < x.length
  ·rw [List.getD_eq_getElem?_getD, List.getElem?_eq_getElem hi]
   exact h.pos _ (List.getElem_mem hi)
  ·rw [List.getD_eq_getElem?_getD, List.getElem?_eq_none (by omega)]
   exact Int.le_refl _
 ·rw [← h.sum]
  exact (aq x i h.pos).1
theorem Cnt.bump {x : List Int} {m : Nat} (h : Cnt x m) (hm : m ≤ 1000) {c : Int} (h0 : 0 ≤ c) (h7 : c ≤ 7) : Cnt (bumpK x c) (m + 1) ∧ (∀ j, x.getD j 0 ≤ (bumpK x c).getD j 0) ∧ 1 ≤ (bumpK x c).getD c.toNat 0 := by
 have hg := h.get c.toNat
 have hlt : c.toNat < x.length := by rw [h.len]; omega
 have hr : rd x c = x.getD c.toNat 0 := rfl
 have hw : wrap64 (rd x c + 1) = x.getD c.toNat 0 + 1 := by rw [hr]; exact aC (by omega) (by omega)
 have he : bumpK x c = x.set c.toNat (x.getD c.toNat 0 + 1) := by rw [bumpK, hw]
 rw [he]
 refine ⟨⟨by rw [List.length_set]; exact h.len, fun a ha => ?_, ?_⟩, fun j => ?_, ?_⟩
 ·rcases List.mem_or_eq_of_mem_set ha with h2 | h2
  ·exact h.pos a h2
  ·rw [h2]; omega
 ·rw [bP x _ _ hlt, h.sum]; omega
 ·by_cases hj : j = c.toNat
  ·subst hj
   rw [List.getD_eq_getElem?_getD (l := x.set _ _), List.getElem?_set_self hlt]
   show _ ≤ x.getD c.toNat 0 + 1
   omega
  ·rw [List.getD_eq_getElem?_getD (l := x.set _ _), List.getElem?_set_ne (Ne.symm hj), ← List.getD_eq_getElem?_getD]
   exact Int.le_refl _
 ·rw [List.getD_eq_getElem?_getD, List.getElem?_set_self hlt]
  show 1 ≤ x.getD c.toNat 0 + 1
  omega
theorem ac : ∀ (l : List S25) (x : List Int) (m : Nat), Cnt x m → m + l.length ≤ 1000 → l.all goodC = true → Cnt (aE x l) (m + l.length) ∧ (∀ j, x.getD j 0 ≤ (aE x l).getD j 0) ∧ ∀ c ∈ l, 1 ≤ (aE x l).getD c.f0.toNat 0
 | [], x, m, h, _, _ => ⟨h, fun _ => Int.le_refl _, fun c hc => by cases hc⟩
 | c :: l, x, m, h, hm, hg => by
  simp only [List.all_cons, Bool.and_eq_true] at hg
  simp only [List.length_cons] at hm
  have hc := hg.1
  simp only [goodC, goodB, decide_eq_true_eq] at hc
  obtain ⟨h1, h2, h3⟩ := h.bump (by omega) hc.1.1 hc.1.2
  obtain ⟨g1, g2, g3⟩ := ac l (bumpK x c.f0) (m + 1) h1 (by omega) hg.2
  rw [aE]
  refine ⟨by rw [List.length_cons, show m + (l.length + 1) = m + 1 + l.length by omega]; exact g1, fun j => Int.le_trans (h2 j) (g2 j), fun e he => ?_⟩
  rcases List.mem_cons.1 he with rfl | he
  ·exact Int.le_trans h3 (g2 _)
  ·exact g3 e he
theorem b5 : Cnt (List.replicate 8 0) 0 := ⟨rfl, fun a ha => by rw [List.eq_of_mem_replicate ha]; exact Int.le_refl _, rfl⟩
theorem bo (x : List Int) (m : Nat) (hx : Cnt x m) (hm : m ≤ 1000) : Ev (fun k => laws_pSum.f k x) (m : Int) := by
 have h : ∀ (d i : Nat) (a : Int), x.length - i = d → i ≤ x.length → 0 ≤ a → a + sumL (x.drop i) = m → Ev (fun k => laws_pSum.l0 k a x (x.length : Int) (i : Int)) (m : Int) := by
  intro d
  induction d with
  | zero =>
   intro i a hd hi h0 hs
   refine a7 0 fun k _ => ?_
   simp only [laws_pSum.l0]
   rw [if_neg (by omega)]
   rw [List.drop_of_length_le (by omega)] at hs
   simp only [sumL, List.foldr_nil] at hs
   congr 1
   omega
  | succ d ih =>
   intro i a hd hi h0 hs
   have hg := hx.get i
   have hp : 0 ≤ sumL (x.drop (i + 1)) := (aq _ 0 (fun b hb => hx.pos b (List.mem_of_mem_drop hb))).2
   rw [aF x 0 (show i < x.length by omega), aL] at hs
   have hr : rd x (i : Int) = x.getD i 0 := by rw [rd, Int.toNat_natCast]
   refine aA 0 (ih (i + 1) (a + x.getD i 0) (by omega) (by omega) (by omega) (by omega)) fun k _ => ?_
   simp only [laws_pSum.l0]
   rw [if_pos (by omega), if_pos (by omega), if_pos (by omega), a8 (show i < x.length by omega) (by rw [hx.len]; omega), hr, aC (by omega) (by omega)]
 have := h x.length 0 0 (by omega) (by omega) (by omega) (by rw [List.drop_zero, hx.sum]; omega)
 exact this
def ba (x : S25) : UInt8 := (a5 x.f0 x.f1).data.toList.getD 0 0
theorem az (a b : Int) : (a5 a b).data.toList = [(a5 a b).data.toList.getD 0 0] := by
 have h : (a5 a b).data.toList.length = 1 := aM a b
 generalize (a5 a b).data.toList = l at h
 match l, h with
 | [u], _ => rfl
theorem bU (l : List S25) : a6 l = l.map ba := by
 induction l with
 | nil => rfl
 | cons x l ih =>
  rw [List.map_cons, ← ih]
  show (a5 x.f0 x.f1).data.toList ++ a6 l = _
  rw [az]
  rfl
theorem af (l : List S25) {i : Nat} (h : i < l.length) : (⟨(a6 l).toArray⟩ : ByteArray).extract i (i + 1) = a5 (l.getD i z25).f0 (l.getD i z25).f1 := by
 apply ByteArray.ext
 rw [ByteArray.data_extract]
 apply Array.ext'
 rw [az, bU, List.getD_eq_getElem?_getD (l := l), List.getElem?_eq_getElem h]
 simp only [Array.toList_extract, List.extract_eq_take_drop]
 rw [List.drop_eq_getElem_cons (by simpa using h)]
 simp [ba]
theorem b8 (l : List S25) (hl : l.all goodC = true) : ∀ (d i : Nat) (acc : List S25), i + d = l.length → aB ⟨(a6 l).toArray⟩ d i acc = (acc ++ l.drop i, true) := by
 intro d
 induction d with
 | zero =>
  intro i acc h
  rw [aB, List.drop_of_length_le (by omega), List.append_nil]
 | succ d ih =>
  intro i acc h
  have hlt : i < l.length := by omega
  have hg := aQ hl hlt
  rw [aB, af l hlt, bO hg, if_pos rfl, ih (i + 1) _ (by omega), aF l z25 hlt, List.append_assoc]
  rfl
theorem ay (l : List S25) (hl : l.all goodC = true) (hn : l.length ≤ 90) : Ev (fun k => impl_ReadCells.f k ⟨(a6 l).toArray⟩) (l, true) := by
 have h := ag ⟨(a6 l).toArray⟩
 have hs : (⟨(a6 l).toArray⟩ : ByteArray).size = l.length := by show (a6 l).toArray.size = l.length; rw [List.size_toArray, aG]
 rw [hs, if_neg (by omega), b8 l hl l.length 0 [] (by omega)] at h
 exact h

theorem ah {s : List Int} (hs : aD s) : ∃ x y, Ev (fun k => spec_DrawIsTurning.f k s) (x, y) := by
 obtain ⟨x, y, hc⟩ := b2 hs
 obtain ⟨K, hK⟩ := a0 hc
 refine ⟨x, y, K, fun k hk => ?_⟩
 simp only [spec_DrawIsTurning.f]
 rw [bindE (hK k hk)]
theorem ax (a b : Int) : spec_IsTurning.f a b = some (goodB a b && turnB a) := by
 unfold spec_IsTurning.f
 rw [bindE (b4 a b), aK]
 cases goodB a b <;> cases turnB a <;> simp
theorem bH (t : ByteArray) (h : ¬ t.size > 90) : (aB t t.size 0 ([] : List S25)).1.length ≤ 90 := by
 have := aX t t.size 0 []
 simp at this
 omega
theorem bI {s : List Int} (hs : aD s) : Ev (fun k => laws_FnCellLists.j3 k s) true := by
 obtain ⟨t, ht⟩ := ao hs
 obtain ⟨K, hK⟩ := a0 ht
 obtain ⟨K1, h1⟩ := a0 (ag t)
 obtain ⟨K2, h2⟩ := a0 (am t)
 obtain ⟨x, y, hd⟩ := ah hs
 obtain ⟨K3, h3⟩ := a0 hd
 have hr : (if t.size > 90 then (([] : List S25), false) else aB t t.size 0 []).1.length ≤ 90 := by
  split
  ·simp
  ·rename_i h
   exact bH t h
 revert h1 h2
 generalize (if t.size > 90 then (([] : List S25), false) else aB t t.size 0 []) = r at hr
 intro h1 h2
 obtain ⟨K4, h4⟩ := a0 (aY r.1 (by omega))
 refine ⟨K + K1 + K2 + K3 + K4 + 1, fun k hk => ?_⟩
 obtain ⟨k, rfl⟩ : ∃ m, k = m + 1 := ⟨k - 1, by omega⟩
 simp only [laws_FnCellLists.j3]
 rw [bindE (hK k (by omega)), bindE (h1 k (by omega)), bindE (h2 k (by omega)), bindE (h3 k (by omega)), if_pos (by simp), bindE (h4 k (by omega)), if_pos rfl, bindE (bC x y), bindE (ax x y)]
 simp
theorem bl {s : List Int} (hs : aD s) (l : List S25) (hl : l.all goodC = true) (hn : l.length ≤ 90) : ∀ (d i : Nat), l.length - i = d → i ≤ l.length →
 Ev (fun k => laws_FnCellLists.l0 k s ⟨(a6 l).toArray⟩ (aE (List.replicate 8 0) l) l (l.length : Int) (i : Int)) true := by
 have hsz : (⟨(a6 l).toArray⟩ : ByteArray).size = l.length := by show (a6 l).toArray.size = l.length; rw [List.size_toArray, aG]
 obtain ⟨hc, _, hc1⟩ := ac l (List.replicate 8 0) 0 b5 (by omega) hl
 intro d
 induction d with
 | zero =>
  intro i hd hi
  refine aA 0 (bI hs) fun k _ => ?_
  simp only [laws_FnCellLists.l0]
  rw [if_neg (by omega)]
 | succ d ih =>
  intro i hd hi
  have hlt : i < l.length := by omega
  have hg := aQ hl hlt
  have hm : l.getD i z25 ∈ l := by
   rw [List.getD_eq_getElem?_getD, List.getElem?_eq_getElem hlt]
   exact List.getElem_mem hlt
  have h1 := hc1 _ hm
  have hL := aS (l.getD i z25).f0 (l.getD i z25).f1
  rw [if_pos (show goodB (l.getD i z25).f0 (l.getD i z25).f1 = true from hg)] at hL
  have hE := af l hlt
  have hg2 := hg
  simp only [goodC, goodB, decide_eq_true_eq] at hg2
  have hrd : rd (aE (List.replicate 8 0) l) (l.getD i z25).f0 = (aE (List.replicate 8 0) l).getD (l.getD i z25).f0.toNat 0 := rfl
  have hcl := hc.len
  refine aA 0 (ih (i + 1) (by omega) (by omega)) fun k _ => ?_
  simp only [laws_FnCellLists.l0]
  rw [if_pos (by omega), if_pos (by omega), if_pos (by omega)]
  simp only [bE]
  rw [bindE hL]
  simp only [if_true]
  rw [a8 hlt (by omega), if_pos (by omega), if_pos (by omega), Int.toNat_natCast, Int.toNat_natCast, hE, if_pos rfl, if_pos hg2.1.1, if_pos (by omega), if_neg (by rw [hrd]; omega)]
theorem FnCellLists : laws_FnCellLists.Pure := by
 intro l0 l1 _ hb0 hw0 _ _ hw1
 have s0 := bQ hw0
 have s1 := bQ hw1
 obtain ⟨t, ht⟩ := bp l0 l1
 obtain ⟨l, hd, hl91⟩ := al s0
 obtain ⟨K, hK⟩ := a0 hd
 obtain ⟨K1, h1⟩ := a0 (b9 l (by omega))
 obtain ⟨K2, h2⟩ := a0 (ak l (by omega))
 obtain ⟨K3, h3⟩ := a0 (b1 l (by omega))
 obtain ⟨K4, h4⟩ := a0 (ae l (by omega))
 have hcl := ar l
 obtain ⟨K5, h5⟩ := a0 (bL (aJ l).1 (by omega))
 obtain ⟨K6, h6⟩ := a0 (bI s1)
 by_cases hg : (l.all goodC && decide (l.length ≤ 90)) = true
 ·have hg1 := hg
  rw [Bool.and_eq_true, decide_eq_true_eq] at hg1
  have ec : aJ l = (aE (List.replicate 8 0) l, true) := by rw [aJ, if_pos hg]
  obtain ⟨hc, _, _⟩ := ac l (List.replicate 8 0) 0 b5 (by omega) hg1.1
  obtain ⟨K7, h7⟩ := a0 (ay l hg1.1 hg1.2)
  obtain ⟨K8, h8⟩ := a0 (aY l (by omega))
  obtain ⟨K9, h9⟩ := a0 (bo _ _ hc (by omega))
  obtain ⟨K10, h10⟩ := a0 (bl s1 l hg1.1 hg1.2 l.length 0 (by omega) (by omega))
  have hsz : (⟨(a6 l).toArray⟩ : ByteArray).size = l.length := by show (a6 l).toArray.size = l.length; rw [List.size_toArray, aG]
  have hlen := hc.len
  rw [if_pos hg] at h1 h2
  rw [ec] at h3 h4 h5
  generalize aE (List.replicate 8 0) l = c at h3 h4 h5 h9 h10 hlen
  generalize (⟨(a6 l).toArray⟩ : ByteArray) = tx at h1 h2 h7 h10 hsz
  refine ⟨K + K1 + K2 + K3 + K4 + K5 + K7 + K8 + K9 + K10 + 1 + 1 + 1, ?_⟩
  unfold laws_FnCellLists.f
  rw [bindE ht]
  by_cases hq : t = true
  ·rw [if_pos hq]
  rw [if_neg hq, bindE (hK _ (by omega)), bindE (h1 _ (by omega)), bindE (h2 _ (by omega)), bindE (h3 _ (by omega)), bindE (h4 _ (by omega))]
  simp only [bne_self_eq_false, if_neg Bool.false_ne_true, if_true]
  rw [bindE (h5 _ (by omega)), if_pos rfl]
  simp only [laws_FnCellLists.j0]
  rw [if_neg (by simp), if_pos trivial, bindE (h7 _ (by omega))]
  simp only [if_true]
  rw [bindE (h8 _ (by omega)), if_pos rfl, if_pos (by omega), if_pos (by omega), bindE (h9 _ (by omega))]
  simp only [laws_FnCellLists.j1]
  rw [if_neg (by simp)]
  exact h10 _ (by omega)
 ·have ec : aJ l = ([], false) := by rw [aJ, if_neg hg]
  rw [if_neg hg] at h1 h2
  rw [ec] at h3 h4 h5
  refine ⟨K + K1 + K2 + K3 + K4 + K5 + K6 + 1 + 1 + 1, ?_⟩
  unfold laws_FnCellLists.f
  rw [bindE ht]
  by_cases hq : t = true
  ·rw [if_pos hq]
  rw [if_neg hq, bindE (hK _ (by omega)), bindE (h1 _ (by omega)), bindE (h2 _ (by omega)), bindE (h3 _ (by omega)), bindE (h4 _ (by omega))]
  simp only [bne_self_eq_false, if_neg Bool.false_ne_true, if_true]
  rw [bindE (h5 _ (by omega)), if_pos rfl]
  simp only [laws_FnCellLists.j0]
  rw [if_neg (by simp), if_neg (by simp)]
  exact h6 _ (by omega)

end Go.Proofs.Ytklmdnlambinaaa.Pure
