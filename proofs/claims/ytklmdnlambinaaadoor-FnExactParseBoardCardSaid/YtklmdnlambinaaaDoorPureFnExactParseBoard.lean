/- For all arguments the program's ParseBoard answers as the reference's does (the plain law, over the printed functions). Conditions: none. -/
import Derived.Test.YtklmdnlambinaaaDoorG5
set_option linter.unusedVariables false
set_option linter.unusedSimpArgs false
namespace Go.Proofs.YtklmdnlambinaaaDoor.Pure
open Go.RowKit Go.Proofs.YtklmdnlambinaaaDoor.PAll Go.Proofs.YtklmdnlambinaaaDoorW.PrintWords Go.Proofs.YtklmdnlambinaaaDoorW.PrintLast Go.Proofs.YtklmdnlambinaaaDoorW.PrintMore

theorem a4 {x : Int} (h0 : -9223372036854775808 ≤ x) (h1 : x < 9223372036854775808) : wrap64 x = x := by unfold wrap64; omega
theorem a2 {i n : Nat} (h : i < n) (hn : n ≤ 4611686018427387904) : wrap64 ((i : Int) + 1) = ((i + 1 : Nat) : Int) := by unfold wrap64; omega
theorem c9 : wrap64 (-1) = -1 := by decide +kernel
theorem cD : wrap64 0 = 0 := by decide +kernel
theorem bm : wrap64 1 = 1 := by decide +kernel
theorem bv : wrap64 2 = 2 := by decide +kernel
structure Hid (p : Prop) : Prop where
 out : p
theorem a1 {α : Type} {g : Nat → Option α} {r : α} (K : Nat) (h : ∀ k, K ≤ k → g (k + 1) = some r) : Ev g r := by
 refine ⟨K + 1, fun k hk => ?_⟩
 obtain ⟨m, rfl⟩ : ∃ m, k = m + 1 := ⟨k - 1, by omega⟩
 exact h m (by omega)
theorem aB {α : Type} {g f : Nat → Option α} {r : α} (K : Nat) (hf : Ev f r) (h : ∀ k, K ≤ k → g (k + 1) = f k) : Ev g r := by
 obtain ⟨K', hf⟩ := hf
 refine ⟨K + K' + 1, fun k hk => ?_⟩
 obtain ⟨m, rfl⟩ : ∃ m, k = m + 1 := ⟨k - 1, by omega⟩
 rw [h m (by omega)]
 exact hf m (by omega)
theorem a5 {α : Type} {g : Nat → Option α} {r : α} (h : Ev g r) : ∃ K, ∀ k, K ≤ k → g k = some r := h
theorem bw {α : Type} {g : Nat → Option α} {r : α} (h : ∀ k, g k = some r) : Ev g r := ⟨0, fun k _ => h k⟩
theorem aU {α : Type} {g f : Nat → Option α} {r : α} (K : Nat) (hf : Ev f r) (h : ∀ k, K ≤ k → g k = f k) : Ev g r := by
 obtain ⟨K', hf⟩ := hf
 exact ⟨K + K', fun k hk => (h k (by omega)).trans (hf k (by omega))⟩
theorem bindE {α β : Type} {o : Option α} {v : α} {f : α → Option β} (h : o = some v) : o.bind f = f v := by rw [h]; rfl
theorem bG {β : Type} (x : Bool) (a b : β) : (if (x != x) = true then a else b) = b := by simp
theorem c3 {β : Type} (x : Int) (a b : β) : (if (x != x) = true then a else b) = b := by simp
theorem aC {β : Type} (a b : β) : (if true = true then a else b) = a := rfl
theorem aD {α : Type} (l : List α) (z : α) {i : Nat} (h : i < l.length) : l.drop i = l.getD i z :: l.drop (i + 1) := by
 rw [List.drop_eq_getElem_cons h, List.getD_eq_getElem?_getD, List.getElem?_eq_getElem h]; rfl
theorem br {α : Type} (l : List α) (v : α) {i : Nat} (h : i < l.length) : (l.set i v).take (i + 1) = l.take i ++ [v] := by
 rw [List.take_succ_eq_append_getElem (by simpa using h)]
 simp [List.take_set_of_le]
theorem cB {α : Type} (l : List α) (i : Nat) (z : α) : l.getD ((i : Int).toNat) z = l.getD i z := by rw [Int.toNat_natCast]

def cutA : List UInt8 → List UInt8 → List (List UInt8)
 | cur, [] => [cur]
 | cur, b :: l => if b = 10 then cur :: cutA [] l else cutA (cur ++ [b]) l
theorem aq : ∀ (l cur : List UInt8), (∀ x, x ∈ l → x ≠ 10) → cutA cur l = [cur ++ l]
 | [], cur, _ => by simp [cutA]
 | b :: l, cur, h => by
  rw [cutA, if_neg (h b List.mem_cons_self), aq l _ (fun x hx => h x (List.mem_cons_of_mem _ hx))]
  simp
theorem bX : ∀ (p cur q : List UInt8), (∀ x, x ∈ p → x ≠ 10) → cutA cur (p ++ 10 :: q) = (cur ++ p) :: cutA [] q
 | [], cur, q, _ => by simp [cutA]
 | b :: p, cur, q, h => by
  rw [List.cons_append, cutA, if_neg (h b List.mem_cons_self), bX p _ q (fun x hx => h x (List.mem_cons_of_mem _ hx))]
  simp
theorem bS : ∀ (n : Nat) (l : List UInt8), l.length ≤ n → Lib.splitK [10] 0 (Lib.count l [10]) l = cutA [] l := by
 intro n
 induction n with
 | zero =>
  intro l hn
  have : l = [] := List.length_eq_zero_iff.1 (by omega)
  subst this
  rfl
 | succ n ih =>
  intro l hn
  by_cases hm : Lib.index l [10] = -1
  ·rw [Lib.count_miss hm, Lib.splitK, aq l [] ?_]
   ·simp
   ·intro x hx e
    subst e
    rw [Lib.index_one] at hm
    obtain ⟨k, hk⟩ := List.getElem?_of_mem hx
    exact Lib.indexByte_none hm k hk
  ·have hge := Lib.index_ge l [10]
   obtain ⟨i, hi⟩ : ∃ i : Nat, Lib.index l [10] = i := ⟨(Lib.index l [10]).toNat, by omega⟩
   obtain ⟨hs1, hs2⟩ := Lib.indexByte_some (by rw [← Lib.index_one]; exact hi)
   obtain ⟨hlt, hgi⟩ := List.getElem?_eq_some_iff.1 hs1
   have hne : ¬ (Lib.index l [10] == -1) = true := fun e => hm (beq_iff_eq.1 e)
   have e : l.take i ++ 10 :: l.drop (i + 1) = l := by
    rw [← hgi, List.getElem_cons_drop hlt, List.take_append_drop]
   rw [Lib.count_hit (by simp) hi, Nat.add_comm, Lib.splitK, if_neg hne, hi, Int.toNat_natCast, Nat.add_zero, show ([10] : List UInt8).length = 1 from rfl]
   rw [ih (l.drop (i + 1)) (by rw [List.length_drop]; omega)]
   conv => rhs; rw [← e]
   rw [bX _ _ _ ?_]
   ·simp
   ·intro x hx e2
    subst e2
    obtain ⟨k, hk⟩ := List.getElem?_of_mem hx
    rw [List.getElem?_take] at hk
    split at hk
    ·rename_i hki
     exact hs2 k hki hk
    ·exact absurd hk (by simp)
def mkS (l : List UInt8) : ByteArray := ⟨l.toArray⟩
theorem aT (l : List UInt8) : (mkS l).data.toList = l := by simp [mkS]
theorem bo (l : List UInt8) : (mkS l).size = l.length := by rw [Lib.size_eq, aT]
theorem bp (s : ByteArray) : mkS s.data.toList = s := by apply ByteArray.ext; simp [mkS]
theorem bx (l : List UInt8) (s : ByteArray) (h : s.data.toList = l) : s = mkS l := by rw [← h, bp]
def a0 (l : List UInt8) : List ByteArray := (cutA [] l).map mkS
theorem bQ (s : ByteArray) : Lib.splitB (⟨#[10]⟩ : ByteArray) 0 (Lib.countB s (⟨#[10]⟩ : ByteArray)) s = a0 s.data.toList := by
 have h := Lib.splitB_data (⟨#[10]⟩ : ByteArray) 0 (Lib.countB s (⟨#[10]⟩ : ByteArray)) s
 rw [show (⟨#[10]⟩ : ByteArray).data.toList = [10] from rfl, bS _ s.data.toList (Nat.le_refl _)] at h
 rw [a0, ← h, List.map_map]
 conv => lhs; rw [← List.map_id (Lib.splitB _ _ _ _)]
 exact List.map_congr_left fun x _ => (bp x).symm
theorem aa : ∀ (l cur : List UInt8), cutA cur (l ++ [10]) = cutA cur l ++ [[]]
 | [], cur => by simp [cutA]
 | b :: l, cur => by
  rw [List.cons_append, cutA, cutA]
  split
  ·rw [aa l, List.cons_append]
  ·exact aa l _
theorem bD : ∀ (l cur : List UInt8), 1 ≤ (cutA cur l).length
 | [], cur => by simp [cutA]
 | b :: l, cur => by
  rw [cutA]
  split
  ·simp
  ·exact bD l _
theorem b6 : ∀ (l cur : List UInt8), (cutA cur l).length ≤ l.length + 1
 | [], cur => by simp [cutA]
 | b :: l, cur => by
  rw [cutA]
  split
  ·have := b6 l []; simp; omega
  ·have := b6 l (cur ++ [b]); simp; omega
theorem ai : ∀ (l cur p : List UInt8), p ∈ cutA cur l → p.length ≤ cur.length + l.length
 | [], cur, p, h => by
  simp only [cutA, List.mem_singleton] at h
  subst h
  simp
 | b :: l, cur, p, h => by
  rw [cutA] at h
  split at h
  ·rcases List.mem_cons.1 h with rfl | h
   ·simp
   ·have := ai l [] p h; simp at this ⊢; omega
  ·have := ai l _ p h; simp at this ⊢; omega
def joinN (ps : List (List UInt8)) : List UInt8 := ps.flatMap (· ++ [10])
theorem ac : ∀ (l cur : List UInt8), joinN (cutA cur l) = cur ++ l ++ [10]
 | [], cur => by simp [cutA, joinN]
 | b :: l, cur => by
  have h1 := ac l []
  have h2 := ac l (cur ++ [b])
  rw [cutA]
  split
  ·rename_i hb
   subst hb
   simp only [joinN, List.flatMap_cons] at h1 ⊢
   rw [h1]
   simp
  ·rw [h2]
   simp
theorem bV {ps : List (List UInt8)} (h : 1 ≤ ps.length) : ∃ q, joinN ps = q ++ [10] := by
 have hne : ps ≠ [] := fun e => by subst e; simp at h
 refine ⟨joinN ps.dropLast ++ ps.getLast hne, ?_⟩
 conv => lhs; rw [← List.dropLast_concat_getLast hne]
 simp [joinN]

def goodB (a b : Int) : Bool := decide ((0 ≤ a ∧ a ≤ 7) ∧ (b = 0 ∨ b = 1 ∧ (a = 3 ∨ a = 6)))
theorem af {a b : Int} (h : goodB a b = true) : (a = 0 ∧ b = 0) ∨ (a = 1 ∧ b = 0) ∨ (a = 2 ∧ b = 0) ∨ (a = 3 ∧ b = 0) ∨ (a = 3 ∧ b = 1) ∨ (a = 4 ∧ b = 0) ∨ (a = 5 ∧ b = 0) ∨ (a = 6 ∧ b = 0) ∨ (a = 6 ∧ b = 1) ∨ (a = 7 ∧ b = 0) := by
 simp only [goodB, decide_eq_true_eq] at h
 obtain ⟨⟨h0, h7⟩, hb⟩ := h
 have ha : a = 0 ∨ a = 1 ∨ a = 2 ∨ a = 3 ∨ a = 4 ∨ a = 5 ∨ a = 6 ∨ a = 7 := by
  clear hb
  omega
 rcases ha with rfl | rfl | rfl | rfl | rfl | rfl | rfl | rfl <;> simp_all

def a8 (a b : Int) : ByteArray := if b = 1 then (if a = 3 then ⟨#[70]⟩ else ⟨#[71]⟩) else ⟨#[[46, 108, 114, 102, 120, 111, 103, 99].getD a.toNat 46]⟩
theorem aR (a b : Int) : (a8 a b).size = 1 := by
 unfold a8
 split
 ·split <;> rfl
 ·rfl

def turnB (a : Int) : Bool := decide (a = 3 ∨ a = 6)
theorem aN (a b : Int) : spec_paTurning.f a b = some (turnB a) := by
 unfold spec_paTurning.f turnB
 by_cases h : a = 3
 ·simp [h]
 ·rw [if_neg h]
  by_cases h6 : a = 6 <;> simp [h, h6]

def hitB (a b : Int) (s : ByteArray) : Bool := goodB a b && decide ((a8 a b).toList = s.toList)
def aA : Nat → Int → ByteArray → Int × Int × Bool
 | 0, _, _ => (0, 0, false)
 | n + 1, a, s => if hitB a 0 s = true then (a, 0, true) else if hitB a 1 s = true then (a, 1, true) else aA n (a + 1) s
def a9 (s : ByteArray) : Int × Int × Bool := aA 8 0 s
theorem ar {a : Int} (h0 : 0 ≤ a) (h7 : a ≤ 7) : goodB a 0 = true := by simp [goodB, h0, h7]
theorem bC {a : Int} (h0 : 0 ≤ a) (h7 : a ≤ 7) : goodB a 1 = turnB a := by simp [goodB, turnB, h0, h7]

def a3 (s : ByteArray) : Nat → Nat → List S62 → List S62 × Bool
 | 0, _, acc => (acc, true)
 | d + 1, i, acc => if (a9 (s.extract i (i + 1))).2.2 = true then a3 s d (i + 1) (acc ++ [(⟨(a9 (s.extract i (i + 1))).1, (a9 (s.extract i (i + 1))).2.1⟩ : S62)]) else ([], false)
theorem ae (s : ByteArray) : ∀ (d i : Nat) (acc : List S62), (a3 s d i acc).1.length ≤ acc.length + d
 | 0, _, _ => by simp [a3]
 | d + 1, i, acc => by
  unfold a3
  split
  ·have h := ae s d (i + 1) (acc ++ [(⟨(a9 (s.extract i (i + 1))).1, (a9 (s.extract i (i + 1))).2.1⟩ : S62)])
   simp at h
   omega
  ·simp

theorem c7 (l : List S62) (i : Nat) : rd_T62 l (i : Int) = l.getD i z62 := by rw [rd_T62, Int.toNat_natCast]
def goodC (x : S62) : Bool := goodB x.f0 x.f1

def aF (l : List S62) : List UInt8 := l.flatMap fun x => (a8 x.f0 x.f1).data.toList
theorem aQ : ∀ l : List S62, (aF l).length = l.length
 | [] => rfl
 | x :: l => by
  have h := aQ l
  have h1 : (a8 x.f0 x.f1).data.toList.length = 1 := aR x.f0 x.f1
  simp only [aF, List.flatMap_cons, List.length_append, List.length_cons] at h ⊢
  omega
theorem bk {l : List S62} (hl : l.all goodC = true) {i : Nat} (h : i < l.length) : goodC (l.getD i z62) = true := by
 rw [List.getD_eq_getElem?_getD, List.getElem?_eq_getElem h]
 exact List.all_eq_true.1 hl _ (List.getElem_mem h)
theorem aM (a b : List UInt8) : (⟨a.toArray⟩ : ByteArray) ++ (⟨b.toArray⟩ : ByteArray) = ⟨(a ++ b).toArray⟩ := by
 apply ByteArray.ext
 simp
theorem bu (b : List UInt8) : strOfNums (b.map fun x => (x.toNat : Int)) = ⟨b.toArray⟩ := by
 unfold strOfNums
 rw [List.map_map]
 congr 2
 induction b with
 | nil => rfl
 | cons x l ih => simp [ih]

theorem aY (s : ByteArray) : ∀ (n : Nat) (a : Int), (aA n a s).2.2 = true → hitB (aA n a s).1 (aA n a s).2.1 s = true
 | 0, _, h => by simp [aA] at h
 | n + 1, a, h => by
  rw [aA] at h ⊢
  split
  ·assumption
  ·rename_i h1
   rw [if_neg h1] at h
   split
   ·assumption
   ·rename_i h2
    rw [if_neg h2] at h
    exact aY s n (a + 1) h
theorem bO {s : ByteArray} (h : (a9 s).2.2 = true) : goodB (a9 s).1 (a9 s).2.1 = true ∧ (a8 (a9 s).1 (a9 s).2.1).data.toList = s.data.toList := by
 have h1 := aY s 8 0 h
 simp only [hitB, Bool.and_eq_true, decide_eq_true_eq, Lib.toList_data] at h1
 exact h1
theorem aJ (s : ByteArray) : ∀ (d i : Nat) (acc : List S62), i + d = s.size → (a3 s d i acc).2 = true →
 ∃ l : List S62, (a3 s d i acc).1 = acc ++ l ∧ l.length = d ∧ l.all goodC = true ∧ aF l = s.data.toList.drop i
 | 0, i, acc, hd, _ => by
  have hsz := Lib.size_eq s
  exact ⟨[], by simp [a3], rfl, rfl, by rw [List.drop_of_length_le (by omega)]; rfl⟩
 | d + 1, i, acc, hd, h => by
  have hsz := Lib.size_eq s
  have hlt : i < s.data.toList.length := by omega
  rw [a3] at h ⊢
  by_cases hr : (a9 (s.extract i (i + 1))).2.2 = true
  ·rw [if_pos hr] at h ⊢
   obtain ⟨l, e1, e2, e3, e4⟩ := aJ s d (i + 1) _ (by omega) h
   obtain ⟨g1, g2⟩ := bO hr
   refine ⟨⟨(a9 (s.extract i (i + 1))).1, (a9 (s.extract i (i + 1))).2.1⟩ :: l, by rw [e1]; simp, by simp [e2], ?_, ?_⟩
   ·rw [List.all_cons, e3, Bool.and_true]
    exact g1
   ·simp only [aF, List.flatMap_cons] at e4 ⊢
    rw [e4, g2, Lib.extract_data, aD s.data.toList 0 hlt, Nat.add_sub_cancel_left]
    rfl
  ·rw [if_neg hr] at h
   exact absurd h (by simp)

def sizeB (r c : Int) (n : Nat) : Bool := decide ((1 ≤ r ∧ r ≤ 10) ∧ (1 ≤ c ∧ c ≤ 9) ∧ (n : Int) = r * c)
def a7 (r c : Int) (l : List S62) : Bool := sizeB r c l.length && l.all goodC
theorem ao {r c : Int} (h1 : 1 ≤ r) (h2 : r ≤ 10) (h3 : 1 ≤ c) (h4 : c ≤ 9) : 1 ≤ r * c ∧ r * c ≤ 90 := by
 have hr : r = 1 ∨ r = 2 ∨ r = 3 ∨ r = 4 ∨ r = 5 ∨ r = 6 ∨ r = 7 ∨ r = 8 ∨ r = 9 ∨ r = 10 := by omega
 rcases hr with rfl | rfl | rfl | rfl | rfl | rfl | rfl | rfl | rfl | rfl <;> omega
structure Brd (r c : Int) (l : List S62) : Prop where
 r1 : 1 ≤ r
 r2 : r ≤ 10
 c1 : 1 ≤ c
 c2 : c ≤ 9
 len : (l.length : Int) = r * c
 all : l.all goodC = true
 le : l.length ≤ 90
 pos : 1 ≤ l.length
theorem bH {r c : Int} {l : List S62} (h : a7 r c l = true) : Brd r c l := by
 simp only [a7, sizeB, Bool.and_eq_true, decide_eq_true_eq] at h
 obtain ⟨⟨⟨h1, h2⟩, ⟨h3, h4⟩, h5⟩, h6⟩ := h
 have := ao h1 h2 h3 h4
 exact ⟨h1, h2, h3, h4, h5, h6, by omega, by omega⟩
theorem cC {r c : Int} {l : List S62} (h : Brd r c l) : a7 r c l = true := by
 simp only [a7, sizeB, Bool.and_eq_true, decide_eq_true_eq]
 exact ⟨⟨⟨h.r1, h.r2⟩, ⟨h.c1, h.c2⟩, h.len⟩, h.all⟩
theorem bz {r c i j : Int} (h0 : 0 ≤ i) (h1 : i < r) (h2 : 0 ≤ j) (h3 : j < c) : 0 ≤ i * c + j ∧ i * c + j < r * c := by
 have a : 0 ≤ i * c := Int.mul_nonneg h0 (by omega)
 have b : (i + 1) * c ≤ r * c := Int.mul_le_mul_of_nonneg_right (by omega) (by omega)
 rw [Int.add_mul, Int.one_mul] at b
 omega

theorem c5 {i j C : Nat} (h : i * C + j ≤ 1000000) : wrap64 (wrap64 ((i : Int) * (C : Int)) + (j : Int)) = ((i * C + j : Nat) : Int) := by
 rw [show (i : Int) * (C : Int) = ((i * C : Nat) : Int) by simp]
 generalize i * C = n at h ⊢
 rw [a4 (x := (n : Int)) (by omega) (by omega), a4 (x := (n : Int) + (j : Int)) (by omega) (by omega)]
 omega
theorem c4 {i j C : Nat} (hj : j < C) (h : i * C + C ≤ 1000000) : wrap64 (wrap64 (wrap64 (wrap64 ((i : Int) * (C : Int)) + (C : Int)) - 1) - (j : Int)) = ((i * C + (C - 1 - j) : Nat) : Int) := by
 rw [show (i : Int) * (C : Int) = ((i * C : Nat) : Int) by simp]
 generalize i * C = n at h ⊢
 rw [a4 (x := (n : Int)) (by omega) (by omega), a4 (x := (n : Int) + (C : Int)) (by omega) (by omega), a4 (x := (n : Int) + (C : Int) - 1) (by omega) (by omega), a4 (x := (n : Int) + (C : Int) - 1 - (j : Int)) (by omega) (by omega)]
 omega
theorem cE {R C i j : Nat} (hi : i < R) (hj : j < C) : i * C + j < R * C := by
 have h : (i + 1) * C ≤ R * C := Nat.mul_le_mul_right C hi
 rw [Nat.succ_mul] at h
 omega
theorem cA {C i j : Nat} (hj : j < C) : (i * C + j) / C = i := by
 rw [Nat.add_comm, Nat.mul_comm, Nat.add_mul_div_left _ _ (by omega), Nat.div_eq_of_lt hj, Nat.zero_add]
theorem c8 {C i j : Nat} (hj : j < C) : (i * C + j) % C = j := by
 rw [Nat.add_comm, Nat.mul_comm, Nat.add_mul_mod_self_left, Nat.mod_eq_of_lt hj]
theorem c6 {r c : Int} {l : List S62} (b : Brd r c l) : ∃ R C : Nat, r = R ∧ c = C ∧ l.length = R * C ∧ 1 ≤ R ∧ R ≤ 10 ∧ 1 ≤ C ∧ C ≤ 9 := by
 have h1 := b.r1; have h2 := b.r2; have h3 := b.c1; have h4 := b.c2; have h5 := b.len
 obtain ⟨R, rfl⟩ : ∃ R : Nat, r = R := ⟨r.toNat, by omega⟩
 obtain ⟨C, rfl⟩ : ∃ C : Nat, c = C := ⟨c.toNat, by omega⟩
 refine ⟨R, C, rfl, rfl, ?_, by omega, by omega, by omega, by omega⟩
 have : ((l.length : Nat) : Int) = ((R * C : Nat) : Int) := by rw [h5]; simp
 exact Int.ofNat.inj this

def rowL (l : List S62) (C i : Nat) : List S62 := (l.take ((i + 1) * C)).drop (i * C)
def aE (l : List S62) (C : Nat) : Nat → Nat → List UInt8
 | 0, _ => []
 | d + 1, i => (aF (rowL l C i) ++ [10]) ++ aE l C d (i + 1)
theorem ap {R C i : Nat} {l : List S62} (hlen : l.length = R * C) (hi : i < R) (hR : R ≤ 10) (hC : C ≤ 9) :
 wrap64 ((i : Int) * (C : Int)) = ((i * C : Nat) : Int) ∧ wrap64 ((wrap64 ((i : Int) + 1)) * (C : Int)) = (((i + 1) * C : Nat) : Int) ∧ i * C ≤ (i + 1) * C ∧ (i + 1) * C ≤ l.length ∧ (rowL l C i).length = C := by
 have h1 : (i + 1) * C ≤ R * C := Nat.mul_le_mul_right C hi
 have h2 : R * C ≤ 10 * 9 := Nat.mul_le_mul hR hC
 have h3 : (i + 1) * C = i * C + C := Nat.succ_mul i C
 rw [a2 (n := 1000) (i := i) (by omega) (by omega), show (i : Int) * (C : Int) = ((i * C : Nat) : Int) by simp, show ((i + 1 : Nat) : Int) * (C : Int) = (((i + 1) * C : Nat) : Int) by simp]
 have hl : (rowL l C i).length = (i + 1) * C - i * C := by
  unfold rowL
  rw [List.length_drop, List.length_take, Nat.min_eq_left (by omega)]
 generalize (i + 1) * C = n at *
 generalize i * C = m at *
 rw [a4 (x := (m : Int)) (by omega) (by omega), a4 (x := (n : Int)) (by omega) (by omega)]
 exact ⟨rfl, rfl, by omega, by omega, by omega⟩
theorem bZ {l : List S62} (hl : l.all goodC = true) (C i : Nat) : (rowL l C i).all goodC = true := by
 rw [List.all_eq_true] at hl ⊢
 exact fun x hx => hl x (List.mem_of_mem_take (List.mem_of_mem_drop hx))
theorem ah {R C i : Nat} {l : List S62} (hlen : l.length = R * C) (hi : i < R) (hR : R ≤ 10) (hC : C ≤ 9) : (aF (rowL l C i)).length = C := by
 rw [aQ]; exact (ap hlen hi hR hC).2.2.2.2

def goL (C : Nat) : List ByteArray → List S62 → Option (List S62)
 | [], acc => some acc
 | x :: xs, acc => if (a3 x x.size 0 []).2 = true then (if x.size = C then goL C xs (acc ++ (a3 x x.size 0 []).1) else none) else none
theorem bM (C : Nat) : ∀ (xs : List ByteArray) (acc cells : List S62) (i : Nat), acc.length = i * C → acc.all goodC = true → goL C xs acc = some cells →
 aE cells C xs.length i = joinN (xs.map (·.data.toList)) ∧ cells.length = (i + xs.length) * C ∧ cells.all goodC = true ∧ cells.take (i * C) = acc
 | [], acc, cells, i, ha, hg, h => by
  simp only [goL, Option.some.injEq] at h
  subst h
  exact ⟨rfl, by simpa using ha, hg, by rw [List.take_of_length_le (by omega)]⟩
 | x :: xs, acc, cells, i, ha, hg, h => by
  rw [goL] at h
  by_cases h1 : (a3 x x.size 0 []).2 = true
  ·rw [if_pos h1] at h
   by_cases h2 : x.size = C
   ·rw [if_pos h2] at h
    obtain ⟨l, e1, e2, e3, e4⟩ := aJ x x.size 0 [] (by omega) h1
    rw [List.nil_append] at e1
    rw [e1] at h
    have hm : (i + 1) * C = i * C + C := Nat.succ_mul i C
    obtain ⟨k1, k2, k3, k4⟩ := bM C xs (acc ++ l) cells (i + 1) (by rw [List.length_append]; omega) (by rw [List.all_append, hg, e3]; rfl) h
    have hrow : rowL cells C i = l := by
     rw [rowL, k4, ← ha, List.drop_left]
    refine ⟨?_, by rw [k2, List.length_cons]; congr 1; omega, k3, ?_⟩
    ·rw [List.length_cons, aE, hrow, k1, e4]
     simp [joinN]
    ·have : cells.take (i * C) = (cells.take ((i + 1) * C)).take (i * C) := by
      rw [List.take_take, Nat.min_eq_left (by omega)]
     rw [this, k4, ← ha, List.take_left]
   ·rw [if_neg h2] at h
    exact absurd h (by simp)
  ·rw [if_neg h1] at h
   exact absurd h (by simp)
def finI (R C : Nat) : Option (List S62) → Int × Int × List S62 × Bool
 | none => (0, 0, [], false)
 | some l => (R, C, l, true)
def aX (P : List ByteArray) : Int × Int × List S62 × Bool :=
 if P.length ≤ 10 ∧ 1 ≤ (P.getD 0 ByteArray.empty).size ∧ (P.getD 0 ByteArray.empty).size ≤ 9 then finI P.length (P.getD 0 ByteArray.empty).size (goL (P.getD 0 ByteArray.empty).size P []) else (0, 0, [], false)
def aH (L : List UInt8) : Int × Int × List S62 × Bool := if L.getLast? = some 10 then aX (a0 L.dropLast) else (0, 0, [], false)
theorem al (L : List UInt8) : (aH L).2.2.1.length ≤ 90 := by
 unfold aH
 split
 ·unfold aX
  split
  ·rename_i h
   generalize hC : ((a0 L.dropLast).getD 0 ByteArray.empty).size = C at *
   cases hg : goL C (a0 L.dropLast) [] with
   | none => simp [finI]
   | some cells =>
    have := (bM C _ _ _ 0 (by simp) rfl hg).2.1
    have h2 := Nat.mul_le_mul h.1 h.2.2
    simp only [finI]
    rw [this, Nat.zero_add]
    omega
  ·simp
 ·simp
theorem aL (l : List ByteArray) (i : Nat) : rdOf ByteArray.empty l (i : Int) = l.getD i ByteArray.empty := by rw [rdOf, Int.toNat_natCast]
theorem aP (l : List ByteArray) : rdOf ByteArray.empty l 0 = l.getD 0 ByteArray.empty := rfl
theorem b8 (l : List ByteArray) {i : Nat} (h : i < l.length) : l.getD i ByteArray.empty ∈ l := by
 rw [List.getD_eq_getElem?_getD, List.getElem?_eq_getElem h]
 exact List.getElem_mem h
theorem b9 {L : List UInt8} {x : ByteArray} (h : x ∈ a0 L) : x.size ≤ L.length := by
 obtain ⟨p, hp, rfl⟩ := List.mem_map.1 h
 rw [bo]
 simpa using ai L [] p hp
theorem aK (L : List UInt8) : 1 ≤ (a0 L).length := by rw [a0, List.length_map]; exact bD L []
theorem c0 (L : List UInt8) : (a0 L).length ≤ L.length + 1 := by rw [a0, List.length_map]; exact b6 L []

theorem aV (s : ByteArray) (hn : s.size ≤ 1048576) (q : List UInt8) (b : UInt8) (h : s.data.toList = q ++ [b]) : strings_HasSuffix.f s (⟨#[10]⟩ : ByteArray) = some (decide (b = 10)) := by
 have hsz := Lib.size_eq s
 have hl : s.size = q.length + 1 := by rw [hsz, h]; simp
 have h1 : (⟨#[10]⟩ : ByteArray).size = 1 := rfl
 simp only [strings_HasSuffix.f, stringslite_HasSuffix.f, h1]
 rw [a4 (by omega) (by omega), if_pos (by omega), if_pos (by omega), if_pos (by omega)]
 have he : (s.extract ((s.size : Int) - ((1 : Nat) : Int)).toNat s.size).toList = [b] := by
  rw [Lib.toList_data, Lib.extract_data, h, show ((s.size : Int) - ((1 : Nat) : Int)).toNat = q.length by omega, List.drop_left, hl, Nat.add_sub_cancel_left]
  rfl
 rw [he, show (⟨#[10]⟩ : ByteArray).toList = [10] from Lib.toList_data _, Option.bind_some]
 by_cases hb : b = 10
 ·subst hb
  rfl
 ·rw [decide_eq_false hb]
  congr 1
  rw [beq_eq_false_iff_ne]
  intro e
  exact hb (by simpa using e)
theorem bE (s : ByteArray) (h : s.data.toList = []) : impl_linesOf.f s = some ([], true) := by
 simp only [impl_linesOf.f]
 rw [if_pos (by rw [Lib.toList_data]; exact h)]
theorem aw (s : ByteArray) (hn : s.size ≤ 1048576) (q : List UInt8) (h : s.data.toList = q ++ [10]) : impl_linesOf.f s = some (a0 q, true) := by
 have hsz := Lib.size_eq s
 have hl : s.size = q.length + 1 := by rw [hsz, h]; simp
 simp only [impl_linesOf.f]
 rw [if_neg (by rw [Lib.toList_data, h]; simp), aV s hn q 10 h, Option.bind_some, if_pos (by simp), a4 (by omega) (by omega), if_pos (by omega), if_pos (by omega)]
 have he : (s.extract 0 ((s.size : Int) - 1).toNat).data.toList = q := by
  rw [Lib.extract_data, h, show ((s.size : Int) - 1).toNat = q.length by omega, List.drop_zero, Nat.sub_zero, List.take_left]
 have hq : (s.extract 0 ((s.size : Int) - 1).toNat).size = q.length := by rw [Lib.size_eq, he]
 rw [strings_Split.f, if_pos (by omega), if_pos (by show 1 ≤ 1; omega), bQ, he]
 rfl
theorem aj (s : ByteArray) (hn : s.size ≤ 1048576) (q : List UInt8) (b : UInt8) (h : s.data.toList = q ++ [b]) (hb : b ≠ 10) : impl_linesOf.f s = some ([], false) := by
 simp only [impl_linesOf.f]
 rw [if_neg (by rw [Lib.toList_data, h]; simp), aV s hn q b h, Option.bind_some, if_neg (by simpa using hb)]

theorem bf (a b : Int) : impl_IsCell.f a b = some (goodB a b) := by
 unfold impl_IsCell.f goodB
 by_cases h0 : a < 0
 ·rw [if_pos h0]; simp; omega
 rw [if_neg h0]
 by_cases h1 : a > 7
 ·rw [if_pos h1]; simp; omega
 rw [if_neg h1]
 by_cases h2 : b < 0
 ·rw [if_pos h2]; simp; omega
 rw [if_neg h2]
 by_cases h3 : b > 1
 ·rw [if_pos h3]; simp; omega
 rw [if_neg h3]
 by_cases h4 : b = 0
 ·rw [if_pos h4]; simp; omega
 rw [if_neg h4]
 by_cases h5 : a = 3
 ·rw [if_pos h5]; simp; omega
 rw [if_neg h5]
 by_cases h6 : a = 6
 ·simp [h6]; omega
 ·simp [h5, h6, h4]

theorem ak (a b : Int) : impl_CellLetter.f a b = some (if goodB a b = true then (a8 a b, true) else (⟨#[]⟩, false)) := by
 unfold impl_CellLetter.f
 rw [bf, Option.bind_some]
 by_cases h : goodB a b = true
 ·rw [if_pos h, if_pos h]
  rcases af h with ⟨rfl, rfl⟩ | ⟨rfl, rfl⟩ | ⟨rfl, rfl⟩ | ⟨rfl, rfl⟩ | ⟨rfl, rfl⟩ | ⟨rfl, rfl⟩ | ⟨rfl, rfl⟩ | ⟨rfl, rfl⟩ | ⟨rfl, rfl⟩ | ⟨rfl, rfl⟩ <;> decide +kernel
 ·rw [if_neg h, if_neg h]

theorem aG (k : Nat) (s : ByteArray) (a b : Int) (h : b < 2) : impl_ReadCell.l1 (k + 1) s a b = if hitB a b s = true then some (a, b, true) else impl_ReadCell.l1 k s a (wrap64 (b + 1)) := by
 simp only [impl_ReadCell.l1]
 rw [if_pos h, ak, Option.bind_some]
 by_cases hg : goodB a b = true
 ·by_cases hl : (a8 a b).toList = s.toList
  ·simp [hitB, hg, hl]
  ·simp [hitB, hg, hl]
 ·simp [hitB, hg]
theorem bF (s : ByteArray) : ∀ (n : Nat) (a : Int), 0 ≤ a → a + n = 8 → Ev (fun k => impl_ReadCell.l0 k s a) (aA n a s) := by
 intro n
 induction n with
 | zero =>
  intro a h0 h8
  refine a1 0 fun k _ => ?_
  simp only [impl_ReadCell.l0]
  rw [if_neg (by omega)]
  rfl
 | succ n ih =>
  intro a h0 h8
  have e0 : ∀ k, impl_ReadCell.l0 (k + 1) s a = impl_ReadCell.l1 k s a 0 := fun k => by
   simp only [impl_ReadCell.l0]
   rw [if_pos (by omega)]
  by_cases h1 : hitB a 0 s = true
  ·refine a1 1 fun k hk => ?_
   obtain ⟨k, rfl⟩ : ∃ m, k = m + 1 := ⟨k - 1, by omega⟩
   simp only [aA]
   rw [e0, aG _ _ _ _ (by omega), if_pos h1, if_pos h1]
  by_cases h2 : hitB a 1 s = true
  ·refine a1 2 fun k hk => ?_
   obtain ⟨k, rfl⟩ : ∃ m, k = m + 1 + 1 := ⟨k - 2, by omega⟩
   simp only [aA]
   rw [e0, aG _ _ _ _ (by omega), if_neg h1, if_neg h1, show wrap64 (0 + 1) = 1 from bm, aG _ _ _ _ (by omega), if_pos h2, if_pos h2]
  ·have h := ih (a + 1) (by omega) (by omega)
   simp only [aA, if_neg h1, if_neg h2]
   obtain ⟨K, hK⟩ := a5 (h)
   refine ⟨K + 4, fun k hk => ?_⟩
   obtain ⟨k, rfl⟩ : ∃ m, k = m + 1 + 1 + 1 + 1 := ⟨k - 4, by omega⟩
   simp only []
   rw [e0, aG _ _ _ _ (by omega), if_neg h1, show wrap64 (0 + 1) = 1 from bm, aG _ _ _ _ (by omega), if_neg h2, show wrap64 (1 + 1) = 2 from bv]
   simp only [impl_ReadCell.l1]
   rw [if_neg (by omega), a4 (by omega) (by omega)]
   exact hK k (by omega)
theorem bB (s : ByteArray) : Ev (fun k => impl_ReadCell.f k s) (a9 s) := bF s 8 0 (by omega) (by omega)

theorem b0 (s : ByteArray) (hn : s.size ≤ 1048576) : ∀ (d i : Nat) (acc : List S62), s.size - i = d → i ≤ s.size → acc.length ≤ i →
 Ev (fun k => impl_ReadCells.l0 k s acc (i : Int)) (a3 s d i acc) := by
 intro d
 induction d with
 | zero =>
  intro i acc hd hi ha
  refine a1 0 fun k _ => ?_
  simp only [impl_ReadCells.l0]
  rw [if_neg (by omega)]
  rfl
 | succ d ih =>
  intro i acc hd hi ha
  have hlt : i < s.size := by omega
  obtain ⟨K, hK⟩ := a5 (bB (s.extract i (i + 1)))
  rw [a3]
  by_cases hr : (a9 (s.extract i (i + 1))).2.2 = true
  ·rw [if_pos hr]
   refine aB K (ih (i + 1) (acc ++ [(⟨(a9 (s.extract i (i + 1))).1, (a9 (s.extract i (i + 1))).2.1⟩ : S62)]) (by omega) (by omega) (by simp; omega)) fun k hk => ?_
   simp only [impl_ReadCells.l0, a2 hlt (show s.size ≤ 4611686018427387904 by omega), Int.toNat_natCast]
   rw [if_pos (by omega), if_pos (by omega), if_pos (by omega), if_pos (by omega), hK k hk, Option.bind_some, if_pos hr, if_pos (by omega)]
  ·rw [if_neg hr]
   refine a1 K fun k hk => ?_
   simp only [impl_ReadCells.l0, a2 hlt (show s.size ≤ 4611686018427387904 by omega), Int.toNat_natCast]
   rw [if_pos (by omega), if_pos (by omega), if_pos (by omega), if_pos (by omega), hK k hk, Option.bind_some, if_neg hr]
theorem au (s : ByteArray) : Ev (fun k => impl_ReadCells.f k s) (if s.size > 90 then ([], false) else a3 s s.size 0 []) := by
 by_cases h : s.size > 90
 ·rw [if_pos h]
  refine bw fun k => ?_
  simp only [impl_ReadCells.f]
  rw [if_pos (by omega)]
 ·rw [if_neg h]
  refine aU 0 (b0 s (by omega) s.size 0 [] (by omega) (by omega) (by simp)) fun k _ => ?_
  simp only [impl_ReadCells.f]
  rw [if_neg (by omega)]
  rfl

theorem am (P : List ByteArray) (R C : Nat) (hC : C ≤ 9) (hP : P.length ≤ 10) : ∀ (d i : Nat) (acc : List S62), P.length - i = d → i ≤ P.length → acc.length ≤ i * 9 →
 Ev (fun k => impl_ParseBoard.l0 k P (P.length : Int) (i : Int) (R : Int) (C : Int) acc) (finI R C (goL C (P.drop i) acc)) := by
 intro d
 induction d with
 | zero =>
  intro i acc hd hi ha
  refine a1 0 fun k _ => ?_
  simp only [impl_ParseBoard.l0]
  rw [if_neg (by omega), List.drop_of_length_le (by omega)]
  rfl
 | succ d ih =>
  intro i acc hd hi ha
  have hlt : i < P.length := by omega
  obtain ⟨K, hK⟩ := a5 (au (P.getD i ByteArray.empty))
  rw [aD P ByteArray.empty hlt, goL]
  by_cases h90 : (P.getD i ByteArray.empty).size > 90
  ·rw [if_pos h90] at hK
   refine a1 K fun k hk => ?_
   simp only [impl_ParseBoard.l0]
   rw [if_pos (by omega), if_pos (by omega), if_pos (by omega), aL, bindE (hK k hk), if_neg (by simp), if_neg (c := (P.getD i ByteArray.empty).size = C) (by omega)]
   split <;> rfl
  ·rw [if_neg h90] at hK
   by_cases hr : (a3 (P.getD i ByteArray.empty) (P.getD i ByteArray.empty).size 0 []).2 = true
   ·obtain ⟨l, e1, e2, e3, e4⟩ := aJ (P.getD i ByteArray.empty) (P.getD i ByteArray.empty).size 0 [] (by omega) hr
    rw [List.nil_append] at e1
    rw [if_pos hr]
    by_cases hc : (P.getD i ByteArray.empty).size = C
    ·rw [if_pos hc]
     refine aB K (ih (i + 1) (acc ++ (a3 (P.getD i ByteArray.empty) (P.getD i ByteArray.empty).size 0 []).1) (by omega) (by omega) (by rw [e1, List.length_append]; omega)) fun k hk => ?_
     simp only [impl_ParseBoard.l0]
     rw [if_pos (by omega), if_pos (by omega), if_pos (by omega), aL, bindE (hK k hk), if_pos hr, if_pos (by rw [e1]; omega), if_pos (by rw [e1]; omega), a2 hlt (by omega)]
    ·rw [if_neg hc]
     refine a1 K fun k hk => ?_
     simp only [impl_ParseBoard.l0]
     rw [if_pos (by omega), if_pos (by omega), if_pos (by omega), aL, bindE (hK k hk), if_pos hr, if_neg (by rw [e1]; omega)]
     rfl
   ·rw [if_neg hr]
    refine a1 K fun k hk => ?_
    simp only [impl_ParseBoard.l0]
    rw [if_pos (by omega), if_pos (by omega), if_pos (by omega), aL, bindE (hK k hk), if_neg hr]
    rfl
theorem an (s : ByteArray) (hn : s.size ≤ 1048576) : Ev (fun k => impl_ParseBoard.f k s) (aH s.data.toList) := by
 rcases List.eq_nil_or_concat s.data.toList with h | ⟨q, b, h⟩
 ·refine ⟨1, fun k hk => ?_⟩
  obtain ⟨k, rfl⟩ : ∃ m, k = m + 1 := ⟨k - 1, by omega⟩
  simp only [impl_ParseBoard.f, bE s h, Option.bind_some, h]
  rfl
 ·rw [List.concat_eq_append] at h
  by_cases hb : b = 10
  ·subst hb
   have hp : aH s.data.toList = aX (a0 q) := by
    rw [aH, h, if_pos (by simp), List.dropLast_concat]
   have h1 := aK q
   have hl := aw s hn q h
   rw [hp, aX]
   generalize a0 q = P at *
   have hg : ∀ k, impl_ParseBoard.f k s = impl_ParseBoard.j0 k P (decide ((P.length : Int) > 10)) := fun k => by
    simp only [impl_ParseBoard.f, hl, Option.bind_some]
    rw [if_pos trivial, if_neg (by omega)]
   by_cases h10 : P.length ≤ 10
   ·generalize hC : (P.getD 0 ByteArray.empty).size = C at *
    by_cases hc : 1 ≤ C ∧ C ≤ 9
    ·obtain ⟨K, hK⟩ := a5 (am P P.length C hc.2 h10 P.length 0 [] (by omega) (by omega) (by simp))
     refine ⟨K + 2, fun k hk => ?_⟩
     obtain ⟨k, rfl⟩ : ∃ m, k = m + 2 := ⟨k - 2, by omega⟩
     have hK' := hK k (by omega)
     refine (hg _).trans ?_
     rw [impl_ParseBoard.j0, if_neg (by simp; omega), if_pos (by omega), aP, hC, if_neg (by omega), impl_ParseBoard.j1, if_neg (by simp; omega), if_pos ⟨h10, hc⟩]
     exact hK'
    ·rw [if_neg (fun e => hc e.2)]
     refine ⟨2, fun k hk => ?_⟩
     obtain ⟨k, rfl⟩ : ∃ m, k = m + 2 := ⟨k - 2, by omega⟩
     refine (hg _).trans ?_
     rw [impl_ParseBoard.j0, if_neg (by simp; omega), if_pos (by omega), aP, hC]
     by_cases h0 : (C : Int) < 1
     ·rw [if_pos h0, impl_ParseBoard.j1, aC]
     ·rw [if_neg h0, impl_ParseBoard.j1, if_pos (by simp; omega)]
   ·rw [if_neg (by omega)]
    refine ⟨1, fun k hk => ?_⟩
    obtain ⟨k, rfl⟩ : ∃ m, k = m + 1 := ⟨k - 1, by omega⟩
    refine (hg _).trans ?_
    rw [impl_ParseBoard.j0, if_pos (by simp; omega)]
  ·have hp : aH s.data.toList = (0, 0, [], false) := by
    rw [aH, h, if_neg (by simpa using hb)]
   refine ⟨1, fun k hk => ?_⟩
   obtain ⟨k, rfl⟩ : ∃ m, k = m + 1 := ⟨k - 1, by omega⟩
   rw [hp]
   simp only [impl_ParseBoard.f, aj s hn q b h hb, Option.bind_some, if_neg Bool.false_ne_true, impl_ParseBoard.j0]
   rfl

theorem bs (s : ByteArray) {i : Nat} (h : i < s.size) : bt s (i : Int) = ((s.data.toList.getD i 0).toNat : Int) := by
 unfold bt
 rw [dif_pos (by rw [Int.toNat_natCast]; exact h)]
 simp only [Int.toNat_natCast]
 have h2 : i < s.data.toList.length := by rw [← Lib.size_eq]; exact h
 rw [List.getD_eq_getElem?_getD, List.getElem?_eq_getElem h2]
 rfl
theorem b7 (x : UInt8) : ((x.toNat : Int) = 10) ↔ x = 10 := by
 constructor
 ·intro h
  apply UInt8.toNat.inj
  show x.toNat = 10
  omega
 ·rintro rfl
  rfl
theorem aS (s : ByteArray) (j i : Nat) : s.extract j i = mkS ((s.data.toList.take i).drop j) := by
 apply bx
 rw [Lib.extract_data, List.drop_take]
theorem bT (s : ByteArray) (hn : s.size ≤ 1048576) : ∀ (d i j : Nat) (acc : List ByteArray), s.size - i = d → i ≤ s.size → j ≤ i → acc.length ≤ i →
 Ev (fun k => spec_l1Split.l0 k s 10 acc (j : Int) (i : Int)) (acc ++ (cutA ((s.data.toList.take i).drop j) (s.data.toList.drop i)).map mkS) := by
 intro d
 have hsz := Lib.size_eq s
 induction d with
 | zero =>
  intro i j acc hd hi hj ha
  refine a1 0 fun k _ => ?_
  simp only [spec_l1Split.l0]
  rw [if_neg (by omega), if_pos (by omega), if_pos (by omega), if_pos (by omega), Int.toNat_natCast, aS, List.drop_of_length_le (l := s.data.toList) (i := i) (by omega), cutA]
  have e : i = s.size := by omega
  subst e
  simp
 | succ d ih =>
  intro i j acc hd hi hj ha
  have hlt : i < s.size := by omega
  have hb := bs s hlt
  have hlt2 : i < s.data.toList.length := by omega
  rw [aD s.data.toList 0 hlt2, cutA]
  by_cases h10 : s.data.toList.getD i 0 = 10
  ·rw [if_pos h10]
   have h := ih (i + 1) (i + 1) (acc ++ [s.extract j i]) (by omega) (by omega) (by omega) (by simp; omega)
   rw [List.drop_of_length_le (l := s.data.toList.take (i + 1)) (by rw [List.length_take]; omega), List.append_assoc] at h
   rw [aS] at h
   refine aB 0 h fun k _ => ?_
   simp only [spec_l1Split.l0]
   rw [if_pos (by omega), if_pos (by omega), hb, if_pos ((b7 _).2 h10), if_pos (by omega), if_pos (by omega), if_pos (by omega), if_pos (by omega), a2 hlt (by omega), Int.toNat_natCast, Int.toNat_natCast, aS]
  ·rw [if_neg h10]
   have h := ih (i + 1) j acc (by omega) (by omega) (by omega) (by omega)
   have e : (s.data.toList.take (i + 1)).drop j = (s.data.toList.take i).drop j ++ [s.data.toList.getD i 0] := by
    rw [List.take_add_one, List.getElem?_eq_getElem hlt2, List.getD_eq_getElem?_getD, List.getElem?_eq_getElem hlt2]
    rw [List.drop_append_of_le_length (by rw [List.length_take]; omega)]
    rfl
   rw [e] at h
   refine aB 0 h fun k _ => ?_
   simp only [spec_l1Split.l0]
   rw [if_pos (by omega), if_pos (by omega), hb, if_neg (fun h => h10 ((b7 _).1 h)), a2 hlt (by omega)]
theorem bK (s : ByteArray) (hn : s.size ≤ 1048576) : Ev (fun k => spec_l1Split.f k s 10) (a0 s.data.toList) := by
 refine aU 0 (bT s hn s.size 0 0 [] (by omega) (by omega) (by omega) (by simp)) fun k _ => ?_
 simp only [spec_l1Split.f]
 rfl

def a6 : Nat → Int → List S62
 | 0, _ => []
 | n + 1, a => (⟨a, 0⟩ : S62) :: ((if turnB a = true then [(⟨a, 1⟩ : S62)] else []) ++ a6 n (a + 1))
theorem bl : ∀ (n : Nat) (a : Int) (x : List S62), 0 ≤ a → a + n = 8 → x.length ≤ 2 * a → Ev (fun k => spec_paAll.l0 k x a) (x ++ a6 n a) := by
 intro n
 induction n with
 | zero =>
  intro a x h0 h8 hx
  refine a1 0 fun k _ => ?_
  simp only [spec_paAll.l0]
  rw [if_neg (by omega)]
  simp [a6]
 | succ n ih =>
  intro a x h0 h8 hx
  simp only [a6]
  by_cases ht : turnB a = true
  ·refine aB 0 (f := fun k => spec_paAll.l0 k (x ++ [(⟨a, 0⟩ : S62)] ++ [(⟨a, 1⟩ : S62)]) (a + 1)) ?_ fun k _ => ?_
   ·have h := ih (a + 1) (x ++ [(⟨a, 0⟩ : S62)] ++ [(⟨a, 1⟩ : S62)]) (by omega) (by omega) (by simp; omega)
    simpa [ht] using h
   ·simp only [spec_paAll.l0, aN, Option.bind_some]
    rw [if_pos (by omega), if_pos (by omega), if_pos ht, if_pos (by simp; omega), a4 (by omega) (by omega)]
  ·refine aB 0 (f := fun k => spec_paAll.l0 k (x ++ [(⟨a, 0⟩ : S62)]) (a + 1)) ?_ fun k _ => ?_
   ·have h := ih (a + 1) (x ++ [(⟨a, 0⟩ : S62)]) (by omega) (by omega) (by simp; omega)
    simpa [ht] using h
   ·simp only [spec_paAll.l0, aN, Option.bind_some]
    rw [if_pos (by omega), if_pos (by omega), if_neg ht, a4 (by omega) (by omega)]
theorem bq : Ev (fun k => spec_paAll.f k) (a6 8 0) := by
 have h := bl 8 0 [] (by omega) (by omega) (by simp)
 simpa [spec_paAll.f] using h

theorem ad (a b : Int) (h : goodB a b = true) : spec_paLetter.f a b = some (a8 a b) := by
 rcases af h with ⟨rfl, rfl⟩ | ⟨rfl, rfl⟩ | ⟨rfl, rfl⟩ | ⟨rfl, rfl⟩ | ⟨rfl, rfl⟩ | ⟨rfl, rfl⟩ | ⟨rfl, rfl⟩ | ⟨rfl, rfl⟩ | ⟨rfl, rfl⟩ | ⟨rfl, rfl⟩ <;> decide +kernel

def ab : List S62 → ByteArray → Int × Int × Bool
 | [], _ => (0, 0, false)
 | x :: l, s => if (a8 x.f0 x.f1).toList = s.toList then (x.f0, x.f1, true) else ab l s
theorem aO : ∀ (n : Nat) (a : Int), 0 ≤ a → a + n = 8 → (a6 n a).all goodC = true
 | 0, _, _, _ => rfl
 | n + 1, a, h0, h8 => by
  simp only [a6, List.all_cons, List.all_append, aO n (a + 1) (by omega) (by omega), Bool.and_true]
  rw [show goodC (⟨a, 0⟩ : S62) = true from ar h0 (show a ≤ 7 by omega), Bool.true_and]
  by_cases ht : turnB a = true
  ·rw [if_pos ht]
   simp [goodC, bC h0 (show a ≤ 7 by omega), ht]
  ·rw [if_neg ht]
   rfl
theorem aI (s : ByteArray) : ∀ (n : Nat) (a : Int), 0 ≤ a → a + n = 8 → ab (a6 n a) s = aA n a s
 | 0, _, _, _ => rfl
 | n + 1, a, h0, h8 => by
  have ih := aI s n (a + 1) (by omega) (by omega)
  simp only [a6, ab, aA, hitB, ar h0 (show a ≤ 7 by omega), bC h0 (show a ≤ 7 by omega), Bool.true_and, decide_eq_true_eq]
  by_cases h1 : (a8 a 0).toList = s.toList
  ·rw [if_pos h1, if_pos h1]
  ·rw [if_neg h1, if_neg h1]
   by_cases ht : turnB a = true
   ·rw [if_pos ht, ht, List.singleton_append, ab, ih]
    by_cases h2 : (a8 a 1).toList = s.toList
    ·simp [h2]
    ·simp [h2]
   ·rw [if_neg ht, List.nil_append, ih]
    simp [ht]
theorem bg (s : ByteArray) (l : List S62) (hl : l.all goodC = true) (hn : l.length ≤ 1048576) : ∀ (d i : Nat), l.length - i = d → i ≤ l.length →
 Ev (fun k => spec_paRead.l0 k s l (l.length : Int) (i : Int)) (ab (l.drop i) s) := by
 intro d
 induction d with
 | zero =>
  intro i hd hi
  refine a1 0 fun k _ => ?_
  simp only [spec_paRead.l0]
  rw [if_neg (by omega), List.drop_of_length_le (by omega)]
  rfl
 | succ d ih =>
  intro i hd hi
  have hlt : i < l.length := by omega
  have h := ih (i + 1) (by omega) (by omega)
  have hg : goodC (l.getD i z62) = true := by
   rw [List.getD_eq_getElem?_getD, List.getElem?_eq_getElem hlt]
   exact List.all_eq_true.1 hl _ (List.getElem_mem hlt)
  have hp := ad _ _ hg
  rw [aD l z62 hlt, ab]
  by_cases he : (a8 (l.getD i z62).f0 (l.getD i z62).f1).toList = s.toList
  ·rw [if_pos he]
   refine a1 0 fun k _ => ?_
   simp only [spec_paRead.l0, rd_T62, Int.toNat_natCast, hp, Option.bind_some]
   rw [if_pos (by omega), if_pos (by omega), if_pos (by omega), if_pos he]
  ·rw [if_neg he]
   refine aB 0 h fun k _ => ?_
   simp only [spec_paRead.l0, rd_T62, Int.toNat_natCast, hp, Option.bind_some]
   rw [if_pos (by omega), if_pos (by omega), if_pos (by omega), if_neg he, a2 hlt (by omega)]
theorem bi (s : ByteArray) : Ev (fun k => spec_paRead.f k s) (a9 s) := by
 obtain ⟨K, hK⟩ := a5 (bq)
 refine aU K (f := fun k => spec_paRead.l0 k s (a6 8 0) ((a6 8 0).length : Int) ((0 : Nat) : Int)) ?_ fun k hk => ?_
 ·have h := bg s (a6 8 0) (aO 8 0 (by omega) (by omega)) (by decide) _ 0 rfl (by omega)
  rw [List.drop_zero, aI s 8 0 (by omega) (by omega)] at h
  exact h
 ·simp only [spec_paRead.f]
  rw [hK k hk, Option.bind_some]
  rfl

theorem bI (s : ByteArray) (hn : s.size ≤ 1048576) : ∀ (d i : Nat) (acc : List S62), s.size - i = d → i ≤ s.size → acc.length ≤ i →
 Ev (fun k => spec_paCells.l0 k s acc (i : Int)) (a3 s d i acc) := by
 intro d
 induction d with
 | zero =>
  intro i acc hd hi ha
  refine a1 0 fun k _ => ?_
  simp only [spec_paCells.l0]
  rw [if_neg (by omega)]
  rfl
 | succ d ih =>
  intro i acc hd hi ha
  have hlt : i < s.size := by omega
  obtain ⟨K, hK⟩ := a5 (bi (s.extract i (i + 1)))
  rw [a3]
  by_cases hr : (a9 (s.extract i (i + 1))).2.2 = true
  ·rw [if_pos hr]
   refine aB K (ih (i + 1) (acc ++ [(⟨(a9 (s.extract i (i + 1))).1, (a9 (s.extract i (i + 1))).2.1⟩ : S62)]) (by omega) (by omega) (by simp; omega)) fun k hk => ?_
   simp only [spec_paCells.l0, a2 hlt (show s.size ≤ 4611686018427387904 by omega), Int.toNat_natCast]
   rw [if_pos (by omega), if_pos (by omega), if_pos (by omega), if_pos (by omega), hK k hk, Option.bind_some, if_pos hr, if_pos (by omega)]
  ·rw [if_neg hr]
   refine a1 K fun k hk => ?_
   simp only [spec_paCells.l0, a2 hlt (show s.size ≤ 4611686018427387904 by omega), Int.toNat_natCast]
   rw [if_pos (by omega), if_pos (by omega), if_pos (by omega), if_pos (by omega), hK k hk, Option.bind_some, if_neg hr]
theorem bL (s : ByteArray) (hn : s.size ≤ 1048576) : Ev (fun k => spec_paCells.f k s) (a3 s s.size 0 []) := by
 refine aU 0 (bI s hn s.size 0 [] (by omega) (by omega) (by simp)) fun k _ => ?_
 simp only [spec_paCells.f]
 rfl

theorem bY (a lo hi : Int) : spec_l1In.f a lo hi = some (decide (lo ≤ a ∧ a ≤ hi)) := by
 unfold spec_l1In.f
 by_cases h : a ≥ lo
 ·rw [if_pos h]
  simp [show lo ≤ a from h]
 ·rw [if_neg h]
  simp [show ¬ lo ≤ a from h]

theorem bb (a b : Int) : spec_paGood.f a b = some (goodB a b) := by
 unfold spec_paGood.f
 rw [bY, Option.bind_some]
 by_cases h : 0 ≤ a ∧ a ≤ 7
 ·rw [decide_eq_true h, if_pos rfl]
  by_cases h0 : b = 0
  ·rw [if_pos h0]
   simp [goodB, h, h0]
  ·rw [if_neg h0]
   by_cases h1 : b = 1
   ·rw [if_pos h1, aN, Option.bind_some]
    simp [goodB, turnB, h, h1]
   ·rw [if_neg h1]
    simp [goodB, h0, h1]
 ·rw [decide_eq_false h, if_neg (by simp)]
  simp [goodB, h]

theorem ag (x : S62) : spec_paGood.f x.f0 x.f1 = some (goodC x) := bb _ _
theorem ba (a : List S62) (hn : a.length ≤ 1048576) : ∀ (d i : Nat), a.length - i = d → i ≤ a.length →
 Ev (fun k => spec_boGood.l0 k a (a.length : Int) (i : Int)) ((a.drop i).all goodC) := by
 intro d
 induction d with
 | zero =>
  intro i hd hi
  refine a1 0 fun k _ => ?_
  simp only [spec_boGood.l0]
  rw [if_neg (by omega), List.drop_of_length_le (by omega)]
  simp
 | succ d ih =>
  intro i hd hi
  have hlt : i < a.length := by omega
  have h := ih (i + 1) (by omega) (by omega)
  rw [aD a z62 hlt, List.all_cons]
  by_cases hg : goodC (a.getD i z62) = true
  ·rw [hg, Bool.true_and]
   refine aB 0 h fun k _ => ?_
   simp only [spec_boGood.l0, rd_T62, Int.toNat_natCast, ag, Option.bind_some]
   rw [if_pos (by omega), if_pos (by omega), if_pos (by omega), if_pos hg, a2 hlt (by omega)]
  ·rw [Bool.eq_false_iff.2 hg, Bool.false_and]
   refine a1 0 fun k _ => ?_
   simp only [spec_boGood.l0, rd_T62, Int.toNat_natCast, ag, Option.bind_some]
   rw [if_pos (by omega), if_pos (by omega), if_pos (by omega), if_neg hg]
theorem bh (r c : Int) (l : List S62) (hn : l.length ≤ 1048576) : Ev (fun k => spec_boGood.f k r c l) (a7 r c l) := by
 obtain ⟨K, hK⟩ := a5 (ba l hn l.length 0 (by omega) (by omega))
 refine ⟨K + 1, fun k hk => ?_⟩
 obtain ⟨k, rfl⟩ : ∃ m, k = m + 1 := ⟨k - 1, by omega⟩
 have hK' := hK k (by omega)
 simp only [spec_boGood.f, bY, Option.bind_some, spec_boGood.j0, aC]
 by_cases h1 : 1 ≤ r ∧ r ≤ 10
 ·rw [decide_eq_true h1, aC]
  by_cases h2 : 1 ≤ c ∧ c ≤ 9
  ·rw [decide_eq_true h2, aC]
   have hm := ao h1.1 h1.2 h2.1 h2.2
   rw [a4 (by omega) (by omega)]
   by_cases h5 : (l.length : Int) = r * c
   ·have h6 : ((l.length : Int) != r * c) = false := by simp [h5]
    rw [h6, if_neg (by simp)]
    refine hK'.trans ?_
    simp [a7, sizeB, h1, h2, h5]
   ·have h6 : ((l.length : Int) != r * c) = true := by simp [h5]
    rw [h6, aC]
    simp [a7, sizeB, h5]
  ·rw [decide_eq_false h2, if_neg (by simp)]
   simp [a7, sizeB, h2]
 ·rw [decide_eq_false h1, if_neg (by simp)]
  simp [a7, sizeB, h1]

theorem bd (l : List S62) (hl : l.all goodC = true) (hn : l.length ≤ 1048576) : ∀ (d i : Nat) (b : List UInt8), l.length - i = d → i ≤ l.length → b.length ≤ 1048576 + i →
 Ev (fun k => spec_paText.l0 k ⟨b.toArray⟩ l (l.length : Int) (i : Int)) ⟨(b ++ aF (l.drop i)).toArray⟩ := by
 intro d
 induction d with
 | zero =>
  intro i b hd hi hb
  refine a1 0 fun k _ => ?_
  simp only [spec_paText.l0]
  rw [if_neg (by omega), List.drop_of_length_le (by omega)]
  simp [aF]
 | succ d ih =>
  intro i b hd hi hb
  have hlt : i < l.length := by omega
  have hp := ad _ _ (bk hl hlt)
  have hs := aR (l.getD i z62).f0 (l.getD i z62).f1
  rw [aD l z62 hlt, aF, List.flatMap_cons, ← List.append_assoc]
  generalize hq : a8 (l.getD i z62).f0 (l.getD i z62).f1 = q at hp hs ⊢
  have hq2 : q = ⟨q.data.toList.toArray⟩ := by simp
  refine aB 0 (ih (i + 1) (b ++ q.data.toList) (by omega) (by omega) ?_) fun k _ => ?_
  ·have : q.data.toList.length = 1 := hs
   rw [List.length_append]
   omega
  ·simp only [spec_paText.l0, rd_T62, Int.toNat_natCast, hp, Option.bind_some]
   rw [if_pos (by omega), if_pos (by omega), if_pos (by omega), if_pos (by rw [hs]; show b.length + 1 ≤ _; omega), a2 hlt (by omega), ← aM]
theorem bj (l : List S62) (hl : l.all goodC = true) (hn : l.length ≤ 1048576) : Ev (fun k => spec_paText.f k l) ⟨(aF l).toArray⟩ := by
 have h := bd l hl hn l.length 0 [] (by omega) (by omega) (by simp)
 exact h

theorem bc {R C : Nat} (l : List S62) (hlen : l.length = R * C) (hR : R ≤ 10) (hC : C ≤ 9) (hl : l.all goodC = true) (h90 : l.length ≤ 90) : ∀ (d i : Nat) (b : List UInt8), R - i = d → i ≤ R → b.length ≤ 10 * i →
 Ev (fun k => spec_boText.l0 k ⟨b.toArray⟩ (i : Int) (R : Int) (C : Int) l) ⟨(b ++ aE l C d i).toArray⟩ := by
 intro d
 induction d with
 | zero =>
  intro i b hd hi hb
  refine a1 0 fun k _ => ?_
  simp only [spec_boText.l0]
  rw [if_neg (by omega)]
  simp [aE]
 | succ d ih =>
  intro i b hd hi hb
  have hlt : i < R := by omega
  obtain ⟨e1, e2, h1, h2, h3⟩ := ap hlen hlt hR hC
  have ht := ah hlen hlt hR hC
  obtain ⟨K, hK⟩ := a5 (bj (rowL l C i) (bZ hl C i) (by omega))
  have h := ih (i + 1) (b ++ (aF (rowL l C i) ++ [10])) (by omega) (by omega) (by rw [List.length_append, List.length_append, List.length_singleton]; omega)
  rw [List.append_assoc] at h
  refine aB K h fun k hk => ?_
  simp only [spec_boText.l0]
  rw [e1, e2, if_pos (by omega), if_pos (by omega), if_pos (by omega), if_pos (by omega), Int.toNat_natCast, Int.toNat_natCast, bindE (show spec_paText.f k (List.drop (i * C) (List.take ((i + 1) * C) l)) = _ from hK k hk)]
  rw [if_pos (by show (aF (rowL l C i)).length + 1 ≤ _; omega), show (⟨#[10]⟩ : ByteArray) = ⟨[(10 : UInt8)].toArray⟩ from rfl, aM, if_pos (by show b.length + (aF (rowL l C i) ++ [10]).length ≤ _; rw [List.length_append, List.length_singleton]; omega), aM, a2 hlt (by omega)]

theorem bW {C : Nat} {xs : List ByteArray} {cells : List S62} (h : goL C xs [] = some cells) (hC : C ≤ 9) (hx : xs.length ≤ 10) : cells.length = xs.length * C ∧ cells.length ≤ 90 ∧ cells.all goodC = true ∧ aE cells C xs.length 0 = joinN (xs.map (·.data.toList)) := by
 obtain ⟨h1, h2, h3, _⟩ := bM C xs [] cells 0 (by simp) rfl h
 have h4 := Nat.mul_le_mul hx hC
 rw [Nat.zero_add] at h2
 exact ⟨h2, by omega, h3, h1⟩
def finS (L : List UInt8) (R C : Nat) : Option (List S62) → Int × Int × List S62 × Bool
 | none => (0, 0, [], false)
 | some l => if a7 (R : Int) (C : Int) l = true then (if aE l C R 0 = L then (R, C, l, true) else (0, 0, [], false)) else (0, 0, [], false)
theorem bN (s : ByteArray) (P : List ByteArray) (R C : Nat) (hC : C ≤ 9) (hP : P.length ≤ 10) (hb : ∀ x, x ∈ P → x.size ≤ 1048576) : ∀ (d i : Nat) (acc : List S62), P.length - i = d → i ≤ P.length → acc.length ≤ i * 9 →
 Ev (fun k => spec_boParse.l0 k s P (P.length : Int) (i : Int) (R : Int) (C : Int) acc) (finS s.data.toList R C (goL C (P.drop i) acc)) := by
 intro d
 induction d with
 | zero =>
  intro i acc hd hi ha
  obtain ⟨K, hK⟩ := a5 (bh (R : Int) (C : Int) acc (by omega))
  rw [List.drop_of_length_le (by omega), goL, finS]
  by_cases hg : a7 (R : Int) (C : Int) acc = true
  ·have B := bH hg
   have b1 := B.r2
   have b2 := B.le
   have b3 := B.len
   have hm : acc.length = R * C := by
    have h : (acc.length : Int) = ((R * C : Nat) : Int) := by rw [b3]; simp
    exact Int.ofNat.inj h
   obtain ⟨K2, hK2⟩ := a5 (bc (R := R) (C := C) acc hm (by omega) hC B.all b2 R 0 [] (by omega) (by omega) (by simp))
   rw [if_pos hg]
   refine a1 (K + K2) fun k hk => ?_
   simp only [spec_boParse.l0]
   have hk2 : spec_boText.f k (R : Int) (C : Int) acc = some (mkS (aE acc C R 0)) := hK2 k (by omega)
   rw [if_neg (by omega), bindE (hK k (by omega)), if_pos hg, bindE hk2]
   by_cases he : aE acc C R 0 = s.data.toList
   ·rw [if_pos he, if_pos (by rw [Lib.toList_data, Lib.toList_data, aT, he])]
   ·rw [if_neg he, if_neg (by rw [Lib.toList_data, Lib.toList_data, aT]; exact he)]
  ·rw [if_neg hg]
   refine a1 K fun k hk => ?_
   simp only [spec_boParse.l0]
   rw [if_neg (by omega), bindE (hK k (by omega)), if_neg hg]
 | succ d ih =>
  intro i acc hd hi ha
  have hlt : i < P.length := by omega
  obtain ⟨K, hK⟩ := a5 (bL (P.getD i ByteArray.empty) (hb _ (b8 P hlt)))
  rw [aD P ByteArray.empty hlt, goL]
  by_cases hr : (a3 (P.getD i ByteArray.empty) (P.getD i ByteArray.empty).size 0 []).2 = true
  ·obtain ⟨l, e1, e2, e3, e4⟩ := aJ (P.getD i ByteArray.empty) (P.getD i ByteArray.empty).size 0 [] (by omega) hr
   rw [List.nil_append] at e1
   rw [if_pos hr]
   by_cases hc : (P.getD i ByteArray.empty).size = C
   ·rw [if_pos hc]
    refine aB K (ih (i + 1) (acc ++ (a3 (P.getD i ByteArray.empty) (P.getD i ByteArray.empty).size 0 []).1) (by omega) (by omega) (by rw [e1, List.length_append]; omega)) fun k hk => ?_
    simp only [spec_boParse.l0]
    rw [if_pos (by omega), if_pos (by omega), if_pos (by omega), aL, bindE (hK k hk), if_pos hr, if_pos (by omega), if_pos (by rw [e1]; omega), a2 hlt (by omega)]
   ·rw [if_neg hc]
    refine a1 K fun k hk => ?_
    simp only [spec_boParse.l0]
    rw [if_pos (by omega), if_pos (by omega), if_pos (by omega), aL, bindE (hK k hk), if_pos hr, if_neg (by omega)]
    rfl
  ·rw [if_neg hr]
   refine a1 K fun k hk => ?_
   simp only [spec_boParse.l0]
   rw [if_pos (by omega), if_pos (by omega), if_pos (by omega), aL, bindE (hK k hk), if_neg hr]
   rfl
def specS (L : List UInt8) (P : List ByteArray) : Int × Int × List S62 × Bool :=
 if P.length ≤ 11 ∧ (P.getD 0 ByteArray.empty).size ≤ 9 then finS L (P.length - 1) (P.getD 0 ByteArray.empty).size (goL (P.getD 0 ByteArray.empty).size (P.take (P.length - 1)) []) else (0, 0, [], false)
theorem bP (s : ByteArray) (hn : s.size ≤ 1048576) : Ev (fun k => spec_boParse.f k s) (specS s.data.toList (a0 s.data.toList)) := by
 have h1 := aK s.data.toList
 have h2 : ∀ x, x ∈ a0 s.data.toList → x.size ≤ 1048576 := fun x hx => by have := b9 hx; rw [← Lib.size_eq] at this; omega
 have hcut := bK s hn
 rw [specS]
 generalize a0 s.data.toList = P at *
 obtain ⟨K0, hK0⟩ := a5 hcut
 generalize hC : (P.getD 0 ByteArray.empty).size = C at *
 by_cases h11 : P.length ≤ 11
 ·by_cases hc : C ≤ 9
  ·have hl : (P.take (P.length - 1)).length = P.length - 1 := by rw [List.length_take]; omega
   obtain ⟨K, hK⟩ := a5 (bN s (P.take (P.length - 1)) (P.length - 1) C hc (by omega) (fun x hx => h2 x (List.mem_of_mem_take hx)) (P.length - 1) 0 [] (by omega) (by omega) (by simp))
   rw [if_pos ⟨h11, hc⟩]
   refine ⟨K + K0 + 1, fun k hk => ?_⟩
   obtain ⟨k, rfl⟩ : ∃ m, k = m + 1 := ⟨k - 1, by omega⟩
   have hK' := hK k (by omega)
   simp only [spec_boParse.f]
   rw [bindE (hK0 (k + 1) (by omega)), if_neg (by omega), if_pos (by omega), aP, hC, spec_boParse.j0, if_neg (by simp; omega), if_pos (by omega), a4 (by omega) (by omega), if_pos (by omega), if_pos (by omega), Option.bind_some, aP, hC, show ((P.length : Int) - 1).toNat = P.length - 1 by omega, show ((P.length : Int) - 1) = ((P.length - 1 : Nat) : Int) by omega]
   exact hK'
  ·rw [if_neg (fun e => hc e.2)]
   refine ⟨K0 + 1, fun k hk => ?_⟩
   obtain ⟨k, rfl⟩ : ∃ m, k = m + 1 := ⟨k - 1, by omega⟩
   simp only [spec_boParse.f]
   rw [bindE (hK0 (k + 1) (by omega)), if_neg (by omega), if_pos (by omega), aP, hC, spec_boParse.j0, if_pos (by simp; omega)]
 ·rw [if_neg (fun e => h11 e.1)]
  refine ⟨K0 + 1, fun k hk => ?_⟩
  obtain ⟨k, rfl⟩ : ∃ m, k = m + 1 := ⟨k - 1, by omega⟩
  simp only [spec_boParse.f]
  rw [bindE (hK0 (k + 1) (by omega)), if_pos (by omega), spec_boParse.j0, aC]
theorem bA (L : List UInt8) : (a0 L).map (·.data.toList) = cutA [] L := by
 rw [a0, List.map_map]
 conv => rhs; rw [← List.map_id (cutA [] L)]
 exact List.map_congr_left fun x _ => aT x
theorem bn (L : List UInt8) : specS L (a0 L) = aH L := by
 have hpos := aK L
 by_cases hq : ∃ q, L = q ++ [10]
 ·obtain ⟨q, rfl⟩ := hq
  have h1 := aK q
  have hp : a0 (q ++ [10]) = a0 q ++ [mkS []] := by simp [a0, aa]
  rw [aH, if_pos (by simp), List.dropLast_concat, hp, specS, aX]
  have hj : joinN ((a0 q).map (·.data.toList)) = q ++ [10] := by rw [bA, ac]; rfl
  generalize a0 q = P at *
  have hg0 : (P ++ [mkS []]).getD 0 ByteArray.empty = P.getD 0 ByteArray.empty := by
   rw [List.getD_eq_getElem?_getD, List.getElem?_append_left (by omega), ← List.getD_eq_getElem?_getD]
  rw [hg0, List.length_append, List.length_singleton, Nat.add_sub_cancel, List.take_left]
  generalize (P.getD 0 ByteArray.empty).size = C
  by_cases h10 : P.length ≤ 10
  ·by_cases hc : C ≤ 9
   ·rw [if_pos ⟨by omega, hc⟩]
    cases hg : goL C P [] with
    | none => simp [finS, finI]
    | some cells =>
     obtain ⟨g1, g2, g3, g4⟩ := bW hg hc h10
     rw [hj] at g4
     by_cases h0 : 1 ≤ C
     ·rw [if_pos ⟨h10, h0, hc⟩, finS, if_pos, if_pos g4, finI]
      simp only [a7, sizeB, Bool.and_eq_true, decide_eq_true_eq]
      exact ⟨⟨⟨by omega, by omega⟩, ⟨by omega, by omega⟩, by rw [g1]; simp⟩, g3⟩
     ·rw [if_neg (fun e => h0 e.2.1), finS, if_neg]
      intro hb
      have := (bH hb).c1
      omega
   ·rw [if_neg (fun e => hc e.2), if_neg (fun e => hc e.2.2)]
  ·rw [if_neg (fun e => h10 (by omega)), if_neg (fun e => h10 e.1)]
 ·rw [aH, if_neg]
  ·rw [specS]
   split
   ·rename_i h
    generalize ((a0 L).getD 0 ByteArray.empty).size = C at *
    have hl : ((a0 L).take ((a0 L).length - 1)).length = (a0 L).length - 1 := by rw [List.length_take]; omega
    cases hg : goL C ((a0 L).take ((a0 L).length - 1)) [] with
    | none => rfl
    | some cells =>
     obtain ⟨g1, g2, g3, g4⟩ := bW hg h.2 (by omega)
     rw [finS]
     split
     ·rename_i hb
      have b1 := (bH hb).r1
      rw [if_neg]
      rw [hl] at g4
      rw [g4]
      intro e
      obtain ⟨q, hq2⟩ := bV (ps := ((a0 L).take ((a0 L).length - 1)).map (·.data.toList)) (by rw [List.length_map]; omega)
      exact hq ⟨q, by rw [← e, hq2]⟩
     ·rfl
   ·rfl
  ·intro e
   exact hq ⟨L.dropLast, by
    obtain ⟨ys, hys⟩ := List.getLast?_eq_some_iff.1 e
    rw [hys, List.dropLast_concat]⟩
theorem aW (s : ByteArray) (hn : s.size ≤ 1048576) : Ev (fun k => spec_ParseBoard.f k s) (aH s.data.toList) := by
 obtain ⟨K, hK⟩ := a5 (bP s hn)
 rw [bn] at hK
 refine ⟨K, fun k hk => ?_⟩
 simp only [spec_ParseBoard.f]
 rw [bindE (hK k hk)]

theorem bJ (a : List S62) (hn : a.length ≤ 1048576) : ∀ (d i : Nat), a.length - i = d → i ≤ a.length → Ev (fun k => laws_eqCellS.l0 k a a (i : Int)) true := by
 intro d
 induction d with
 | zero =>
  intro i hd hi
  refine a1 0 fun k _ => ?_
  simp only [laws_eqCellS.l0]
  rw [if_neg (by omega)]
 | succ d ih =>
  intro i hd hi
  have hlt : i < a.length := by omega
  refine aB 0 (ih (i + 1) (by omega) (by omega)) fun k _ => ?_
  simp only [laws_eqCellS.l0]
  rw [if_pos (by omega), if_pos (by omega), if_pos (by omega), a2 hlt (by omega)]
  simp [laws_eqCell.f]
theorem bU (a : List S62) (hn : a.length ≤ 1048576) : Ev (fun k => laws_eqCellS.f k a a) true := by
 refine aU 0 (bJ a hn a.length 0 (by omega) (by omega)) fun k _ => ?_
 simp only [laws_eqCellS.f, if_true]
 rfl

theorem bR (r c : Int) (a : List S62) (hn : a.length ≤ 1048576) : Ev (fun k => laws_eqBoard.f k r c a r c a) true := by
 obtain ⟨K, hK⟩ := a5 (bU a hn)
 refine ⟨K, fun k hk => ?_⟩
 simp only [laws_eqBoard.f]
 rw [if_pos trivial, if_pos trivial, bindE (hK k hk), aC]

def marks : Nat → Int → List S62
 | 0, _ => []
 | n + 1, s => ⟨s, s + 1⟩ :: marks n (s + 2)
theorem aZ : ∀ (n : Nat) (s : Int), (marks n s).length = n
 | 0, _ => rfl
 | n + 1, s => by simp [marks, aZ n]
theorem ay (N : Nat) (hN : N ≤ 1048576) : ∀ (d i : Nat) (s : Int) (x : List S62), x.length = N → N - i = d → i ≤ N → 0 ≤ s → s ≤ 4194304 + 2 * i →
 Ev (fun k => laws_markCellS.l0 k x s (i : Int)) (s + 2 * d, x.take i ++ marks d s) := by
 intro d
 induction d with
 | zero =>
  intro i s x hx hd hi h0 h1
  refine a1 0 fun k _ => ?_
  simp only [laws_markCellS.l0]
  rw [if_neg (by omega)]
  simp [marks, List.take_of_length_le (show x.length ≤ i by omega)]
 | succ d ih =>
  intro i s x hx hd hi h0 h1
  have hlt : i < x.length := by omega
  have e : ((x.set i (⟨s, (rd_T62 x i).f1⟩ : S62)).set i ⟨(rd_T62 (x.set i (⟨s, (rd_T62 x i).f1⟩ : S62)) i).f0, s + 1⟩) = x.set i (⟨s, s + 1⟩ : S62) := by
   rw [List.set_set]
   simp [rd_T62, hlt]
  refine aB 0 (f := fun k => laws_markCellS.l0 k (x.set i (⟨s, s + 1⟩ : S62)) (s + 2) ((i + 1 : Nat) : Int)) ?_ fun k _ => ?_
  ·have h := ih (i + 1) (s + 2) (x.set i (⟨s, s + 1⟩ : S62)) (by simpa using hx) (by omega) (by omega) (by omega) (by omega)
   rw [br x _ (by omega)] at h
   have e2 : s + 2 + 2 * (d : Int) = s + 2 * ((d + 1 : Nat) : Int) := by omega
   rw [e2, List.append_assoc] at h
   exact h
  ·simp only [laws_markCellS.l0]
   rw [if_pos (by omega), if_pos (by omega)]
   simp only [Option.bind_some, Int.toNat_natCast]
   rw [a2 hlt (by omega), a4 (x := s + 1) (by omega) (by omega), a4 (x := s + 1 + 1) (by omega) (by omega), e]
   rw [show s + 1 + 1 = s + 2 by omega]
theorem ax (x : List S62) (s : Int) (hn : x.length ≤ 1048576) (h0 : 0 ≤ s) (h1 : s ≤ 4194304) : Ev (fun k => laws_markCellS.f k x s) (s + 2 * x.length, marks x.length s) := by
 have h := ay x.length hn x.length 0 s x rfl (by omega) (by omega) h0 (by omega)
 simpa [laws_markCellS.f] using h

theorem az (r c : Int) (x : List S62) (s : Int) (hn : x.length ≤ 1048576) (h0 : 0 ≤ s) (h1 : s ≤ 4194304) : Ev (fun k => laws_markBoard.f k r c x s) (s + 2 * x.length, marks x.length s) := by
 obtain ⟨K, hK⟩ := a5 (ax x s hn h0 h1)
 refine ⟨K, fun k hk => ?_⟩
 simp only [laws_markBoard.f]
 rw [bindE (hK k hk)]

theorem av (y : List S62) (N : Nat) (hN : N ≤ 1048576) (hy : y.length = N) : ∀ (d i : Nat) (s : Int), N - i = d → i ≤ N → 0 ≤ s → s ≤ 4194304 + 2 * i → y.drop i = marks d s →
 Ev (fun k => laws_heldCellS.l0 k y s (i : Int)) (s + 2 * d) := by
 intro d
 induction d with
 | zero =>
  intro i s hd hi h0 h1 hm
  refine a1 0 fun k _ => ?_
  simp only [laws_heldCellS.l0]
  rw [if_neg (by omega)]
  simp
 | succ d ih =>
  intro i s hd hi h0 h1 hm
  have hlt : i < y.length := by omega
  rw [aD y z62 hlt, marks] at hm
  injection hm with hm1 hm2
  have h := ih (i + 1) (s + 2) (by omega) (by omega) (by omega) (by omega) hm2
  have e2 : s + 2 + 2 * (d : Int) = s + 2 * ((d + 1 : Nat) : Int) := by omega
  rw [e2] at h
  refine aB 0 h fun k _ => ?_
  simp only [laws_heldCellS.l0, rd_T62, Int.toNat_natCast, hm1]
  rw [if_pos (by omega), if_pos (by omega), if_pos trivial, a2 hlt (by omega), a4 (x := s + 1) (by omega) (by omega), a4 (x := s + 1 + 1) (by omega) (by omega), if_pos rfl]
  rw [show s + 1 + 1 = s + 2 by omega]
theorem b5 (n : Nat) (s : Int) (hn : n ≤ 1048576) (h0 : 0 ≤ s) (h1 : s ≤ 4194304) : Ev (fun k => laws_heldCellS.f k (marks n s) s) (s + 2 * n) := by
 have h := av (marks n s) n hn (aZ n s) n 0 s (by omega) (by omega) h0 (by omega) rfl
 simpa [laws_heldCellS.f] using h

theorem b4 (r c : Int) (n : Nat) (s : Int) (hn : n ≤ 1048576) (h0 : 0 ≤ s) (h1 : s ≤ 4194304) : Ev (fun k => laws_heldBoard.f k r c (marks n s) s) (s + 2 * n) := by
 obtain ⟨K, hK⟩ := a5 (b5 n s hn h0 h1)
 refine ⟨K, fun k hk => ?_⟩
 simp only [laws_heldBoard.f]
 rw [bindE (hK k hk), if_neg (by omega)]

theorem FnExactParseBoard : laws_FnExactParseBoard.Pure := by
 intro s _
 by_cases hs : (s.size : Int) > 1048576
 ·refine ⟨1, ?_⟩
  simp only [laws_FnExactParseBoard.f]
  rw [if_pos hs]
 have hn : s.size ≤ 1048576 := by omega
 obtain ⟨K1, h1⟩ := a5 (an s hn)
 obtain ⟨K2, h2⟩ := a5 (aW s hn)
 have hlen := al s.data.toList
 generalize aH s.data.toList = r at *
 obtain ⟨a, b, l, o⟩ := r
 have hlen' : l.length ≤ 90 := hlen
 obtain ⟨K3, h3⟩ := a5 (bR a b l (by omega))
 obtain ⟨K4, h4⟩ := a5 (az a b l 1 (by omega) (by omega) (by omega))
 obtain ⟨K5, h5⟩ := a5 (b4 a b l.length 1 (by omega) (by omega) (by omega))
 refine ⟨K1 + K2 + K3 + K4 + K5 + 2, ?_⟩
 generalize hK : K1 + K2 + K3 + K4 + K5 = K
 simp only [laws_FnExactParseBoard.f]
 rw [if_neg hs, bindE (h2 (K + 2) (by omega)), bindE (h1 (K + 2) (by omega)), bindE (h3 (K + 2) (by omega)), aC, laws_FnExactParseBoard.j0, bG, bindE (h4 (K + 1) (by omega)), bindE (h5 (K + 1) (by omega)), if_neg (by omega), if_pos rfl, bindE (h1 (K + 1) (by omega)), bindE (h3 (K + 1) (by omega)), aC, laws_FnExactParseBoard.j1, bG, bindE (h5 K (by omega)), if_neg (by omega), if_pos rfl]

end Go.Proofs.YtklmdnlambinaaaDoor.Pure
