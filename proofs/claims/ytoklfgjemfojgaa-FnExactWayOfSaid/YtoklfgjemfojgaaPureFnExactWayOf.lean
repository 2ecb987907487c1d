/- For all arguments the program's WayOf answers as the reference's does (the plain law, over the printed functions). Conditions: none. -/
import Derived.Test.YtoklfgjemfojgaaG16
set_option linter.unusedVariables false
set_option linter.unusedSimpArgs false
namespace Go.Proofs.Ytoklfgjemfojgaa.Pure
open Go.RowKit Go.Proofs.Ytoklfgjemfojgaa.PAll Go.Proofs.YtoklfgjemfojgaaW.PrintWords Go.Proofs.YtoklfgjemfojgaaW.PrintLast Go.Proofs.YtoklfgjemfojgaaW.PrintMore

theorem a2 {x : Int} (h0 : -9223372036854775808 ≤ x) (h1 : x < 9223372036854775808) : wrap64 x = x := by unfold wrap64; omega
theorem a1 {i n : Nat} (h : i < n) (hn : n ≤ 4611686018427387904) : wrap64 ((i : Int) + 1) = ((i + 1 : Nat) : Int) := by unfold wrap64; omega
theorem bx : wrap64 (-1) = -1 := by decide +kernel
theorem cL : wrap64 0 = 0 := by decide +kernel
theorem cM : wrap64 1 = 1 := by decide +kernel
theorem cH : wrap64 2 = 2 := by decide +kernel
structure Hid (p : Prop) : Prop where
 out : p
theorem a8 {α : Type} {g : Nat → Option α} {r : α} (K : Nat) (h : ∀ k, K ≤ k → g (k + 1) = some r) : Ev g r := by
 refine ⟨K + 1, fun k hk => ?_⟩
 obtain ⟨m, rfl⟩ : ∃ m, k = m + 1 := ⟨k - 1, by omega⟩
 exact h m (by omega)
theorem a4 {α : Type} {g f : Nat → Option α} {r : α} (K : Nat) (hf : Ev f r) (h : ∀ k, K ≤ k → g (k + 1) = f k) : Ev g r := by
 obtain ⟨K', hf⟩ := hf
 refine ⟨K + K' + 1, fun k hk => ?_⟩
 obtain ⟨m, rfl⟩ : ∃ m, k = m + 1 := ⟨k - 1, by omega⟩
 rw [h m (by omega)]
 exact hf m (by omega)
theorem a3 {α : Type} {g : Nat → Option α} {r : α} (h : Ev g r) : ∃ K, ∀ k, K ≤ k → g k = some r := h
theorem cc {α : Type} {g : Nat → Option α} {r : α} (h : ∀ k, g k = some r) : Ev g r := ⟨0, fun k _ => h k⟩
theorem aM {α : Type} {g f : Nat → Option α} {r : α} (K : Nat) (hf : Ev f r) (h : ∀ k, K ≤ k → g k = f k) : Ev g r := by
 obtain ⟨K', hf⟩ := hf
 exact ⟨K + K', fun k hk => (h k (by omega)).trans (hf k (by omega))⟩
theorem bindE {α β : Type} {o : Option α} {v : α} {f : α → Option β} (h : o = some v) : o.bind f = f v := by rw [h]; rfl
theorem cI {β : Type} (x : Bool) (a b : β) : (if (x != x) = true then a else b) = b := by simp
theorem cN {β : Type} (x : Int) (a b : β) : (if (x != x) = true then a else b) = b := by simp
theorem aC {β : Type} (a b : β) : (if true = true then a else b) = a := rfl
theorem aB {α : Type} (l : List α) (z : α) {i : Nat} (h : i < l.length) : l.drop i = l.getD i z :: l.drop (i + 1) := by
 rw [List.drop_eq_getElem_cons h, List.getD_eq_getElem?_getD, List.getElem?_eq_getElem h]; rfl
theorem ac {α : Type} (l : List α) (v : α) {i : Nat} (h : i < l.length) : (l.set i v).take (i + 1) = l.take i ++ [v] := by
 rw [List.take_succ_eq_append_getElem (by simpa using h)]
 simp [List.take_set_of_le]
theorem ch {α : Type} (l : List α) (i : Nat) (z : α) : l.getD ((i : Int).toNat) z = l.getD i z := by rw [Int.toNat_natCast]

theorem ar {α : Type} (T l : List α) (z : α) {n : Nat} (h : n < T.length) (hl : T.length = l.length) : (T.take n ++ l.drop n).set n (T.getD n z) = T.take (n + 1) ++ l.drop (n + 1) := by
 have e1 : (T.take n).length = n := by simp; omega
 rw [List.set_append_right _ _ (by omega), e1, Nat.sub_self, aB l z (by omega), List.set_cons_zero]
 rw [List.take_succ_eq_append_getElem h, List.append_assoc, List.getD_eq_getElem?_getD, List.getElem?_eq_getElem h]
 rfl
theorem c8 {α : Type} (T : List α) (z : α) {n : Nat} (h : n < T.length) : T.take n ++ [T.getD n z] = T.take (n + 1) := by
 rw [List.take_succ_eq_append_getElem h, List.getD_eq_getElem?_getD, List.getElem?_eq_getElem h]
 rfl
theorem ax {α : Type} (f : Nat → α) (z : α) {n m : Nat} (h : n < m) : ((List.range m).map f).getD n z = f n := by
 rw [List.getD_eq_getElem?_getD, List.getElem?_eq_getElem (by simpa using h)]
 simp

theorem bW {α : Type} (T l : List α) (z : α) {n : Nat} (h : n < T.length) (hl : T.length = l.length) (he : T.getD n z = l.getD n z) : T.take n ++ l.drop n = T.take (n + 1) ++ l.drop (n + 1) := by
 rw [← c8 T z h, aB l z (by omega), he, List.append_assoc]
 rfl
theorem bd {α : Type} (T l : List α) (z : α) {n : Nat} (h : n < T.length) (hl : T.length = l.length) : (T.take n ++ l.drop n).getD n z = l.getD n z := by
 have e1 : (T.take n).length = n := by simp; omega
 rw [List.getD_eq_getElem?_getD, List.getElem?_append_right (by omega), e1, Nat.sub_self, aB l z (by omega)]
 rfl
theorem av {α : Type} (T l : List α) {n : Nat} (h : n ≤ T.length) (hl : T.length = l.length) : (T.take n ++ l.drop n).length = l.length := by
 rw [List.length_append, List.length_take, List.length_drop]
 omega

def goodB (a b : Int) : Bool := decide ((0 ≤ a ∧ a ≤ 7) ∧ (b = 0 ∨ b = 1 ∧ (a = 3 ∨ a = 6)))
theorem aP {a b : Int} (h : goodB a b = true) : (a = 0 ∧ b = 0) ∨ (a = 1 ∧ b = 0) ∨ (a = 2 ∧ b = 0) ∨ (a = 3 ∧ b = 0) ∨ (a = 3 ∧ b = 1) ∨ (a = 4 ∧ b = 0) ∨ (a = 5 ∧ b = 0) ∨ (a = 6 ∧ b = 0) ∨ (a = 6 ∧ b = 1) ∨ (a = 7 ∧ b = 0) := by
 simp only [goodB, decide_eq_true_eq] at h
 obtain ⟨⟨h0, h7⟩, hb⟩ := h
 have ha : a = 0 ∨ a = 1 ∨ a = 2 ∨ a = 3 ∨ a = 4 ∨ a = 5 ∨ a = 6 ∨ a = 7 := by
  clear hb
  omega
 rcases ha with rfl | rfl | rfl | rfl | rfl | rfl | rfl | rfl <;> simp_all

theorem aD (l : List S89) (i : Nat) : rd_T89 l (i : Int) = l.getD i z89 := by rw [rd_T89, Int.toNat_natCast]
def goodC (x : S89) : Bool := goodB x.f0 x.f1

def sizeB (r c : Int) (n : Nat) : Bool := decide ((1 ≤ r ∧ r ≤ 10) ∧ (1 ≤ c ∧ c ≤ 9) ∧ (n : Int) = r * c)
def a6 (r c : Int) (l : List S89) : Bool := sizeB r c l.length && l.all goodC
theorem ag {r c : Int} (h1 : 1 ≤ r) (h2 : r ≤ 10) (h3 : 1 ≤ c) (h4 : c ≤ 9) : 1 ≤ r * c ∧ r * c ≤ 90 := by
 have hr : r = 1 ∨ r = 2 ∨ r = 3 ∨ r = 4 ∨ r = 5 ∨ r = 6 ∨ r = 7 ∨ r = 8 ∨ r = 9 ∨ r = 10 := by omega
 rcases hr with rfl | rfl | rfl | rfl | rfl | rfl | rfl | rfl | rfl | rfl <;> omega
structure Brd (r c : Int) (l : List S89) : Prop where
 r1 : 1 ≤ r
 r2 : r ≤ 10
 c1 : 1 ≤ c
 c2 : c ≤ 9
 len : (l.length : Int) = r * c
 all : l.all goodC = true
 le : l.length ≤ 90
 pos : 1 ≤ l.length
theorem bo {r c : Int} {l : List S89} (h : a6 r c l = true) : Brd r c l := by
 simp only [a6, sizeB, Bool.and_eq_true, decide_eq_true_eq] at h
 obtain ⟨⟨⟨h1, h2⟩, ⟨h3, h4⟩, h5⟩, h6⟩ := h
 have := ag h1 h2 h3 h4
 exact ⟨h1, h2, h3, h4, h5, h6, by omega, by omega⟩
theorem ci {r c : Int} {l : List S89} (h : Brd r c l) : a6 r c l = true := by
 simp only [a6, sizeB, Bool.and_eq_true, decide_eq_true_eq]
 exact ⟨⟨⟨h.r1, h.r2⟩, ⟨h.c1, h.c2⟩, h.len⟩, h.all⟩
theorem cF {r c i j : Int} (h0 : 0 ≤ i) (h1 : i < r) (h2 : 0 ≤ j) (h3 : j < c) : 0 ≤ i * c + j ∧ i * c + j < r * c := by
 have a : 0 ≤ i * c := Int.mul_nonneg h0 (by omega)
 have b : (i + 1) * c ≤ r * c := Int.mul_le_mul_of_nonneg_right (by omega) (by omega)
 rw [Int.add_mul, Int.one_mul] at b
 omega

theorem bj {i j C : Nat} (h : i * C + j ≤ 1000000) : wrap64 (wrap64 ((i : Int) * (C : Int)) + (j : Int)) = ((i * C + j : Nat) : Int) := by
 rw [show (i : Int) * (C : Int) = ((i * C : Nat) : Int) by simp]
 generalize i * C = n at h ⊢
 rw [a2 (x := (n : Int)) (by omega) (by omega), a2 (x := (n : Int) + (j : Int)) (by omega) (by omega)]
 omega
theorem ce {i j C : Nat} (hj : j < C) (h : i * C + C ≤ 1000000) : wrap64 (wrap64 (wrap64 (wrap64 ((i : Int) * (C : Int)) + (C : Int)) - 1) - (j : Int)) = ((i * C + (C - 1 - j) : Nat) : Int) := by
 rw [show (i : Int) * (C : Int) = ((i * C : Nat) : Int) by simp]
 generalize i * C = n at h ⊢
 rw [a2 (x := (n : Int)) (by omega) (by omega), a2 (x := (n : Int) + (C : Int)) (by omega) (by omega), a2 (x := (n : Int) + (C : Int) - 1) (by omega) (by omega), a2 (x := (n : Int) + (C : Int) - 1 - (j : Int)) (by omega) (by omega)]
 omega
theorem b8 {R C i j : Nat} (hi : i < R) (hj : j < C) : i * C + j < R * C := by
 have h : (i + 1) * C ≤ R * C := Nat.mul_le_mul_right C hi
 rw [Nat.succ_mul] at h
 omega
theorem cV {C i j : Nat} (hj : j < C) : (i * C + j) / C = i := by
 rw [Nat.add_comm, Nat.mul_comm, Nat.add_mul_div_left _ _ (by omega), Nat.div_eq_of_lt hj, Nat.zero_add]
theorem cU {C i j : Nat} (hj : j < C) : (i * C + j) % C = j := by
 rw [Nat.add_comm, Nat.mul_comm, Nat.add_mul_mod_self_left, Nat.mod_eq_of_lt hj]
theorem af {r c : Int} {l : List S89} (b : Brd r c l) : ∃ R C : Nat, r = R ∧ c = C ∧ l.length = R * C ∧ 1 ≤ R ∧ R ≤ 10 ∧ 1 ≤ C ∧ C ≤ 9 := by
 have h1 := b.r1; have h2 := b.r2; have h3 := b.c1; have h4 := b.c2; have h5 := b.len
 obtain ⟨R, rfl⟩ : ∃ R : Nat, r = R := ⟨r.toNat, by omega⟩
 obtain ⟨C, rfl⟩ : ∃ C : Nat, c = C := ⟨c.toNat, by omega⟩
 refine ⟨R, C, rfl, rfl, ?_, by omega, by omega, by omega, by omega⟩
 have : ((l.length : Nat) : Int) = ((R * C : Nat) : Int) := by rw [h5]; simp
 exact Int.ofNat.inj this

def near (R C a : Nat) : List Nat :=
 (if a / C > 0 then [a - C] else []) ++ ((if a % C > 0 then [a - 1] else []) ++ ((if a % C + 1 < C then [a + 1] else []) ++ (if a / C + 1 < R then [a + C] else [])))
theorem bL {R C a : Nat} (hC : 1 ≤ C) (ha : a < R * C) : ∀ n ∈ near R C a, n < R * C := by
 intro n hn
 have hd := Nat.div_add_mod a C
 have hm := Nat.mod_lt a (show C > 0 by omega)
 rw [Nat.mul_comm] at hd
 have hr : a / C < R := by
  apply Nat.div_lt_of_lt_mul
  rwa [Nat.mul_comm]
 simp only [near, List.mem_append] at hn
 rcases hn with h | h | h | h
 ·split at h
  ·simp at h; omega
  ·simp at h
 ·split at h
  ·simp at h; omega
  ·simp at h
 ·split at h
  ·rename_i h1
   simp at h
   have := b8 (R := R) hr h1
   omega
  ·simp at h
 ·split at h
  ·rename_i h1
   simp at h
   have := b8 (R := R) h1 hm
   rw [Nat.succ_mul] at this
   omega
  ·simp at h
theorem ai (R C a : Nat) : (near R C a).length ≤ 4 := by
 unfold near
 split <;> split <;> split <;> split <;> simp
def castL (l : List Nat) : List Int := l.map fun n : Nat => ((n : Nat) : Int)
theorem a5 (l : List Nat) : (castL l).length = l.length := by simp [castL]
theorem ab (a b : List Nat) : castL (a ++ b) = castL a ++ castL b := by simp [castL]
theorem aV (l : List Nat) {j : Nat} (h : j < l.length) : rd (castL l) (j : Int) = ((l.getD j 0 : Nat) : Int) := by
 simp [rd, castL, List.getD_eq_getElem?_getD, h]
theorem cd (l : List Nat) (j : Nat) : (castL l).drop j = castL (l.drop j) := by simp [castL]

def gearB (x : S89) : Bool := decide (x.f0 = 6 ∨ x.f0 = 7)
def neg (out : List Int) : Nat := out.countP fun x => decide (x < 0)
theorem ad {out : List Int} {n : Nat} (h : n < out.length) (hn : out.getD n 0 < 0) {c : Int} (hc : 0 ≤ c) : neg (out.set n c) + 1 = neg out := by
 unfold neg
 rw [List.countP_set h]
 rw [List.getD_eq_getElem?_getD, List.getElem?_eq_getElem h] at hn
 have hn' : out[n] < 0 := hn
 have hp : 0 < out.countP (fun x => decide (x < 0)) := List.countP_pos_iff.2 ⟨out[n], List.getElem_mem h, by simp [hn']⟩
 rw [if_pos (by simp [hn']), if_neg (by simp; omega)]
 omega
def push (l : List S89) (c : Int) : List Int → List Nat → List Int × List Nat
 | out, [] => (out, [])
 | out, n :: ns => if (gearB (l.getD n z89) && decide (out.getD n 0 < 0)) = true then ((push l c (out.set n c) ns).1, n :: (push l c (out.set n c) ns).2) else push l c out ns
theorem aJ (l : List S89) (c : Int) : ∀ (ns : List Nat) (out : List Int), (push l c out ns).1.length = out.length
 | [], _ => rfl
 | n :: ns, out => by
  unfold push
  split
  ·simp [aJ l c ns]
  ·exact aJ l c ns out
theorem ae (l : List S89) {c : Int} (hc : 0 ≤ c) : ∀ (ns : List Nat) (out : List Int), (∀ n ∈ ns, n < out.length) → neg (push l c out ns).1 + (push l c out ns).2.length = neg out
 | [], _, _ => rfl
 | n :: ns, out, h => by
  unfold push
  split
  ·rename_i hg
   simp only [Bool.and_eq_true, decide_eq_true_eq] at hg
   have h1 := ae l hc ns (out.set n c) (fun m hm => by rw [List.length_set]; exact h m (List.mem_cons_of_mem _ hm))
   have h2 := ad (h n List.mem_cons_self) hg.2 hc
   simp only [List.length_cons]
   omega
  ·exact ae l hc ns out fun m hm => h m (List.mem_cons_of_mem _ hm)
theorem aW (l : List S89) (c : Int) : ∀ (ns : List Nat) (out : List Int), ∀ m ∈ (push l c out ns).2, m ∈ ns
 | [], _, m, hm => by simp [push] at hm
 | n :: ns, out, m, hm => by
  unfold push at hm
  split at hm
  ·rcases List.mem_cons.1 hm with rfl | h
   ·exact List.mem_cons_self
   ·exact List.mem_cons_of_mem _ (aW l c ns _ m h)
  ·exact List.mem_cons_of_mem _ (aW l c ns _ m hm)
def bfs (l : List S89) (R C : Nat) (c : Int) : Nat → List Int → List Nat → List Int
 | 0, out, _ => out
 | _ + 1, out, [] => out
 | f + 1, out, a :: q => bfs l R C c f (push l c out (near R C a)).1 (q ++ (push l c out (near R C a)).2)
theorem aO (l : List S89) (R C : Nat) (c : Int) : ∀ (f : Nat) (out : List Int) (q : List Nat), (bfs l R C c f out q).length = out.length
 | 0, _, _ => rfl
 | _ + 1, _, [] => rfl
 | f + 1, out, a :: q => by rw [bfs, aO l R C c f, aJ]
def a7 (l : List S89) (R C : Nat) : Nat → Nat → List Int → Int → List Int
 | 0, _, out, _ => out
 | d + 1, i, out, c => if (gearB (l.getD i z89) && decide (out.getD i 0 < 0)) = true then a7 l R C d (i + 1) (bfs l R C c (l.length + 1) (out.set i c) [i]) (c + 1) else a7 l R C d (i + 1) out c
def a9 (l : List S89) (R C : Nat) : List Int := a7 l R C l.length 0 (List.replicate l.length (-1)) 0
theorem aG (l : List S89) (R C : Nat) : ∀ (d i : Nat) (out : List Int) (c : Int), (a7 l R C d i out c).length = out.length
 | 0, _, _, _ => rfl
 | d + 1, i, out, c => by
  unfold a7
  split
  ·rw [aG l R C d, aO, List.length_set]
  ·exact aG l R C d _ _ _
theorem aR (l : List S89) (R C : Nat) : (a9 l R C).length = l.length := by
 rw [a9, aG, List.length_replicate]
theorem cJ (out : List Int) : neg out ≤ out.length := List.countP_le_length
theorem aE (out : List Int) (n : Nat) : rd out (n : Int) = out.getD n 0 := by rw [rd, Int.toNat_natCast]

def turn1 (x : S89) : S89 := ⟨x.f0, wrap64 (1 - x.f1)⟩
def aI (G : List Int) (v : Int) (l : List S89) (n : Nat) : S89 := if (decide ((l.getD n z89).f0 = 6) && decide (G.getD n 0 = v)) = true then turn1 (l.getD n z89) else l.getD n z89
def turnL (G : List Int) (v : Int) (l : List S89) : List S89 := (List.range l.length).map (aI G v l)
theorem aQ (G : List Int) (v : Int) (l : List S89) : (turnL G v l).length = l.length := by simp [turnL]
theorem b7 (G : List Int) (v : Int) (l : List S89) {n : Nat} (h : n < l.length) : (turnL G v l).getD n z89 = aI G v l n := ax _ _ h

def turnB (a : Int) : Bool := decide (a = 3 ∨ a = 6)
theorem bV (a b : Int) : spec_paTurning.f a b = some (turnB a) := by
 unfold spec_paTurning.f turnB
 by_cases h : a = 3
 ·simp [h]
 ·rw [if_neg h]
  by_cases h6 : a = 6 <;> simp [h, h6]

theorem cE (r c : Int) (G : List Int) (l : List S89) (hG : G.length = l.length) (a : Nat) (ha : a < l.length) (hn : l.length ≤ 1048576) : ∀ (d i : Nat), l.length - i = d → i ≤ l.length →
 Ev (fun k => spec_flPass.l0 k G (a : Int) (l.length : Int) (i : Int) r c ((turnL G (G.getD a 0) l).take i ++ l.drop i)) (turnL G (G.getD a 0) l) := by
 have hT := aQ G (G.getD a 0) l
 intro d
 induction d with
 | zero =>
  intro i hd hi
  refine a8 0 fun k _ => ?_
  simp only [spec_flPass.l0]
  rw [if_neg (by omega), List.take_of_length_le (by omega), List.drop_of_length_le (by omega), List.append_nil]
 | succ d ih =>
  intro i hd hi
  have hlt : i < l.length := by omega
  have hget := bd (turnL G (G.getD a 0) l) l z89 (n := i) (by omega) hT
  have hml := av (turnL G (G.getD a 0) l) l (n := i) (by omega) hT
  have hTi := b7 G (G.getD a 0) l hlt
  have h2 := ih (i + 1) (by omega) (by omega)
  have same : aI G (G.getD a 0) l i = l.getD i z89 → (turnL G (G.getD a 0) l).take i ++ l.drop i = (turnL G (G.getD a 0) l).take (i + 1) ++ l.drop (i + 1) := fun h => bW _ l z89 (by omega) hT (hTi.trans h)
  refine a4 0 h2 fun k _ => ?_
  simp only [spec_flPass.l0, spec_paTurn.f, Option.bind_some]
  rw [if_pos (by omega), if_pos (by omega), if_pos (by omega), aD, hget, aE, aE, a1 hlt (by omega)]
  by_cases h6 : (l.getD i z89).f0 = 6
  ·rw [if_pos h6, if_pos (by omega), if_pos (by omega), if_pos (by omega)]
   by_cases hg : G.getD i 0 = G.getD a 0
   ·rw [if_pos hg, Int.toNat_natCast]
    have e : aI G (G.getD a 0) l i = turn1 (l.getD i z89) := by
     unfold aI
     rw [if_pos (by simp only [Bool.and_eq_true, decide_eq_true_eq]; exact ⟨h6, hg⟩)]
    rw [show (⟨(l.getD i z89).f0, wrap64 (1 - (l.getD i z89).f1)⟩ : S89) = (turnL G (G.getD a 0) l).getD i z89 from (hTi.trans e).symm, ar _ l z89 (by omega) hT]
   ·rw [if_neg hg, same (by unfold aI; rw [if_neg (by simp only [Bool.and_eq_true, decide_eq_true_eq]; exact fun h => hg h.2)])]
  ·rw [if_neg h6, same (by unfold aI; rw [if_neg (by simp only [Bool.and_eq_true, decide_eq_true_eq]; exact fun h => h6 h.1)])]
def passL (G : List Int) (l : List S89) (n : Nat) : List S89 :=
 if (l.getD n z89).f0 = 3 then l.set n (turn1 (l.getD n z89)) else if (l.getD n z89).f0 = 6 then turnL G (G.getD n 0) l else l
theorem aF (G : List Int) (l : List S89) (n : Nat) : (passL G l n).length = l.length := by
 unfold passL
 split
 ·simp
 ·split
  ·exact aQ _ _ _
  ·rfl
theorem c6 (r c : Int) (G : List Int) (l : List S89) (hG : G.length = l.length) (a : Nat) (ha : a < l.length) (hn : l.length ≤ 1048576) : Ev (fun k => spec_flPass.f k r c l G (a : Int)) (passL G l a) := by
 obtain ⟨K, hK⟩ := a3 (cE r c G l hG a ha hn l.length 0 (by omega) (by omega))
 refine ⟨K, fun k hk => ?_⟩
 have h := hK k hk
 simp only [List.take_zero, List.drop_zero, List.nil_append] at h
 simp only [spec_flPass.f, spec_paTurn.f, Option.bind_some, aD]
 unfold passL
 rw [if_pos (by omega), if_pos (by omega), Int.toNat_natCast]
 by_cases h3 : (l.getD a z89).f0 = 3
 ·rw [if_pos h3, if_pos h3]
  rfl
 ·rw [if_neg h3, if_neg h3]
  by_cases h6 : (l.getD a z89).f0 = 6
  ·rw [if_pos h6, if_pos h6]
   exact h
  ·rw [if_neg h6, if_neg h6]

def conv (x : S91) : S89 := ⟨x.f0, x.f1⟩
theorem bq (a : List S91) (hn : a.length ≤ 1048576) : ∀ (d i : Nat) (x : List S89), a.length - i = d → i ≤ a.length → x.length = a.length →
 Ev (fun k => laws_toCellS.l0 k a x (i : Int)) (x.take i ++ (a.drop i).map conv) := by
 intro d
 induction d with
 | zero =>
  intro i x hd hi hx
  obtain rfl : i = a.length := by omega
  refine a8 0 fun k _ => ?_
  simp only [laws_toCellS.l0]
  rw [if_neg (by omega)]
  simp [← hx]
 | succ d ih =>
  intro i x hd hi hx
  have hlt : i < a.length := by omega
  refine a4 0 (f := fun k => laws_toCellS.l0 k a (x.set i (conv (a.getD i z91))) ((i + 1 : Nat) : Int)) ?_ fun k _ => ?_
  ·have h := ih (i + 1) (x.set i (conv (a.getD i z91))) (by omega) (by omega) (by simpa using hx)
   rwa [ac x _ (by omega), List.append_assoc, List.singleton_append, ← List.map_cons, ← aB a z91 hlt] at h
  ·simp only [laws_toCellS.l0]
   rw [if_pos (by omega), if_pos (by omega)]
   simp only [laws_toCell.f, Option.bind_some]
   rw [if_pos (by omega), a1 hlt (by omega), Int.toNat_natCast]
   simp only [rd_T91, Int.toNat_natCast]
   rfl
theorem bu (a : List S91) (hn : a.length ≤ 1048576) : Ev (fun k => laws_toCellS.f k a) (a.map conv) := by
 refine aM 0 (f := fun k => laws_toCellS.l0 k a (List.replicate a.length z89) ((0 : Nat) : Int)) ?_ fun k _ => ?_
 ·have h := bq a hn a.length 0 (List.replicate a.length z89) (by omega) (by omega) (by simp)
  simpa using h
 ·simp only [laws_toCellS.f]
  rw [if_pos (by omega), if_pos (by omega)]
  simp

theorem bv (r c : Int) (a : List S91) (hn : a.length ≤ 1048576) : Ev (fun k => laws_toBoard.f k r c a) (r, c, a.map conv) := by
 obtain ⟨K, hK⟩ := a3 (bu a hn)
 refine ⟨K, fun k hk => ?_⟩
 simp only [laws_toBoard.f]
 rw [bindE (hK k hk)]

theorem bp (a : List S91) (left : Int) (h0 : 0 ≤ left) (h1 : left ≤ 1048576) (hn : a.length ≤ 9223372036854775807) :
 laws_szCellS.f a left = some (if (a.length : Int) ≤ left then left - a.length else -1) := by
 unfold laws_szCellS.f
 rw [a2 (by omega) (by omega)]
 by_cases h : (a.length : Int) ≤ left
 ·rw [if_neg (by omega), if_pos h]
 ·rw [if_pos (by omega), if_neg h]

theorem bk (r c : Int) (a : List S91) (left : Int) (h0 : 0 ≤ left) (h1 : left ≤ 1048576) (hn : a.length ≤ 9223372036854775807) :
 laws_szBoard.f r c a left = some (if (a.length : Int) ≤ left then left - a.length else -1) := by
 unfold laws_szBoard.f
 rw [bindE (bp a left h0 h1 hn)]
 by_cases h : (a.length : Int) ≤ left
 ·rw [if_pos h, if_neg (by omega)]
 ·rw [if_neg h, if_pos (by omega)]

theorem br (a : List S89) (hn : a.length ≤ 1048576) : ∀ (d i : Nat), a.length - i = d → i ≤ a.length → Ev (fun k => laws_eqCellS.l0 k a a (i : Int)) true := by
 intro d
 induction d with
 | zero =>
  intro i hd hi
  refine a8 0 fun k _ => ?_
  simp only [laws_eqCellS.l0]
  rw [if_neg (by omega)]
 | succ d ih =>
  intro i hd hi
  have hlt : i < a.length := by omega
  refine a4 0 (ih (i + 1) (by omega) (by omega)) fun k _ => ?_
  simp only [laws_eqCellS.l0]
  rw [if_pos (by omega), if_pos (by omega), if_pos (by omega), a1 hlt (by omega)]
  simp [laws_eqCell.f]
theorem bn (a : List S89) (hn : a.length ≤ 1048576) : Ev (fun k => laws_eqCellS.f k a a) true := by
 refine aM 0 (br a hn a.length 0 (by omega) (by omega)) fun k _ => ?_
 simp only [laws_eqCellS.f, if_true]
 rfl

theorem bt (r c : Int) (a : List S89) (hn : a.length ≤ 1048576) : Ev (fun k => laws_eqBoard.f k r c a r c a) true := by
 obtain ⟨K, hK⟩ := a3 (bn a hn)
 refine ⟨K, fun k hk => ?_⟩
 simp only [laws_eqBoard.f]
 rw [if_pos trivial, if_pos trivial, bindE (hK k hk), aC]

theorem bE (a b : Int) : impl_IsCell.f a b = some (goodB a b) := by
 unfold impl_IsCell.f goodB
 by_cases h0 : a < 0
 ·rw [if_pos h0]; simp; omega
 rw [if_neg h0]
 by_cases h1 : a > 7
 ·rw [if_pos h1]; simp; omega
 rw [if_neg h1]
 by_cases h2 : b < 0
 ·rw [if_pos h2]; simp; omega
 rw [if_neg h2]
 by_cases h3 : b > 1
 ·rw [if_pos h3]; simp; omega
 rw [if_neg h3]
 by_cases h4 : b = 0
 ·rw [if_pos h4]; simp; omega
 rw [if_neg h4]
 by_cases h5 : a = 3
 ·rw [if_pos h5]; simp; omega
 rw [if_neg h5]
 by_cases h6 : a = 6
 ·simp [h6]; omega
 ·simp [h5, h6, h4]

theorem au (x : S89) : impl_IsCell.f x.f0 x.f1 = some (goodC x) := bE _ _
theorem bB (a : List S89) (hn : a.length ≤ 1048576) : ∀ (d i : Nat), a.length - i = d → i ≤ a.length →
 Ev (fun k => impl_validCells.l0 k a (a.length : Int) (i : Int)) ((a.drop i).all goodC) := by
 intro d
 induction d with
 | zero =>
  intro i hd hi
  refine a8 0 fun k _ => ?_
  simp only [impl_validCells.l0]
  rw [if_neg (by omega), List.drop_of_length_le (by omega)]
  simp
 | succ d ih =>
  intro i hd hi
  have hlt : i < a.length := by omega
  have h := ih (i + 1) (by omega) (by omega)
  rw [aB a z89 hlt, List.all_cons]
  by_cases hg : goodC (a.getD i z89) = true
  ·rw [hg, Bool.true_and]
   refine a4 0 h fun k _ => ?_
   simp only [impl_validCells.l0, rd_T89, Int.toNat_natCast, au, Option.bind_some]
   rw [if_pos (by omega), if_pos (by omega), if_pos (by omega), if_pos hg, a1 hlt (by omega)]
  ·rw [Bool.eq_false_iff.2 hg, Bool.false_and]
   refine a8 0 fun k _ => ?_
   simp only [impl_validCells.l0, rd_T89, Int.toNat_natCast, au, Option.bind_some]
   rw [if_pos (by omega), if_pos (by omega), if_pos (by omega), if_neg hg]
theorem bD (a : List S89) (hn : a.length ≤ 1048576) : Ev (fun k => impl_validCells.f k a) (a.all goodC && decide (a.length ≤ 90)) := by
 by_cases h : a.length ≤ 90
 ·rw [decide_eq_true h, Bool.and_true]
  refine aM 0 (bB a hn a.length 0 (by omega) (by omega)) fun k _ => ?_
  simp only [impl_validCells.f]
  rw [if_neg (by omega)]
  rfl
 ·rw [decide_eq_false h, Bool.and_false]
  refine cc fun k => ?_
  simp only [impl_validCells.f]
  rw [if_pos (by omega)]

theorem bl (r c : Int) (l : List S89) (hn : l.length ≤ 1048576) : Ev (fun k => impl_IsBoard.f k r c l) (a6 r c l) := by
 obtain ⟨K, hK⟩ := a3 (bD l hn)
 refine ⟨K, fun k hk => ?_⟩
 simp only [impl_IsBoard.f]
 by_cases h1 : r ≥ 1
 ·rw [if_pos h1]
  by_cases h2 : r ≤ 10
  ·rw [if_pos h2]
   by_cases h3 : c ≥ 1
   ·rw [if_pos h3]
    by_cases h4 : c ≤ 9
    ·have hm := ag h1 h2 h3 h4
     rw [if_pos h4, a2 (by omega) (by omega)]
     by_cases h5 : (l.length : Int) = r * c
     ·rw [if_pos h5, bindE (hK k hk)]
      have h6 : l.length ≤ 90 := by omega
      have h7 : 1 ≤ r := h1
      have h8 : 1 ≤ c := h3
      simp [a6, sizeB, h7, h2, h8, h4, h5, h6]
     ·rw [if_neg h5]
      simp [a6, sizeB, h5]
    ·rw [if_neg h4]
     simp [a6, sizeB, h4]
   ·rw [if_neg h3]
    have h3' : ¬ 1 ≤ c := h3
    simp [a6, sizeB, h3']
  ·rw [if_neg h2]
   simp [a6, sizeB, h2]
 ·rw [if_neg h1]
  have h1' : ¬ 1 ≤ r := h1
  simp [a6, sizeB, h1']

theorem aq (a lo hi : Int) : spec_l1In.f a lo hi = some (decide (lo ≤ a ∧ a ≤ hi)) := by
 unfold spec_l1In.f
 by_cases h : a ≥ lo
 ·rw [if_pos h]
  simp [show lo ≤ a from h]
 ·rw [if_neg h]
  simp [show ¬ lo ≤ a from h]

theorem c3 (a b : Int) : spec_paGood.f a b = some (goodB a b) := by
 unfold spec_paGood.f
 rw [aq, Option.bind_some]
 by_cases h : 0 ≤ a ∧ a ≤ 7
 ·rw [decide_eq_true h, if_pos rfl]
  by_cases h0 : b = 0
  ·rw [if_pos h0]
   simp [goodB, h, h0]
  ·rw [if_neg h0]
   by_cases h1 : b = 1
   ·rw [if_pos h1, bV, Option.bind_some]
    simp [goodB, turnB, h, h1]
   ·rw [if_neg h1]
    simp [goodB, h0, h1]
 ·rw [decide_eq_false h, if_neg (by simp)]
  simp [goodB, h]

theorem aw (x : S89) : spec_paGood.f x.f0 x.f1 = some (goodC x) := c3 _ _
theorem c5 (a : List S89) (hn : a.length ≤ 1048576) : ∀ (d i : Nat), a.length - i = d → i ≤ a.length →
 Ev (fun k => spec_boGood.l0 k a (a.length : Int) (i : Int)) ((a.drop i).all goodC) := by
 intro d
 induction d with
 | zero =>
  intro i hd hi
  refine a8 0 fun k _ => ?_
  simp only [spec_boGood.l0]
  rw [if_neg (by omega), List.drop_of_length_le (by omega)]
  simp
 | succ d ih =>
  intro i hd hi
  have hlt : i < a.length := by omega
  have h := ih (i + 1) (by omega) (by omega)
  rw [aB a z89 hlt, List.all_cons]
  by_cases hg : goodC (a.getD i z89) = true
  ·rw [hg, Bool.true_and]
   refine a4 0 h fun k _ => ?_
   simp only [spec_boGood.l0, rd_T89, Int.toNat_natCast, aw, Option.bind_some]
   rw [if_pos (by omega), if_pos (by omega), if_pos (by omega), if_pos hg, a1 hlt (by omega)]
  ·rw [Bool.eq_false_iff.2 hg, Bool.false_and]
   refine a8 0 fun k _ => ?_
   simp only [spec_boGood.l0, rd_T89, Int.toNat_natCast, aw, Option.bind_some]
   rw [if_pos (by omega), if_pos (by omega), if_pos (by omega), if_neg hg]
theorem cA (r c : Int) (l : List S89) (hn : l.length ≤ 1048576) : Ev (fun k => spec_boGood.f k r c l) (a6 r c l) := by
 obtain ⟨K, hK⟩ := a3 (c5 l hn l.length 0 (by omega) (by omega))
 refine ⟨K + 1, fun k hk => ?_⟩
 obtain ⟨k, rfl⟩ : ∃ m, k = m + 1 := ⟨k - 1, by omega⟩
 have hK' := hK k (by omega)
 simp only [spec_boGood.f, aq, Option.bind_some, spec_boGood.j0, aC]
 by_cases h1 : 1 ≤ r ∧ r ≤ 10
 ·rw [decide_eq_true h1, aC]
  by_cases h2 : 1 ≤ c ∧ c ≤ 9
  ·rw [decide_eq_true h2, aC]
   have hm := ag h1.1 h1.2 h2.1 h2.2
   rw [a2 (by omega) (by omega)]
   by_cases h5 : (l.length : Int) = r * c
   ·have h6 : ((l.length : Int) != r * c) = false := by simp [h5]
    rw [h6, if_neg (by simp)]
    refine hK'.trans ?_
    simp [a6, sizeB, h1, h2, h5]
   ·have h6 : ((l.length : Int) != r * c) = true := by simp [h5]
    rw [h6, aC]
    simp [a6, sizeB, h5]
  ·rw [decide_eq_false h2, if_neg (by simp)]
   simp [a6, sizeB, h2]
 ·rw [decide_eq_false h1, if_neg (by simp)]
  simp [a6, sizeB, h1]



theorem aj (x : S89) : impl_isGeared.f x.f0 x.f1 = some (gearB x) := by
 unfold impl_isGeared.f gearB
 by_cases h : x.f0 = 6
 ·simp [h]
 ·rw [if_neg h]
  by_cases h7 : x.f0 = 7 <;> simp [h, h7]

theorem bg (R C a : Nat) (l : List S89) (hR : R ≤ 10) (hC1 : 1 ≤ C) (hC : C ≤ 9) (ha : a < R * C) (h90 : R * C ≤ 90) : Ev (fun k => impl_besideOf.f k (R : Int) (C : Int) l (a : Int)) (castL (near R C a)) := by
 have hm := Nat.mod_lt a (show C > 0 by omega)
 have hr : a / C < R := by
  apply Nat.div_lt_of_lt_mul
  rwa [Nat.mul_comm]
 have e1 : Int.tdiv (a : Int) (C : Int) = ((a / C : Nat) : Int) := rfl
 have e2 : Int.tmod (a : Int) (C : Int) = ((a % C : Nat) : Int) := rfl
 have hsub : a / C > 0 → C ≤ a := fun h => by
  have hd := Nat.div_add_mod a C
  have : C * 1 ≤ C * (a / C) := Nat.mul_le_mul_left C h
  omega
 refine ⟨2, fun k hk => ?_⟩
 obtain ⟨k, rfl⟩ : ∃ m, k = m + 1 + 1 := ⟨k - 2, by omega⟩
 simp only [impl_besideOf.f, Option.bind_some]
 rw [e1, e2]
 clear e1 e2
 have hpa : a % C > 0 → 1 ≤ a := fun h => by
  have := Nat.mod_le a C
  omega
 unfold near
 generalize a / C = q at *
 generalize a % C = p at *
 rw [if_neg (by omega), a2 (x := (q : Int)) (by omega) (by omega)]
 have j1 : ∀ (x : List Int), x.length ≤ 2 → impl_besideOf.j1 (k + 1) (a : Int) x (q : Int) (p : Int) (R : Int) (C : Int) l = some (x ++ castL ((if p + 1 < C then [a + 1] else []) ++ (if q + 1 < R then [a + C] else []))) := by
  intro x hx
  simp only [impl_besideOf.j1]
  rw [a2 (x := (p : Int) + 1) (by omega) (by omega), a2 (x := (q : Int) + 1) (by omega) (by omega), a2 (x := (a : Int) + 1) (by omega) (by omega), a2 (x := (a : Int) + (C : Int)) (by omega) (by omega)]
  by_cases h1 : p + 1 < C
  ·rw [if_pos (by omega), if_pos (by omega), if_pos h1, Option.bind_some]
   by_cases h2 : q + 1 < R
   ·rw [if_pos (by omega), if_pos h2, if_pos (by simp; omega)]
    simp [castL]
   ·rw [if_neg (by omega), if_neg h2]
    simp [castL]
  ·rw [if_neg (by omega), if_neg h1]
   by_cases h2 : q + 1 < R
   ·rw [if_pos (by omega), if_pos h2, if_pos (by omega)]
    simp [castL]
   ·rw [if_neg (by omega), if_neg h2]
    simp [castL]
 have j0 : ∀ (x : List Int), x.length ≤ 1 → impl_besideOf.j0 (k + 1 + 1) (a : Int) x (q : Int) (p : Int) (R : Int) (C : Int) l = some (x ++ castL ((if p > 0 then [a - 1] else []) ++ ((if p + 1 < C then [a + 1] else []) ++ (if q + 1 < R then [a + C] else [])))) := by
  intro x hx
  simp only [impl_besideOf.j0]
  by_cases h1 : p > 0
  ·rw [if_pos (by omega), if_pos (by omega), if_pos h1, j1 _ (by simp; omega), a2 (x := (a : Int) - 1) (by omega) (by omega)]
   have : ((a : Int) - 1) = ((a - 1 : Nat) : Int) := by have := hpa h1; omega
   rw [this]
   simp [castL]
  ·rw [if_neg (by omega), if_neg h1, j1 _ (by omega)]
   simp [castL]
 by_cases h0 : q > 0
 ·have := hsub h0
  rw [if_pos (by omega), if_pos (by simp), if_pos h0, j0 _ (by simp), a2 (x := (a : Int) - (C : Int)) (by omega) (by omega), show (a : Int) - (C : Int) = ((a - C : Nat) : Int) by omega]
  simp [castL]
 ·rw [if_neg (by omega), if_neg h0, j0 _ (by simp)]
  simp [castL]

theorem al (l : List S89) (R C : Nat) (c : Int) (hc : 0 ≤ c) (i : Nat) (ns : List Nat) (hns : ∀ n ∈ ns, n < l.length) (h90 : l.length ≤ 90) (hns4 : ns.length ≤ 4) (res : List Int) :
 ∀ (d j : Nat) (out : List Int) (q : List Nat), ns.length - j = d → j ≤ ns.length → out.length = l.length → q.length + neg out ≤ l.length →
 Ev (fun k => impl_groupNumbers.l2 k (push l c out (ns.drop j)).1 c (castL (q ++ (push l c out (ns.drop j)).2)) l (l.length : Int) (i : Int) (R : Int) (C : Int) l) res →
 Ev (fun k => impl_groupNumbers.l3 k out c (castL q) l (l.length : Int) (i : Int) (castL ns) (ns.length : Int) (j : Int) (R : Int) (C : Int) l) res := by
 intro d
 induction d with
 | zero =>
  intro j out q hd hj ho hq hnext
  rw [List.drop_of_length_le (by omega)] at hnext
  simp only [push, List.append_nil] at hnext
  refine a4 0 hnext fun k _ => ?_
  simp only [impl_groupNumbers.l3]
  rw [if_neg (by omega)]
 | succ d ih =>
  intro j out q hd hj ho hq hnext
  have hlt : j < ns.length := by omega
  have hn : ns.getD j 0 < l.length := by
   rw [List.getD_eq_getElem?_getD, List.getElem?_eq_getElem hlt]
   exact hns _ (List.getElem_mem hlt)
  rw [aB ns 0 hlt] at hnext
  have hg := aj (l.getD (ns.getD j 0) z89)
  by_cases h : (gearB (l.getD (ns.getD j 0) z89) && decide (out.getD (ns.getD j 0) 0 < 0)) = true
  ·simp only [push, if_pos h] at hnext
   simp only [Bool.and_eq_true, decide_eq_true_eq] at h
   have hneg := ad (by omega) h.2 hc
   have h2 := ih (j + 1) (out.set (ns.getD j 0) c) (q ++ [ns.getD j 0]) (by omega) (by omega) (by simpa using ho) (by simp only [List.length_append, List.length_singleton]; omega) (by simpa [List.append_assoc] using hnext)
   refine a4 0 h2 fun k _ => ?_
   simp only [impl_groupNumbers.l3]
   rw [if_pos (by omega), if_pos (by omega), if_pos (by rw [a5]; omega), aV ns hlt, if_pos (by omega), if_pos (by omega), aD, bindE hg, if_pos h.1, if_pos (by omega), aE, if_pos h.2, if_pos (by rw [a5]; omega), a1 hlt (by omega), Int.toNat_natCast, ab]
   rfl
  ·simp only [push, if_neg h] at hnext
   have h2 := ih (j + 1) out q (by omega) (by omega) ho hq hnext
   refine a4 0 h2 fun k _ => ?_
   simp only [impl_groupNumbers.l3]
   rw [if_pos (by omega), if_pos (by omega), if_pos (by rw [a5]; omega), aV ns hlt, if_pos (by omega), if_pos (by omega), aD, bindE hg, a1 hlt (by omega)]
   by_cases h1 : gearB (l.getD (ns.getD j 0) z89) = true
   ·rw [if_pos h1, if_pos (by omega), aE, if_neg (fun h3 => h (by simp only [Bool.and_eq_true, decide_eq_true_eq]; exact ⟨h1, h3⟩))]
   ·rw [if_neg h1]
theorem ao (l : List S89) (R C : Nat) (hlen : l.length = R * C) (hR : R ≤ 10) (hC1 : 1 ≤ C) (hC : C ≤ 9) (h90 : l.length ≤ 90) (c : Int) (hc : 0 ≤ c) (i : Nat) (hi : i < l.length) (hci : c ≤ i) (res : List Int) :
 ∀ (f : Nat) (out : List Int) (q : List Nat), (∀ n ∈ q, n < l.length) → out.length = l.length → q.length + neg out ≤ l.length → q.length + neg out < f →
 Ev (fun k => impl_groupNumbers.l1 k (bfs l R C c f out q) (c + 1) l (l.length : Int) ((i + 1 : Nat) : Int) (R : Int) (C : Int) l) res →
 Ev (fun k => impl_groupNumbers.l2 k out c (castL q) l (l.length : Int) (i : Int) (R : Int) (C : Int) l) res := by
 intro f
 induction f with
 | zero => intro out q _ _ _ h; omega
 | succ f ih =>
  intro out q hq ho hm hf hnext
  cases q with
  | nil =>
   rw [bfs] at hnext
   refine a4 0 hnext fun k _ => ?_
   simp only [impl_groupNumbers.l2]
   rw [if_neg (by simp [castL]), a1 hi (by omega), a2 (x := c + 1) (by omega) (by omega)]
  | cons a q =>
   have ha : a < l.length := hq a List.mem_cons_self
   have hnl : ∀ n ∈ near R C a, n < l.length := fun n hn => by
    have := bL hC1 (by omega) n hn
    omega
   rw [bfs] at hnext
   have hp := ae l hc (near R C a) out (fun n hn => by rw [ho]; exact hnl n hn)
   simp only [List.length_cons] at hm hf
   have h2 := ih (push l c out (near R C a)).1 (q ++ (push l c out (near R C a)).2) (fun n hn => by
    rcases List.mem_append.1 hn with h | h
    ·exact hq n (List.mem_cons_of_mem _ h)
    ·exact hnl n (aW l c _ out n h)) (by rw [aJ]; exact ho) (by rw [List.length_append]; omega) (by rw [List.length_append]; omega) hnext
   have h3 := al l R C c hc i (near R C a) hnl h90 (ai R C a) res (near R C a).length 0 out q (by omega) (by omega) ho (by omega) h2
   obtain ⟨K, hK⟩ := a3 (bg R C a l hR hC1 hC (by omega) (by omega))
   refine a4 K h3 fun k hk => ?_
   simp only [impl_groupNumbers.l2]
   rw [if_pos (by rw [a5, List.length_cons]; omega), if_pos (by rw [a5, List.length_cons]; omega), if_pos (by rw [a5, List.length_cons]; omega), show rd (castL (a :: q)) 0 = (a : Int) from rfl, bindE (hK k hk), a5]
   rfl
theorem ap (l : List S89) (R C : Nat) (hlen : l.length = R * C) (hR : R ≤ 10) (hC1 : 1 ≤ C) (hC : C ≤ 9) (h90 : l.length ≤ 90) :
 ∀ (d i : Nat) (out : List Int) (c : Int), l.length - i = d → i ≤ l.length → out.length = l.length → 0 ≤ c → c ≤ i →
 Ev (fun k => impl_groupNumbers.l1 k out c l (l.length : Int) (i : Int) (R : Int) (C : Int) l) (a7 l R C d i out c) := by
 intro d
 induction d with
 | zero =>
  intro i out c hd hi ho h0 hc
  refine a8 0 fun k _ => ?_
  simp only [impl_groupNumbers.l1]
  rw [if_neg (by omega)]
  rfl
 | succ d ih =>
  intro i out c hd hi ho h0 hc
  have hlt : i < l.length := by omega
  have hg := aj (l.getD i z89)
  rw [a7]
  by_cases h : (gearB (l.getD i z89) && decide (out.getD i 0 < 0)) = true
  ·rw [if_pos h]
   simp only [Bool.and_eq_true, decide_eq_true_eq] at h
   have hneg := ad (by omega) h.2 h0
   have hle := cJ out
   have h1 := ih (i + 1) (bfs l R C c (l.length + 1) (out.set i c) [i]) (c + 1) (by omega) (by omega) (by rw [aO, List.length_set]; exact ho) (by omega) (by omega)
   have h2 := ao l R C hlen hR hC1 hC h90 c h0 i hlt hc _ (l.length + 1) (out.set i c) [i] (fun n hn => by simp at hn; omega) (by simpa using ho) (by simp only [List.length_singleton]; omega) (by simp only [List.length_singleton]; omega) h1
   obtain ⟨K, hK⟩ := a3 h2
   refine ⟨K + 2, fun k hk => ?_⟩
   obtain ⟨k, rfl⟩ : ∃ m, k = m + 1 + 1 := ⟨k - 2, by omega⟩
   simp only [impl_groupNumbers.l1]
   rw [if_pos (by omega), if_pos (by omega), if_pos (by omega), aD, bindE hg, if_pos h.1, if_pos (by omega), aE, decide_eq_false (by omega)]
   simp only [impl_groupNumbers.j2]
   rw [if_neg (by simp), if_pos (by omega), if_pos (by omega), Int.toNat_natCast]
   exact hK k (by omega)
  ·rw [if_neg h]
   obtain ⟨K, hK⟩ := a3 (ih (i + 1) out c (by omega) (by omega) ho h0 (by omega))
   refine ⟨K + 2, fun k hk => ?_⟩
   obtain ⟨k, rfl⟩ : ∃ m, k = m + 1 + 1 := ⟨k - 2, by omega⟩
   simp only [impl_groupNumbers.l1]
   rw [if_pos (by omega), if_pos (by omega), if_pos (by omega), aD, bindE hg]
   have e : impl_groupNumbers.j2 (k + 1) out c (i : Int) l (l.length : Int) (i : Int) true (R : Int) (C : Int) l = some (a7 l R C d (i + 1) out c) := by
    simp only [impl_groupNumbers.j2]
    rw [if_pos trivial, a1 hlt (by omega)]
    exact hK k (by omega)
   by_cases h1 : gearB (l.getD i z89) = true
   ·have h2 : ¬ out.getD i 0 < 0 := fun h3 => h (by simp only [Bool.and_eq_true, decide_eq_true_eq]; exact ⟨h1, h3⟩)
    rw [if_pos h1, if_pos (by omega), aE, decide_eq_true (show out.getD i 0 ≥ 0 by omega), e]
   ·rw [if_neg h1, e]
theorem am (l : List S89) (R C : Nat) (h90 : l.length ≤ 90) (res : List Int) (hnext : Ev (fun k => impl_groupNumbers.l1 k (List.replicate l.length (-1)) 0 l (l.length : Int) 0 (R : Int) (C : Int) l) res) :
 ∀ (d i : Nat), l.length - i = d → i ≤ l.length →
 Ev (fun k => impl_groupNumbers.l0 k ((List.replicate l.length (-1)).take i ++ (List.replicate l.length (0 : Int)).drop i) (l.length : Int) (i : Int) (R : Int) (C : Int) l) res := by
 intro d
 induction d with
 | zero =>
  intro i hd hi
  obtain rfl : i = l.length := by omega
  refine a4 0 hnext fun k _ => ?_
  simp only [impl_groupNumbers.l0]
  rw [if_neg (by omega), List.take_of_length_le (by simp), List.drop_of_length_le (by simp), List.append_nil]
 | succ d ih =>
  intro i hd hi
  have hlt : i < l.length := by omega
  have hm := ar (List.replicate l.length (-1 : Int)) (List.replicate l.length (0 : Int)) (-1) (n := i) (by simpa using hlt) (by simp)
  rw [show (List.replicate l.length (-1 : Int)).getD i (-1) = -1 by simp [List.getD_eq_getElem?_getD, hlt]] at hm
  refine a4 0 (ih (i + 1) (by omega) (by omega)) fun k _ => ?_
  simp only [impl_groupNumbers.l0]
  rw [if_pos (by omega), if_pos (by omega), if_pos (by simp; omega), Int.toNat_natCast, hm, a1 hlt (by omega)]
theorem an (l : List S89) (R C : Nat) (hlen : l.length = R * C) (hR : R ≤ 10) (hC1 : 1 ≤ C) (hC : C ≤ 9) (h90 : l.length ≤ 90) : Ev (fun k => impl_groupNumbers.f k (R : Int) (C : Int) l) (a9 l R C) := by
 have h1 := ap l R C hlen hR hC1 hC h90 l.length 0 (List.replicate l.length (-1)) 0 (by omega) (by omega) (by simp) (by omega) (by omega)
 have h0 := am l R C h90 _ h1 l.length 0 (by omega) (by omega)
 refine aM 0 h0 fun k _ => ?_
 simp only [impl_groupNumbers.f]
 rw [if_pos (by omega), if_pos (by omega), Option.bind_some, Int.toNat_natCast, List.length_replicate]
 simp

theorem bF (x : S89) : spec_ggGear.f x.f0 x.f1 = some (gearB x) := by
 unfold spec_ggGear.f gearB
 by_cases h : x.f0 = 6
 ·simp [h]
 ·rw [if_neg h]
  by_cases h7 : x.f0 = 7 <;> simp [h, h7]

theorem cD (R C a : Nat) (l : List S89) (hR : R ≤ 10) (hC1 : 1 ≤ C) (hC : C ≤ 9) (ha : a < R * C) (h90 : R * C ≤ 90) : Ev (fun k => spec_ggNear.f k (R : Int) (C : Int) l (a : Int)) (castL (near R C a)) := by
 have hm := Nat.mod_lt a (show C > 0 by omega)
 have hr : a / C < R := by
  apply Nat.div_lt_of_lt_mul
  rwa [Nat.mul_comm]
 have e1 : Int.tdiv (a : Int) (C : Int) = ((a / C : Nat) : Int) := rfl
 have e2 : Int.tmod (a : Int) (C : Int) = ((a % C : Nat) : Int) := rfl
 have hsub : a / C > 0 → C ≤ a := fun h => by
  have hd := Nat.div_add_mod a C
  have : C * 1 ≤ C * (a / C) := Nat.mul_le_mul_left C h
  omega
 refine ⟨2, fun k hk => ?_⟩
 obtain ⟨k, rfl⟩ : ∃ m, k = m + 1 + 1 := ⟨k - 2, by omega⟩
 simp only [spec_ggNear.f]
 rw [e1, e2]
 clear e1 e2
 have hpa : a % C > 0 → 1 ≤ a := fun h => by
  have := Nat.mod_le a C
  omega
 unfold near
 generalize a / C = q at *
 generalize a % C = p at *
 rw [if_neg (by omega), a2 (x := (q : Int)) (by omega) (by omega)]
 have j1 : ∀ (x : List Int), x.length ≤ 2 → spec_ggNear.j1 (k + 1) (a : Int) (q : Int) (p : Int) x (R : Int) (C : Int) l = some (x ++ castL ((if p + 1 < C then [a + 1] else []) ++ (if q + 1 < R then [a + C] else []))) := by
  intro x hx
  simp only [spec_ggNear.j1]
  rw [a2 (x := (p : Int) + 1) (by omega) (by omega), a2 (x := (q : Int) + 1) (by omega) (by omega), a2 (x := (a : Int) + 1) (by omega) (by omega), a2 (x := (a : Int) + (C : Int)) (by omega) (by omega)]
  by_cases h1 : p + 1 < C
  ·rw [if_pos (by omega), if_pos (by omega), if_pos h1, Option.bind_some]
   by_cases h2 : q + 1 < R
   ·rw [if_pos (by omega), if_pos h2, if_pos (by simp; omega)]
    simp [castL]
   ·rw [if_neg (by omega), if_neg h2]
    simp [castL]
  ·rw [if_neg (by omega), if_neg h1]
   by_cases h2 : q + 1 < R
   ·rw [if_pos (by omega), if_pos h2, if_pos (by omega)]
    simp [castL]
   ·rw [if_neg (by omega), if_neg h2]
    simp [castL]
 have j0 : ∀ (x : List Int), x.length ≤ 1 → spec_ggNear.j0 (k + 1 + 1) (a : Int) (q : Int) (p : Int) x (R : Int) (C : Int) l = some (x ++ castL ((if p > 0 then [a - 1] else []) ++ ((if p + 1 < C then [a + 1] else []) ++ (if q + 1 < R then [a + C] else [])))) := by
  intro x hx
  simp only [spec_ggNear.j0]
  by_cases h1 : p > 0
  ·rw [if_pos (by omega), if_pos (by omega), if_pos h1, j1 _ (by simp; omega), a2 (x := (a : Int) - 1) (by omega) (by omega)]
   have : ((a : Int) - 1) = ((a - 1 : Nat) : Int) := by have := hpa h1; omega
   rw [this]
   simp [castL]
  ·rw [if_neg (by omega), if_neg h1, j1 _ (by omega)]
   simp [castL]
 by_cases h0 : q > 0
 ·have := hsub h0
  rw [if_pos (by omega), if_pos (by simp), if_pos h0, j0 _ (by simp), a2 (x := (a : Int) - (C : Int)) (by omega) (by omega), show (a : Int) - (C : Int) = ((a - C : Nat) : Int) by omega]
  simp [castL]
 ·rw [if_neg (by omega), if_neg h0, j0 _ (by simp)]
  simp [castL]

theorem bh (l : List S89) (R C : Nat) (c : Int) (hc : 0 ≤ c) (i : Nat) (ns : List Nat) (hns : ∀ n ∈ ns, n < l.length) (h90 : l.length ≤ 90) (hns4 : ns.length ≤ 4) (x : Nat) (hx : x < l.length) (res : List Int) :
 ∀ (d j : Nat) (out : List Int) (q : List Nat), ns.length - j = d → j ≤ ns.length → out.length = l.length → q.length + neg out ≤ l.length →
 Ev (fun k => spec_ggGroups.l2 k (push l c out (ns.drop j)).1 c (castL (q ++ (push l c out (ns.drop j)).2)) ((x + 1 : Nat) : Int) l (l.length : Int) (i : Int) (R : Int) (C : Int) l) res →
 Ev (fun k => spec_ggGroups.l3 k out c (castL q) (x : Int) l (l.length : Int) (i : Int) (castL ns) (ns.length : Int) (j : Int) (R : Int) (C : Int) l) res := by
 intro d
 induction d with
 | zero =>
  intro j out q hd hj ho hq hnext
  rw [List.drop_of_length_le (by omega)] at hnext
  simp only [push, List.append_nil] at hnext
  refine a4 0 hnext fun k _ => ?_
  simp only [spec_ggGroups.l3]
  rw [if_neg (by omega), a1 hx (by omega)]
 | succ d ih =>
  intro j out q hd hj ho hq hnext
  have hlt : j < ns.length := by omega
  have hn : ns.getD j 0 < l.length := by
   rw [List.getD_eq_getElem?_getD, List.getElem?_eq_getElem hlt]
   exact hns _ (List.getElem_mem hlt)
  rw [aB ns 0 hlt] at hnext
  have hg := bF (l.getD (ns.getD j 0) z89)
  by_cases h : (gearB (l.getD (ns.getD j 0) z89) && decide (out.getD (ns.getD j 0) 0 < 0)) = true
  ·simp only [push, if_pos h] at hnext
   simp only [Bool.and_eq_true, decide_eq_true_eq] at h
   have hneg := ad (by omega) h.2 hc
   have h2 := ih (j + 1) (out.set (ns.getD j 0) c) (q ++ [ns.getD j 0]) (by omega) (by omega) (by simpa using ho) (by simp only [List.length_append, List.length_singleton]; omega) (by simpa [List.append_assoc] using hnext)
   refine a4 0 h2 fun k _ => ?_
   simp only [spec_ggGroups.l3]
   rw [if_pos (by omega), if_pos (by omega), if_pos (by rw [a5]; omega), aV ns hlt, if_pos (by omega), if_pos (by omega), aD, bindE hg, if_pos h.1, if_pos (by omega), aE, if_pos h.2, if_pos (by rw [a5]; omega), a1 hlt (by omega), Int.toNat_natCast, ab]
   rfl
  ·simp only [push, if_neg h] at hnext
   have h2 := ih (j + 1) out q (by omega) (by omega) ho hq hnext
   refine a4 0 h2 fun k _ => ?_
   simp only [spec_ggGroups.l3]
   rw [if_pos (by omega), if_pos (by omega), if_pos (by rw [a5]; omega), aV ns hlt, if_pos (by omega), if_pos (by omega), aD, bindE hg, a1 hlt (by omega)]
   by_cases h1 : gearB (l.getD (ns.getD j 0) z89) = true
   ·rw [if_pos h1, if_pos (by omega), aE, if_neg (fun h3 => h (by simp only [Bool.and_eq_true, decide_eq_true_eq]; exact ⟨h1, h3⟩))]
   ·rw [if_neg h1]
theorem bX (l : List S89) (R C : Nat) (hlen : l.length = R * C) (hR : R ≤ 10) (hC1 : 1 ≤ C) (hC : C ≤ 9) (h90 : l.length ≤ 90) (c : Int) (hc : 0 ≤ c) (i : Nat) (hi : i < l.length) (hci : c ≤ i) (res : List Int) :
 ∀ (f : Nat) (out : List Int) (q : List Nat) (x : Nat), (∀ n ∈ q, n < l.length) → out.length = l.length → x ≤ q.length → q.length + neg out ≤ l.length → q.length - x + neg out < f →
 Ev (fun k => spec_ggGroups.l1 k (bfs l R C c f out (q.drop x)) (c + 1) l (l.length : Int) ((i + 1 : Nat) : Int) (R : Int) (C : Int) l) res →
 Ev (fun k => spec_ggGroups.l2 k out c (castL q) (x : Int) l (l.length : Int) (i : Int) (R : Int) (C : Int) l) res := by
 intro f
 induction f with
 | zero => intro out q x _ _ _ _ h; omega
 | succ f ih =>
  intro out q x hq ho hx hm hf hnext
  by_cases hxl : x < q.length
  ·have ha : q.getD x 0 < l.length := by
    rw [List.getD_eq_getElem?_getD, List.getElem?_eq_getElem hxl]
    exact hq _ (List.getElem_mem hxl)
   rw [aB q 0 hxl, bfs] at hnext
   generalize hae : q.getD x 0 = a at *
   have hnl : ∀ n ∈ near R C a, n < l.length := fun n hn => by
    have := bL hC1 (by omega) n hn
    omega
   have hp := ae l hc (near R C a) out (fun n hn => by rw [ho]; exact hnl n hn)
   have h2 := ih (push l c out (near R C a)).1 (q ++ (push l c out (near R C a)).2) (x + 1) (fun n hn => by
    rcases List.mem_append.1 hn with h | h
    ·exact hq n h
    ·exact hnl n (aW l c _ out n h)) (by rw [aJ]; exact ho) (by rw [List.length_append]; omega) (by rw [List.length_append]; omega) (by rw [List.length_append]; omega) (by rw [List.drop_append_of_le_length (by omega)]; exact hnext)
   have h3 := bh l R C c hc i (near R C a) hnl h90 (ai R C a) x (by omega) res (near R C a).length 0 out q (by omega) (by omega) ho (by omega) h2
   obtain ⟨K, hK⟩ := a3 (cD R C a l hR hC1 hC (by omega) (by omega))
   refine a4 K h3 fun k hk => ?_
   simp only [spec_ggGroups.l2]
   rw [if_pos (by rw [a5]; omega), if_pos (by omega), aV q hxl, hae, bindE (hK k hk), a5]
   rfl
  ·rw [List.drop_of_length_le (by omega), bfs] at hnext
   refine a4 0 hnext fun k _ => ?_
   simp only [spec_ggGroups.l2]
   rw [if_neg (by rw [a5]; omega), a1 hi (by omega), a2 (x := c + 1) (by omega) (by omega)]
theorem bc (l : List S89) (R C : Nat) (hlen : l.length = R * C) (hR : R ≤ 10) (hC1 : 1 ≤ C) (hC : C ≤ 9) (h90 : l.length ≤ 90) :
 ∀ (d i : Nat) (out : List Int) (c : Int), l.length - i = d → i ≤ l.length → out.length = l.length → 0 ≤ c → c ≤ i →
 Ev (fun k => spec_ggGroups.l1 k out c l (l.length : Int) (i : Int) (R : Int) (C : Int) l) (a7 l R C d i out c) := by
 intro d
 induction d with
 | zero =>
  intro i out c hd hi ho h0 hc
  refine a8 0 fun k _ => ?_
  simp only [spec_ggGroups.l1]
  rw [if_neg (by omega)]
  rfl
 | succ d ih =>
  intro i out c hd hi ho h0 hc
  have hlt : i < l.length := by omega
  have hg := bF (l.getD i z89)
  rw [a7]
  by_cases h : (gearB (l.getD i z89) && decide (out.getD i 0 < 0)) = true
  ·rw [if_pos h]
   simp only [Bool.and_eq_true, decide_eq_true_eq] at h
   have hneg := ad (by omega) h.2 h0
   have hle := cJ out
   have h1 := ih (i + 1) (bfs l R C c (l.length + 1) (out.set i c) [i]) (c + 1) (by omega) (by omega) (by rw [aO, List.length_set]; exact ho) (by omega) (by omega)
   have h2 := bX l R C hlen hR hC1 hC h90 c h0 i hlt hc _ (l.length + 1) (out.set i c) [i] 0 (fun n hn => by simp at hn; omega) (by simpa using ho) (by omega) (by simp only [List.length_singleton]; omega) (by simp only [List.length_singleton]; omega) h1
   obtain ⟨K, hK⟩ := a3 h2
   refine ⟨K + 2, fun k hk => ?_⟩
   obtain ⟨k, rfl⟩ : ∃ m, k = m + 1 + 1 := ⟨k - 2, by omega⟩
   simp only [spec_ggGroups.l1]
   rw [if_pos (by omega), if_pos (by omega), if_pos (by omega), aD, bindE hg, if_pos h.1, if_pos (by omega), aE, decide_eq_false (by omega)]
   simp only [spec_ggGroups.j2]
   rw [if_neg (by simp), if_pos (by omega), if_pos (by omega), Int.toNat_natCast]
   exact hK k (by omega)
  ·rw [if_neg h]
   obtain ⟨K, hK⟩ := a3 (ih (i + 1) out c (by omega) (by omega) ho h0 (by omega))
   refine ⟨K + 2, fun k hk => ?_⟩
   obtain ⟨k, rfl⟩ : ∃ m, k = m + 1 + 1 := ⟨k - 2, by omega⟩
   simp only [spec_ggGroups.l1]
   rw [if_pos (by omega), if_pos (by omega), if_pos (by omega), aD, bindE hg]
   have e : spec_ggGroups.j2 (k + 1) out c (i : Int) l (l.length : Int) (i : Int) true (R : Int) (C : Int) l = some (a7 l R C d (i + 1) out c) := by
    simp only [spec_ggGroups.j2]
    rw [if_pos trivial, a1 hlt (by omega)]
    exact hK k (by omega)
   by_cases h1 : gearB (l.getD i z89) = true
   ·have h2 : ¬ out.getD i 0 < 0 := fun h3 => h (by simp only [Bool.and_eq_true, decide_eq_true_eq]; exact ⟨h1, h3⟩)
    rw [if_pos h1, if_pos (by omega), aE, decide_eq_true (show out.getD i 0 ≥ 0 by omega), e]
   ·rw [if_neg h1, e]
theorem bi (l : List S89) (R C : Nat) (h90 : l.length ≤ 90) (res : List Int) (hnext : Ev (fun k => spec_ggGroups.l1 k (List.replicate l.length (-1)) 0 l (l.length : Int) 0 (R : Int) (C : Int) l) res) :
 ∀ (d i : Nat), l.length - i = d → i ≤ l.length →
 Ev (fun k => spec_ggGroups.l0 k ((List.replicate l.length (-1)).take i ++ (List.replicate l.length (0 : Int)).drop i) (l.length : Int) (i : Int) (R : Int) (C : Int) l) res := by
 intro d
 induction d with
 | zero =>
  intro i hd hi
  obtain rfl : i = l.length := by omega
  refine a4 0 hnext fun k _ => ?_
  simp only [spec_ggGroups.l0]
  rw [if_neg (by omega), List.take_of_length_le (by simp), List.drop_of_length_le (by simp), List.append_nil]
 | succ d ih =>
  intro i hd hi
  have hlt : i < l.length := by omega
  have hm := ar (List.replicate l.length (-1 : Int)) (List.replicate l.length (0 : Int)) (-1) (n := i) (by simpa using hlt) (by simp)
  rw [show (List.replicate l.length (-1 : Int)).getD i (-1) = -1 by simp [List.getD_eq_getElem?_getD, hlt]] at hm
  refine a4 0 (ih (i + 1) (by omega) (by omega)) fun k _ => ?_
  simp only [spec_ggGroups.l0]
  rw [if_pos (by omega), if_pos (by omega), if_pos (by simp; omega), Int.toNat_natCast, hm, a1 hlt (by omega)]
theorem ba (l : List S89) (R C : Nat) (hlen : l.length = R * C) (hR : R ≤ 10) (hC1 : 1 ≤ C) (hC : C ≤ 9) (h90 : l.length ≤ 90) : Ev (fun k => spec_ggGroups.f k (R : Int) (C : Int) l) (a9 l R C) := by
 have h1 := bc l R C hlen hR hC1 hC h90 l.length 0 (List.replicate l.length (-1)) 0 (by omega) (by omega) (by simp) (by omega) (by omega)
 have h0 := bi l R C h90 _ h1 l.length 0 (by omega) (by omega)
 refine aM 0 h0 fun k _ => ?_
 simp only [spec_ggGroups.f]
 rw [if_pos (by omega), if_pos (by omega), Option.bind_some, Int.toNat_natCast, List.length_replicate]
 simp

theorem aS (out : List Int) (n j : Nat) (v : Int) : (out.set n v).getD j 0 = if n = j ∧ n < out.length then v else out.getD j 0 := by
 rw [List.getD_eq_getElem?_getD, List.getD_eq_getElem?_getD, List.getElem?_set]
 by_cases h : n = j
 ·subst h
  by_cases hl : n < out.length
  ·simp [hl]
  ·simp [hl]
 ·simp [h]
structure Marked (l : List S89) (c : Int) (out : List Int) : Prop where
 len : out.length = l.length
 lo : ∀ j, j < l.length → -1 ≤ out.getD j 0
 hi : ∀ j, j < l.length → out.getD j 0 < c
 ng : ∀ j, j < l.length → gearB (l.getD j z89) = false → out.getD j 0 < 0
theorem b0 {l : List S89} {c : Int} {out : List Int} (h : Marked l (c + 1) out) (hc : 0 ≤ c) {n : Nat} (hn : n < l.length) (hg : gearB (l.getD n z89) = true) : Marked l (c + 1) (out.set n c) := by
 refine ⟨by rw [List.length_set]; exact h.len, fun j hj => ?_, fun j hj => ?_, fun j hj hf => ?_⟩
 ·rw [aS]
  split
  ·omega
  ·exact h.lo j hj
 ·rw [aS]
  split
  ·omega
  ·exact h.hi j hj
 ·rw [aS]
  split
  ·rename_i e
   rw [e.1, hf] at hg
   cases hg
  ·exact h.ng j hj hf
theorem aT {l : List S89} {c : Int} (hc : 0 ≤ c) : ∀ (ns : List Nat) (out : List Int), (∀ n ∈ ns, n < l.length) → Marked l (c + 1) out → Marked l (c + 1) (push l c out ns).1 ∧ ∀ j, 0 ≤ out.getD j 0 → 0 ≤ (push l c out ns).1.getD j 0
 | [], out, _, h => ⟨h, fun _ h => h⟩
 | n :: ns, out, hns, h => by
  have hns' : ∀ m ∈ ns, m < l.length := fun m hm => hns m (List.mem_cons_of_mem _ hm)
  unfold push
  split
  ·rename_i hg
   simp only [Bool.and_eq_true, decide_eq_true_eq] at hg
   obtain ⟨h1, h2⟩ := aT hc ns (out.set n c) hns' (b0 h hc (hns n List.mem_cons_self) hg.1)
   refine ⟨h1, fun j hj => h2 j ?_⟩
   rw [aS]
   split
   ·exact hc
   ·exact hj
  ·exact aT hc ns out hns' h
theorem bA {l : List S89} {R C : Nat} (hlen : l.length = R * C) (hC : 1 ≤ C) {c : Int} (hc : 0 ≤ c) : ∀ (f : Nat) (out : List Int) (q : List Nat), (∀ n ∈ q, n < l.length) → Marked l (c + 1) out → Marked l (c + 1) (bfs l R C c f out q) ∧ ∀ j, 0 ≤ out.getD j 0 → 0 ≤ (bfs l R C c f out q).getD j 0
 | 0, out, _, _, h => ⟨h, fun _ h => h⟩
 | _ + 1, out, [], _, h => ⟨h, fun _ h => h⟩
 | f + 1, out, a :: q, hq, h => by
  have hnl : ∀ n ∈ near R C a, n < l.length := fun n hn => by
   have := bL hC (by rw [← hlen]; exact hq a List.mem_cons_self) n hn
   omega
  obtain ⟨h1, h2⟩ := aT hc (near R C a) out hnl h
  obtain ⟨h3, h4⟩ := bA hlen hC hc f (push l c out (near R C a)).1 (q ++ (push l c out (near R C a)).2) (fun n hn => by
   rcases List.mem_append.1 hn with h | h
   ·exact hq n (List.mem_cons_of_mem _ h)
   ·exact hnl n (aW l c _ out n h)) h1
  exact ⟨h3, fun j hj => h4 j (h2 j hj)⟩
theorem aU {l : List S89} {c c' : Int} {out : List Int} (h : Marked l c out) (hc : c ≤ c') : Marked l c' out := ⟨h.len, h.lo, fun j hj => by have := h.hi j hj; omega, h.ng⟩
theorem aH {l : List S89} {R C : Nat} (hlen : l.length = R * C) (hC : 1 ≤ C) : ∀ (d i : Nat) (out : List Int) (c : Int), i + d = l.length → 0 ≤ c → Marked l c out → (∀ j, j < i → gearB (l.getD j z89) = true → 0 ≤ out.getD j 0) →
 Marked l (c + d) (a7 l R C d i out c) ∧ ∀ j, j < l.length → gearB (l.getD j z89) = true → 0 ≤ (a7 l R C d i out c).getD j 0
 | 0, i, out, c, hi, _, h, hd => ⟨by simpa [a7] using h, fun j hj => hd j (by omega)⟩
 | d + 1, i, out, c, hi, hc, h, hd => by
  unfold a7
  split
  ·rename_i hg
   simp only [Bool.and_eq_true, decide_eq_true_eq] at hg
   have hs := b0 (aU h (show c ≤ c + 1 by omega)) hc (show i < l.length by omega) hg.1
   obtain ⟨h1, h2⟩ := bA hlen hC hc (l.length + 1) (out.set i c) [i] (fun n hn => by simp at hn; omega) hs
   have e : out.getD i 0 < 0 := hg.2
   obtain ⟨h3, h4⟩ := aH hlen hC d (i + 1) (bfs l R C c (l.length + 1) (out.set i c) [i]) (c + 1) (by omega) (by omega) h1 (fun j hj hgj => h2 j (by
    rw [aS]
    split
    ·exact hc
    ·rename_i hne
     have : j ≠ i := fun e => hne ⟨e.symm, by rw [h.len]; omega⟩
     exact hd j (by omega) hgj))
   exact ⟨aU h3 (by omega), h4⟩
  ·rename_i hg
   obtain ⟨h3, h4⟩ := aH hlen hC d (i + 1) out c (by omega) hc h (fun j hj hgj => by
    by_cases e : j = i
    ·subst e
     simp only [Bool.and_eq_true, decide_eq_true_eq, hgj, true_and] at hg
     omega
    ·exact hd j (by omega) hgj)
   exact ⟨aU h3 (by omega), h4⟩
theorem ak {l : List S89} {R C : Nat} (hlen : l.length = R * C) (hC : 1 ≤ C) : Marked l l.length (a9 l R C) ∧ ∀ j, j < l.length → gearB (l.getD j z89) = true → 0 ≤ (a9 l R C).getD j 0 := by
 have e : ∀ j, j < l.length → (List.replicate l.length (-1 : Int)).getD j 0 = -1 := fun j hj => by simp [List.getD_eq_getElem?_getD, hj]
 have h : Marked l 0 (List.replicate l.length (-1)) := ⟨by simp, fun j hj => by rw [e j hj]; omega, fun j hj => by rw [e j hj]; omega, fun j hj _ => by rw [e j hj]; omega⟩
 obtain ⟨h1, h2⟩ := aH hlen hC l.length 0 (List.replicate l.length (-1)) 0 (by omega) (by omega) h (fun j hj => by omega)
 exact ⟨by simpa [a9] using h1, h2⟩
theorem cZ {l : List S89} {R C : Nat} (hlen : l.length = R * C) (hC : 1 ≤ C) {j : Nat} (hj : j < l.length) : decide ((a9 l R C).getD j 0 < 0) = !gearB (l.getD j z89) := by
 obtain ⟨h1, h2⟩ := ak hlen hC
 cases hg : gearB (l.getD j z89)
 ·simpa using h1.ng j hj hg
 ·simpa using h2 j hj hg

theorem ah {r c : Int} {l : List S89} (b : Brd r c l) : Ev (fun k => impl_groupNumbers.f k r c l) (a9 l r.toNat c.toNat) ∧ Ev (fun k => spec_ggGroups.f k r c l) (a9 l r.toNat c.toNat) := by
 have b9 := b.le
 obtain ⟨R, C, rfl, rfl, hlen, _, hR, hC1, hC⟩ := af b
 exact ⟨an l R C hlen hR hC1 hC b9, ba l R C hlen hR hC1 hC b9⟩
theorem cf {r c : Int} {l : List S89} (b : Brd r c l) : l.length = r.toNat * c.toNat ∧ 1 ≤ c.toNat := by
 obtain ⟨R, C, rfl, rfl, hlen, _, hR, hC1, hC⟩ := af b
 exact ⟨hlen, hC1⟩

theorem aa {l : List S89} (hl : l.all goodC = true) {i : Nat} (h : i < l.length) : goodB (l.getD i z89).f0 (l.getD i z89).f1 = true := by
 rw [List.getD_eq_getElem?_getD, List.getElem?_eq_getElem h]
 exact List.all_eq_true.1 hl _ (List.getElem_mem h)

theorem ay {x : S89} (h : goodC x = true) (h36 : x.f0 = 3 ∨ x.f0 = 6) : goodC (turn1 x) = true := by
 have h := aP h
 have e : turn1 x = ⟨x.f0, wrap64 (1 - x.f1)⟩ := rfl
 rw [e]
 have hb : x.f1 = 0 ∨ x.f1 = 1 := by omega
 rcases hb with hb | hb <;> rcases h36 with ha | ha <;> rw [ha, hb] <;> first | (rw [show wrap64 (1 - 0) = 1 by decide +kernel]; rfl) | (rw [show wrap64 (1 - 1) = 0 by decide +kernel]; rfl)
theorem az {l : List S89} (hl : l.all goodC = true) {i : Nat} (h : i < l.length) : goodC (l.getD i z89) = true := by
 rw [List.getD_eq_getElem?_getD, List.getElem?_eq_getElem h]
 exact List.all_eq_true.1 hl _ (List.getElem_mem h)
theorem aN {G : List Int} {l : List S89} {n : Nat} (hn : n < l.length) (hl : l.all goodC = true) : (passL G l n).all goodC = true := by
 unfold passL
 split
 ·rename_i h3
  rw [List.all_eq_true]
  intro x hx
  rcases List.mem_or_eq_of_mem_set hx with h | h
  ·exact List.all_eq_true.1 hl x h
  ·rw [h]
   exact ay (az hl hn) (.inl h3)
 ·split
  ·rw [List.all_eq_true]
   intro x hx
   simp only [turnL, List.mem_map, List.mem_range] at hx
   obtain ⟨j, hj, rfl⟩ := hx
   unfold aI
   split
   ·rename_i h
    simp only [Bool.and_eq_true, decide_eq_true_eq] at h
    exact ay (az hl hj) (.inr h.1)
   ·exact az hl hj
  ·exact hl

def aA (a b side : Int) : Int := if a = 1 then -1 else if a = 2 then 1 else if a = 3 ∨ a = 6 then 2 * b - 1 else if a = 4 then -side else 0
def goesB (a b side : Int) : Bool := goodB a b && decide (-1 ≤ side ∧ side ≤ 1) && decide (a ≠ 5)
theorem c7 (k : Nat) (a b side : Int) : impl_GoesTo.f (k + 2) a b side = some (if goesB a b side = true then (aA a b side, true) else (0, false)) := by
 simp only [impl_GoesTo.f, bE, Option.bind_some]
 by_cases h : goodB a b = true
 ·rw [if_pos h]
  by_cases h1 : side < -1
  ·rw [if_pos h1]
   simp [impl_GoesTo.j0, goesB]
   omega
  rw [if_neg h1]
  by_cases h2 : side > 1
  ·rw [if_pos h2]
   simp [impl_GoesTo.j0, goesB]
   omega
  rw [if_neg h2]
  have hs : side = -1 ∨ side = 0 ∨ side = 1 := by omega
  rcases aP h with ⟨rfl, rfl⟩ | ⟨rfl, rfl⟩ | ⟨rfl, rfl⟩ | ⟨rfl, rfl⟩ | ⟨rfl, rfl⟩ | ⟨rfl, rfl⟩ | ⟨rfl, rfl⟩ | ⟨rfl, rfl⟩ | ⟨rfl, rfl⟩ | ⟨rfl, rfl⟩ <;>
   rcases hs with rfl | rfl | rfl <;> simp [impl_GoesTo.j0, impl_GoesTo.j1, goesB, aA, goodB, bx, cL, cM, cH]
 ·rw [if_neg h]
  simp [impl_GoesTo.j0, goesB, h]

def fallG (G : List Int) (R C : Nat) : Nat → Nat → Nat → Int → List S89 → Int × Int × Int × List Nat × List S89
 | 0, _, j, _, l => (1, (R : Int), (j : Int), [], l)
 | d + 1, i, j, s, l =>
  if (l.getD (i * C + j) z89).f0 = 5 then (2, (i : Int), (j : Int), [i * C + j], l)
  else if 0 ≤ (j : Int) + aA (l.getD (i * C + j) z89).f0 (l.getD (i * C + j) z89).f1 s ∧ (j : Int) + aA (l.getD (i * C + j) z89).f0 (l.getD (i * C + j) z89).f1 s < (C : Int) then
   ((fallG G R C d (i + 1) ((j : Int) + aA (l.getD (i * C + j) z89).f0 (l.getD (i * C + j) z89).f1 s).toNat (-(aA (l.getD (i * C + j) z89).f0 (l.getD (i * C + j) z89).f1 s)) (passL G l (i * C + j))).1,
    (fallG G R C d (i + 1) ((j : Int) + aA (l.getD (i * C + j) z89).f0 (l.getD (i * C + j) z89).f1 s).toNat (-(aA (l.getD (i * C + j) z89).f0 (l.getD (i * C + j) z89).f1 s)) (passL G l (i * C + j))).2.1,
    (fallG G R C d (i + 1) ((j : Int) + aA (l.getD (i * C + j) z89).f0 (l.getD (i * C + j) z89).f1 s).toNat (-(aA (l.getD (i * C + j) z89).f0 (l.getD (i * C + j) z89).f1 s)) (passL G l (i * C + j))).2.2.1,
    (i * C + j) :: (fallG G R C d (i + 1) ((j : Int) + aA (l.getD (i * C + j) z89).f0 (l.getD (i * C + j) z89).f1 s).toNat (-(aA (l.getD (i * C + j) z89).f0 (l.getD (i * C + j) z89).f1 s)) (passL G l (i * C + j))).2.2.2.1,
    (fallG G R C d (i + 1) ((j : Int) + aA (l.getD (i * C + j) z89).f0 (l.getD (i * C + j) z89).f1 s).toNat (-(aA (l.getD (i * C + j) z89).f0 (l.getD (i * C + j) z89).f1 s)) (passL G l (i * C + j))).2.2.2.2)
  else (3, (i : Int), (j : Int) + aA (l.getD (i * C + j) z89).f0 (l.getD (i * C + j) z89).f1 s, [i * C + j], passL G l (i * C + j))
theorem aZ {a b s : Int} (h : goodB a b = true) (hs : -1 ≤ s ∧ s ≤ 1) : -1 ≤ aA a b s ∧ aA a b s ≤ 1 := by
 unfold aA
 rcases aP h with ⟨rfl, rfl⟩ | ⟨rfl, rfl⟩ | ⟨rfl, rfl⟩ | ⟨rfl, rfl⟩ | ⟨rfl, rfl⟩ | ⟨rfl, rfl⟩ | ⟨rfl, rfl⟩ | ⟨rfl, rfl⟩ | ⟨rfl, rfl⟩ | ⟨rfl, rfl⟩ <;> simp <;> omega
theorem bw {a b s : Int} (h : goodB a b = true) (hs : -1 ≤ s ∧ s ≤ 1) : goesB a b s = decide (a ≠ 5) := by
 unfold goesB
 rw [h, decide_eq_true hs]
 rfl
theorem bU (G : List Int) (R C : Nat) : ∀ (d i j : Nat) (s : Int) (l : List S89), (fallG G R C d i j s l).2.2.2.2.length = l.length := by
 intro d
 induction d with
 | zero => intro i j s l; rfl
 | succ d ih =>
  intro i j s l
  unfold fallG
  split
  ·rfl
  ·split
   ·simp only [ih, aF]
   ·simp only [aF]
theorem bG (G : List Int) (R C : Nat) : ∀ (d i j : Nat) (s : Int) (l : List S89), (fallG G R C d i j s l).2.2.2.1.length ≤ d := by
 intro d
 induction d with
 | zero => intro i j s l; exact Nat.le_refl _
 | succ d ih =>
  intro i j s l
  unfold fallG
  split
  ·simp
  ·split
   ·simp only [List.length_cons]
    have := ih (i + 1) ((j : Int) + aA (l.getD (i * C + j) z89).f0 (l.getD (i * C + j) z89).f1 s).toNat (-(aA (l.getD (i * C + j) z89).f0 (l.getD (i * C + j) z89).f1 s)) (passL G l (i * C + j))
    omega
   ·simp
theorem bm (G : List Int) {R C : Nat} : ∀ (d i j : Nat) (s : Int) (l : List S89), i + d = R → j < C → l.length = R * C → l.all goodC = true → -1 ≤ s ∧ s ≤ 1 →
 (fallG G R C d i j s l).2.2.2.2.all goodC = true ∧ ∀ n ∈ (fallG G R C d i j s l).2.2.2.1, n < R * C := by
 intro d
 induction d with
 | zero =>
  intro i j s l _ _ _ hl _
  exact ⟨hl, fun n hn => by simp [fallG] at hn⟩
 | succ d ih =>
  intro i j s l hi hj hlen hl hs
  have hin : i * C + j < R * C := b8 (by omega) hj
  have hlt : i * C + j < l.length := by omega
  have hb := aZ (aa hl hlt) hs
  unfold fallG
  split
  ·exact ⟨hl, fun n hn => by simp only [List.mem_singleton] at hn; omega⟩
  ·split
   ·rename_i h
    have h2 := ih (i + 1) ((j : Int) + aA (l.getD (i * C + j) z89).f0 (l.getD (i * C + j) z89).f1 s).toNat (-(aA (l.getD (i * C + j) z89).f0 (l.getD (i * C + j) z89).f1 s)) (passL G l (i * C + j)) (by omega) (by omega) (by rw [aF]; exact hlen) (aN hlt hl) (by omega)
    refine ⟨h2.1, fun n hn => ?_⟩
    simp only [List.mem_cons] at hn
    rcases hn with rfl | hn
    ·exact hin
    ·exact h2.2 n hn
   ·exact ⟨aN hlt hl, fun n hn => by simp only [List.mem_singleton] at hn; omega⟩

theorem bR (r c : Int) (G : List Int) (l : List S89) (hG : G.length = l.length) (a : Nat) (ha : a < l.length) (hn : l.length ≤ 1048576) : ∀ (d i : Nat), l.length - i = d → i ≤ l.length →
 Ev (fun k => impl_turnGroup.l0 k G (a : Int) (l.length : Int) (i : Int) r c ((turnL G (G.getD a 0) l).take i ++ l.drop i)) (turnL G (G.getD a 0) l) := by
 have hT := aQ G (G.getD a 0) l
 intro d
 induction d with
 | zero =>
  intro i hd hi
  refine a8 0 fun k _ => ?_
  simp only [impl_turnGroup.l0]
  rw [if_neg (by omega), List.take_of_length_le (by omega), List.drop_of_length_le (by omega), List.append_nil]
 | succ d ih =>
  intro i hd hi
  have hlt : i < l.length := by omega
  have hget := bd (turnL G (G.getD a 0) l) l z89 (n := i) (by omega) hT
  have hml := av (turnL G (G.getD a 0) l) l (n := i) (by omega) hT
  have hTi := b7 G (G.getD a 0) l hlt
  have h2 := ih (i + 1) (by omega) (by omega)
  have same : aI G (G.getD a 0) l i = l.getD i z89 → (turnL G (G.getD a 0) l).take i ++ l.drop i = (turnL G (G.getD a 0) l).take (i + 1) ++ l.drop (i + 1) := fun h => bW _ l z89 (by omega) hT (hTi.trans h)
  refine a4 0 h2 fun k _ => ?_
  simp only [impl_turnGroup.l0]
  rw [if_pos (by omega), if_pos (by omega), if_pos (by omega), aD, hget, aE, aE, a1 hlt (by omega)]
  by_cases h6 : (l.getD i z89).f0 = 6
  ·rw [if_pos h6, if_pos (by omega), if_pos (by omega), if_pos (by omega)]
   by_cases hg : G.getD i 0 = G.getD a 0
   ·rw [if_pos hg, Int.toNat_natCast]
    have e : aI G (G.getD a 0) l i = turn1 (l.getD i z89) := by
     unfold aI
     rw [if_pos (by simp only [Bool.and_eq_true, decide_eq_true_eq]; exact ⟨h6, hg⟩)]
    rw [show (⟨(l.getD i z89).f0, wrap64 (1 - (l.getD i z89).f1)⟩ : S89) = (turnL G (G.getD a 0) l).getD i z89 from (hTi.trans e).symm, ar _ l z89 (by omega) hT]
   ·rw [if_neg hg, same (by unfold aI; rw [if_neg (by simp only [Bool.and_eq_true, decide_eq_true_eq]; exact fun h => hg h.2)])]
  ·rw [if_neg h6, same (by unfold aI; rw [if_neg (by simp only [Bool.and_eq_true, decide_eq_true_eq]; exact fun h => h6 h.1)])]
theorem bI (r c : Int) (G : List Int) (l : List S89) (hG : G.length = l.length) (a : Nat) (ha : a < l.length) (hn : l.length ≤ 1048576) : Ev (fun k => impl_turnGroup.f k r c l G (a : Int)) (turnL G (G.getD a 0) l) :=
 bR r c G l hG a ha hn l.length 0 (by omega) (by omega)

theorem cX (G : List Int) {R C : Nat} (hG : G.length = R * C) (hR : R ≤ 10) (hC : C ≤ 9) : ∀ (d i j : Nat) (s : Int) (l : List S89) (acc : List Int), i + d = R → j < C → l.length = R * C → l.all goodC = true → -1 ≤ s ∧ s ≤ 1 → acc.length + d ≤ 1000 →
 Ev (fun k => impl_drop.l0 k G (j : Int) acc s (i : Int) (R : Int) (C : Int) l) ((fallG G R C d i j s l).1, (fallG G R C d i j s l).2.1, (fallG G R C d i j s l).2.2.1, acc ++ castL (fallG G R C d i j s l).2.2.2.1, (fallG G R C d i j s l).2.2.2.2) := by
 intro d
 induction d with
 | zero =>
  intro i j s l acc hi hj hlen hl hs ha
  refine a8 0 fun k _ => ?_
  simp only [impl_drop.l0]
  rw [if_neg (by omega)]
  simp [fallG, castL]
 | succ d ih =>
  intro i j s l acc hi hj hlen hl hs ha
  have hin : i * C + j < R * C := b8 (by omega) hj
  have hlt : i * C + j < l.length := by omega
  have h90 : R * C ≤ 90 := Nat.le_trans (Nat.mul_le_mul hR hC) (by decide)
  have hb := aZ (aa hl hlt) hs
  have hok := bw (aa hl hlt) hs
  have ew : Hid (wrap64 (wrap64 ((i : Int) * (C : Int)) + (j : Int)) = ((i * C + j : Nat) : Int)) := ⟨bj (by omega)⟩
  have hGo := fun k => c7 k (l.getD (i * C + j) z89).f0 (l.getD (i * C + j) z89).f1 s
  rw [hok] at hGo
  generalize hn : i * C + j = n at hin hlt hb hok ew hGo
  have q1 : (i : Int) < (R : Int) := by omega
  have q2 : acc.length < 17592186044416 := by omega
  have q3 : (0 : Int) ≤ (n : Int) := by omega
  have q4 : (n : Int) < (l.length : Int) := by omega
  unfold fallG
  simp only [hn]
  by_cases h5 : (l.getD n z89).f0 = 5
  ·rw [decide_eq_false (fun h => h h5)] at hGo
   refine a8 3 fun k hk => ?_
   obtain ⟨k, rfl⟩ : ∃ q, k = q + 2 := ⟨k - 2, by omega⟩
   simp only [impl_drop.l0]
   rw [ew.out, aD, if_pos q1, if_pos q2, Option.bind_some, if_pos q3, if_pos q4, bindE (hGo k), if_neg (by simp), if_pos h5]
   simp [castL]
  ·rw [if_neg h5]
   rw [decide_eq_true h5, if_pos rfl] at hGo
   generalize hg : aA (l.getD n z89).f0 (l.getD n z89).f1 s = g at hb hGo
   have eg : Hid (wrap64 ((j : Int) + g) = (j : Int) + g) := ⟨a2 (by omega) (by omega)⟩
   have en : Hid (wrap64 (-g) = -g) := ⟨a2 (by omega) (by omega)⟩
   obtain ⟨KT, hKT⟩ := a3 (bI (R : Int) (C : Int) G l (by omega) n hlt (by omega))
   -- what the marble's cell does
   have hj : ∀ k, KT + 3 ≤ k → impl_drop.l0 (k + 1) G (j : Int) acc s (i : Int) (R : Int) (C : Int) l = if (j : Int) + g < 0 then some (3, (i : Int), (j : Int) + g, acc ++ [(n : Int)], passL G l n) else if (j : Int) + g ≥ (C : Int) then some (3, (i : Int), (j : Int) + g, acc ++ [(n : Int)], passL G l n) else impl_drop.l0 (k - 1) G ((j : Int) + g) (acc ++ [(n : Int)]) (-g) ((i + 1 : Nat) : Int) (R : Int) (C : Int) (passL G l n) := by
    intro k hk
    obtain ⟨k, rfl⟩ : ∃ q, k = q + 2 := ⟨k - 2, by omega⟩
    simp only [impl_drop.l0]
    rw [ew.out, aD, if_pos q1, if_pos q2, Option.bind_some, if_pos q3, if_pos q4, bindE (hGo k), if_pos rfl]
    unfold passL
    by_cases h3 : (l.getD n z89).f0 = 3
    ·rw [if_pos h3, if_pos h3]
     simp only [impl_drop.j1]
     rw [if_neg (by omega), Int.toNat_natCast, eg.out, en.out, a1 (show i < R by omega) (by omega)]
     rfl
    ·rw [if_neg h3, if_neg h3]
     simp only [impl_drop.j1]
     by_cases h6 : (l.getD n z89).f0 = 6
     ·rw [if_pos h6, if_pos h6, bindE (hKT (k + 1) (by omega)), eg.out, en.out, a1 (show i < R by omega) (by omega)]
      rfl
     ·rw [if_neg h6, if_neg h6, eg.out, en.out, a1 (show i < R by omega) (by omega)]
      rfl
   by_cases hc : 0 ≤ (j : Int) + g ∧ (j : Int) + g < (C : Int)
   ·rw [if_pos hc]
    have h2 := ih (i + 1) ((j : Int) + g).toNat (-g) (passL G l n) (acc ++ [(n : Int)]) (by omega) (by omega) (by rw [aF]; exact hlen) (aN hlt hl) (by omega) (by rw [List.length_append, List.length_singleton]; omega)
    obtain ⟨K2, hK2⟩ := a3 h2
    refine ⟨KT + K2 + 5, fun k hk => ?_⟩
    obtain ⟨k, rfl⟩ : ∃ q, k = q + 1 := ⟨k - 1, by omega⟩
    have h3 := hK2 (k - 1) (by omega)
    rw [show ((((j : Int) + g).toNat : Nat) : Int) = (j : Int) + g by omega] at h3
    simp only []
    rw [hj k (by omega), if_neg (by omega), if_neg (by omega), h3]
    simp [castL]
   ·rw [if_neg hc]
    refine ⟨KT + 5, fun k hk => ?_⟩
    obtain ⟨k, rfl⟩ : ∃ q, k = q + 1 := ⟨k - 1, by omega⟩
    simp only []
    rw [hj k (by omega)]
    by_cases h0 : (j : Int) + g < 0
    ·rw [if_pos h0]
     simp [castL]
    ·rw [if_neg h0, if_pos (by omega)]
     simp [castL]

theorem cK (r c : Int) (l : List S89) (hn : l.length ≤ 1048576) : spec_boOwn.f r c l = some (r, c, l) := by
 unfold spec_boOwn.f
 rw [Option.bind_some, if_pos (by simp; omega), List.nil_append]

theorem cY {r c : Int} {l : List S89} {i j : Int} (b : Brd r c l) (h : (0 ≤ i ∧ i < r) ∧ (0 ≤ j ∧ j < c)) : wrap64 (wrap64 (i * c) + j) = i * c + j ∧ 0 ≤ i * c + j ∧ i * c + j < l.length := by
 have h1 := cF h.1.1 h.1.2 h.2.1 h.2.2
 have b1 := b.r1; have b2 := b.r2; have b3 := b.c1; have b4 := b.c2; have b5 := b.len; have b6 := b.le
 have a : 0 ≤ i * c := Int.mul_nonneg h.1.1 (by omega)
 rw [a2 (x := i * c) (by omega) (by omega), a2 (by omega) (by omega)]
 omega
theorem cg {r c : Int} {l : List S89} {i j : Int} (b : Brd r c l) (h : (0 ≤ i ∧ i < r) ∧ (0 ≤ j ∧ j < c)) : spec_boAt.f r c l i j = some ((rd_T89 l (i * c + j)).f0, (rd_T89 l (i * c + j)).f1) := by
 obtain ⟨e, h0, h1⟩ := cY b h
 unfold spec_boAt.f
 rw [e, if_pos h0, if_pos h1]

theorem cC (k : Nat) (a b side : Int) (h : goesB a b side = true) : spec_paGoes.f (k + 1) a b side = some (aA a b side) := by
 simp only [goesB, Bool.and_eq_true, decide_eq_true_eq] at h
 obtain ⟨⟨h, h1⟩, h5⟩ := h
 have hs : side = -1 ∨ side = 0 ∨ side = 1 := by omega
 rcases aP h with ⟨rfl, rfl⟩ | ⟨rfl, rfl⟩ | ⟨rfl, rfl⟩ | ⟨rfl, rfl⟩ | ⟨rfl, rfl⟩ | ⟨rfl, rfl⟩ | ⟨rfl, rfl⟩ | ⟨rfl, rfl⟩ | ⟨rfl, rfl⟩ | ⟨rfl, rfl⟩ <;>
  first | exact absurd rfl h5 | (rcases hs with rfl | rfl | rfl <;> simp [spec_paGoes.f, spec_paGoes.j0, aA, bx, cL, cM, cH])

def rc (C n : Nat) : List Int := [((n / C : Nat) : Int), ((n % C : Nat) : Int)]
theorem cT (G : List Int) {R C : Nat} (lb : List S89) (hG : G.length = R * C) (hR : R ≤ 10) (hC : C ≤ 9) : ∀ (d i j : Nat) (s : Int) (l : List S89) (acc : List (List Int)), i + d = R → j < C → l.length = R * C → l.all goodC = true → -1 ≤ s ∧ s ≤ 1 → acc.length + d ≤ 1000 →
 Ev (fun k => spec_flGo.l0 k G (j : Int) acc s (i : Int) (R : Int) (C : Int) lb (R : Int) (C : Int) l) ((fallG G R C d i j s l).1, (fallG G R C d i j s l).2.1, (fallG G R C d i j s l).2.2.1, (R : Int), (C : Int), (fallG G R C d i j s l).2.2.2.2, acc ++ (fallG G R C d i j s l).2.2.2.1.map (rc C)) := by
 intro d
 induction d with
 | zero =>
  intro i j s l acc hi hj hlen hl hs ha
  refine a8 0 fun k _ => ?_
  simp only [spec_flGo.l0]
  rw [if_neg (by omega)]
  simp [fallG]
 | succ d ih =>
  intro i j s l acc hi hj hlen hl hs ha
  have hin : i * C + j < R * C := b8 (by omega) hj
  have hlt : i * C + j < l.length := by omega
  have h90 : R * C ≤ 90 := Nat.le_trans (Nat.mul_le_mul hR hC) (by decide)
  have hb := aZ (aa hl hlt) hs
  have hok := bw (aa hl hlt) hs
  have ew : Hid (wrap64 (wrap64 ((i : Int) * (C : Int)) + (j : Int)) = ((i * C + j : Nat) : Int)) := ⟨bj (by omega)⟩
  have hGo := fun k => cC k (l.getD (i * C + j) z89).f0 (l.getD (i * C + j) z89).f1 s
  rw [hok] at hGo
  have hrc : rc C (i * C + j) = [(i : Int), (j : Int)] := by rw [rc, cV hj, cU hj]
  have hat : spec_boAt.f (R : Int) (C : Int) l (i : Int) (j : Int) = some ((l.getD (i * C + j) z89).f0, (l.getD (i * C + j) z89).f1) := by
   simp only [spec_boAt.f]
   rw [ew.out, aD, if_pos (by omega), if_pos (by omega)]
  generalize hn : i * C + j = n at hin hlt hb hok ew hGo hrc hat
  have q1 : (i : Int) < (R : Int) := by omega
  have q2 : acc.length < 5864062014805 := by omega
  unfold fallG
  simp only [hn]
  by_cases h5 : (l.getD n z89).f0 = 5
  ·refine a8 3 fun k hk => ?_
   simp only [spec_flGo.l0]
   rw [if_pos q1, if_pos q2, Option.bind_some, bindE hat, if_pos h5, if_pos h5]
   simp [hrc]
  ·rw [if_neg h5]
   generalize hg : aA (l.getD n z89).f0 (l.getD n z89).f1 s = g at hb hGo
   have eg : Hid (wrap64 ((j : Int) + g) = (j : Int) + g) := ⟨a2 (by omega) (by omega)⟩
   have en : Hid (wrap64 (-g) = -g) := ⟨a2 (by omega) (by omega)⟩
   have ec : Hid (wrap64 ((C : Int) - 1) = (C : Int) - 1) := ⟨a2 (by omega) (by omega)⟩
   obtain ⟨KT, hKT⟩ := a3 (c6 (R : Int) (C : Int) G l (by omega) n hlt (by omega))
   have hj : ∀ k, KT + 3 ≤ k → spec_flGo.l0 (k + 1) G (j : Int) acc s (i : Int) (R : Int) (C : Int) lb (R : Int) (C : Int) l = if decide (0 ≤ (j : Int) + g ∧ (j : Int) + g ≤ (C : Int) - 1) = true then spec_flGo.l0 k G ((j : Int) + g) (acc ++ [[(i : Int), (j : Int)]]) (-g) ((i + 1 : Nat) : Int) (R : Int) (C : Int) lb (R : Int) (C : Int) (passL G l n) else some (3, (i : Int), (j : Int) + g, (R : Int), (C : Int), passL G l n, acc ++ [[(i : Int), (j : Int)]]) := by
    intro k hk
    obtain ⟨k, rfl⟩ : ∃ q, k = q + 2 := ⟨k - 2, by omega⟩
    simp only [spec_flGo.l0]
    rw [ew.out, if_pos q1, if_pos q2, Option.bind_some, bindE hat, if_neg h5, bindE (hGo _ (decide_eq_true h5)), bindE (hKT (k + 2) (by omega)), eg.out, ec.out, en.out, bindE (aq _ _ _), a1 (show i < R by omega) (by omega)]
   by_cases hc : 0 ≤ (j : Int) + g ∧ (j : Int) + g < (C : Int)
   ·rw [if_pos hc]
    have h2 := ih (i + 1) ((j : Int) + g).toNat (-g) (passL G l n) (acc ++ [[(i : Int), (j : Int)]]) (by omega) (by omega) (by rw [aF]; exact hlen) (aN hlt hl) (by omega) (by rw [List.length_append, List.length_singleton]; omega)
    obtain ⟨K2, hK2⟩ := a3 h2
    refine ⟨KT + K2 + 5, fun k hk => ?_⟩
    obtain ⟨k, rfl⟩ : ∃ q, k = q + 1 := ⟨k - 1, by omega⟩
    have h3 := hK2 k (by omega)
    rw [show ((((j : Int) + g).toNat : Nat) : Int) = (j : Int) + g by omega] at h3
    simp only []
    rw [hj k (by omega), if_pos (decide_eq_true (by omega)), h3]
    simp [hrc]
   ·rw [if_neg hc]
    refine ⟨KT + 5, fun k hk => ?_⟩
    obtain ⟨k, rfl⟩ : ∃ q, k = q + 1 := ⟨k - 1, by omega⟩
    simp only []
    rw [hj k (by omega), if_neg (by rw [decide_eq_true_eq]; omega)]
    simp [hrc]

theorem bK (r c : Int) (l : List S89) (hn : l.length ≤ 1048576) : impl_copyBoard.f r c l = some (r, c, l) := by
 unfold impl_copyBoard.f
 rw [Option.bind_some, if_pos (by simp; omega), List.nil_append]

def colB (r c : Int) (l : List S89) (j : Int) : Bool := a6 r c l && decide (0 ≤ j ∧ j < c)

def fallL (r c : Int) (l : List S89) (G : List Int) (j : Int) : Int × Int × Int × List Nat × List S89 := fallG G r.toNat c.toNat r.toNat 0 j.toNat 0 l
theorem cS {r c : Int} {l : List S89} (b : Brd r c l) (G : List Int) (hG : G.length = l.length) {j : Int} (hj : 0 ≤ j ∧ j < c) : Ev (fun k => impl_drop.f k r c l G j) ((fallL r c l G j).1, (fallL r c l G j).2.1, (fallL r c l G j).2.2.1, castL (fallL r c l G j).2.2.2.1, (fallL r c l G j).2.2.2.2) := by
 obtain ⟨R, C, rfl, rfl, hlen, hR1, hR, hC1, hC⟩ := af b
 obtain ⟨J, rfl⟩ : ∃ J : Nat, j = J := ⟨j.toNat, by omega⟩
 have h := cX G (by rw [hG]; exact hlen) hR hC R 0 J 0 l [] (by omega) (by omega) hlen b.all (by omega) (by simp; omega)
 simpa [impl_drop.f, fallL] using h
theorem cW {r c : Int} {l : List S89} (b : Brd r c l) (G : List Int) (hG : G.length = l.length) {j : Int} (hj : 0 ≤ j ∧ j < c) : Ev (fun k => spec_flGo.f k r c l G j) ((fallL r c l G j).1, (fallL r c l G j).2.1, (fallL r c l G j).2.2.1, r, c, (fallL r c l G j).2.2.2.2, (fallL r c l G j).2.2.2.1.map (rc c.toNat)) := by
 have hle := b.le
 obtain ⟨R, C, rfl, rfl, hlen, hR1, hR, hC1, hC⟩ := af b
 obtain ⟨J, rfl⟩ : ∃ J : Nat, j = J := ⟨j.toNat, by omega⟩
 have h := cT G l (by rw [hG]; exact hlen) hR hC R 0 J 0 l [] (by omega) (by omega) hlen b.all (by omega) (by simp; omega)
 refine aM 0 h fun k _ => ?_
 simp only [spec_flGo.f]
 rw [bindE (cK _ _ l (by omega))]
 simp [fallL]
theorem cB {r c : Int} {l : List S89} (b : Brd r c l) (G : List Int) {j : Int} (hj : 0 ≤ j ∧ j < c) : Brd r c (fallL r c l G j).2.2.2.2 ∧ (∀ n ∈ (fallL r c l G j).2.2.2.1, n < l.length) := by
 obtain ⟨R, C, e1, e2, hlen, hR1, hR, hC1, hC⟩ := af b
 have hl2 : (fallL r c l G j).2.2.2.2.length = l.length := bU _ _ _ _ _ _ _ _
 have h := bm G (R := R) (C := C) R 0 j.toNat 0 l (by omega) (by omega) hlen b.all (by omega)
 have e : fallL r c l G j = fallG G R C R 0 j.toNat 0 l := by rw [fallL, e1, e2]; simp
 rw [e] at hl2 ⊢
 exact ⟨⟨b.r1, b.r2, b.c1, b.c2, by rw [hl2]; exact b.len, h.1, by rw [hl2]; exact b.le, by rw [hl2]; exact b.pos⟩, by rw [hlen]; exact h.2⟩

theorem cP {r c : Int} {l : List S89} {j : Int} (h : colB r c l j = true) : Brd r c l ∧ 0 ≤ j ∧ j < c := by
 simp only [colB, Bool.and_eq_true, decide_eq_true_eq] at h
 exact ⟨bo h.1, h.2⟩

theorem bC (r c : Int) (l : List S89) (j : Int) (hn : l.length ≤ 1048576) : Ev (fun k => impl_validEntry.f k r c l j) (colB r c l j) := by
 obtain ⟨K, hK⟩ := a3 (bl r c l hn)
 refine ⟨K, fun k hk => ?_⟩
 simp only [impl_validEntry.f]
 rw [bindE (hK k hk)]
 unfold colB
 by_cases hg : a6 r c l = true
 ·rw [hg, aC, Bool.true_and]
  by_cases h : j ≥ 0
  ·rw [if_pos h]
   simp [show (0 : Int) ≤ j from h]
  ·rw [if_neg h]
   simp [show ¬ (0 : Int) ≤ j from h]
 ·rw [Bool.eq_false_iff.2 hg]
  rfl

theorem cR (r c : Int) (l : List S89) (j : Int) (hn : l.length ≤ 1048576) : Ev (fun k => spec_flHas.f k r c l j) (colB r c l j) := by
 obtain ⟨K, hK⟩ := a3 (cA r c l hn)
 refine ⟨K, fun k hk => ?_⟩
 simp only [spec_flHas.f]
 rw [bindE (hK k hk)]
 unfold colB
 by_cases hg : a6 r c l = true
 ·have b := bo hg
  have b1 := b.c1; have b2 := b.c2
  rw [hg, aC, Bool.true_and, a2 (x := c - 1) (by omega) (by omega), aq, show decide (0 ≤ j ∧ j ≤ c - 1) = decide (0 ≤ j ∧ j < c) from decide_eq_decide.2 (by omega)]
  try rfl
 ·rw [Bool.eq_false_iff.2 hg]
  rfl

theorem cG (a : List Int) (hn : a.length ≤ 1048576) : ∀ (d i : Nat), a.length - i = d → i ≤ a.length → Ev (fun k => laws_eqIntS.l0 k a a (i : Int)) true := by
 intro d
 induction d with
 | zero =>
  intro i hd hi
  refine a8 0 fun k _ => ?_
  simp only [laws_eqIntS.l0]
  rw [if_neg (by omega)]
 | succ d ih =>
  intro i hd hi
  have hlt : i < a.length := by omega
  refine a4 0 (ih (i + 1) (by omega) (by omega)) fun k _ => ?_
  simp only [laws_eqIntS.l0]
  rw [if_pos (by omega), if_pos (by omega), if_pos (by omega), if_pos trivial, a1 hlt (by omega)]
theorem c9 (a : List Int) (hn : a.length ≤ 1048576) : Ev (fun k => laws_eqIntS.f k a a) true := by
 refine aM 0 (cG a hn a.length 0 (by omega) (by omega)) fun k _ => ?_
 simp only [laws_eqIntS.f, if_true]
 rfl

def aL : Nat → Int → List Int
 | 0, _ => []
 | n + 1, s => s :: aL n (s + 1)
theorem aY : ∀ (n : Nat) (s : Int), (aL n s).length = n
 | 0, _ => rfl
 | n + 1, s => by simp [aL, aY n]
theorem bb (N : Nat) (hN : N ≤ 1048576) : ∀ (d i : Nat) (s : Int) (x : List Int), x.length = N → N - i = d → i ≤ N → 0 ≤ s → s ≤ 4194304 + i →
 Ev (fun k => laws_markIntS.l0 k x s (i : Int)) (s + d, x.take i ++ aL d s) := by
 intro d
 induction d with
 | zero =>
  intro i s x hx hd hi h0 h1
  refine a8 0 fun k _ => ?_
  simp only [laws_markIntS.l0]
  rw [if_neg (by omega)]
  simp [aL, List.take_of_length_le (show x.length ≤ i by omega)]
 | succ d ih =>
  intro i s x hx hd hi h0 h1
  have hlt : i < x.length := by omega
  refine a4 0 (f := fun k => laws_markIntS.l0 k (x.set i s) (s + 1) ((i + 1 : Nat) : Int)) ?_ fun k _ => ?_
  ·have h := ih (i + 1) (s + 1) (x.set i s) (by simpa using hx) (by omega) (by omega) (by omega) (by omega)
   rw [ac x _ (by omega)] at h
   have e2 : s + 1 + (d : Int) = s + ((d + 1 : Nat) : Int) := by omega
   rw [e2, List.append_assoc] at h
   exact h
  ·simp only [laws_markIntS.l0]
   rw [if_pos (by omega), if_pos (by omega), a1 hlt (by omega), a2 (x := s + 1) (by omega) (by omega), Int.toNat_natCast]
theorem bY (x : List Int) (s : Int) (hn : x.length ≤ 1048576) (h0 : 0 ≤ s) (h1 : s ≤ 4194304) : Ev (fun k => laws_markIntS.f k x s) (s + x.length, aL x.length s) := by
 have h := bb x.length hn x.length 0 s x rfl (by omega) (by omega) h0 (by omega)
 simpa [laws_markIntS.f] using h

theorem bf (y : List Int) (N : Nat) (hN : N ≤ 1048576) (hy : y.length = N) : ∀ (d i : Nat) (s : Int), N - i = d → i ≤ N → 0 ≤ s → s ≤ 4194304 + i → y.drop i = aL d s →
 Ev (fun k => laws_heldIntS.l0 k y s (i : Int)) (s + d) := by
 intro d
 induction d with
 | zero =>
  intro i s hd hi h0 h1 hm
  refine a8 0 fun k _ => ?_
  simp only [laws_heldIntS.l0]
  rw [if_neg (by omega)]
  simp
 | succ d ih =>
  intro i s hd hi h0 h1 hm
  have hlt : i < y.length := by omega
  rw [aB y 0 hlt, aL] at hm
  injection hm with hm1 hm2
  have h := ih (i + 1) (s + 1) (by omega) (by omega) (by omega) (by omega) hm2
  have e2 : s + 1 + (d : Int) = s + ((d + 1 : Nat) : Int) := by omega
  rw [e2] at h
  refine a4 0 h fun k _ => ?_
  simp only [laws_heldIntS.l0, rd, Int.toNat_natCast, hm1]
  rw [if_pos (by omega), if_pos (by omega), if_pos trivial, a1 hlt (by omega), a2 (x := s + 1) (by omega) (by omega)]
theorem bZ (n : Nat) (s : Int) (hn : n ≤ 1048576) (h0 : 0 ≤ s) (h1 : s ≤ 4194304) : Ev (fun k => laws_heldIntS.f k (aL n s) s) (s + n) := by
 have h := bf (aL n s) n hn (aY n s) n 0 s (by omega) (by omega) h0 (by omega) rfl
 simpa [laws_heldIntS.f] using h

def WOk (w : List (List Int)) : Prop := w.length ≤ 1000 ∧ ∀ y ∈ w, y.length = 2
theorem cb {w : List (List Int)} (h : WOk w) {i : Nat} (hi : i < w.length) : (w.getD i []).length = 2 := by
 rw [List.getD_eq_getElem?_getD, List.getElem?_eq_getElem hi]
 exact h.2 _ (List.getElem_mem hi)
theorem bz (w : List (List Int)) (i : Nat) : rd_L3 w (i : Int) = w.getD i [] := by rw [rd_L3, Int.toNat_natCast]
theorem bs (a : List (List Int)) (ha : WOk a) : Ev (fun k => laws_eqIntSS.f k a a) true := by
 have hn := ha.1
 have h : ∀ (d i : Nat), a.length - i = d → i ≤ a.length → Ev (fun k => laws_eqIntSS.l0 k a a (i : Int)) true := by
  intro d
  induction d with
  | zero =>
   intro i hd hi
   refine a8 0 fun k _ => ?_
   simp only [laws_eqIntSS.l0]
   rw [if_neg (by omega)]
  | succ d ih =>
   intro i hd hi
   have hlt : i < a.length := by omega
   have h2 := cb ha hlt
   obtain ⟨K, hK⟩ := a3 (c9 (a.getD i []) (by omega))
   refine a4 K (ih (i + 1) (by omega) (by omega)) fun k hk => ?_
   simp only [laws_eqIntSS.l0, bz]
   rw [if_pos (by omega), if_pos (by omega), if_pos (by omega), bindE (hK k hk), if_pos rfl, a1 hlt (by omega)]
 refine aM 0 (h a.length 0 (by omega) (by omega)) fun k _ => ?_
 simp only [laws_eqIntSS.f, if_true]
 rfl
def aK : Nat → Int → List (List Int)
 | 0, _ => []
 | n + 1, s => [s, s + 1] :: aK n (s + 2)
theorem aX : ∀ (n : Nat) (s : Int), (aK n s).length = n
 | 0, _ => rfl
 | n + 1, s => by simp [aK, aX n]
theorem c4 : ∀ (n : Nat) (s : Int), ∀ y ∈ aK n s, y.length = 2
 | 0, _, y, h => by cases h
 | n + 1, s, y, h => by
  rcases List.mem_cons.1 h with rfl | h
  ·rfl
  ·exact c4 n (s + 2) y h
theorem bM (N : Nat) (hN : N ≤ 1000) : ∀ (d i : Nat) (s : Int) (x : List (List Int)), x.length = N → (∀ y ∈ x, y.length = 2) → N - i = d → i ≤ N → 0 ≤ s → s ≤ 4100000 + 2 * i →
 Ev (fun k => laws_markIntSS.l0 k x s (i : Int)) (s + 2 * d, x.take i ++ aK d s) := by
 intro d
 induction d with
 | zero =>
  intro i s x hx hy hd hi h0 h1
  refine a8 0 fun k _ => ?_
  simp only [laws_markIntSS.l0]
  rw [if_neg (by omega)]
  simp [aK, List.take_of_length_le (show x.length ≤ i by omega)]
 | succ d ih =>
  intro i s x hx hy hd hi h0 h1
  have hlt : i < x.length := by omega
  have h2 : (x.getD i []).length = 2 := by
   rw [List.getD_eq_getElem?_getD, List.getElem?_eq_getElem hlt]
   exact hy _ (List.getElem_mem hlt)
  obtain ⟨K, hK⟩ := a3 (bY (x.getD i []) s (by omega) h0 (by omega))
  rw [h2] at hK
  refine a4 K (f := fun k => laws_markIntSS.l0 k (x.set i [s, s + 1]) (s + 2) ((i + 1 : Nat) : Int)) ?_ fun k hk => ?_
  ·have h := ih (i + 1) (s + 2) (x.set i [s, s + 1]) (by simpa using hx) (fun y hy2 => by
    rcases List.mem_or_eq_of_mem_set hy2 with h3 | h3
    ·exact hy y h3
    ·rw [h3]; rfl) (by omega) (by omega) (by omega) (by omega)
   rw [ac x _ (by omega)] at h
   have e2 : s + 2 + 2 * (d : Int) = s + 2 * ((d + 1 : Nat) : Int) := by omega
   rw [e2, List.append_assoc] at h
   exact h
  ·simp only [laws_markIntSS.l0]
   rw [if_pos (by omega), if_pos (by omega), Int.toNat_natCast, bindE (hK k hk), a1 hlt (by omega)]
   rfl
theorem bJ (x : List (List Int)) (s : Int) (hx : WOk x) (h0 : 0 ≤ s) (h1 : s ≤ 4100000) : Ev (fun k => laws_markIntSS.f k x s) (s + 2 * x.length, aK x.length s) := by
 have h := bM x.length hx.1 x.length 0 s x rfl hx.2 (by omega) (by omega) h0 (by omega)
 simpa [laws_markIntSS.f] using h
theorem bQ (y : List (List Int)) (N : Nat) (hN : N ≤ 1000) (hy : y.length = N) : ∀ (d i : Nat) (s : Int), N - i = d → i ≤ N → 0 ≤ s → s ≤ 4100000 + 2 * i → y.drop i = aK d s →
 Ev (fun k => laws_heldIntSS.l0 k y s (i : Int)) (s + 2 * d) := by
 intro d
 induction d with
 | zero =>
  intro i s hd hi h0 h1 hm
  refine a8 0 fun k _ => ?_
  simp only [laws_heldIntSS.l0]
  rw [if_neg (by omega)]
  simp
 | succ d ih =>
  intro i s hd hi h0 h1 hm
  have hlt : i < y.length := by omega
  rw [aB y [] hlt, aK] at hm
  injection hm with hm1 hm2
  have h := ih (i + 1) (s + 2) (by omega) (by omega) (by omega) (by omega) hm2
  have e2 : s + 2 + 2 * (d : Int) = s + 2 * ((d + 1 : Nat) : Int) := by omega
  rw [e2] at h
  obtain ⟨K, hK⟩ := a3 (bZ 2 s (by omega) h0 (by omega))
  have hI : aL 2 s = [s, s + 1] := rfl
  rw [hI] at hK
  refine a4 K h fun k hk => ?_
  simp only [laws_heldIntSS.l0, bz, hm1]
  rw [if_pos (by omega), if_pos (by omega), bindE (hK k hk), if_neg (by omega), a1 hlt (by omega)]
  rfl
theorem bH (n : Nat) (s : Int) (hn : n ≤ 1000) (h0 : 0 ≤ s) (h1 : s ≤ 4100000) : Ev (fun k => laws_heldIntSS.f k (aK n s) s) (s + 2 * n) := by
 have h := bQ (aK n s) n hn (aX n s) n 0 s (by omega) (by omega) h0 (by omega) rfl
 simpa [laws_heldIntSS.f] using h

def wayOf (r c : Int) (l : List S89) (j : Int) : List (List Int) × Bool := if colB r c l j = true then ((fallL r c l (a9 l r.toNat c.toNat) j).2.2.2.1.map (rc c.toNat), true) else ([], false)
theorem cO (r c : Int) (l : List S89) (j : Int) (_hn : l.length ≤ 1048576) : WOk (wayOf r c l j).1 := by
 unfold wayOf
 by_cases h : colB r c l j = true
 ·rw [if_pos h]
  simp only [colB, Bool.and_eq_true, decide_eq_true_eq] at h
  have b := bo h.1
  have e2 := b.r2
  have hw : (fallL r c l (a9 l r.toNat c.toNat) j).2.2.2.1.length ≤ r.toNat := bG _ _ _ _ _ _ _ _
  refine ⟨by simp only [List.length_map]; omega, fun y hy => ?_⟩
  obtain ⟨n, _, rfl⟩ := List.mem_map.1 hy
  rfl
 ·rw [if_neg h]
  exact ⟨by simp, fun y hy => by cases hy⟩
theorem ca {C : Nat} (hC1 : 1 ≤ C) (hC : C ≤ 9) (w : List Nat) (hw : w.length ≤ 1000) (hb : ∀ n ∈ w, n ≤ 1000) (x : Int) (l : List S89) : ∀ (d i : Nat) (acc : List (List Int)), w.length - i = d → i ≤ w.length → acc.length ≤ i →
 Ev (fun k => impl_WayOf.l0 k acc (castL w) (w.length : Int) (i : Int) x (C : Int) l) (acc ++ (w.drop i).map (rc C), true) := by
 have hcl : (castL w).length = w.length := by simp [castL]
 intro d
 induction d with
 | zero =>
  intro i acc hd hi ha
  refine a8 0 fun k _ => ?_
  simp only [impl_WayOf.l0]
  rw [if_neg (by omega), List.drop_of_length_le (by omega)]
  simp
 | succ d ih =>
  intro i acc hd hi ha
  have hlt : i < w.length := by omega
  have hn : w.getD i 0 ≤ 1000 := hb _ (by rw [List.getD_eq_getElem?_getD, List.getElem?_eq_getElem hlt]; exact List.getElem_mem hlt)
  have hrd : rd (castL w) (i : Int) = ((w.getD i 0 : Nat) : Int) := by
   rw [rd, Int.toNat_natCast, List.getD_eq_getElem?_getD, List.getD_eq_getElem?_getD, castL, List.getElem?_map, List.getElem?_eq_getElem hlt]
   rfl
  rw [aB w 0 hlt, List.map_cons]
  generalize w.getD i 0 = n at hn hrd
  have hq : n / C ≤ n := Nat.div_le_self n C
  have e1 : wrap64 (Int.tdiv (n : Int) (C : Int)) = ((n / C : Nat) : Int) := by
   rw [← Int.ofNat_tdiv]
   generalize n / C = q at hq ⊢
   exact a2 (by omega) (by omega)
  have e2 : Int.tmod (n : Int) (C : Int) = ((n % C : Nat) : Int) := (Int.ofNat_tmod n C).symm
  have H1 : Hid (wrap64 (Int.tdiv (n : Int) (C : Int)) = ((n / C : Nat) : Int)) := ⟨e1⟩
  have H2 : Hid (Int.tmod (n : Int) (C : Int) = ((n % C : Nat) : Int)) := ⟨e2⟩
  clear e1 e2
  refine a4 0 (f := fun k => impl_WayOf.l0 k (acc ++ [rc C n]) (castL w) (w.length : Int) ((i + 1 : Nat) : Int) x (C : Int) l) ?_ fun k _ => ?_
  ·have h := ih (i + 1) (acc ++ [rc C n]) (by omega) (by omega) (by rw [List.length_append, List.length_singleton]; omega)
   rw [List.append_assoc] at h
   exact h
  ·simp only [impl_WayOf.l0]
   rw [if_pos (by omega), if_pos (by omega), if_pos (by omega), if_neg (by omega), if_pos (by omega), hrd, H1.out, H2.out, a1 hlt (by omega)]
   rfl
theorem cQ (r c : Int) (l : List S89) (j : Int) (hn : l.length ≤ 1048576) : Ev (fun k => impl_WayOf.f k r c l j) (wayOf r c l j) := by
 obtain ⟨K, hK⟩ := a3 (bC r c l j hn)
 unfold wayOf
 by_cases h : colB r c l j = true
 ·obtain ⟨b, hj⟩ := cP h
  have n1 := b.le; have n3 := b.c1; have n4 := b.c2; have n6 := b.r2
  obtain ⟨K2, hK2⟩ := a3 (ah b).1
  obtain ⟨K3, hK3⟩ := a3 (cS b (a9 l r.toNat c.toNat) (aR _ _ _) hj)
  have hw : (fallL r c l (a9 l r.toNat c.toNat) j).2.2.2.1.length ≤ r.toNat := bG _ _ _ _ _ _ _ _
  have hlt := (cB b (a9 l r.toNat c.toNat) hj).2
  have hl := ca (C := c.toNat) (by omega) (by omega) (fallL r c l (a9 l r.toNat c.toNat) j).2.2.2.1 (by omega) (fun n hn => by have := hlt n hn; omega) r l (fallL r c l (a9 l r.toNat c.toNat) j).2.2.2.1.length 0 [] (by omega) (by omega) (by simp)
  rw [show ((c.toNat : Nat) : Int) = c by omega] at hl
  obtain ⟨K4, hK4⟩ := a3 hl
  refine ⟨K + K2 + K3 + K4, fun k hk => ?_⟩
  have h4 := hK4 k (by omega)
  simp only [impl_WayOf.f]
  rw [bindE (hK k (by omega)), h, aC, bindE (bK r c l hn), bindE (hK2 k (by omega)), bindE (hK3 k (by omega)), aC]
  rw [List.drop_zero, List.nil_append] at h4
  simp only [show ∀ w : List Nat, (castL w).length = w.length from fun w => by simp [castL]]
  exact h4
 ·refine ⟨K, fun k hk => ?_⟩
  simp only [impl_WayOf.f]
  rw [bindE (hK k hk), if_neg h, if_neg h]
theorem bN (r c : Int) (l : List S89) (j : Int) (hn : l.length ≤ 1048576) : Ev (fun k => spec_WayOf.f k r c l j) (wayOf r c l j) := by
 obtain ⟨K, hK⟩ := a3 (cR r c l j hn)
 unfold wayOf
 by_cases h : colB r c l j = true
 ·obtain ⟨b, hj⟩ := cP h
  obtain ⟨K2, hK2⟩ := a3 (ah b).2
  obtain ⟨K3, hK3⟩ := a3 (cW b (a9 l r.toNat c.toNat) (aR _ _ _) hj)
  refine ⟨K + K2 + K3, fun k hk => ?_⟩
  simp only [spec_WayOf.f]
  rw [bindE (hK k (by omega)), h, aC, bindE (hK2 k (by omega)), bindE (hK3 k (by omega)), aC]
 ·refine ⟨K, fun k hk => ?_⟩
  simp only [spec_WayOf.f]
  rw [bindE (hK k hk), if_neg h, if_neg h]

def marks : Nat → Int → List S89
 | 0, _ => []
 | n + 1, s => ⟨s, s + 1⟩ :: marks n (s + 2)
theorem bT : ∀ (n : Nat) (s : Int), (marks n s).length = n
 | 0, _ => rfl
 | n + 1, s => by simp [marks, bT n]
theorem bP (N : Nat) (hN : N ≤ 1048576) : ∀ (d i : Nat) (s : Int) (x : List S89), x.length = N → N - i = d → i ≤ N → 0 ≤ s → s ≤ 4194304 + 2 * i →
 Ev (fun k => laws_markCellS.l0 k x s (i : Int)) (s + 2 * d, x.take i ++ marks d s) := by
 intro d
 induction d with
 | zero =>
  intro i s x hx hd hi h0 h1
  refine a8 0 fun k _ => ?_
  simp only [laws_markCellS.l0]
  rw [if_neg (by omega)]
  simp [marks, List.take_of_length_le (show x.length ≤ i by omega)]
 | succ d ih =>
  intro i s x hx hd hi h0 h1
  have hlt : i < x.length := by omega
  have e : ((x.set i (⟨s, (rd_T89 x i).f1⟩ : S89)).set i ⟨(rd_T89 (x.set i (⟨s, (rd_T89 x i).f1⟩ : S89)) i).f0, s + 1⟩) = x.set i (⟨s, s + 1⟩ : S89) := by
   rw [List.set_set]
   simp [rd_T89, hlt]
  refine a4 0 (f := fun k => laws_markCellS.l0 k (x.set i (⟨s, s + 1⟩ : S89)) (s + 2) ((i + 1 : Nat) : Int)) ?_ fun k _ => ?_
  ·have h := ih (i + 1) (s + 2) (x.set i (⟨s, s + 1⟩ : S89)) (by simpa using hx) (by omega) (by omega) (by omega) (by omega)
   rw [ac x _ (by omega)] at h
   have e2 : s + 2 + 2 * (d : Int) = s + 2 * ((d + 1 : Nat) : Int) := by omega
   rw [e2, List.append_assoc] at h
   exact h
  ·simp only [laws_markCellS.l0]
   rw [if_pos (by omega), if_pos (by omega)]
   simp only [Option.bind_some, Int.toNat_natCast]
   rw [a1 hlt (by omega), a2 (x := s + 1) (by omega) (by omega), a2 (x := s + 1 + 1) (by omega) (by omega), e]
   rw [show s + 1 + 1 = s + 2 by omega]
theorem bO (x : List S89) (s : Int) (hn : x.length ≤ 1048576) (h0 : 0 ≤ s) (h1 : s ≤ 4194304) : Ev (fun k => laws_markCellS.f k x s) (s + 2 * x.length, marks x.length s) := by
 have h := bP x.length hn x.length 0 s x rfl (by omega) (by omega) h0 (by omega)
 simpa [laws_markCellS.f] using h

theorem bS (r c : Int) (x : List S89) (s : Int) (hn : x.length ≤ 1048576) (h0 : 0 ≤ s) (h1 : s ≤ 4194304) : Ev (fun k => laws_markBoard.f k r c x s) (s + 2 * x.length, marks x.length s) := by
 obtain ⟨K, hK⟩ := a3 (bO x s hn h0 h1)
 refine ⟨K, fun k hk => ?_⟩
 simp only [laws_markBoard.f]
 rw [bindE (hK k hk)]



theorem FnExactWayOf (r0 c0 : Int) (a0 : List S91) (i1 : Int) (hn0 : a0.length ≤ 9223372036854775807) : ∃ k, laws_FnExactWayOf.f k r0 c0 a0 i1 = some true := by
 unfold laws_FnExactWayOf.f
 simp only [bindE (bk r0 c0 a0 (1048576) (by omega) (by omega) hn0)]
 by_cases hs0 : (a0.length : Int) ≤ 1048576
 case neg =>
  exact ⟨0, by rw [if_neg hs0]; rfl⟩
 have hq0 : ¬ (1048576 - (a0.length : Int) < 0) := by omega
 simp only [if_pos hs0, if_neg hq0]
 have hl0 : (a0.map conv).length ≤ 1048576 := by rw [List.length_map]; omega
 obtain ⟨K1, h1⟩ := a3 (bv r0 c0 a0 (by omega))
 obtain ⟨K2, h2⟩ := a3 (cQ r0 c0 (a0.map conv) i1 hl0)
 obtain ⟨K3, h3⟩ := a3 (bN r0 c0 (a0.map conv) i1 hl0)
 have hr := cO r0 c0 (a0.map conv) i1 hl0
 revert h2 h3 hr
 generalize wayOf r0 c0 (a0.map conv) i1 = r
 intro h2 h3 hr
 obtain ⟨K4, h4⟩ := a3 (bt r0 c0 (a0.map conv) hl0)
 obtain ⟨K5, h5⟩ := a3 (bs r.1 hr)
 obtain ⟨K6, h6⟩ := a3 (bS r0 c0 (a0.map conv) (1) hl0 (by omega) (by omega))
 have q1 : ¬ (1 + 2 * (a0.map conv).length < (0 : Int)) := by omega
 obtain ⟨K7, h7⟩ := a3 (bJ r.1 (1) hr (by omega) (by omega))
 obtain ⟨K8, h8⟩ := a3 (bH r.1.length (1) (by have := hr.1; omega) (by omega) (by omega))
 have q2 : ¬ (1 + 2 * r.1.length < (0 : Int)) := by omega
 refine ⟨K1 + K2 + K3 + K4 + K5 + K6 + K7 + K8 + 1 + 1 + 1, ?_⟩
 repeat (first | rw [bindE (h1 _ (by omega))] | rw [bindE (h2 _ (by omega))] | rw [bindE (h3 _ (by omega))] | rw [bindE (h4 _ (by omega))] | rw [bindE (h5 _ (by omega))] | rw [bindE (h6 _ (by omega))] | rw [bindE (h7 _ (by omega))] | rw [bindE (h8 _ (by omega))] | rw [Option.bind_some] | rw [aC] | rw [cI] | rw [cN] | rw [if_neg q1] | rw [if_neg q2] | rw [if_pos rfl] | rw [laws_FnExactWayOf.j0] | rw [laws_FnExactWayOf.j1] | rw [laws_FnExactWayOf.j2])

end Go.Proofs.Ytoklfgjemfojgaa.Pure
