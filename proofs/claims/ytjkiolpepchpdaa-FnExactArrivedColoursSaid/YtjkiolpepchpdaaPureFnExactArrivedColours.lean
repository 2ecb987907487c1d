/- For all arguments the program's ArrivedColours answers as the reference's does (the plain law, over the printed functions). Conditions: none. -/
import Derived.Test.YtjkiolpepchpdaaG35
set_option linter.unusedVariables false
set_option linter.unusedSimpArgs false
namespace Go.Proofs.Ytjkiolpepchpdaa.Pure
open Go.RowKit Go.Proofs.Ytjkiolpepchpdaa.PAll Go.Proofs.YtjkiolpepchpdaaW.PrintWords Go.Proofs.YtjkiolpepchpdaaW.PrintLast Go.Proofs.YtjkiolpepchpdaaW.PrintMore

theorem a2 {x : Int} (h0 : -9223372036854775808 ≤ x) (h1 : x < 9223372036854775808) : wrap64 x = x := by unfold wrap64; omega
theorem a3 {i n : Nat} (h : i < n) (hn : n ≤ 4611686018427387904) : wrap64 ((i : Int) + 1) = ((i + 1 : Nat) : Int) := by unfold wrap64; omega
theorem ci : wrap64 (-1) = -1 := by decide +kernel
theorem cE : wrap64 0 = 0 := by decide +kernel
theorem cB : wrap64 1 = 1 := by decide +kernel
theorem cD : wrap64 2 = 2 := by decide +kernel
structure Hid (p : Prop) : Prop where
 out : p
theorem a9 {α : Type} {g : Nat → Option α} {r : α} (K : Nat) (h : ∀ k, K ≤ k → g (k + 1) = some r) : Ev g r := by
 refine ⟨K + 1, fun k hk => ?_⟩
 obtain ⟨m, rfl⟩ : ∃ m, k = m + 1 := ⟨k - 1, by omega⟩
 exact h m (by omega)
theorem a6 {α : Type} {g f : Nat → Option α} {r : α} (K : Nat) (hf : Ev f r) (h : ∀ k, K ≤ k → g (k + 1) = f k) : Ev g r := by
 obtain ⟨K', hf⟩ := hf
 refine ⟨K + K' + 1, fun k hk => ?_⟩
 obtain ⟨m, rfl⟩ : ∃ m, k = m + 1 := ⟨k - 1, by omega⟩
 rw [h m (by omega)]
 exact hf m (by omega)
theorem a4 {α : Type} {g : Nat → Option α} {r : α} (h : Ev g r) : ∃ K, ∀ k, K ≤ k → g k = some r := h
theorem cX {α : Type} {g : Nat → Option α} {r : α} (h : ∀ k, g k = some r) : Ev g r := ⟨0, fun k _ => h k⟩
theorem ao {α : Type} {g f : Nat → Option α} {r : α} (K : Nat) (hf : Ev f r) (h : ∀ k, K ≤ k → g k = f k) : Ev g r := by
 obtain ⟨K', hf⟩ := hf
 exact ⟨K + K', fun k hk => (h k (by omega)).trans (hf k (by omega))⟩
theorem bindE {α β : Type} {o : Option α} {v : α} {f : α → Option β} (h : o = some v) : o.bind f = f v := by rw [h]; rfl
theorem cH {β : Type} (x : Bool) (a b : β) : (if (x != x) = true then a else b) = b := by simp
theorem cM {β : Type} (x : Int) (a b : β) : (if (x != x) = true then a else b) = b := by simp
theorem ab {β : Type} (a b : β) : (if true = true then a else b) = a := rfl
theorem ac {α : Type} (l : List α) (z : α) {i : Nat} (h : i < l.length) : l.drop i = l.getD i z :: l.drop (i + 1) := by
 rw [List.drop_eq_getElem_cons h, List.getD_eq_getElem?_getD, List.getElem?_eq_getElem h]; rfl
theorem cK {α : Type} (l : List α) (v : α) {i : Nat} (h : i < l.length) : (l.set i v).take (i + 1) = l.take i ++ [v] := by
 rw [List.take_succ_eq_append_getElem (by simpa using h)]
 simp [List.take_set_of_le]
theorem d1 {α : Type} (l : List α) (i : Nat) (z : α) : l.getD ((i : Int).toNat) z = l.getD i z := by rw [Int.toNat_natCast]

theorem b8 {α : Type} (T l : List α) (z : α) {n : Nat} (h : n < T.length) (hl : T.length = l.length) : (T.take n ++ l.drop n).set n (T.getD n z) = T.take (n + 1) ++ l.drop (n + 1) := by
 have e1 : (T.take n).length = n := by simp; omega
 rw [List.set_append_right _ _ (by omega), e1, Nat.sub_self, ac l z (by omega), List.set_cons_zero]
 rw [List.take_succ_eq_append_getElem h, List.append_assoc, List.getD_eq_getElem?_getD, List.getElem?_eq_getElem h]
 rfl
theorem cj {α : Type} (T : List α) (z : α) {n : Nat} (h : n < T.length) : T.take n ++ [T.getD n z] = T.take (n + 1) := by
 rw [List.take_succ_eq_append_getElem h, List.getD_eq_getElem?_getD, List.getElem?_eq_getElem h]
 rfl
theorem be {α : Type} (f : Nat → α) (z : α) {n m : Nat} (h : n < m) : ((List.range m).map f).getD n z = f n := by
 rw [List.getD_eq_getElem?_getD, List.getElem?_eq_getElem (by simpa using h)]
 simp

theorem c3 {α : Type} (T l : List α) (z : α) {n : Nat} (h : n < T.length) (hl : T.length = l.length) (he : T.getD n z = l.getD n z) : T.take n ++ l.drop n = T.take (n + 1) ++ l.drop (n + 1) := by
 rw [← cj T z h, ac l z (by omega), he, List.append_assoc]
 rfl
theorem bS {α : Type} (T l : List α) (z : α) {n : Nat} (h : n < T.length) (hl : T.length = l.length) : (T.take n ++ l.drop n).getD n z = l.getD n z := by
 have e1 : (T.take n).length = n := by simp; omega
 rw [List.getD_eq_getElem?_getD, List.getElem?_append_right (by omega), e1, Nat.sub_self, ac l z (by omega)]
 rfl
theorem bn {α : Type} (T l : List α) {n : Nat} (h : n ≤ T.length) (hl : T.length = l.length) : (T.take n ++ l.drop n).length = l.length := by
 rw [List.length_append, List.length_take, List.length_drop]
 omega

def goodB (a b : Int) : Bool := decide ((0 ≤ a ∧ a ≤ 7) ∧ (b = 0 ∨ b = 1 ∧ (a = 3 ∨ a = 6)))
theorem au {a b : Int} (h : goodB a b = true) : (a = 0 ∧ b = 0) ∨ (a = 1 ∧ b = 0) ∨ (a = 2 ∧ b = 0) ∨ (a = 3 ∧ b = 0) ∨ (a = 3 ∧ b = 1) ∨ (a = 4 ∧ b = 0) ∨ (a = 5 ∧ b = 0) ∨ (a = 6 ∧ b = 0) ∨ (a = 6 ∧ b = 1) ∨ (a = 7 ∧ b = 0) := by
 simp only [goodB, decide_eq_true_eq] at h
 obtain ⟨⟨h0, h7⟩, hb⟩ := h
 have ha : a = 0 ∨ a = 1 ∨ a = 2 ∨ a = 3 ∨ a = 4 ∨ a = 5 ∨ a = 6 ∨ a = 7 := by
  clear hb
  omega
 rcases ha with rfl | rfl | rfl | rfl | rfl | rfl | rfl | rfl <;> simp_all

theorem ad (l : List S88) (i : Nat) : rd_T88 l (i : Int) = l.getD i z88 := by rw [rd_T88, Int.toNat_natCast]
def goodC (x : S88) : Bool := goodB x.f0 x.f1

def sizeB (r c : Int) (n : Nat) : Bool := decide ((1 ≤ r ∧ r ≤ 10) ∧ (1 ≤ c ∧ c ≤ 9) ∧ (n : Int) = r * c)
def a8 (r c : Int) (l : List S88) : Bool := sizeB r c l.length && l.all goodC
theorem aR {r c : Int} (h1 : 1 ≤ r) (h2 : r ≤ 10) (h3 : 1 ≤ c) (h4 : c ≤ 9) : 1 ≤ r * c ∧ r * c ≤ 90 := by
 have hr : r = 1 ∨ r = 2 ∨ r = 3 ∨ r = 4 ∨ r = 5 ∨ r = 6 ∨ r = 7 ∨ r = 8 ∨ r = 9 ∨ r = 10 := by omega
 rcases hr with rfl | rfl | rfl | rfl | rfl | rfl | rfl | rfl | rfl | rfl <;> omega
structure Brd (r c : Int) (l : List S88) : Prop where
 r1 : 1 ≤ r
 r2 : r ≤ 10
 c1 : 1 ≤ c
 c2 : c ≤ 9
 len : (l.length : Int) = r * c
 all : l.all goodC = true
 le : l.length ≤ 90
 pos : 1 ≤ l.length
theorem cG {r c : Int} {l : List S88} (h : a8 r c l = true) : Brd r c l := by
 simp only [a8, sizeB, Bool.and_eq_true, decide_eq_true_eq] at h
 obtain ⟨⟨⟨h1, h2⟩, ⟨h3, h4⟩, h5⟩, h6⟩ := h
 have := aR h1 h2 h3 h4
 exact ⟨h1, h2, h3, h4, h5, h6, by omega, by omega⟩
theorem d4 {r c : Int} {l : List S88} (h : Brd r c l) : a8 r c l = true := by
 simp only [a8, sizeB, Bool.and_eq_true, decide_eq_true_eq]
 exact ⟨⟨⟨h.r1, h.r2⟩, ⟨h.c1, h.c2⟩, h.len⟩, h.all⟩
theorem co {r c i j : Int} (h0 : 0 ≤ i) (h1 : i < r) (h2 : 0 ≤ j) (h3 : j < c) : 0 ≤ i * c + j ∧ i * c + j < r * c := by
 have a : 0 ≤ i * c := Int.mul_nonneg h0 (by omega)
 have b : (i + 1) * c ≤ r * c := Int.mul_le_mul_of_nonneg_right (by omega) (by omega)
 rw [Int.add_mul, Int.one_mul] at b
 omega

theorem bL {i j C : Nat} (h : i * C + j ≤ 1000000) : wrap64 (wrap64 ((i : Int) * (C : Int)) + (j : Int)) = ((i * C + j : Nat) : Int) := by
 rw [show (i : Int) * (C : Int) = ((i * C : Nat) : Int) by simp]
 generalize i * C = n at h ⊢
 rw [a2 (x := (n : Int)) (by omega) (by omega), a2 (x := (n : Int) + (j : Int)) (by omega) (by omega)]
 omega
theorem d0 {i j C : Nat} (hj : j < C) (h : i * C + C ≤ 1000000) : wrap64 (wrap64 (wrap64 (wrap64 ((i : Int) * (C : Int)) + (C : Int)) - 1) - (j : Int)) = ((i * C + (C - 1 - j) : Nat) : Int) := by
 rw [show (i : Int) * (C : Int) = ((i * C : Nat) : Int) by simp]
 generalize i * C = n at h ⊢
 rw [a2 (x := (n : Int)) (by omega) (by omega), a2 (x := (n : Int) + (C : Int)) (by omega) (by omega), a2 (x := (n : Int) + (C : Int) - 1) (by omega) (by omega), a2 (x := (n : Int) + (C : Int) - 1 - (j : Int)) (by omega) (by omega)]
 omega
theorem bf {R C i j : Nat} (hi : i < R) (hj : j < C) : i * C + j < R * C := by
 have h : (i + 1) * C ≤ R * C := Nat.mul_le_mul_right C hi
 rw [Nat.succ_mul] at h
 omega
theorem cR {C i j : Nat} (hj : j < C) : (i * C + j) / C = i := by
 rw [Nat.add_comm, Nat.mul_comm, Nat.add_mul_div_left _ _ (by omega), Nat.div_eq_of_lt hj, Nat.zero_add]
theorem cU {C i j : Nat} (hj : j < C) : (i * C + j) % C = j := by
 rw [Nat.add_comm, Nat.mul_comm, Nat.add_mul_mod_self_left, Nat.mod_eq_of_lt hj]
theorem aM {r c : Int} {l : List S88} (b : Brd r c l) : ∃ R C : Nat, r = R ∧ c = C ∧ l.length = R * C ∧ 1 ≤ R ∧ R ≤ 10 ∧ 1 ≤ C ∧ C ≤ 9 := by
 have h1 := b.r1; have h2 := b.r2; have h3 := b.c1; have h4 := b.c2; have h5 := b.len
 obtain ⟨R, rfl⟩ : ∃ R : Nat, r = R := ⟨r.toNat, by omega⟩
 obtain ⟨C, rfl⟩ : ∃ C : Nat, c = C := ⟨c.toNat, by omega⟩
 refine ⟨R, C, rfl, rfl, ?_, by omega, by omega, by omega, by omega⟩
 have : ((l.length : Nat) : Int) = ((R * C : Nat) : Int) := by rw [h5]; simp
 exact Int.ofNat.inj this

def near (R C a : Nat) : List Nat :=
 (if a / C > 0 then [a - C] else []) ++ ((if a % C > 0 then [a - 1] else []) ++ ((if a % C + 1 < C then [a + 1] else []) ++ (if a / C + 1 < R then [a + C] else [])))
theorem bI {R C a : Nat} (hC : 1 ≤ C) (ha : a < R * C) : ∀ n ∈ near R C a, n < R * C := by
 intro n hn
 have hd := Nat.div_add_mod a C
 have hm := Nat.mod_lt a (show C > 0 by omega)
 rw [Nat.mul_comm] at hd
 have hr : a / C < R := by
  apply Nat.div_lt_of_lt_mul
  rwa [Nat.mul_comm]
 simp only [near, List.mem_append] at hn
 rcases hn with h | h | h | h
 ·split at h
  ·simp at h; omega
  ·simp at h
 ·split at h
  ·simp at h; omega
  ·simp at h
 ·split at h
  ·rename_i h1
   simp at h
   have := bf (R := R) hr h1
   omega
  ·simp at h
 ·split at h
  ·rename_i h1
   simp at h
   have := bf (R := R) h1 hm
   rw [Nat.succ_mul] at this
   omega
  ·simp at h
theorem aU (R C a : Nat) : (near R C a).length ≤ 4 := by
 unfold near
 split <;> split <;> split <;> split <;> simp
def castL (l : List Nat) : List Int := l.map fun n : Nat => ((n : Nat) : Int)
theorem a7 (l : List Nat) : (castL l).length = l.length := by simp [castL]
theorem aL (a b : List Nat) : castL (a ++ b) = castL a ++ castL b := by simp [castL]
theorem aE (l : List Nat) {j : Nat} (h : j < l.length) : rd (castL l) (j : Int) = ((l.getD j 0 : Nat) : Int) := by
 simp [rd, castL, List.getD_eq_getElem?_getD, h]
theorem cV (l : List Nat) (j : Nat) : (castL l).drop j = castL (l.drop j) := by simp [castL]

def gearB (x : S88) : Bool := decide (x.f0 = 6 ∨ x.f0 = 7)
def neg (out : List Int) : Nat := out.countP fun x => decide (x < 0)
theorem aQ {out : List Int} {n : Nat} (h : n < out.length) (hn : out.getD n 0 < 0) {c : Int} (hc : 0 ≤ c) : neg (out.set n c) + 1 = neg out := by
 unfold neg
 rw [List.countP_set h]
 rw [List.getD_eq_getElem?_getD, List.getElem?_eq_getElem h] at hn
 have hn' : out[n] < 0 := hn
 have hp : 0 < out.countP (fun x => decide (x < 0)) := List.countP_pos_iff.2 ⟨out[n], List.getElem_mem h, by simp [hn']⟩
 rw [if_pos (by simp [hn']), if_neg (by simp; omega)]
 omega
def push (l : List S88) (c : Int) : List Int → List Nat → List Int × List Nat
 | out, [] => (out, [])
 | out, n :: ns => if (gearB (l.getD n z88) && decide (out.getD n 0 < 0)) = true then ((push l c (out.set n c) ns).1, n :: (push l c (out.set n c) ns).2) else push l c out ns
theorem ak (l : List S88) (c : Int) : ∀ (ns : List Nat) (out : List Int), (push l c out ns).1.length = out.length
 | [], _ => rfl
 | n :: ns, out => by
  unfold push
  split
  ·simp [ak l c ns]
  ·exact ak l c ns out
theorem aP (l : List S88) {c : Int} (hc : 0 ≤ c) : ∀ (ns : List Nat) (out : List Int), (∀ n ∈ ns, n < out.length) → neg (push l c out ns).1 + (push l c out ns).2.length = neg out
 | [], _, _ => rfl
 | n :: ns, out, h => by
  unfold push
  split
  ·rename_i hg
   simp only [Bool.and_eq_true, decide_eq_true_eq] at hg
   have h1 := aP l hc ns (out.set n c) (fun m hm => by rw [List.length_set]; exact h m (List.mem_cons_of_mem _ hm))
   have h2 := aQ (h n List.mem_cons_self) hg.2 hc
   simp only [List.length_cons]
   omega
  ·exact aP l hc ns out fun m hm => h m (List.mem_cons_of_mem _ hm)
theorem aA (l : List S88) (c : Int) : ∀ (ns : List Nat) (out : List Int), ∀ m ∈ (push l c out ns).2, m ∈ ns
 | [], _, m, hm => by simp [push] at hm
 | n :: ns, out, m, hm => by
  unfold push at hm
  split at hm
  ·rcases List.mem_cons.1 hm with rfl | h
   ·exact List.mem_cons_self
   ·exact List.mem_cons_of_mem _ (aA l c ns _ m h)
  ·exact List.mem_cons_of_mem _ (aA l c ns _ m hm)
def bfs (l : List S88) (R C : Nat) (c : Int) : Nat → List Int → List Nat → List Int
 | 0, out, _ => out
 | _ + 1, out, [] => out
 | f + 1, out, a :: q => bfs l R C c f (push l c out (near R C a)).1 (q ++ (push l c out (near R C a)).2)
theorem av (l : List S88) (R C : Nat) (c : Int) : ∀ (f : Nat) (out : List Int) (q : List Nat), (bfs l R C c f out q).length = out.length
 | 0, _, _ => rfl
 | _ + 1, _, [] => rfl
 | f + 1, out, a :: q => by rw [bfs, av l R C c f, ak]
def a5 (l : List S88) (R C : Nat) : Nat → Nat → List Int → Int → List Int
 | 0, _, out, _ => out
 | d + 1, i, out, c => if (gearB (l.getD i z88) && decide (out.getD i 0 < 0)) = true then a5 l R C d (i + 1) (bfs l R C c (l.length + 1) (out.set i c) [i]) (c + 1) else a5 l R C d (i + 1) out c
def a1 (l : List S88) (R C : Nat) : List Int := a5 l R C l.length 0 (List.replicate l.length (-1)) 0
theorem ah (l : List S88) (R C : Nat) : ∀ (d i : Nat) (out : List Int) (c : Int), (a5 l R C d i out c).length = out.length
 | 0, _, _, _ => rfl
 | d + 1, i, out, c => by
  unfold a5
  split
  ·rw [ah l R C d, av, List.length_set]
  ·exact ah l R C d _ _ _
theorem ax (l : List S88) (R C : Nat) : (a1 l R C).length = l.length := by
 rw [a1, ah, List.length_replicate]
theorem cL (out : List Int) : neg out ≤ out.length := List.countP_le_length
theorem ae (out : List Int) (n : Nat) : rd out (n : Int) = out.getD n 0 := by rw [rd, Int.toNat_natCast]

def turn1 (x : S88) : S88 := ⟨x.f0, wrap64 (1 - x.f1)⟩
def ag (G : List Int) (v : Int) (l : List S88) (n : Nat) : S88 := if (decide ((l.getD n z88).f0 = 6) && decide (G.getD n 0 = v)) = true then turn1 (l.getD n z88) else l.getD n z88
def turnL (G : List Int) (v : Int) (l : List S88) : List S88 := (List.range l.length).map (ag G v l)
theorem am (G : List Int) (v : Int) (l : List S88) : (turnL G v l).length = l.length := by simp [turnL]
theorem aH (G : List Int) (v : Int) (l : List S88) {n : Nat} (h : n < l.length) : (turnL G v l).getD n z88 = ag G v l n := be _ _ h

def turnB (a : Int) : Bool := decide (a = 3 ∨ a = 6)
theorem bE (a b : Int) : spec_paTurning.f a b = some (turnB a) := by
 unfold spec_paTurning.f turnB
 by_cases h : a = 3
 ·simp [h]
 ·rw [if_neg h]
  by_cases h6 : a = 6 <;> simp [h, h6]

theorem cA (r c : Int) (G : List Int) (l : List S88) (hG : G.length = l.length) (a : Nat) (ha : a < l.length) (hn : l.length ≤ 1048576) : ∀ (d i : Nat), l.length - i = d → i ≤ l.length →
 Ev (fun k => spec_flPass.l0 k G (a : Int) (l.length : Int) (i : Int) r c ((turnL G (G.getD a 0) l).take i ++ l.drop i)) (turnL G (G.getD a 0) l) := by
 have hT := am G (G.getD a 0) l
 intro d
 induction d with
 | zero =>
  intro i hd hi
  refine a9 0 fun k _ => ?_
  simp only [spec_flPass.l0]
  rw [if_neg (by omega), List.take_of_length_le (by omega), List.drop_of_length_le (by omega), List.append_nil]
 | succ d ih =>
  intro i hd hi
  have hlt : i < l.length := by omega
  have hget := bS (turnL G (G.getD a 0) l) l z88 (n := i) (by omega) hT
  have hml := bn (turnL G (G.getD a 0) l) l (n := i) (by omega) hT
  have hTi := aH G (G.getD a 0) l hlt
  have h2 := ih (i + 1) (by omega) (by omega)
  have same : ag G (G.getD a 0) l i = l.getD i z88 → (turnL G (G.getD a 0) l).take i ++ l.drop i = (turnL G (G.getD a 0) l).take (i + 1) ++ l.drop (i + 1) := fun h => c3 _ l z88 (by omega) hT (hTi.trans h)
  refine a6 0 h2 fun k _ => ?_
  simp only [spec_flPass.l0, spec_paTurn.f, Option.bind_some]
  rw [if_pos (by omega), if_pos (by omega), if_pos (by omega), ad, hget, ae, ae, a3 hlt (by omega)]
  by_cases h6 : (l.getD i z88).f0 = 6
  ·rw [if_pos h6, if_pos (by omega), if_pos (by omega), if_pos (by omega)]
   by_cases hg : G.getD i 0 = G.getD a 0
   ·rw [if_pos hg, Int.toNat_natCast]
    have e : ag G (G.getD a 0) l i = turn1 (l.getD i z88) := by
     unfold ag
     rw [if_pos (by simp only [Bool.and_eq_true, decide_eq_true_eq]; exact ⟨h6, hg⟩)]
    rw [show (⟨(l.getD i z88).f0, wrap64 (1 - (l.getD i z88).f1)⟩ : S88) = (turnL G (G.getD a 0) l).getD i z88 from (hTi.trans e).symm, b8 _ l z88 (by omega) hT]
   ·rw [if_neg hg, same (by unfold ag; rw [if_neg (by simp only [Bool.and_eq_true, decide_eq_true_eq]; exact fun h => hg h.2)])]
  ·rw [if_neg h6, same (by unfold ag; rw [if_neg (by simp only [Bool.and_eq_true, decide_eq_true_eq]; exact fun h => h6 h.1)])]
def passL (G : List Int) (l : List S88) (n : Nat) : List S88 :=
 if (l.getD n z88).f0 = 3 then l.set n (turn1 (l.getD n z88)) else if (l.getD n z88).f0 = 6 then turnL G (G.getD n 0) l else l
theorem af (G : List Int) (l : List S88) (n : Nat) : (passL G l n).length = l.length := by
 unfold passL
 split
 ·simp
 ·split
  ·exact am _ _ _
  ·rfl
theorem cw (r c : Int) (G : List Int) (l : List S88) (hG : G.length = l.length) (a : Nat) (ha : a < l.length) (hn : l.length ≤ 1048576) : Ev (fun k => spec_flPass.f k r c l G (a : Int)) (passL G l a) := by
 obtain ⟨K, hK⟩ := a4 (cA r c G l hG a ha hn l.length 0 (by omega) (by omega))
 refine ⟨K, fun k hk => ?_⟩
 have h := hK k hk
 simp only [List.take_zero, List.drop_zero, List.nil_append] at h
 simp only [spec_flPass.f, spec_paTurn.f, Option.bind_some, ad]
 unfold passL
 rw [if_pos (by omega), if_pos (by omega), Int.toNat_natCast]
 by_cases h3 : (l.getD a z88).f0 = 3
 ·rw [if_pos h3, if_pos h3]
  rfl
 ·rw [if_neg h3, if_neg h3]
  by_cases h6 : (l.getD a z88).f0 = 6
  ·rw [if_pos h6, if_pos h6]
   exact h
  ·rw [if_neg h6, if_neg h6]

def conv (x : S93) : S88 := ⟨x.f0, x.f1⟩
theorem cf (a : List S93) (hn : a.length ≤ 1048576) : ∀ (d i : Nat) (x : List S88), a.length - i = d → i ≤ a.length → x.length = a.length →
 Ev (fun k => laws_toCellS.l0 k a x (i : Int)) (x.take i ++ (a.drop i).map conv) := by
 intro d
 induction d with
 | zero =>
  intro i x hd hi hx
  obtain rfl : i = a.length := by omega
  refine a9 0 fun k _ => ?_
  simp only [laws_toCellS.l0]
  rw [if_neg (by omega)]
  simp [← hx]
 | succ d ih =>
  intro i x hd hi hx
  have hlt : i < a.length := by omega
  refine a6 0 (f := fun k => laws_toCellS.l0 k a (x.set i (conv (a.getD i z93))) ((i + 1 : Nat) : Int)) ?_ fun k _ => ?_
  ·have h := ih (i + 1) (x.set i (conv (a.getD i z93))) (by omega) (by omega) (by simpa using hx)
   rwa [cK x _ (by omega), List.append_assoc, List.singleton_append, ← List.map_cons, ← ac a z93 hlt] at h
  ·simp only [laws_toCellS.l0]
   rw [if_pos (by omega), if_pos (by omega)]
   simp only [laws_toCell.f, Option.bind_some]
   rw [if_pos (by omega), a3 hlt (by omega), Int.toNat_natCast]
   simp only [rd_T93, Int.toNat_natCast]
   rfl
theorem ce (a : List S93) (hn : a.length ≤ 1048576) : Ev (fun k => laws_toCellS.f k a) (a.map conv) := by
 refine ao 0 (f := fun k => laws_toCellS.l0 k a (List.replicate a.length z88) ((0 : Nat) : Int)) ?_ fun k _ => ?_
 ·have h := cf a hn a.length 0 (List.replicate a.length z88) (by omega) (by omega) (by simp)
  simpa using h
 ·simp only [laws_toCellS.f]
  rw [if_pos (by omega), if_pos (by omega)]
  simp

theorem c8 (r c : Int) (a : List S93) (hn : a.length ≤ 1048576) : Ev (fun k => laws_toBoard.f k r c a) (r, c, a.map conv) := by
 obtain ⟨K, hK⟩ := a4 (ce a hn)
 refine ⟨K, fun k hk => ?_⟩
 simp only [laws_toBoard.f]
 rw [bindE (hK k hk)]

theorem cc (a : List S93) (left : Int) (h0 : 0 ≤ left) (h1 : left ≤ 1048576) (hn : a.length ≤ 9223372036854775807) :
 laws_szCellS.f a left = some (if (a.length : Int) ≤ left then left - a.length else -1) := by
 unfold laws_szCellS.f
 rw [a2 (by omega) (by omega)]
 by_cases h : (a.length : Int) ≤ left
 ·rw [if_neg (by omega), if_pos h]
 ·rw [if_pos (by omega), if_neg h]

theorem c9 (r c : Int) (a : List S93) (left : Int) (h0 : 0 ≤ left) (h1 : left ≤ 1048576) (hn : a.length ≤ 9223372036854775807) :
 laws_szBoard.f r c a left = some (if (a.length : Int) ≤ left then left - a.length else -1) := by
 unfold laws_szBoard.f
 rw [bindE (cc a left h0 h1 hn)]
 by_cases h : (a.length : Int) ≤ left
 ·rw [if_pos h, if_neg (by omega)]
 ·rw [if_neg h, if_pos (by omega)]

theorem ca (a : List S88) (hn : a.length ≤ 1048576) : ∀ (d i : Nat), a.length - i = d → i ≤ a.length → Ev (fun k => laws_eqCellS.l0 k a a (i : Int)) true := by
 intro d
 induction d with
 | zero =>
  intro i hd hi
  refine a9 0 fun k _ => ?_
  simp only [laws_eqCellS.l0]
  rw [if_neg (by omega)]
 | succ d ih =>
  intro i hd hi
  have hlt : i < a.length := by omega
  refine a6 0 (ih (i + 1) (by omega) (by omega)) fun k _ => ?_
  simp only [laws_eqCellS.l0]
  rw [if_pos (by omega), if_pos (by omega), if_pos (by omega), a3 hlt (by omega)]
  simp [laws_eqCell.f]
theorem c5 (a : List S88) (hn : a.length ≤ 1048576) : Ev (fun k => laws_eqCellS.f k a a) true := by
 refine ao 0 (ca a hn a.length 0 (by omega) (by omega)) fun k _ => ?_
 simp only [laws_eqCellS.f, if_true]
 rfl

theorem c7 (r c : Int) (a : List S88) (hn : a.length ≤ 1048576) : Ev (fun k => laws_eqBoard.f k r c a r c a) true := by
 obtain ⟨K, hK⟩ := a4 (c5 a hn)
 refine ⟨K, fun k hk => ?_⟩
 simp only [laws_eqBoard.f]
 rw [if_pos trivial, if_pos trivial, bindE (hK k hk), ab]

theorem bv (a b : Int) : impl_IsCell.f a b = some (goodB a b) := by
 unfold impl_IsCell.f goodB
 by_cases h0 : a < 0
 ·rw [if_pos h0]; simp; omega
 rw [if_neg h0]
 by_cases h1 : a > 7
 ·rw [if_pos h1]; simp; omega
 rw [if_neg h1]
 by_cases h2 : b < 0
 ·rw [if_pos h2]; simp; omega
 rw [if_neg h2]
 by_cases h3 : b > 1
 ·rw [if_pos h3]; simp; omega
 rw [if_neg h3]
 by_cases h4 : b = 0
 ·rw [if_pos h4]; simp; omega
 rw [if_neg h4]
 by_cases h5 : a = 3
 ·rw [if_pos h5]; simp; omega
 rw [if_neg h5]
 by_cases h6 : a = 6
 ·simp [h6]; omega
 ·simp [h5, h6, h4]

theorem bm (x : S88) : impl_IsCell.f x.f0 x.f1 = some (goodC x) := bv _ _
theorem bp (a : List S88) (hn : a.length ≤ 1048576) : ∀ (d i : Nat), a.length - i = d → i ≤ a.length →
 Ev (fun k => impl_validCells.l0 k a (a.length : Int) (i : Int)) ((a.drop i).all goodC) := by
 intro d
 induction d with
 | zero =>
  intro i hd hi
  refine a9 0 fun k _ => ?_
  simp only [impl_validCells.l0]
  rw [if_neg (by omega), List.drop_of_length_le (by omega)]
  simp
 | succ d ih =>
  intro i hd hi
  have hlt : i < a.length := by omega
  have h := ih (i + 1) (by omega) (by omega)
  rw [ac a z88 hlt, List.all_cons]
  by_cases hg : goodC (a.getD i z88) = true
  ·rw [hg, Bool.true_and]
   refine a6 0 h fun k _ => ?_
   simp only [impl_validCells.l0, rd_T88, Int.toNat_natCast, bm, Option.bind_some]
   rw [if_pos (by omega), if_pos (by omega), if_pos (by omega), if_pos hg, a3 hlt (by omega)]
  ·rw [Bool.eq_false_iff.2 hg, Bool.false_and]
   refine a9 0 fun k _ => ?_
   simp only [impl_validCells.l0, rd_T88, Int.toNat_natCast, bm, Option.bind_some]
   rw [if_pos (by omega), if_pos (by omega), if_pos (by omega), if_neg hg]
theorem bq (a : List S88) (hn : a.length ≤ 1048576) : Ev (fun k => impl_validCells.f k a) (a.all goodC && decide (a.length ≤ 90)) := by
 by_cases h : a.length ≤ 90
 ·rw [decide_eq_true h, Bool.and_true]
  refine ao 0 (bp a hn a.length 0 (by omega) (by omega)) fun k _ => ?_
  simp only [impl_validCells.f]
  rw [if_neg (by omega)]
  rfl
 ·rw [decide_eq_false h, Bool.and_false]
  refine cX fun k => ?_
  simp only [impl_validCells.f]
  rw [if_pos (by omega)]

theorem cd (r c : Int) (l : List S88) (hn : l.length ≤ 1048576) : Ev (fun k => impl_IsBoard.f k r c l) (a8 r c l) := by
 obtain ⟨K, hK⟩ := a4 (bq l hn)
 refine ⟨K, fun k hk => ?_⟩
 simp only [impl_IsBoard.f]
 by_cases h1 : r ≥ 1
 ·rw [if_pos h1]
  by_cases h2 : r ≤ 10
  ·rw [if_pos h2]
   by_cases h3 : c ≥ 1
   ·rw [if_pos h3]
    by_cases h4 : c ≤ 9
    ·have hm := aR h1 h2 h3 h4
     rw [if_pos h4, a2 (by omega) (by omega)]
     by_cases h5 : (l.length : Int) = r * c
     ·rw [if_pos h5, bindE (hK k hk)]
      have h6 : l.length ≤ 90 := by omega
      have h7 : 1 ≤ r := h1
      have h8 : 1 ≤ c := h3
      simp [a8, sizeB, h7, h2, h8, h4, h5, h6]
     ·rw [if_neg h5]
      simp [a8, sizeB, h5]
    ·rw [if_neg h4]
     simp [a8, sizeB, h4]
   ·rw [if_neg h3]
    have h3' : ¬ 1 ≤ c := h3
    simp [a8, sizeB, h3']
  ·rw [if_neg h2]
   simp [a8, sizeB, h2]
 ·rw [if_neg h1]
  have h1' : ¬ 1 ≤ r := h1
  simp [a8, sizeB, h1']

theorem ar (a lo hi : Int) : spec_l1In.f a lo hi = some (decide (lo ≤ a ∧ a ≤ hi)) := by
 unfold spec_l1In.f
 by_cases h : a ≥ lo
 ·rw [if_pos h]
  simp [show lo ≤ a from h]
 ·rw [if_neg h]
  simp [show ¬ lo ≤ a from h]

theorem cu (a b : Int) : spec_paGood.f a b = some (goodB a b) := by
 unfold spec_paGood.f
 rw [ar, Option.bind_some]
 by_cases h : 0 ≤ a ∧ a ≤ 7
 ·rw [decide_eq_true h, if_pos rfl]
  by_cases h0 : b = 0
  ·rw [if_pos h0]
   simp [goodB, h, h0]
  ·rw [if_neg h0]
   by_cases h1 : b = 1
   ·rw [if_pos h1, bE, Option.bind_some]
    simp [goodB, turnB, h, h1]
   ·rw [if_neg h1]
    simp [goodB, h0, h1]
 ·rw [decide_eq_false h, if_neg (by simp)]
  simp [goodB, h]

theorem bc (x : S88) : spec_paGood.f x.f0 x.f1 = some (goodC x) := cu _ _
theorem cp (a : List S88) (hn : a.length ≤ 1048576) : ∀ (d i : Nat), a.length - i = d → i ≤ a.length →
 Ev (fun k => spec_boGood.l0 k a (a.length : Int) (i : Int)) ((a.drop i).all goodC) := by
 intro d
 induction d with
 | zero =>
  intro i hd hi
  refine a9 0 fun k _ => ?_
  simp only [spec_boGood.l0]
  rw [if_neg (by omega), List.drop_of_length_le (by omega)]
  simp
 | succ d ih =>
  intro i hd hi
  have hlt : i < a.length := by omega
  have h := ih (i + 1) (by omega) (by omega)
  rw [ac a z88 hlt, List.all_cons]
  by_cases hg : goodC (a.getD i z88) = true
  ·rw [hg, Bool.true_and]
   refine a6 0 h fun k _ => ?_
   simp only [spec_boGood.l0, rd_T88, Int.toNat_natCast, bc, Option.bind_some]
   rw [if_pos (by omega), if_pos (by omega), if_pos (by omega), if_pos hg, a3 hlt (by omega)]
  ·rw [Bool.eq_false_iff.2 hg, Bool.false_and]
   refine a9 0 fun k _ => ?_
   simp only [spec_boGood.l0, rd_T88, Int.toNat_natCast, bc, Option.bind_some]
   rw [if_pos (by omega), if_pos (by omega), if_pos (by omega), if_neg hg]
theorem cn (r c : Int) (l : List S88) (hn : l.length ≤ 1048576) : Ev (fun k => spec_boGood.f k r c l) (a8 r c l) := by
 obtain ⟨K, hK⟩ := a4 (cp l hn l.length 0 (by omega) (by omega))
 refine ⟨K + 1, fun k hk => ?_⟩
 obtain ⟨k, rfl⟩ : ∃ m, k = m + 1 := ⟨k - 1, by omega⟩
 have hK' := hK k (by omega)
 simp only [spec_boGood.f, ar, Option.bind_some, spec_boGood.j0, ab]
 by_cases h1 : 1 ≤ r ∧ r ≤ 10
 ·rw [decide_eq_true h1, ab]
  by_cases h2 : 1 ≤ c ∧ c ≤ 9
  ·rw [decide_eq_true h2, ab]
   have hm := aR h1.1 h1.2 h2.1 h2.2
   rw [a2 (by omega) (by omega)]
   by_cases h5 : (l.length : Int) = r * c
   ·have h6 : ((l.length : Int) != r * c) = false := by simp [h5]
    rw [h6, if_neg (by simp)]
    refine hK'.trans ?_
    simp [a8, sizeB, h1, h2, h5]
   ·have h6 : ((l.length : Int) != r * c) = true := by simp [h5]
    rw [h6, ab]
    simp [a8, sizeB, h5]
  ·rw [decide_eq_false h2, if_neg (by simp)]
   simp [a8, sizeB, h2]
 ·rw [decide_eq_false h1, if_neg (by simp)]
  simp [a8, sizeB, h1]



theorem bR (R C a : Nat) (l : List S88) (hR : R ≤ 10) (hC1 : 1 ≤ C) (hC : C ≤ 9) (ha : a < R * C) (h90 : R * C ≤ 90) : Ev (fun k => impl_besideOf.f k (R : Int) (C : Int) l (a : Int)) (castL (near R C a)) := by
 have hm := Nat.mod_lt a (show C > 0 by omega)
 have hr : a / C < R := by
  apply Nat.div_lt_of_lt_mul
  rwa [Nat.mul_comm]
 have e1 : Int.tdiv (a : Int) (C : Int) = ((a / C : Nat) : Int) := rfl
 have e2 : Int.tmod (a : Int) (C : Int) = ((a % C : Nat) : Int) := rfl
 have hsub : a / C > 0 → C ≤ a := fun h => by
  have hd := Nat.div_add_mod a C
  have : C * 1 ≤ C * (a / C) := Nat.mul_le_mul_left C h
  omega
 refine ⟨2, fun k hk => ?_⟩
 obtain ⟨k, rfl⟩ : ∃ m, k = m + 1 + 1 := ⟨k - 2, by omega⟩
 simp only [impl_besideOf.f, Option.bind_some]
 rw [e1, e2]
 clear e1 e2
 have hpa : a % C > 0 → 1 ≤ a := fun h => by
  have := Nat.mod_le a C
  omega
 unfold near
 generalize a / C = q at *
 generalize a % C = p at *
 rw [if_neg (by omega), a2 (x := (q : Int)) (by omega) (by omega)]
 have j1 : ∀ (x : List Int), x.length ≤ 2 → impl_besideOf.j1 (k + 1) (a : Int) x (q : Int) (p : Int) (R : Int) (C : Int) l = some (x ++ castL ((if p + 1 < C then [a + 1] else []) ++ (if q + 1 < R then [a + C] else []))) := by
  intro x hx
  simp only [impl_besideOf.j1]
  rw [a2 (x := (p : Int) + 1) (by omega) (by omega), a2 (x := (q : Int) + 1) (by omega) (by omega), a2 (x := (a : Int) + 1) (by omega) (by omega), a2 (x := (a : Int) + (C : Int)) (by omega) (by omega)]
  by_cases h1 : p + 1 < C
  ·rw [if_pos (by omega), if_pos (by omega), if_pos h1, Option.bind_some]
   by_cases h2 : q + 1 < R
   ·rw [if_pos (by omega), if_pos h2, if_pos (by simp; omega)]
    simp [castL]
   ·rw [if_neg (by omega), if_neg h2]
    simp [castL]
  ·rw [if_neg (by omega), if_neg h1]
   by_cases h2 : q + 1 < R
   ·rw [if_pos (by omega), if_pos h2, if_pos (by omega)]
    simp [castL]
   ·rw [if_neg (by omega), if_neg h2]
    simp [castL]
 have j0 : ∀ (x : List Int), x.length ≤ 1 → impl_besideOf.j0 (k + 1 + 1) (a : Int) x (q : Int) (p : Int) (R : Int) (C : Int) l = some (x ++ castL ((if p > 0 then [a - 1] else []) ++ ((if p + 1 < C then [a + 1] else []) ++ (if q + 1 < R then [a + C] else [])))) := by
  intro x hx
  simp only [impl_besideOf.j0]
  by_cases h1 : p > 0
  ·rw [if_pos (by omega), if_pos (by omega), if_pos h1, j1 _ (by simp; omega), a2 (x := (a : Int) - 1) (by omega) (by omega)]
   have : ((a : Int) - 1) = ((a - 1 : Nat) : Int) := by have := hpa h1; omega
   rw [this]
   simp [castL]
  ·rw [if_neg (by omega), if_neg h1, j1 _ (by omega)]
   simp [castL]
 by_cases h0 : q > 0
 ·have := hsub h0
  rw [if_pos (by omega), if_pos (by simp), if_pos h0, j0 _ (by simp), a2 (x := (a : Int) - (C : Int)) (by omega) (by omega), show (a : Int) - (C : Int) = ((a - C : Nat) : Int) by omega]
  simp [castL]
 ·rw [if_neg (by omega), if_neg h0, j0 _ (by simp)]
  simp [castL]

theorem aT (x : S88) : impl_isGeared.f x.f0 x.f1 = some (gearB x) := by
 unfold impl_isGeared.f gearB
 by_cases h : x.f0 = 6
 ·simp [h]
 ·rw [if_neg h]
  by_cases h7 : x.f0 = 7 <;> simp [h, h7]
theorem aX (l : List S88) (R C : Nat) (c : Int) (hc : 0 ≤ c) (i : Nat) (ns : List Nat) (hns : ∀ n ∈ ns, n < l.length) (h90 : l.length ≤ 90) (hns4 : ns.length ≤ 4) (res : List Int) :
 ∀ (d j : Nat) (out : List Int) (q : List Nat), ns.length - j = d → j ≤ ns.length → out.length = l.length → q.length + neg out ≤ l.length →
 Ev (fun k => impl_groupNumbers.l2 k (push l c out (ns.drop j)).1 c (castL (q ++ (push l c out (ns.drop j)).2)) l (l.length : Int) (i : Int) (R : Int) (C : Int) l) res →
 Ev (fun k => impl_groupNumbers.l3 k out c (castL q) l (l.length : Int) (i : Int) (castL ns) (ns.length : Int) (j : Int) (R : Int) (C : Int) l) res := by
 intro d
 induction d with
 | zero =>
  intro j out q hd hj ho hq hnext
  rw [List.drop_of_length_le (by omega)] at hnext
  simp only [push, List.append_nil] at hnext
  refine a6 0 hnext fun k _ => ?_
  simp only [impl_groupNumbers.l3]
  rw [if_neg (by omega)]
 | succ d ih =>
  intro j out q hd hj ho hq hnext
  have hlt : j < ns.length := by omega
  have hn : ns.getD j 0 < l.length := by
   rw [List.getD_eq_getElem?_getD, List.getElem?_eq_getElem hlt]
   exact hns _ (List.getElem_mem hlt)
  rw [ac ns 0 hlt] at hnext
  have hg := aT (l.getD (ns.getD j 0) z88)
  by_cases h : (gearB (l.getD (ns.getD j 0) z88) && decide (out.getD (ns.getD j 0) 0 < 0)) = true
  ·simp only [push, if_pos h] at hnext
   simp only [Bool.and_eq_true, decide_eq_true_eq] at h
   have hneg := aQ (by omega) h.2 hc
   have h2 := ih (j + 1) (out.set (ns.getD j 0) c) (q ++ [ns.getD j 0]) (by omega) (by omega) (by simpa using ho) (by simp only [List.length_append, List.length_singleton]; omega) (by simpa [List.append_assoc] using hnext)
   refine a6 0 h2 fun k _ => ?_
   simp only [impl_groupNumbers.l3]
   rw [if_pos (by omega), if_pos (by omega), if_pos (by rw [a7]; omega), aE ns hlt, if_pos (by omega), if_pos (by omega), ad, bindE hg, if_pos h.1, if_pos (by omega), ae, if_pos h.2, if_pos (by rw [a7]; omega), a3 hlt (by omega), Int.toNat_natCast, aL]
   rfl
  ·simp only [push, if_neg h] at hnext
   have h2 := ih (j + 1) out q (by omega) (by omega) ho hq hnext
   refine a6 0 h2 fun k _ => ?_
   simp only [impl_groupNumbers.l3]
   rw [if_pos (by omega), if_pos (by omega), if_pos (by rw [a7]; omega), aE ns hlt, if_pos (by omega), if_pos (by omega), ad, bindE hg, a3 hlt (by omega)]
   by_cases h1 : gearB (l.getD (ns.getD j 0) z88) = true
   ·rw [if_pos h1, if_pos (by omega), ae, if_neg (fun h3 => h (by simp only [Bool.and_eq_true, decide_eq_true_eq]; exact ⟨h1, h3⟩))]
   ·rw [if_neg h1]
theorem aW (l : List S88) (R C : Nat) (hlen : l.length = R * C) (hR : R ≤ 10) (hC1 : 1 ≤ C) (hC : C ≤ 9) (h90 : l.length ≤ 90) (c : Int) (hc : 0 ≤ c) (i : Nat) (hi : i < l.length) (hci : c ≤ i) (res : List Int) :
 ∀ (f : Nat) (out : List Int) (q : List Nat), (∀ n ∈ q, n < l.length) → out.length = l.length → q.length + neg out ≤ l.length → q.length + neg out < f →
 Ev (fun k => impl_groupNumbers.l1 k (bfs l R C c f out q) (c + 1) l (l.length : Int) ((i + 1 : Nat) : Int) (R : Int) (C : Int) l) res →
 Ev (fun k => impl_groupNumbers.l2 k out c (castL q) l (l.length : Int) (i : Int) (R : Int) (C : Int) l) res := by
 intro f
 induction f with
 | zero => intro out q _ _ _ h; omega
 | succ f ih =>
  intro out q hq ho hm hf hnext
  cases q with
  | nil =>
   rw [bfs] at hnext
   refine a6 0 hnext fun k _ => ?_
   simp only [impl_groupNumbers.l2]
   rw [if_neg (by simp [castL]), a3 hi (by omega), a2 (x := c + 1) (by omega) (by omega)]
  | cons a q =>
   have ha : a < l.length := hq a List.mem_cons_self
   have hnl : ∀ n ∈ near R C a, n < l.length := fun n hn => by
    have := bI hC1 (by omega) n hn
    omega
   rw [bfs] at hnext
   have hp := aP l hc (near R C a) out (fun n hn => by rw [ho]; exact hnl n hn)
   simp only [List.length_cons] at hm hf
   have h2 := ih (push l c out (near R C a)).1 (q ++ (push l c out (near R C a)).2) (fun n hn => by
    rcases List.mem_append.1 hn with h | h
    ·exact hq n (List.mem_cons_of_mem _ h)
    ·exact hnl n (aA l c _ out n h)) (by rw [ak]; exact ho) (by rw [List.length_append]; omega) (by rw [List.length_append]; omega) hnext
   have h3 := aX l R C c hc i (near R C a) hnl h90 (aU R C a) res (near R C a).length 0 out q (by omega) (by omega) ho (by omega) h2
   obtain ⟨K, hK⟩ := a4 (bR R C a l hR hC1 hC (by omega) (by omega))
   refine a6 K h3 fun k hk => ?_
   simp only [impl_groupNumbers.l2]
   rw [if_pos (by rw [a7, List.length_cons]; omega), if_pos (by rw [a7, List.length_cons]; omega), if_pos (by rw [a7, List.length_cons]; omega), show rd (castL (a :: q)) 0 = (a : Int) from rfl, bindE (hK k hk), a7]
   rfl
theorem aY (l : List S88) (R C : Nat) (hlen : l.length = R * C) (hR : R ≤ 10) (hC1 : 1 ≤ C) (hC : C ≤ 9) (h90 : l.length ≤ 90) :
 ∀ (d i : Nat) (out : List Int) (c : Int), l.length - i = d → i ≤ l.length → out.length = l.length → 0 ≤ c → c ≤ i →
 Ev (fun k => impl_groupNumbers.l1 k out c l (l.length : Int) (i : Int) (R : Int) (C : Int) l) (a5 l R C d i out c) := by
 intro d
 induction d with
 | zero =>
  intro i out c hd hi ho h0 hc
  refine a9 0 fun k _ => ?_
  simp only [impl_groupNumbers.l1]
  rw [if_neg (by omega)]
  rfl
 | succ d ih =>
  intro i out c hd hi ho h0 hc
  have hlt : i < l.length := by omega
  have hg := aT (l.getD i z88)
  rw [a5]
  by_cases h : (gearB (l.getD i z88) && decide (out.getD i 0 < 0)) = true
  ·rw [if_pos h]
   simp only [Bool.and_eq_true, decide_eq_true_eq] at h
   have hneg := aQ (by omega) h.2 h0
   have hle := cL out
   have h1 := ih (i + 1) (bfs l R C c (l.length + 1) (out.set i c) [i]) (c + 1) (by omega) (by omega) (by rw [av, List.length_set]; exact ho) (by omega) (by omega)
   have h2 := aW l R C hlen hR hC1 hC h90 c h0 i hlt hc _ (l.length + 1) (out.set i c) [i] (fun n hn => by simp at hn; omega) (by simpa using ho) (by simp only [List.length_singleton]; omega) (by simp only [List.length_singleton]; omega) h1
   obtain ⟨K, hK⟩ := a4 h2
   refine ⟨K + 2, fun k hk => ?_⟩
   obtain ⟨k, rfl⟩ : ∃ m, k = m + 1 + 1 := ⟨k - 2, by omega⟩
   simp only [impl_groupNumbers.l1]
   rw [if_pos (by omega), if_pos (by omega), if_pos (by omega), ad, bindE hg, if_pos h.1, if_pos (by omega), ae, decide_eq_false (by omega)]
   simp only [impl_groupNumbers.j2]
   rw [if_neg (by simp), if_pos (by omega), if_pos (by omega), Int.toNat_natCast]
   exact hK k (by omega)
  ·rw [if_neg h]
   obtain ⟨K, hK⟩ := a4 (ih (i + 1) out c (by omega) (by omega) ho h0 (by omega))
   refine ⟨K + 2, fun k hk => ?_⟩
   obtain ⟨k, rfl⟩ : ∃ m, k = m + 1 + 1 := ⟨k - 2, by omega⟩
   simp only [impl_groupNumbers.l1]
   rw [if_pos (by omega), if_pos (by omega), if_pos (by omega), ad, bindE hg]
   have e : impl_groupNumbers.j2 (k + 1) out c (i : Int) l (l.length : Int) (i : Int) true (R : Int) (C : Int) l = some (a5 l R C d (i + 1) out c) := by
    simp only [impl_groupNumbers.j2]
    rw [if_pos trivial, a3 hlt (by omega)]
    exact hK k (by omega)
   by_cases h1 : gearB (l.getD i z88) = true
   ·have h2 : ¬ out.getD i 0 < 0 := fun h3 => h (by simp only [Bool.and_eq_true, decide_eq_true_eq]; exact ⟨h1, h3⟩)
    rw [if_pos h1, if_pos (by omega), ae, decide_eq_true (show out.getD i 0 ≥ 0 by omega), e]
   ·rw [if_neg h1, e]
theorem b0 (l : List S88) (R C : Nat) (h90 : l.length ≤ 90) (res : List Int) (hnext : Ev (fun k => impl_groupNumbers.l1 k (List.replicate l.length (-1)) 0 l (l.length : Int) 0 (R : Int) (C : Int) l) res) :
 ∀ (d i : Nat), l.length - i = d → i ≤ l.length →
 Ev (fun k => impl_groupNumbers.l0 k ((List.replicate l.length (-1)).take i ++ (List.replicate l.length (0 : Int)).drop i) (l.length : Int) (i : Int) (R : Int) (C : Int) l) res := by
 intro d
 induction d with
 | zero =>
  intro i hd hi
  obtain rfl : i = l.length := by omega
  refine a6 0 hnext fun k _ => ?_
  simp only [impl_groupNumbers.l0]
  rw [if_neg (by omega), List.take_of_length_le (by simp), List.drop_of_length_le (by simp), List.append_nil]
 | succ d ih =>
  intro i hd hi
  have hlt : i < l.length := by omega
  have hm := b8 (List.replicate l.length (-1 : Int)) (List.replicate l.length (0 : Int)) (-1) (n := i) (by simpa using hlt) (by simp)
  rw [show (List.replicate l.length (-1 : Int)).getD i (-1) = -1 by simp [List.getD_eq_getElem?_getD, hlt]] at hm
  refine a6 0 (ih (i + 1) (by omega) (by omega)) fun k _ => ?_
  simp only [impl_groupNumbers.l0]
  rw [if_pos (by omega), if_pos (by omega), if_pos (by simp; omega), Int.toNat_natCast, hm, a3 hlt (by omega)]
theorem b7 (l : List S88) (R C : Nat) (hlen : l.length = R * C) (hR : R ≤ 10) (hC1 : 1 ≤ C) (hC : C ≤ 9) (h90 : l.length ≤ 90) : Ev (fun k => impl_groupNumbers.f k (R : Int) (C : Int) l) (a1 l R C) := by
 have h1 := aY l R C hlen hR hC1 hC h90 l.length 0 (List.replicate l.length (-1)) 0 (by omega) (by omega) (by simp) (by omega) (by omega)
 have h0 := b0 l R C h90 _ h1 l.length 0 (by omega) (by omega)
 refine ao 0 h0 fun k _ => ?_
 simp only [impl_groupNumbers.f]
 rw [if_pos (by omega), if_pos (by omega), Option.bind_some, Int.toNat_natCast, List.length_replicate]
 simp

theorem cz (R C a : Nat) (l : List S88) (hR : R ≤ 10) (hC1 : 1 ≤ C) (hC : C ≤ 9) (ha : a < R * C) (h90 : R * C ≤ 90) : Ev (fun k => spec_ggNear.f k (R : Int) (C : Int) l (a : Int)) (castL (near R C a)) := by
 have hm := Nat.mod_lt a (show C > 0 by omega)
 have hr : a / C < R := by
  apply Nat.div_lt_of_lt_mul
  rwa [Nat.mul_comm]
 have e1 : Int.tdiv (a : Int) (C : Int) = ((a / C : Nat) : Int) := rfl
 have e2 : Int.tmod (a : Int) (C : Int) = ((a % C : Nat) : Int) := rfl
 have hsub : a / C > 0 → C ≤ a := fun h => by
  have hd := Nat.div_add_mod a C
  have : C * 1 ≤ C * (a / C) := Nat.mul_le_mul_left C h
  omega
 refine ⟨2, fun k hk => ?_⟩
 obtain ⟨k, rfl⟩ : ∃ m, k = m + 1 + 1 := ⟨k - 2, by omega⟩
 simp only [spec_ggNear.f]
 rw [e1, e2]
 clear e1 e2
 have hpa : a % C > 0 → 1 ≤ a := fun h => by
  have := Nat.mod_le a C
  omega
 unfold near
 generalize a / C = q at *
 generalize a % C = p at *
 rw [if_neg (by omega), a2 (x := (q : Int)) (by omega) (by omega)]
 have j1 : ∀ (x : List Int), x.length ≤ 2 → spec_ggNear.j1 (k + 1) (a : Int) (q : Int) (p : Int) x (R : Int) (C : Int) l = some (x ++ castL ((if p + 1 < C then [a + 1] else []) ++ (if q + 1 < R then [a + C] else []))) := by
  intro x hx
  simp only [spec_ggNear.j1]
  rw [a2 (x := (p : Int) + 1) (by omega) (by omega), a2 (x := (q : Int) + 1) (by omega) (by omega), a2 (x := (a : Int) + 1) (by omega) (by omega), a2 (x := (a : Int) + (C : Int)) (by omega) (by omega)]
  by_cases h1 : p + 1 < C
  ·rw [if_pos (by omega), if_pos (by omega), if_pos h1, Option.bind_some]
   by_cases h2 : q + 1 < R
   ·rw [if_pos (by omega), if_pos h2, if_pos (by simp; omega)]
    simp [castL]
   ·rw [if_neg (by omega), if_neg h2]
    simp [castL]
  ·rw [if_neg (by omega), if_neg h1]
   by_cases h2 : q + 1 < R
   ·rw [if_pos (by omega), if_pos h2, if_pos (by omega)]
    simp [castL]
   ·rw [if_neg (by omega), if_neg h2]
    simp [castL]
 have j0 : ∀ (x : List Int), x.length ≤ 1 → spec_ggNear.j0 (k + 1 + 1) (a : Int) (q : Int) (p : Int) x (R : Int) (C : Int) l = some (x ++ castL ((if p > 0 then [a - 1] else []) ++ ((if p + 1 < C then [a + 1] else []) ++ (if q + 1 < R then [a + C] else [])))) := by
  intro x hx
  simp only [spec_ggNear.j0]
  by_cases h1 : p > 0
  ·rw [if_pos (by omega), if_pos (by omega), if_pos h1, j1 _ (by simp; omega), a2 (x := (a : Int) - 1) (by omega) (by omega)]
   have : ((a : Int) - 1) = ((a - 1 : Nat) : Int) := by have := hpa h1; omega
   rw [this]
   simp [castL]
  ·rw [if_neg (by omega), if_neg h1, j1 _ (by omega)]
   simp [castL]
 by_cases h0 : q > 0
 ·have := hsub h0
  rw [if_pos (by omega), if_pos (by simp), if_pos h0, j0 _ (by simp), a2 (x := (a : Int) - (C : Int)) (by omega) (by omega), show (a : Int) - (C : Int) = ((a - C : Nat) : Int) by omega]
  simp [castL]
 ·rw [if_neg (by omega), if_neg h0, j0 _ (by simp)]
  simp [castL]

theorem bs (x : S88) : spec_ggGear.f x.f0 x.f1 = some (gearB x) := by
 unfold spec_ggGear.f gearB
 by_cases h : x.f0 = 6
 ·simp [h]
 ·rw [if_neg h]
  by_cases h7 : x.f0 = 7 <;> simp [h, h7]
theorem bN (l : List S88) (R C : Nat) (c : Int) (hc : 0 ≤ c) (i : Nat) (ns : List Nat) (hns : ∀ n ∈ ns, n < l.length) (h90 : l.length ≤ 90) (hns4 : ns.length ≤ 4) (x : Nat) (hx : x < l.length) (res : List Int) :
 ∀ (d j : Nat) (out : List Int) (q : List Nat), ns.length - j = d → j ≤ ns.length → out.length = l.length → q.length + neg out ≤ l.length →
 Ev (fun k => spec_ggGroups.l2 k (push l c out (ns.drop j)).1 c (castL (q ++ (push l c out (ns.drop j)).2)) ((x + 1 : Nat) : Int) l (l.length : Int) (i : Int) (R : Int) (C : Int) l) res →
 Ev (fun k => spec_ggGroups.l3 k out c (castL q) (x : Int) l (l.length : Int) (i : Int) (castL ns) (ns.length : Int) (j : Int) (R : Int) (C : Int) l) res := by
 intro d
 induction d with
 | zero =>
  intro j out q hd hj ho hq hnext
  rw [List.drop_of_length_le (by omega)] at hnext
  simp only [push, List.append_nil] at hnext
  refine a6 0 hnext fun k _ => ?_
  simp only [spec_ggGroups.l3]
  rw [if_neg (by omega), a3 hx (by omega)]
 | succ d ih =>
  intro j out q hd hj ho hq hnext
  have hlt : j < ns.length := by omega
  have hn : ns.getD j 0 < l.length := by
   rw [List.getD_eq_getElem?_getD, List.getElem?_eq_getElem hlt]
   exact hns _ (List.getElem_mem hlt)
  rw [ac ns 0 hlt] at hnext
  have hg := bs (l.getD (ns.getD j 0) z88)
  by_cases h : (gearB (l.getD (ns.getD j 0) z88) && decide (out.getD (ns.getD j 0) 0 < 0)) = true
  ·simp only [push, if_pos h] at hnext
   simp only [Bool.and_eq_true, decide_eq_true_eq] at h
   have hneg := aQ (by omega) h.2 hc
   have h2 := ih (j + 1) (out.set (ns.getD j 0) c) (q ++ [ns.getD j 0]) (by omega) (by omega) (by simpa using ho) (by simp only [List.length_append, List.length_singleton]; omega) (by simpa [List.append_assoc] using hnext)
   refine a6 0 h2 fun k _ => ?_
   simp only [spec_ggGroups.l3]
   rw [if_pos (by omega), if_pos (by omega), if_pos (by rw [a7]; omega), aE ns hlt, if_pos (by omega), if_pos (by omega), ad, bindE hg, if_pos h.1, if_pos (by omega), ae, if_pos h.2, if_pos (by rw [a7]; omega), a3 hlt (by omega), Int.toNat_natCast, aL]
   rfl
  ·simp only [push, if_neg h] at hnext
   have h2 := ih (j + 1) out q (by omega) (by omega) ho hq hnext
   refine a6 0 h2 fun k _ => ?_
   simp only [spec_ggGroups.l3]
   rw [if_pos (by omega), if_pos (by omega), if_pos (by rw [a7]; omega), aE ns hlt, if_pos (by omega), if_pos (by omega), ad, bindE hg, a3 hlt (by omega)]
   by_cases h1 : gearB (l.getD (ns.getD j 0) z88) = true
   ·rw [if_pos h1, if_pos (by omega), ae, if_neg (fun h3 => h (by simp only [Bool.and_eq_true, decide_eq_true_eq]; exact ⟨h1, h3⟩))]
   ·rw [if_neg h1]
theorem bT (l : List S88) (R C : Nat) (hlen : l.length = R * C) (hR : R ≤ 10) (hC1 : 1 ≤ C) (hC : C ≤ 9) (h90 : l.length ≤ 90) (c : Int) (hc : 0 ≤ c) (i : Nat) (hi : i < l.length) (hci : c ≤ i) (res : List Int) :
 ∀ (f : Nat) (out : List Int) (q : List Nat) (x : Nat), (∀ n ∈ q, n < l.length) → out.length = l.length → x ≤ q.length → q.length + neg out ≤ l.length → q.length - x + neg out < f →
 Ev (fun k => spec_ggGroups.l1 k (bfs l R C c f out (q.drop x)) (c + 1) l (l.length : Int) ((i + 1 : Nat) : Int) (R : Int) (C : Int) l) res →
 Ev (fun k => spec_ggGroups.l2 k out c (castL q) (x : Int) l (l.length : Int) (i : Int) (R : Int) (C : Int) l) res := by
 intro f
 induction f with
 | zero => intro out q x _ _ _ _ h; omega
 | succ f ih =>
  intro out q x hq ho hx hm hf hnext
  by_cases hxl : x < q.length
  ·have ha : q.getD x 0 < l.length := by
    rw [List.getD_eq_getElem?_getD, List.getElem?_eq_getElem hxl]
    exact hq _ (List.getElem_mem hxl)
   rw [ac q 0 hxl, bfs] at hnext
   generalize hae : q.getD x 0 = a at *
   have hnl : ∀ n ∈ near R C a, n < l.length := fun n hn => by
    have := bI hC1 (by omega) n hn
    omega
   have hp := aP l hc (near R C a) out (fun n hn => by rw [ho]; exact hnl n hn)
   have h2 := ih (push l c out (near R C a)).1 (q ++ (push l c out (near R C a)).2) (x + 1) (fun n hn => by
    rcases List.mem_append.1 hn with h | h
    ·exact hq n h
    ·exact hnl n (aA l c _ out n h)) (by rw [ak]; exact ho) (by rw [List.length_append]; omega) (by rw [List.length_append]; omega) (by rw [List.length_append]; omega) (by rw [List.drop_append_of_le_length (by omega)]; exact hnext)
   have h3 := bN l R C c hc i (near R C a) hnl h90 (aU R C a) x (by omega) res (near R C a).length 0 out q (by omega) (by omega) ho (by omega) h2
   obtain ⟨K, hK⟩ := a4 (cz R C a l hR hC1 hC (by omega) (by omega))
   refine a6 K h3 fun k hk => ?_
   simp only [spec_ggGroups.l2]
   rw [if_pos (by rw [a7]; omega), if_pos (by omega), aE q hxl, hae, bindE (hK k hk), a7]
   rfl
  ·rw [List.drop_of_length_le (by omega), bfs] at hnext
   refine a6 0 hnext fun k _ => ?_
   simp only [spec_ggGroups.l2]
   rw [if_neg (by rw [a7]; omega), a3 hi (by omega), a2 (x := c + 1) (by omega) (by omega)]
theorem bX (l : List S88) (R C : Nat) (hlen : l.length = R * C) (hR : R ≤ 10) (hC1 : 1 ≤ C) (hC : C ≤ 9) (h90 : l.length ≤ 90) :
 ∀ (d i : Nat) (out : List Int) (c : Int), l.length - i = d → i ≤ l.length → out.length = l.length → 0 ≤ c → c ≤ i →
 Ev (fun k => spec_ggGroups.l1 k out c l (l.length : Int) (i : Int) (R : Int) (C : Int) l) (a5 l R C d i out c) := by
 intro d
 induction d with
 | zero =>
  intro i out c hd hi ho h0 hc
  refine a9 0 fun k _ => ?_
  simp only [spec_ggGroups.l1]
  rw [if_neg (by omega)]
  rfl
 | succ d ih =>
  intro i out c hd hi ho h0 hc
  have hlt : i < l.length := by omega
  have hg := bs (l.getD i z88)
  rw [a5]
  by_cases h : (gearB (l.getD i z88) && decide (out.getD i 0 < 0)) = true
  ·rw [if_pos h]
   simp only [Bool.and_eq_true, decide_eq_true_eq] at h
   have hneg := aQ (by omega) h.2 h0
   have hle := cL out
   have h1 := ih (i + 1) (bfs l R C c (l.length + 1) (out.set i c) [i]) (c + 1) (by omega) (by omega) (by rw [av, List.length_set]; exact ho) (by omega) (by omega)
   have h2 := bT l R C hlen hR hC1 hC h90 c h0 i hlt hc _ (l.length + 1) (out.set i c) [i] 0 (fun n hn => by simp at hn; omega) (by simpa using ho) (by omega) (by simp only [List.length_singleton]; omega) (by simp only [List.length_singleton]; omega) h1
   obtain ⟨K, hK⟩ := a4 h2
   refine ⟨K + 2, fun k hk => ?_⟩
   obtain ⟨k, rfl⟩ : ∃ m, k = m + 1 + 1 := ⟨k - 2, by omega⟩
   simp only [spec_ggGroups.l1]
   rw [if_pos (by omega), if_pos (by omega), if_pos (by omega), ad, bindE hg, if_pos h.1, if_pos (by omega), ae, decide_eq_false (by omega)]
   simp only [spec_ggGroups.j2]
   rw [if_neg (by simp), if_pos (by omega), if_pos (by omega), Int.toNat_natCast]
   exact hK k (by omega)
  ·rw [if_neg h]
   obtain ⟨K, hK⟩ := a4 (ih (i + 1) out c (by omega) (by omega) ho h0 (by omega))
   refine ⟨K + 2, fun k hk => ?_⟩
   obtain ⟨k, rfl⟩ : ∃ m, k = m + 1 + 1 := ⟨k - 2, by omega⟩
   simp only [spec_ggGroups.l1]
   rw [if_pos (by omega), if_pos (by omega), if_pos (by omega), ad, bindE hg]
   have e : spec_ggGroups.j2 (k + 1) out c (i : Int) l (l.length : Int) (i : Int) true (R : Int) (C : Int) l = some (a5 l R C d (i + 1) out c) := by
    simp only [spec_ggGroups.j2]
    rw [if_pos trivial, a3 hlt (by omega)]
    exact hK k (by omega)
   by_cases h1 : gearB (l.getD i z88) = true
   ·have h2 : ¬ out.getD i 0 < 0 := fun h3 => h (by simp only [Bool.and_eq_true, decide_eq_true_eq]; exact ⟨h1, h3⟩)
    rw [if_pos h1, if_pos (by omega), ae, decide_eq_true (show out.getD i 0 ≥ 0 by omega), e]
   ·rw [if_neg h1, e]
theorem bU (l : List S88) (R C : Nat) (h90 : l.length ≤ 90) (res : List Int) (hnext : Ev (fun k => spec_ggGroups.l1 k (List.replicate l.length (-1)) 0 l (l.length : Int) 0 (R : Int) (C : Int) l) res) :
 ∀ (d i : Nat), l.length - i = d → i ≤ l.length →
 Ev (fun k => spec_ggGroups.l0 k ((List.replicate l.length (-1)).take i ++ (List.replicate l.length (0 : Int)).drop i) (l.length : Int) (i : Int) (R : Int) (C : Int) l) res := by
 intro d
 induction d with
 | zero =>
  intro i hd hi
  obtain rfl : i = l.length := by omega
  refine a6 0 hnext fun k _ => ?_
  simp only [spec_ggGroups.l0]
  rw [if_neg (by omega), List.take_of_length_le (by simp), List.drop_of_length_le (by simp), List.append_nil]
 | succ d ih =>
  intro i hd hi
  have hlt : i < l.length := by omega
  have hm := b8 (List.replicate l.length (-1 : Int)) (List.replicate l.length (0 : Int)) (-1) (n := i) (by simpa using hlt) (by simp)
  rw [show (List.replicate l.length (-1 : Int)).getD i (-1) = -1 by simp [List.getD_eq_getElem?_getD, hlt]] at hm
  refine a6 0 (ih (i + 1) (by omega) (by omega)) fun k _ => ?_
  simp only [spec_ggGroups.l0]
  rw [if_pos (by omega), if_pos (by omega), if_pos (by simp; omega), Int.toNat_natCast, hm, a3 hlt (by omega)]
theorem bJ (l : List S88) (R C : Nat) (hlen : l.length = R * C) (hR : R ≤ 10) (hC1 : 1 ≤ C) (hC : C ≤ 9) (h90 : l.length ≤ 90) : Ev (fun k => spec_ggGroups.f k (R : Int) (C : Int) l) (a1 l R C) := by
 have h1 := bX l R C hlen hR hC1 hC h90 l.length 0 (List.replicate l.length (-1)) 0 (by omega) (by omega) (by simp) (by omega) (by omega)
 have h0 := bU l R C h90 _ h1 l.length 0 (by omega) (by omega)
 refine ao 0 h0 fun k _ => ?_
 simp only [spec_ggGroups.f]
 rw [if_pos (by omega), if_pos (by omega), Option.bind_some, Int.toNat_natCast, List.length_replicate]
 simp

theorem aC (out : List Int) (n j : Nat) (v : Int) : (out.set n v).getD j 0 = if n = j ∧ n < out.length then v else out.getD j 0 := by
 rw [List.getD_eq_getElem?_getD, List.getD_eq_getElem?_getD, List.getElem?_set]
 by_cases h : n = j
 ·subst h
  by_cases hl : n < out.length
  ·simp [hl]
  ·simp [hl]
 ·simp [h]
structure Marked (l : List S88) (c : Int) (out : List Int) : Prop where
 len : out.length = l.length
 lo : ∀ j, j < l.length → -1 ≤ out.getD j 0
 hi : ∀ j, j < l.length → out.getD j 0 < c
 ng : ∀ j, j < l.length → gearB (l.getD j z88) = false → out.getD j 0 < 0
theorem bk {l : List S88} {c : Int} {out : List Int} (h : Marked l (c + 1) out) (hc : 0 ≤ c) {n : Nat} (hn : n < l.length) (hg : gearB (l.getD n z88) = true) : Marked l (c + 1) (out.set n c) := by
 refine ⟨by rw [List.length_set]; exact h.len, fun j hj => ?_, fun j hj => ?_, fun j hj hf => ?_⟩
 ·rw [aC]
  split
  ·omega
  ·exact h.lo j hj
 ·rw [aC]
  split
  ·omega
  ·exact h.hi j hj
 ·rw [aC]
  split
  ·rename_i e
   rw [e.1, hf] at hg
   cases hg
  ·exact h.ng j hj hf
theorem aB {l : List S88} {c : Int} (hc : 0 ≤ c) : ∀ (ns : List Nat) (out : List Int), (∀ n ∈ ns, n < l.length) → Marked l (c + 1) out → Marked l (c + 1) (push l c out ns).1 ∧ ∀ j, 0 ≤ out.getD j 0 → 0 ≤ (push l c out ns).1.getD j 0
 | [], out, _, h => ⟨h, fun _ h => h⟩
 | n :: ns, out, hns, h => by
  have hns' : ∀ m ∈ ns, m < l.length := fun m hm => hns m (List.mem_cons_of_mem _ hm)
  unfold push
  split
  ·rename_i hg
   simp only [Bool.and_eq_true, decide_eq_true_eq] at hg
   obtain ⟨h1, h2⟩ := aB hc ns (out.set n c) hns' (bk h hc (hns n List.mem_cons_self) hg.1)
   refine ⟨h1, fun j hj => h2 j ?_⟩
   rw [aC]
   split
   ·exact hc
   ·exact hj
  ·exact aB hc ns out hns' h
theorem bh {l : List S88} {R C : Nat} (hlen : l.length = R * C) (hC : 1 ≤ C) {c : Int} (hc : 0 ≤ c) : ∀ (f : Nat) (out : List Int) (q : List Nat), (∀ n ∈ q, n < l.length) → Marked l (c + 1) out → Marked l (c + 1) (bfs l R C c f out q) ∧ ∀ j, 0 ≤ out.getD j 0 → 0 ≤ (bfs l R C c f out q).getD j 0
 | 0, out, _, _, h => ⟨h, fun _ h => h⟩
 | _ + 1, out, [], _, h => ⟨h, fun _ h => h⟩
 | f + 1, out, a :: q, hq, h => by
  have hnl : ∀ n ∈ near R C a, n < l.length := fun n hn => by
   have := bI hC (by rw [← hlen]; exact hq a List.mem_cons_self) n hn
   omega
  obtain ⟨h1, h2⟩ := aB hc (near R C a) out hnl h
  obtain ⟨h3, h4⟩ := bh hlen hC hc f (push l c out (near R C a)).1 (q ++ (push l c out (near R C a)).2) (fun n hn => by
   rcases List.mem_append.1 hn with h | h
   ·exact hq n (List.mem_cons_of_mem _ h)
   ·exact hnl n (aA l c _ out n h)) h1
  exact ⟨h3, fun j hj => h4 j (h2 j hj)⟩
theorem aD {l : List S88} {c c' : Int} {out : List Int} (h : Marked l c out) (hc : c ≤ c') : Marked l c' out := ⟨h.len, h.lo, fun j hj => by have := h.hi j hj; omega, h.ng⟩
theorem ai {l : List S88} {R C : Nat} (hlen : l.length = R * C) (hC : 1 ≤ C) : ∀ (d i : Nat) (out : List Int) (c : Int), i + d = l.length → 0 ≤ c → Marked l c out → (∀ j, j < i → gearB (l.getD j z88) = true → 0 ≤ out.getD j 0) →
 Marked l (c + d) (a5 l R C d i out c) ∧ ∀ j, j < l.length → gearB (l.getD j z88) = true → 0 ≤ (a5 l R C d i out c).getD j 0
 | 0, i, out, c, hi, _, h, hd => ⟨by simpa [a5] using h, fun j hj => hd j (by omega)⟩
 | d + 1, i, out, c, hi, hc, h, hd => by
  unfold a5
  split
  ·rename_i hg
   simp only [Bool.and_eq_true, decide_eq_true_eq] at hg
   have hs := bk (aD h (show c ≤ c + 1 by omega)) hc (show i < l.length by omega) hg.1
   obtain ⟨h1, h2⟩ := bh hlen hC hc (l.length + 1) (out.set i c) [i] (fun n hn => by simp at hn; omega) hs
   have e : out.getD i 0 < 0 := hg.2
   obtain ⟨h3, h4⟩ := ai hlen hC d (i + 1) (bfs l R C c (l.length + 1) (out.set i c) [i]) (c + 1) (by omega) (by omega) h1 (fun j hj hgj => h2 j (by
    rw [aC]
    split
    ·exact hc
    ·rename_i hne
     have : j ≠ i := fun e => hne ⟨e.symm, by rw [h.len]; omega⟩
     exact hd j (by omega) hgj))
   exact ⟨aD h3 (by omega), h4⟩
  ·rename_i hg
   obtain ⟨h3, h4⟩ := ai hlen hC d (i + 1) out c (by omega) hc h (fun j hj hgj => by
    by_cases e : j = i
    ·subst e
     simp only [Bool.and_eq_true, decide_eq_true_eq, hgj, true_and] at hg
     omega
    ·exact hd j (by omega) hgj)
   exact ⟨aD h3 (by omega), h4⟩
theorem aZ {l : List S88} {R C : Nat} (hlen : l.length = R * C) (hC : 1 ≤ C) : Marked l l.length (a1 l R C) ∧ ∀ j, j < l.length → gearB (l.getD j z88) = true → 0 ≤ (a1 l R C).getD j 0 := by
 have e : ∀ j, j < l.length → (List.replicate l.length (-1 : Int)).getD j 0 = -1 := fun j hj => by simp [List.getD_eq_getElem?_getD, hj]
 have h : Marked l 0 (List.replicate l.length (-1)) := ⟨by simp, fun j hj => by rw [e j hj]; omega, fun j hj => by rw [e j hj]; omega, fun j hj _ => by rw [e j hj]; omega⟩
 obtain ⟨h1, h2⟩ := ai hlen hC l.length 0 (List.replicate l.length (-1)) 0 (by omega) (by omega) h (fun j hj => by omega)
 exact ⟨by simpa [a1] using h1, h2⟩
theorem cW {l : List S88} {R C : Nat} (hlen : l.length = R * C) (hC : 1 ≤ C) {j : Nat} (hj : j < l.length) : decide ((a1 l R C).getD j 0 < 0) = !gearB (l.getD j z88) := by
 obtain ⟨h1, h2⟩ := aZ hlen hC
 cases hg : gearB (l.getD j z88)
 ·simpa using h1.ng j hj hg
 ·simpa using h2 j hj hg

theorem aV {r c : Int} {l : List S88} (b : Brd r c l) : Ev (fun k => impl_groupNumbers.f k r c l) (a1 l r.toNat c.toNat) ∧ Ev (fun k => spec_ggGroups.f k r c l) (a1 l r.toNat c.toNat) := by
 have b9 := b.le
 obtain ⟨R, C, rfl, rfl, hlen, _, hR, hC1, hC⟩ := aM b
 exact ⟨b7 l R C hlen hR hC1 hC b9, bJ l R C hlen hR hC1 hC b9⟩
theorem d2 {r c : Int} {l : List S88} (b : Brd r c l) : l.length = r.toNat * c.toNat ∧ 1 ≤ c.toNat := by
 obtain ⟨R, C, rfl, rfl, hlen, _, hR, hC1, hC⟩ := aM b
 exact ⟨hlen, hC1⟩

theorem aJ {l : List S88} (hl : l.all goodC = true) {i : Nat} (h : i < l.length) : goodB (l.getD i z88).f0 (l.getD i z88).f1 = true := by
 rw [List.getD_eq_getElem?_getD, List.getElem?_eq_getElem h]
 exact List.all_eq_true.1 hl _ (List.getElem_mem h)

theorem bi {x : S88} (h : goodC x = true) (h36 : x.f0 = 3 ∨ x.f0 = 6) : goodC (turn1 x) = true := by
 have h := au h
 have e : turn1 x = ⟨x.f0, wrap64 (1 - x.f1)⟩ := rfl
 rw [e]
 have hb : x.f1 = 0 ∨ x.f1 = 1 := by omega
 rcases hb with hb | hb <;> rcases h36 with ha | ha <;> rw [ha, hb] <;> first | (rw [show wrap64 (1 - 0) = 1 by decide +kernel]; rfl) | (rw [show wrap64 (1 - 1) = 0 by decide +kernel]; rfl)
theorem bj {l : List S88} (hl : l.all goodC = true) {i : Nat} (h : i < l.length) : goodC (l.getD i z88) = true := by
 rw [List.getD_eq_getElem?_getD, List.getElem?_eq_getElem h]
 exact List.all_eq_true.1 hl _ (List.getElem_mem h)
theorem aq {G : List Int} {l : List S88} {n : Nat} (hn : n < l.length) (hl : l.all goodC = true) : (passL G l n).all goodC = true := by
 unfold passL
 split
 ·rename_i h3
  rw [List.all_eq_true]
  intro x hx
  rcases List.mem_or_eq_of_mem_set hx with h | h
  ·exact List.all_eq_true.1 hl x h
  ·rw [h]
   exact bi (bj hl hn) (.inl h3)
 ·split
  ·rw [List.all_eq_true]
   intro x hx
   simp only [turnL, List.mem_map, List.mem_range] at hx
   obtain ⟨j, hj, rfl⟩ := hx
   unfold ag
   split
   ·rename_i h
    simp only [Bool.and_eq_true, decide_eq_true_eq] at h
    exact bi (bj hl hj) (.inr h.1)
   ·exact bj hl hj
  ·exact hl

def aa (a b side : Int) : Int := if a = 1 then -1 else if a = 2 then 1 else if a = 3 ∨ a = 6 then 2 * b - 1 else if a = 4 then -side else 0
def goesB (a b side : Int) : Bool := goodB a b && decide (-1 ≤ side ∧ side ≤ 1) && decide (a ≠ 5)
theorem cl (k : Nat) (a b side : Int) : impl_GoesTo.f (k + 2) a b side = some (if goesB a b side = true then (aa a b side, true) else (0, false)) := by
 simp only [impl_GoesTo.f, bv, Option.bind_some]
 by_cases h : goodB a b = true
 ·rw [if_pos h]
  by_cases h1 : side < -1
  ·rw [if_pos h1]
   simp [impl_GoesTo.j0, goesB]
   omega
  rw [if_neg h1]
  by_cases h2 : side > 1
  ·rw [if_pos h2]
   simp [impl_GoesTo.j0, goesB]
   omega
  rw [if_neg h2]
  have hs : side = -1 ∨ side = 0 ∨ side = 1 := by omega
  rcases au h with ⟨rfl, rfl⟩ | ⟨rfl, rfl⟩ | ⟨rfl, rfl⟩ | ⟨rfl, rfl⟩ | ⟨rfl, rfl⟩ | ⟨rfl, rfl⟩ | ⟨rfl, rfl⟩ | ⟨rfl, rfl⟩ | ⟨rfl, rfl⟩ | ⟨rfl, rfl⟩ <;>
   rcases hs with rfl | rfl | rfl <;> simp [impl_GoesTo.j0, impl_GoesTo.j1, goesB, aa, goodB, ci, cE, cB, cD]
 ·rw [if_neg h]
  simp [impl_GoesTo.j0, goesB, h]

def fallG (G : List Int) (R C : Nat) : Nat → Nat → Nat → Int → List S88 → Int × Int × Int × List Nat × List S88
 | 0, _, j, _, l => (1, (R : Int), (j : Int), [], l)
 | d + 1, i, j, s, l =>
  if (l.getD (i * C + j) z88).f0 = 5 then (2, (i : Int), (j : Int), [i * C + j], l)
  else if 0 ≤ (j : Int) + aa (l.getD (i * C + j) z88).f0 (l.getD (i * C + j) z88).f1 s ∧ (j : Int) + aa (l.getD (i * C + j) z88).f0 (l.getD (i * C + j) z88).f1 s < (C : Int) then
   ((fallG G R C d (i + 1) ((j : Int) + aa (l.getD (i * C + j) z88).f0 (l.getD (i * C + j) z88).f1 s).toNat (-(aa (l.getD (i * C + j) z88).f0 (l.getD (i * C + j) z88).f1 s)) (passL G l (i * C + j))).1,
    (fallG G R C d (i + 1) ((j : Int) + aa (l.getD (i * C + j) z88).f0 (l.getD (i * C + j) z88).f1 s).toNat (-(aa (l.getD (i * C + j) z88).f0 (l.getD (i * C + j) z88).f1 s)) (passL G l (i * C + j))).2.1,
    (fallG G R C d (i + 1) ((j : Int) + aa (l.getD (i * C + j) z88).f0 (l.getD (i * C + j) z88).f1 s).toNat (-(aa (l.getD (i * C + j) z88).f0 (l.getD (i * C + j) z88).f1 s)) (passL G l (i * C + j))).2.2.1,
    (i * C + j) :: (fallG G R C d (i + 1) ((j : Int) + aa (l.getD (i * C + j) z88).f0 (l.getD (i * C + j) z88).f1 s).toNat (-(aa (l.getD (i * C + j) z88).f0 (l.getD (i * C + j) z88).f1 s)) (passL G l (i * C + j))).2.2.2.1,
    (fallG G R C d (i + 1) ((j : Int) + aa (l.getD (i * C + j) z88).f0 (l.getD (i * C + j) z88).f1 s).toNat (-(aa (l.getD (i * C + j) z88).f0 (l.getD (i * C + j) z88).f1 s)) (passL G l (i * C + j))).2.2.2.2)
  else (3, (i : Int), (j : Int) + aa (l.getD (i * C + j) z88).f0 (l.getD (i * C + j) z88).f1 s, [i * C + j], passL G l (i * C + j))
theorem aI {a b s : Int} (h : goodB a b = true) (hs : -1 ≤ s ∧ s ≤ 1) : -1 ≤ aa a b s ∧ aa a b s ≤ 1 := by
 unfold aa
 rcases au h with ⟨rfl, rfl⟩ | ⟨rfl, rfl⟩ | ⟨rfl, rfl⟩ | ⟨rfl, rfl⟩ | ⟨rfl, rfl⟩ | ⟨rfl, rfl⟩ | ⟨rfl, rfl⟩ | ⟨rfl, rfl⟩ | ⟨rfl, rfl⟩ | ⟨rfl, rfl⟩ <;> simp <;> omega
theorem cg {a b s : Int} (h : goodB a b = true) (hs : -1 ≤ s ∧ s ≤ 1) : goesB a b s = decide (a ≠ 5) := by
 unfold goesB
 rw [h, decide_eq_true hs]
 rfl
theorem aw (G : List Int) (R C : Nat) : ∀ (d i j : Nat) (s : Int) (l : List S88), (fallG G R C d i j s l).2.2.2.2.length = l.length := by
 intro d
 induction d with
 | zero => intro i j s l; rfl
 | succ d ih =>
  intro i j s l
  unfold fallG
  split
  ·rfl
  ·split
   ·simp only [ih, af]
   ·simp only [af]
theorem cY (G : List Int) (R C : Nat) : ∀ (d i j : Nat) (s : Int) (l : List S88), (fallG G R C d i j s l).2.2.2.1.length ≤ d := by
 intro d
 induction d with
 | zero => intro i j s l; exact Nat.le_refl _
 | succ d ih =>
  intro i j s l
  unfold fallG
  split
  ·simp
  ·split
   ·simp only [List.length_cons]
    have := ih (i + 1) ((j : Int) + aa (l.getD (i * C + j) z88).f0 (l.getD (i * C + j) z88).f1 s).toNat (-(aa (l.getD (i * C + j) z88).f0 (l.getD (i * C + j) z88).f1 s)) (passL G l (i * C + j))
    omega
   ·simp
theorem cb (G : List Int) {R C : Nat} : ∀ (d i j : Nat) (s : Int) (l : List S88), i + d = R → j < C → l.length = R * C → l.all goodC = true → -1 ≤ s ∧ s ≤ 1 →
 (fallG G R C d i j s l).2.2.2.2.all goodC = true ∧ ∀ n ∈ (fallG G R C d i j s l).2.2.2.1, n < R * C := by
 intro d
 induction d with
 | zero =>
  intro i j s l _ _ _ hl _
  exact ⟨hl, fun n hn => by simp [fallG] at hn⟩
 | succ d ih =>
  intro i j s l hi hj hlen hl hs
  have hin : i * C + j < R * C := bf (by omega) hj
  have hlt : i * C + j < l.length := by omega
  have hb := aI (aJ hl hlt) hs
  unfold fallG
  split
  ·exact ⟨hl, fun n hn => by simp only [List.mem_singleton] at hn; omega⟩
  ·split
   ·rename_i h
    have h2 := ih (i + 1) ((j : Int) + aa (l.getD (i * C + j) z88).f0 (l.getD (i * C + j) z88).f1 s).toNat (-(aa (l.getD (i * C + j) z88).f0 (l.getD (i * C + j) z88).f1 s)) (passL G l (i * C + j)) (by omega) (by omega) (by rw [af]; exact hlen) (aq hlt hl) (by omega)
    refine ⟨h2.1, fun n hn => ?_⟩
    simp only [List.mem_cons] at hn
    rcases hn with rfl | hn
    ·exact hin
    ·exact h2.2 n hn
   ·exact ⟨aq hlt hl, fun n hn => by simp only [List.mem_singleton] at hn; omega⟩

theorem bA (r c : Int) (G : List Int) (l : List S88) (hG : G.length = l.length) (a : Nat) (ha : a < l.length) (hn : l.length ≤ 1048576) : ∀ (d i : Nat), l.length - i = d → i ≤ l.length →
 Ev (fun k => impl_turnGroup.l0 k G (a : Int) (l.length : Int) (i : Int) r c ((turnL G (G.getD a 0) l).take i ++ l.drop i)) (turnL G (G.getD a 0) l) := by
 have hT := am G (G.getD a 0) l
 intro d
 induction d with
 | zero =>
  intro i hd hi
  refine a9 0 fun k _ => ?_
  simp only [impl_turnGroup.l0]
  rw [if_neg (by omega), List.take_of_length_le (by omega), List.drop_of_length_le (by omega), List.append_nil]
 | succ d ih =>
  intro i hd hi
  have hlt : i < l.length := by omega
  have hget := bS (turnL G (G.getD a 0) l) l z88 (n := i) (by omega) hT
  have hml := bn (turnL G (G.getD a 0) l) l (n := i) (by omega) hT
  have hTi := aH G (G.getD a 0) l hlt
  have h2 := ih (i + 1) (by omega) (by omega)
  have same : ag G (G.getD a 0) l i = l.getD i z88 → (turnL G (G.getD a 0) l).take i ++ l.drop i = (turnL G (G.getD a 0) l).take (i + 1) ++ l.drop (i + 1) := fun h => c3 _ l z88 (by omega) hT (hTi.trans h)
  refine a6 0 h2 fun k _ => ?_
  simp only [impl_turnGroup.l0]
  rw [if_pos (by omega), if_pos (by omega), if_pos (by omega), ad, hget, ae, ae, a3 hlt (by omega)]
  by_cases h6 : (l.getD i z88).f0 = 6
  ·rw [if_pos h6, if_pos (by omega), if_pos (by omega), if_pos (by omega)]
   by_cases hg : G.getD i 0 = G.getD a 0
   ·rw [if_pos hg, Int.toNat_natCast]
    have e : ag G (G.getD a 0) l i = turn1 (l.getD i z88) := by
     unfold ag
     rw [if_pos (by simp only [Bool.and_eq_true, decide_eq_true_eq]; exact ⟨h6, hg⟩)]
    rw [show (⟨(l.getD i z88).f0, wrap64 (1 - (l.getD i z88).f1)⟩ : S88) = (turnL G (G.getD a 0) l).getD i z88 from (hTi.trans e).symm, b8 _ l z88 (by omega) hT]
   ·rw [if_neg hg, same (by unfold ag; rw [if_neg (by simp only [Bool.and_eq_true, decide_eq_true_eq]; exact fun h => hg h.2)])]
  ·rw [if_neg h6, same (by unfold ag; rw [if_neg (by simp only [Bool.and_eq_true, decide_eq_true_eq]; exact fun h => h6 h.1)])]
theorem bF (r c : Int) (G : List Int) (l : List S88) (hG : G.length = l.length) (a : Nat) (ha : a < l.length) (hn : l.length ≤ 1048576) : Ev (fun k => impl_turnGroup.f k r c l G (a : Int)) (turnL G (G.getD a 0) l) :=
 bA r c G l hG a ha hn l.length 0 (by omega) (by omega)

theorem cQ (G : List Int) {R C : Nat} (hG : G.length = R * C) (hR : R ≤ 10) (hC : C ≤ 9) : ∀ (d i j : Nat) (s : Int) (l : List S88) (acc : List Int), i + d = R → j < C → l.length = R * C → l.all goodC = true → -1 ≤ s ∧ s ≤ 1 → acc.length + d ≤ 1000 →
 Ev (fun k => impl_drop.l0 k G (j : Int) acc s (i : Int) (R : Int) (C : Int) l) ((fallG G R C d i j s l).1, (fallG G R C d i j s l).2.1, (fallG G R C d i j s l).2.2.1, acc ++ castL (fallG G R C d i j s l).2.2.2.1, (fallG G R C d i j s l).2.2.2.2) := by
 intro d
 induction d with
 | zero =>
  intro i j s l acc hi hj hlen hl hs ha
  refine a9 0 fun k _ => ?_
  simp only [impl_drop.l0]
  rw [if_neg (by omega)]
  simp [fallG, castL]
 | succ d ih =>
  intro i j s l acc hi hj hlen hl hs ha
  have hin : i * C + j < R * C := bf (by omega) hj
  have hlt : i * C + j < l.length := by omega
  have h90 : R * C ≤ 90 := Nat.le_trans (Nat.mul_le_mul hR hC) (by decide)
  have hb := aI (aJ hl hlt) hs
  have hok := cg (aJ hl hlt) hs
  have ew : Hid (wrap64 (wrap64 ((i : Int) * (C : Int)) + (j : Int)) = ((i * C + j : Nat) : Int)) := ⟨bL (by omega)⟩
  have hGo := fun k => cl k (l.getD (i * C + j) z88).f0 (l.getD (i * C + j) z88).f1 s
  rw [hok] at hGo
  generalize hn : i * C + j = n at hin hlt hb hok ew hGo
  have q1 : (i : Int) < (R : Int) := by omega
  have q2 : acc.length < 17592186044416 := by omega
  have q3 : (0 : Int) ≤ (n : Int) := by omega
  have q4 : (n : Int) < (l.length : Int) := by omega
  unfold fallG
  simp only [hn]
  by_cases h5 : (l.getD n z88).f0 = 5
  ·rw [decide_eq_false (fun h => h h5)] at hGo
   refine a9 3 fun k hk => ?_
   obtain ⟨k, rfl⟩ : ∃ q, k = q + 2 := ⟨k - 2, by omega⟩
   simp only [impl_drop.l0]
   rw [ew.out, ad, if_pos q1, if_pos q2, Option.bind_some, if_pos q3, if_pos q4, bindE (hGo k), if_neg (by simp), if_pos h5]
   simp [castL]
  ·rw [if_neg h5]
   rw [decide_eq_true h5, if_pos rfl] at hGo
   generalize hg : aa (l.getD n z88).f0 (l.getD n z88).f1 s = g at hb hGo
   have eg : Hid (wrap64 ((j : Int) + g) = (j : Int) + g) := ⟨a2 (by omega) (by omega)⟩
   have en : Hid (wrap64 (-g) = -g) := ⟨a2 (by omega) (by omega)⟩
   obtain ⟨KT, hKT⟩ := a4 (bF (R : Int) (C : Int) G l (by omega) n hlt (by omega))
   -- what the marble's cell does
   have hj : ∀ k, KT + 3 ≤ k → impl_drop.l0 (k + 1) G (j : Int) acc s (i : Int) (R : Int) (C : Int) l = if (j : Int) + g < 0 then some (3, (i : Int), (j : Int) + g, acc ++ [(n : Int)], passL G l n) else if (j : Int) + g ≥ (C : Int) then some (3, (i : Int), (j : Int) + g, acc ++ [(n : Int)], passL G l n) else impl_drop.l0 (k - 1) G ((j : Int) + g) (acc ++ [(n : Int)]) (-g) ((i + 1 : Nat) : Int) (R : Int) (C : Int) (passL G l n) := by
    intro k hk
    obtain ⟨k, rfl⟩ : ∃ q, k = q + 2 := ⟨k - 2, by omega⟩
    simp only [impl_drop.l0]
    rw [ew.out, ad, if_pos q1, if_pos q2, Option.bind_some, if_pos q3, if_pos q4, bindE (hGo k), if_pos rfl]
    unfold passL
    by_cases h3 : (l.getD n z88).f0 = 3
    ·rw [if_pos h3, if_pos h3]
     simp only [impl_drop.j1]
     rw [if_neg (by omega), Int.toNat_natCast, eg.out, en.out, a3 (show i < R by omega) (by omega)]
     rfl
    ·rw [if_neg h3, if_neg h3]
     simp only [impl_drop.j1]
     by_cases h6 : (l.getD n z88).f0 = 6
     ·rw [if_pos h6, if_pos h6, bindE (hKT (k + 1) (by omega)), eg.out, en.out, a3 (show i < R by omega) (by omega)]
      rfl
     ·rw [if_neg h6, if_neg h6, eg.out, en.out, a3 (show i < R by omega) (by omega)]
      rfl
   by_cases hc : 0 ≤ (j : Int) + g ∧ (j : Int) + g < (C : Int)
   ·rw [if_pos hc]
    have h2 := ih (i + 1) ((j : Int) + g).toNat (-g) (passL G l n) (acc ++ [(n : Int)]) (by omega) (by omega) (by rw [af]; exact hlen) (aq hlt hl) (by omega) (by rw [List.length_append, List.length_singleton]; omega)
    obtain ⟨K2, hK2⟩ := a4 h2
    refine ⟨KT + K2 + 5, fun k hk => ?_⟩
    obtain ⟨k, rfl⟩ : ∃ q, k = q + 1 := ⟨k - 1, by omega⟩
    have h3 := hK2 (k - 1) (by omega)
    rw [show ((((j : Int) + g).toNat : Nat) : Int) = (j : Int) + g by omega] at h3
    simp only []
    rw [hj k (by omega), if_neg (by omega), if_neg (by omega), h3]
    simp [castL]
   ·rw [if_neg hc]
    refine ⟨KT + 5, fun k hk => ?_⟩
    obtain ⟨k, rfl⟩ : ∃ q, k = q + 1 := ⟨k - 1, by omega⟩
    simp only []
    rw [hj k (by omega)]
    by_cases h0 : (j : Int) + g < 0
    ·rw [if_pos h0]
     simp [castL]
    ·rw [if_neg h0, if_pos (by omega)]
     simp [castL]

theorem bK (r c : Int) (l : List S88) (hn : l.length ≤ 1048576) : spec_boOwn.f r c l = some (r, c, l) := by
 unfold spec_boOwn.f
 rw [Option.bind_some, if_pos (by simp; omega), List.nil_append]

theorem cP {r c : Int} {l : List S88} {i j : Int} (b : Brd r c l) (h : (0 ≤ i ∧ i < r) ∧ (0 ≤ j ∧ j < c)) : wrap64 (wrap64 (i * c) + j) = i * c + j ∧ 0 ≤ i * c + j ∧ i * c + j < l.length := by
 have h1 := co h.1.1 h.1.2 h.2.1 h.2.2
 have b1 := b.r1; have b2 := b.r2; have b3 := b.c1; have b4 := b.c2; have b5 := b.len; have b6 := b.le
 have a : 0 ≤ i * c := Int.mul_nonneg h.1.1 (by omega)
 rw [a2 (x := i * c) (by omega) (by omega), a2 (by omega) (by omega)]
 omega
theorem d3 {r c : Int} {l : List S88} {i j : Int} (b : Brd r c l) (h : (0 ≤ i ∧ i < r) ∧ (0 ≤ j ∧ j < c)) : spec_boAt.f r c l i j = some ((rd_T88 l (i * c + j)).f0, (rd_T88 l (i * c + j)).f1) := by
 obtain ⟨e, h0, h1⟩ := cP b h
 unfold spec_boAt.f
 rw [e, if_pos h0, if_pos h1]

theorem ct (k : Nat) (a b side : Int) (h : goesB a b side = true) : spec_paGoes.f (k + 1) a b side = some (aa a b side) := by
 simp only [goesB, Bool.and_eq_true, decide_eq_true_eq] at h
 obtain ⟨⟨h, h1⟩, h5⟩ := h
 have hs : side = -1 ∨ side = 0 ∨ side = 1 := by omega
 rcases au h with ⟨rfl, rfl⟩ | ⟨rfl, rfl⟩ | ⟨rfl, rfl⟩ | ⟨rfl, rfl⟩ | ⟨rfl, rfl⟩ | ⟨rfl, rfl⟩ | ⟨rfl, rfl⟩ | ⟨rfl, rfl⟩ | ⟨rfl, rfl⟩ | ⟨rfl, rfl⟩ <;>
  first | exact absurd rfl h5 | (rcases hs with rfl | rfl | rfl <;> simp [spec_paGoes.f, spec_paGoes.j0, aa, ci, cE, cB, cD])

def rc (C n : Nat) : List Int := [((n / C : Nat) : Int), ((n % C : Nat) : Int)]
theorem cT (G : List Int) {R C : Nat} (lb : List S88) (hG : G.length = R * C) (hR : R ≤ 10) (hC : C ≤ 9) : ∀ (d i j : Nat) (s : Int) (l : List S88) (acc : List (List Int)), i + d = R → j < C → l.length = R * C → l.all goodC = true → -1 ≤ s ∧ s ≤ 1 → acc.length + d ≤ 1000 →
 Ev (fun k => spec_flGo.l0 k G (j : Int) acc s (i : Int) (R : Int) (C : Int) lb (R : Int) (C : Int) l) ((fallG G R C d i j s l).1, (fallG G R C d i j s l).2.1, (fallG G R C d i j s l).2.2.1, (R : Int), (C : Int), (fallG G R C d i j s l).2.2.2.2, acc ++ (fallG G R C d i j s l).2.2.2.1.map (rc C)) := by
 intro d
 induction d with
 | zero =>
  intro i j s l acc hi hj hlen hl hs ha
  refine a9 0 fun k _ => ?_
  simp only [spec_flGo.l0]
  rw [if_neg (by omega)]
  simp [fallG]
 | succ d ih =>
  intro i j s l acc hi hj hlen hl hs ha
  have hin : i * C + j < R * C := bf (by omega) hj
  have hlt : i * C + j < l.length := by omega
  have h90 : R * C ≤ 90 := Nat.le_trans (Nat.mul_le_mul hR hC) (by decide)
  have hb := aI (aJ hl hlt) hs
  have hok := cg (aJ hl hlt) hs
  have ew : Hid (wrap64 (wrap64 ((i : Int) * (C : Int)) + (j : Int)) = ((i * C + j : Nat) : Int)) := ⟨bL (by omega)⟩
  have hGo := fun k => ct k (l.getD (i * C + j) z88).f0 (l.getD (i * C + j) z88).f1 s
  rw [hok] at hGo
  have hrc : rc C (i * C + j) = [(i : Int), (j : Int)] := by rw [rc, cR hj, cU hj]
  have hat : spec_boAt.f (R : Int) (C : Int) l (i : Int) (j : Int) = some ((l.getD (i * C + j) z88).f0, (l.getD (i * C + j) z88).f1) := by
   simp only [spec_boAt.f]
   rw [ew.out, ad, if_pos (by omega), if_pos (by omega)]
  generalize hn : i * C + j = n at hin hlt hb hok ew hGo hrc hat
  have q1 : (i : Int) < (R : Int) := by omega
  have q2 : acc.length < 5864062014805 := by omega
  unfold fallG
  simp only [hn]
  by_cases h5 : (l.getD n z88).f0 = 5
  ·refine a9 3 fun k hk => ?_
   simp only [spec_flGo.l0]
   rw [if_pos q1, if_pos q2, Option.bind_some, bindE hat, if_pos h5, if_pos h5]
   simp [hrc]
  ·rw [if_neg h5]
   generalize hg : aa (l.getD n z88).f0 (l.getD n z88).f1 s = g at hb hGo
   have eg : Hid (wrap64 ((j : Int) + g) = (j : Int) + g) := ⟨a2 (by omega) (by omega)⟩
   have en : Hid (wrap64 (-g) = -g) := ⟨a2 (by omega) (by omega)⟩
   have ec : Hid (wrap64 ((C : Int) - 1) = (C : Int) - 1) := ⟨a2 (by omega) (by omega)⟩
   obtain ⟨KT, hKT⟩ := a4 (cw (R : Int) (C : Int) G l (by omega) n hlt (by omega))
   have hj : ∀ k, KT + 3 ≤ k → spec_flGo.l0 (k + 1) G (j : Int) acc s (i : Int) (R : Int) (C : Int) lb (R : Int) (C : Int) l = if decide (0 ≤ (j : Int) + g ∧ (j : Int) + g ≤ (C : Int) - 1) = true then spec_flGo.l0 k G ((j : Int) + g) (acc ++ [[(i : Int), (j : Int)]]) (-g) ((i + 1 : Nat) : Int) (R : Int) (C : Int) lb (R : Int) (C : Int) (passL G l n) else some (3, (i : Int), (j : Int) + g, (R : Int), (C : Int), passL G l n, acc ++ [[(i : Int), (j : Int)]]) := by
    intro k hk
    obtain ⟨k, rfl⟩ : ∃ q, k = q + 2 := ⟨k - 2, by omega⟩
    simp only [spec_flGo.l0]
    rw [ew.out, if_pos q1, if_pos q2, Option.bind_some, bindE hat, if_neg h5, bindE (hGo _ (decide_eq_true h5)), bindE (hKT (k + 2) (by omega)), eg.out, ec.out, en.out, bindE (ar _ _ _), a3 (show i < R by omega) (by omega)]
   by_cases hc : 0 ≤ (j : Int) + g ∧ (j : Int) + g < (C : Int)
   ·rw [if_pos hc]
    have h2 := ih (i + 1) ((j : Int) + g).toNat (-g) (passL G l n) (acc ++ [[(i : Int), (j : Int)]]) (by omega) (by omega) (by rw [af]; exact hlen) (aq hlt hl) (by omega) (by rw [List.length_append, List.length_singleton]; omega)
    obtain ⟨K2, hK2⟩ := a4 h2
    refine ⟨KT + K2 + 5, fun k hk => ?_⟩
    obtain ⟨k, rfl⟩ : ∃ q, k = q + 1 := ⟨k - 1, by omega⟩
    have h3 := hK2 k (by omega)
    rw [show ((((j : Int) + g).toNat : Nat) : Int) = (j : Int) + g by omega] at h3
    simp only []
    rw [hj k (by omega), if_pos (decide_eq_true (by omega)), h3]
    simp [hrc]
   ·rw [if_neg hc]
    refine ⟨KT + 5, fun k hk => ?_⟩
    obtain ⟨k, rfl⟩ : ∃ q, k = q + 1 := ⟨k - 1, by omega⟩
    simp only []
    rw [hj k (by omega), if_neg (by rw [decide_eq_true_eq]; omega)]
    simp [hrc]

theorem bx (r c : Int) (l : List S88) (hn : l.length ≤ 1048576) : impl_copyBoard.f r c l = some (r, c, l) := by
 unfold impl_copyBoard.f
 rw [Option.bind_some, if_pos (by simp; omega), List.nil_append]

def colB (r c : Int) (l : List S88) (j : Int) : Bool := a8 r c l && decide (0 ≤ j ∧ j < c)

def fallL (r c : Int) (l : List S88) (G : List Int) (j : Int) : Int × Int × Int × List Nat × List S88 := fallG G r.toNat c.toNat r.toNat 0 j.toNat 0 l
theorem cO {r c : Int} {l : List S88} (b : Brd r c l) (G : List Int) (hG : G.length = l.length) {j : Int} (hj : 0 ≤ j ∧ j < c) : Ev (fun k => impl_drop.f k r c l G j) ((fallL r c l G j).1, (fallL r c l G j).2.1, (fallL r c l G j).2.2.1, castL (fallL r c l G j).2.2.2.1, (fallL r c l G j).2.2.2.2) := by
 obtain ⟨R, C, rfl, rfl, hlen, hR1, hR, hC1, hC⟩ := aM b
 obtain ⟨J, rfl⟩ : ∃ J : Nat, j = J := ⟨j.toNat, by omega⟩
 have h := cQ G (by rw [hG]; exact hlen) hR hC R 0 J 0 l [] (by omega) (by omega) hlen b.all (by omega) (by simp; omega)
 simpa [impl_drop.f, fallL] using h
theorem cS {r c : Int} {l : List S88} (b : Brd r c l) (G : List Int) (hG : G.length = l.length) {j : Int} (hj : 0 ≤ j ∧ j < c) : Ev (fun k => spec_flGo.f k r c l G j) ((fallL r c l G j).1, (fallL r c l G j).2.1, (fallL r c l G j).2.2.1, r, c, (fallL r c l G j).2.2.2.2, (fallL r c l G j).2.2.2.1.map (rc c.toNat)) := by
 have hle := b.le
 obtain ⟨R, C, rfl, rfl, hlen, hR1, hR, hC1, hC⟩ := aM b
 obtain ⟨J, rfl⟩ : ∃ J : Nat, j = J := ⟨j.toNat, by omega⟩
 have h := cT G l (by rw [hG]; exact hlen) hR hC R 0 J 0 l [] (by omega) (by omega) hlen b.all (by omega) (by simp; omega)
 refine ao 0 h fun k _ => ?_
 simp only [spec_flGo.f]
 rw [bindE (bK _ _ l (by omega))]
 simp [fallL]
theorem cr {r c : Int} {l : List S88} (b : Brd r c l) (G : List Int) {j : Int} (hj : 0 ≤ j ∧ j < c) : Brd r c (fallL r c l G j).2.2.2.2 ∧ (∀ n ∈ (fallL r c l G j).2.2.2.1, n < l.length) := by
 obtain ⟨R, C, e1, e2, hlen, hR1, hR, hC1, hC⟩ := aM b
 have hl2 : (fallL r c l G j).2.2.2.2.length = l.length := aw _ _ _ _ _ _ _ _
 have h := cb G (R := R) (C := C) R 0 j.toNat 0 l (by omega) (by omega) hlen b.all (by omega)
 have e : fallL r c l G j = fallG G R C R 0 j.toNat 0 l := by rw [fallL, e1, e2]; simp
 rw [e] at hl2 ⊢
 exact ⟨⟨b.r1, b.r2, b.c1, b.c2, by rw [hl2]; exact b.len, h.1, by rw [hl2]; exact b.le, by rw [hl2]; exact b.pos⟩, by rw [hlen]; exact h.2⟩

theorem bZ {l : List S88} {n : Nat} (h : l.length ≤ n) : l.getD n z88 = z88 := by
 rw [List.getD_eq_getElem?_getD, List.getElem?_eq_none h]; rfl
theorem bg {l l' : List S88} (h : ∀ n, gearB (l.getD n z88) = gearB (l'.getD n z88)) (c : Int) : ∀ (ns : List Nat) (out : List Int), push l c out ns = push l' c out ns
 | [], _ => rfl
 | n :: ns, out => by simp only [push, h n, bg h c ns]
theorem bw {l l' : List S88} (h : ∀ n, gearB (l.getD n z88) = gearB (l'.getD n z88)) (R C : Nat) (c : Int) : ∀ (f : Nat) (out : List Int) (q : List Nat), bfs l R C c f out q = bfs l' R C c f out q
 | 0, _, _ => rfl
 | _ + 1, _, [] => rfl
 | f + 1, out, a :: q => by simp only [bfs, bg h c, bw h R C c f]
theorem ap {l l' : List S88} (h : ∀ n, gearB (l.getD n z88) = gearB (l'.getD n z88)) (hl : l.length = l'.length) (R C : Nat) : ∀ (d i : Nat) (out : List Int) (c : Int), a5 l R C d i out c = a5 l' R C d i out c
 | 0, _, _, _ => rfl
 | d + 1, i, out, c => by simp only [a5, h i, hl, bw h R C c, ap h hl R C d]
theorem bd {l l' : List S88} (h : ∀ n, gearB (l.getD n z88) = gearB (l'.getD n z88)) (hl : l.length = l'.length) (R C : Nat) : a1 l R C = a1 l' R C := by
 unfold a1
 rw [ap h hl R C, hl]
theorem aS (x : S88) : gearB (turn1 x) = gearB x := rfl
theorem bb (G : List Int) (l : List S88) (m n : Nat) : gearB ((passL G l m).getD n z88) = gearB (l.getD n z88) := by
 unfold passL
 split
 ·by_cases e : n = m
  ·subst e
   by_cases hm : n < l.length
   ·rw [show (l.set n (turn1 (l.getD n z88))).getD n z88 = turn1 (l.getD n z88) by simp [List.getD_eq_getElem?_getD, hm], aS]
   ·rw [List.set_eq_of_length_le (by omega)]
  ·rw [show (l.set m (turn1 (l.getD m z88))).getD n z88 = l.getD n z88 by simp only [List.getD_eq_getElem?_getD, List.getElem?_set_ne (Ne.symm e)]]
 ·split
  ·by_cases hn : n < l.length
   ·rw [aH _ _ _ hn]
    unfold ag
    split
    ·exact aS _
    ·rfl
   ·have hl := am G (G.getD m 0) l
    rw [bZ (show (turnL G (G.getD m 0) l).length ≤ n by omega), bZ (show l.length ≤ n by omega)]
  ·rfl
theorem c6 (G : List Int) (R C : Nat) (n : Nat) : ∀ (d i j : Nat) (s : Int) (l : List S88), gearB ((fallG G R C d i j s l).2.2.2.2.getD n z88) = gearB (l.getD n z88) := by
 intro d
 induction d with
 | zero => intro i j s l; rfl
 | succ d ih =>
  intro i j s l
  unfold fallG
  split
  ·rfl
  ·split
   ·exact (ih _ _ _ _).trans (bb G l _ n)
   ·exact bb G l _ n
theorem bD (r c : Int) (l : List S88) (G : List Int) (j : Int) (R C : Nat) : a1 (fallL r c l G j).2.2.2.2 R C = a1 l R C :=
 bd (fun n => c6 G _ _ n _ _ _ _ _) (aw _ _ _ _ _ _ _ _) R C

theorem cC {r c : Int} {l : List S88} (b : Brd r c l) {j : Int} (hj : 0 ≤ j ∧ j < c) : Ev (fun k => spec_flRun.f k r c l j) ((fallL r c l (a1 l r.toNat c.toNat) j).1, (fallL r c l (a1 l r.toNat c.toNat) j).2.1, (fallL r c l (a1 l r.toNat c.toNat) j).2.2.1, r, c, (fallL r c l (a1 l r.toNat c.toNat) j).2.2.2.2) := by
 obtain ⟨K, hK⟩ := a4 (aV b).2
 obtain ⟨K2, hK2⟩ := a4 (cS b (a1 l r.toNat c.toNat) (ax _ _ _) hj)
 refine ⟨K + K2, fun k hk => ?_⟩
 simp only [spec_flRun.f]
 rw [bindE (hK k (by omega)), bindE (hK2 k (by omega))]
theorem cJ {r c : Int} {l : List S88} {j : Int} (h : colB r c l j = true) : Brd r c l ∧ 0 ≤ j ∧ j < c := by
 simp only [colB, Bool.and_eq_true, decide_eq_true_eq] at h
 exact ⟨cG h.1, h.2⟩

theorem aF (r c : Int) (l : List S88) (j : Int) (hn : l.length ≤ 1048576) : Ev (fun k => impl_validEntry.f k r c l j) (colB r c l j) := by
 obtain ⟨K, hK⟩ := a4 (cd r c l hn)
 refine ⟨K, fun k hk => ?_⟩
 simp only [impl_validEntry.f]
 rw [bindE (hK k hk)]
 unfold colB
 by_cases hg : a8 r c l = true
 ·rw [hg, ab, Bool.true_and]
  by_cases h : j ≥ 0
  ·rw [if_pos h]
   simp [show (0 : Int) ≤ j from h]
  ·rw [if_neg h]
   simp [show ¬ (0 : Int) ≤ j from h]
 ·rw [Bool.eq_false_iff.2 hg]
  rfl

def machB (r c : Int) (l : List S88) (m1 m2 m3 m4 m5 : Int) : Bool := colB r c l m1 && (colB r c l m2 && decide ((0 ≤ m3 ∧ m3 ≤ 30) ∧ (0 ≤ m4 ∧ m4 ≤ 30) ∧ 0 ≤ m5 ∧ m5 ≤ 2))
theorem bG (r c : Int) (l : List S88) (m1 m2 m3 m4 m5 : Int) (hn : l.length ≤ 1048576) : Ev (fun k => impl_IsMachine.f k r c l m1 m2 m3 m4 m5) (machB r c l m1 m2 m3 m4 m5) := by
 obtain ⟨K, hK⟩ := a4 (aF r c l m1 hn)
 obtain ⟨K2, hK2⟩ := a4 (aF r c l m2 hn)
 refine ⟨K + K2, fun k hk => ?_⟩
 simp only [impl_IsMachine.f]
 rw [bindE (hK k (by omega))]
 unfold machB
 cases colB r c l m1
 ·rfl
 rw [ab, bindE (hK2 k (by omega)), Bool.true_and]
 cases colB r c l m2
 ·rfl
 rw [ab, Bool.true_and]
 by_cases h1 : m3 ≥ 0
 case neg => rw [if_neg h1, decide_eq_false (by omega)]
 rw [if_pos h1]
 by_cases h2 : m3 ≤ 30
 case neg => rw [if_neg h2, decide_eq_false (by omega)]
 rw [if_pos h2]
 by_cases h3 : m4 ≥ 0
 case neg => rw [if_neg h3, decide_eq_false (by omega)]
 rw [if_pos h3]
 by_cases h4 : m4 ≤ 30
 case neg => rw [if_neg h4, decide_eq_false (by omega)]
 rw [if_pos h4]
 by_cases h5 : m5 ≥ 0
 case neg => rw [if_neg h5, decide_eq_false (by omega)]
 rw [if_pos h5]
 congr 1
 apply decide_eq_decide.2
 omega

theorem cq {r c : Int} {l : List S88} {m1 m2 m3 m4 m5 : Int} (h : machB r c l m1 m2 m3 m4 m5 = true) : (0 ≤ m3 ∧ m3 ≤ 30) ∧ (0 ≤ m4 ∧ m4 ≤ 30) ∧ 0 ≤ m5 ∧ m5 ≤ 2 := by
 simp only [machB, Bool.and_eq_true, decide_eq_true_eq] at h
 exact h.2.2

theorem bW (r c : Int) (l : List S88) (j : Int) (hn : l.length ≤ 1048576) : Ev (fun k => spec_flHas.f k r c l j) (colB r c l j) := by
 obtain ⟨K, hK⟩ := a4 (cn r c l hn)
 refine ⟨K, fun k hk => ?_⟩
 simp only [spec_flHas.f]
 rw [bindE (hK k hk)]
 unfold colB
 by_cases hg : a8 r c l = true
 ·have b := cG hg
  have b1 := b.c1; have b2 := b.c2
  rw [hg, ab, Bool.true_and, a2 (x := c - 1) (by omega) (by omega), ar, show decide (0 ≤ j ∧ j ≤ c - 1) = decide (0 ≤ j ∧ j < c) from decide_eq_decide.2 (by omega)]
  try rfl
 ·rw [Bool.eq_false_iff.2 hg]
  rfl

theorem ck (r c : Int) (l : List S88) (m1 m2 m3 m4 m5 : Int) (hn : l.length ≤ 1048576) : Ev (fun k => spec_maGood.f k r c l m1 m2 m3 m4 m5) (machB r c l m1 m2 m3 m4 m5) := by
 obtain ⟨K, hK⟩ := a4 (bW r c l m1 hn)
 obtain ⟨K2, hK2⟩ := a4 (bW r c l m2 hn)
 refine ⟨K + K2, fun k hk => ?_⟩
 simp only [spec_maGood.f]
 rw [bindE (hK k (by omega))]
 unfold machB
 cases colB r c l m1
 ·rfl
 rw [ab, bindE (hK2 k (by omega)), Bool.true_and]
 cases colB r c l m2
 ·rfl
 rw [ab, Bool.true_and, ar, ar, ar, Option.bind_some]
 by_cases h1 : 0 ≤ m3 ∧ m3 ≤ 30
 case neg => rw [decide_eq_false h1, decide_eq_false (show ¬ ((0 ≤ m3 ∧ m3 ≤ 30) ∧ (0 ≤ m4 ∧ m4 ≤ 30) ∧ 0 ≤ m5 ∧ m5 ≤ 2) from fun h => h1 h.1)]; rfl
 rw [decide_eq_true h1, ab, Option.bind_some]
 by_cases h2 : 0 ≤ m4 ∧ m4 ≤ 30
 case neg => rw [decide_eq_false h2, decide_eq_false (show ¬ ((0 ≤ m3 ∧ m3 ≤ 30) ∧ (0 ≤ m4 ∧ m4 ≤ 30) ∧ 0 ≤ m5 ∧ m5 ≤ 2) from fun h => h2 h.2.1)]; rfl
 rw [decide_eq_true h2, ab, Option.bind_some]
 congr 1
 apply decide_eq_decide.2
 omega

theorem bo (r c : Int) (l : List S88) (m1 m2 m3 m4 m5 : Int) (hn : l.length ≤ 1048576) : impl_copyMachine.f r c l m1 m2 m3 m4 m5 = some (r, c, l, m1, m2, m3, m4, m5) := by
 unfold impl_copyMachine.f
 rw [bindE (bx r c l hn)]

theorem bz (r c : Int) (a : List S93) (m1 m2 m3 m4 m5 : Int) (left : Int) (h0 : 0 ≤ left) (h1 : left ≤ 1048576) (hn : a.length ≤ 9223372036854775807) :
 laws_szMachine.f r c a m1 m2 m3 m4 m5 left = some (if (a.length : Int) ≤ left then left - a.length else -1) := by
 unfold laws_szMachine.f
 rw [bindE (c9 r c a left h0 h1 hn)]
 by_cases h : (a.length : Int) ≤ left
 ·rw [if_pos h, if_neg (by omega)]
 ·rw [if_neg h, if_pos (by omega)]

theorem bB (r c : Int) (a : List S93) (m1 m2 m3 m4 m5 : Int) (hn : a.length ≤ 1048576) : Ev (fun k => laws_toMachine.f k r c a m1 m2 m3 m4 m5) (r, c, a.map conv, m1, m2, m3, m4, m5) := by
 obtain ⟨K, hK⟩ := a4 (c8 r c a hn)
 refine ⟨K, fun k hk => ?_⟩
 simp only [laws_toMachine.f]
 rw [bindE (hK k hk)]

theorem bC (r c : Int) (a : List S88) (m1 m2 m3 m4 m5 : Int) (hn : a.length ≤ 1048576) : Ev (fun k => laws_eqMachine.f k r c a m1 m2 m3 m4 m5 r c a m1 m2 m3 m4 m5) true := by
 obtain ⟨K, hK⟩ := a4 (c7 r c a hn)
 refine ⟨K, fun k hk => ?_⟩
 simp only [laws_eqMachine.f]
 rw [bindE (hK k hk)]
 simp



def canB (b rd nx : Int) : Bool := decide (nx = 0 ∧ 0 < b ∨ nx = 1 ∧ 0 < rd)
theorem bM (b rd nx : Int) : (if nx = 0 then (if b > 0 then (some true) else (if nx = 1 then (some (decide (rd > 0))) else (some false))) else (if nx = 1 then (some (decide (rd > 0))) else (some false))) = some (canB b rd nx) := by
 unfold canB
 by_cases h0 : nx = 0
 ·subst h0
  by_cases hb : b > 0
  ·rw [if_pos rfl, if_pos hb, decide_eq_true (by omega)]
  ·rw [if_pos rfl, if_neg hb, if_neg (by omega), decide_eq_false (by omega)]
 ·rw [if_neg h0]
  by_cases h1 : nx = 1
  ·rw [if_pos h1]
   exact congrArg some (decide_eq_decide.2 (by omega))
  ·rw [if_neg h1, decide_eq_false (by omega)]
theorem ba (r c : Int) (l : List S88) (lf rt b rd nx : Int) : impl_canStep.f r c l lf rt b rd nx = some (canB b rd nx) := by
 unfold impl_canStep.f
 exact bM b rd nx
theorem c4 (r c : Int) (l : List S88) (lf rt b rd nx : Int) : spec_maCan.f r c l lf rt b rd nx = some (canB b rd nx) := by
 unfold spec_maCan.f
 exact bM b rd nx
def al (c e col : Int) : Int := if e = 1 then (if 2 * col < c then 0 else 1) else 2
def entOf (lf rt nx : Int) : Int := if nx = 0 then lf else rt
def aj (b nx : Int) : Int := if nx = 0 then b - 1 else b
def redOf (rd nx : Int) : Int := if nx = 0 then rd else rd - 1
theorem cy (G : List Int) (R C : Nat) : ∀ (d i j : Nat) (s : Int) (l : List S88), j < C → (fallG G R C d i j s l).1 = 1 → 0 ≤ (fallG G R C d i j s l).2.2.1 ∧ (fallG G R C d i j s l).2.2.1 < C := by
 intro d
 induction d with
 | zero =>
  intro i j s l hj _
  simp only [fallG]
  omega
 | succ d ih =>
  intro i j s l hj
  unfold fallG
  split
  ·intro h; simp at h
  ·split
   ·rename_i h
    intro h1
    exact ih _ _ _ _ (by omega) h1
   ·intro h; simp at h
theorem cm {r c : Int} {l : List S88} (b : Brd r c l) (G : List Int) {j : Int} (hj : 0 ≤ j ∧ j < c) (h : (fallL r c l G j).1 = 1) : 0 ≤ (fallL r c l G j).2.2.1 ∧ (fallL r c l G j).2.2.1 < c := by
 have h1 := b.c1
 have := cy G r.toNat c.toNat r.toNat 0 j.toNat 0 l (by omega) h
 unfold fallL
 omega
theorem ch {r c : Int} {l : List S88} (b : Brd r c l) (G : List Int) {j : Int} (hj : 0 ≤ j ∧ j < c) {α : Type} (x : Int → α) :
 (if (fallL r c l G j).1 = 1 then (if (wrap64 (2 * (fallL r c l G j).2.2.1)) < c then (some (x 0)) else (some (x 1))) else (some (x 2))) = some (x (al c (fallL r c l G j).1 (fallL r c l G j).2.2.1)) := by
 have h2 := b.c2
 unfold al
 by_cases h : (fallL r c l G j).1 = 1
 ·have hc := cm b G hj h
  rw [if_pos h, if_pos h, a2 (x := 2 * (fallL r c l G j).2.2.1) (by omega) (by omega)]
  by_cases h3 : 2 * (fallL r c l G j).2.2.1 < c
  ·rw [if_pos h3, if_pos h3]
  ·rw [if_neg h3, if_neg h3]
 ·rw [if_neg h, if_neg h]
theorem br {r c : Int} {l : List S88} (b : Brd r c l) (G : List Int) (hG : G.length = l.length) {j : Int} (hj : 0 ≤ j ∧ j < c) (lf rt bl rd nx : Int) :
 ∃ K, ∀ k, K ≤ k → impl_stepOn.j0 (k + 1) G j r c l lf rt bl rd nx = some ((fallL r c l G j).1, (fallL r c l G j).2.1, (fallL r c l G j).2.2.1, bl, rd, al c (fallL r c l G j).1 (fallL r c l G j).2.2.1, (fallL r c l G j).2.2.2.2) := by
 obtain ⟨K, hK⟩ := a4 (cO b G hG hj)
 refine ⟨K, fun k hk => ?_⟩
 simp only [impl_stepOn.j0]
 rw [bindE (hK k hk)]
 exact ch b G hj (fun n => ((fallL r c l G j).1, (fallL r c l G j).2.1, (fallL r c l G j).2.2.1, bl, rd, n, (fallL r c l G j).2.2.2.2))
theorem cv {r c : Int} {l : List S88} (b : Brd r c l) (G : List Int) (hG : G.length = l.length) {lf rt : Int} (hl : 0 ≤ lf ∧ lf < c) (hr : 0 ≤ rt ∧ rt < c) (bl rd nx : Int) (hb : 0 ≤ bl ∧ bl ≤ 30) (hd : 0 ≤ rd ∧ rd ≤ 30) :
 Ev (fun k => impl_stepOn.f k r c l lf rt bl rd nx G) ((fallL r c l G (entOf lf rt nx)).1, (fallL r c l G (entOf lf rt nx)).2.1, (fallL r c l G (entOf lf rt nx)).2.2.1, aj bl nx, redOf rd nx, al c (fallL r c l G (entOf lf rt nx)).1 (fallL r c l G (entOf lf rt nx)).2.2.1, (fallL r c l G (entOf lf rt nx)).2.2.2.2) := by
 by_cases h0 : nx = 0
 ·rw [show entOf lf rt nx = lf from if_pos h0, show aj bl nx = bl - 1 from if_pos h0, show redOf rd nx = rd from if_pos h0]
  obtain ⟨K, hK⟩ := br b G hG hl lf rt (bl - 1) rd nx
  refine a9 K fun k hk => ?_
  simp only [impl_stepOn.f]
  rw [if_pos h0, a2 (x := bl - 1) (by omega) (by omega)]
  exact hK k hk
 ·rw [show entOf lf rt nx = rt from if_neg h0, show aj bl nx = bl from if_neg h0, show redOf rd nx = rd - 1 from if_neg h0]
  obtain ⟨K, hK⟩ := br b G hG hr lf rt bl (rd - 1) nx
  refine a9 K fun k hk => ?_
  simp only [impl_stepOn.f]
  rw [if_neg h0, a2 (x := rd - 1) (by omega) (by omega)]
  exact hK k hk
theorem bt {r c : Int} {l : List S88} (b : Brd r c l) {j : Int} (hj : 0 ≤ j ∧ j < c) (y1 y2 y3 y4 y5 : Int) (z1 z2 : Int) (z3 : List S88) (lf rt bl rd nx : Int) :
 ∃ K, ∀ k, K ≤ k → spec_maStep.j0 (k + 1) j r c l y1 y2 y3 y4 y5 z1 z2 z3 lf rt bl rd nx = some (r, c, (fallL r c l (a1 l r.toNat c.toNat) j).2.2.2.2, lf, rt, bl, rd, al c (fallL r c l (a1 l r.toNat c.toNat) j).1 (fallL r c l (a1 l r.toNat c.toNat) j).2.2.1, (fallL r c l (a1 l r.toNat c.toNat) j).1, (fallL r c l (a1 l r.toNat c.toNat) j).2.1, (fallL r c l (a1 l r.toNat c.toNat) j).2.2.1) := by
 obtain ⟨K, hK⟩ := a4 (cC b hj)
 refine ⟨K, fun k hk => ?_⟩
 simp only [spec_maStep.j0]
 rw [bindE (hK k hk)]
 exact ch b (a1 l r.toNat c.toNat) hj (fun n => (r, c, (fallL r c l (a1 l r.toNat c.toNat) j).2.2.2.2, lf, rt, bl, rd, n, (fallL r c l (a1 l r.toNat c.toNat) j).1, (fallL r c l (a1 l r.toNat c.toNat) j).2.1, (fallL r c l (a1 l r.toNat c.toNat) j).2.2.1))
theorem cx {r c : Int} {l : List S88} (b : Brd r c l) {lf rt : Int} (hl : 0 ≤ lf ∧ lf < c) (hr : 0 ≤ rt ∧ rt < c) (bl rd nx : Int) (hb : 0 ≤ bl ∧ bl ≤ 30) (hd : 0 ≤ rd ∧ rd ≤ 30) :
 Ev (fun k => spec_maStep.f k r c l lf rt bl rd nx) (r, c, (fallL r c l (a1 l r.toNat c.toNat) (entOf lf rt nx)).2.2.2.2, lf, rt, aj bl nx, redOf rd nx, al c (fallL r c l (a1 l r.toNat c.toNat) (entOf lf rt nx)).1 (fallL r c l (a1 l r.toNat c.toNat) (entOf lf rt nx)).2.2.1, (fallL r c l (a1 l r.toNat c.toNat) (entOf lf rt nx)).1, (fallL r c l (a1 l r.toNat c.toNat) (entOf lf rt nx)).2.1, (fallL r c l (a1 l r.toNat c.toNat) (entOf lf rt nx)).2.2.1) := by
 by_cases h0 : nx = 0
 ·rw [show entOf lf rt nx = lf from if_pos h0, show aj bl nx = bl - 1 from if_pos h0, show redOf rd nx = rd from if_pos h0]
  obtain ⟨K, hK⟩ := bt b hl lf rt bl rd nx r c l lf rt (bl - 1) rd nx
  refine a9 K fun k hk => ?_
  simp only [spec_maStep.f]
  rw [if_pos h0, a2 (x := bl - 1) (by omega) (by omega)]
  exact hK k hk
 ·rw [show entOf lf rt nx = rt from if_neg h0, show aj bl nx = bl from if_neg h0, show redOf rd nx = rd - 1 from if_neg h0]
  obtain ⟨K, hK⟩ := bt b hr lf rt bl rd nx r c l lf rt bl (rd - 1) nx
  refine a9 K fun k hk => ?_
  simp only [spec_maStep.f]
  rw [if_neg h0, a2 (x := rd - 1) (by omega) (by omega)]
  exact hK k hk
structure Mch (r c : Int) (l : List S88) (lf rt b rd : Int) : Prop where
 brd : Brd r c l
 lf : 0 ≤ lf ∧ lf < c
 rt : 0 ≤ rt ∧ rt < c
 b : 0 ≤ b ∧ b ≤ 30
 rd : 0 ≤ rd ∧ rd ≤ 30
theorem cI {r c : Int} {l : List S88} {lf rt b rd nx : Int} (h : machB r c l lf rt b rd nx = true) : Mch r c l lf rt b rd ∧ 0 ≤ nx ∧ nx ≤ 2 := by
 have hm := cq h
 simp only [machB, Bool.and_eq_true] at h
 have h1 := cJ h.1
 have h2 := cJ h.2.1
 exact ⟨⟨h1.1, h1.2, h2.2, hm.1, hm.2.1⟩, hm.2.2⟩
theorem bQ {r c : Int} {l : List S88} {lf rt b rd nx : Int} (m : Mch r c l lf rt b rd) (h : canB b rd nx = true) (G : List Int) : Mch r c (fallL r c l G (entOf lf rt nx)).2.2.2.2 lf rt (aj b nx) (redOf rd nx) := by
 simp only [canB, decide_eq_true_eq] at h
 have hb := m.b; have hd := m.rd
 have hj : 0 ≤ entOf lf rt nx ∧ entOf lf rt nx < c := by
  unfold entOf
  split
  ·exact m.lf
  ·exact m.rt
 refine ⟨(cr m.brd G hj).1, m.lf, m.rt, ?_, ?_⟩
 ·unfold aj
  split <;> omega
 ·unfold redOf
  split <;> omega
theorem bu (r c : Int) (l : List S88) (G : List Int) (j : Int) : (fallL r c l G j).2.2.2.2.length = l.length := aw _ _ _ _ _ _ _ _
def runL (r c lf rt : Int) (G : List Int) : Nat → List S88 → Int → Int → Int → List S69 × List S88 × Int × Int × Int
 | 0, l, b, rd, nx => ([], l, b, rd, nx)
 | d + 1, l, b, rd, nx =>
  if canB b rd nx = true then
   (⟨nx, ⟨(fallL r c l G (entOf lf rt nx)).1, (fallL r c l G (entOf lf rt nx)).2.1, (fallL r c l G (entOf lf rt nx)).2.2.1⟩⟩ ::
    (runL r c lf rt G d (fallL r c l G (entOf lf rt nx)).2.2.2.2 (aj b nx) (redOf rd nx) (al c (fallL r c l G (entOf lf rt nx)).1 (fallL r c l G (entOf lf rt nx)).2.2.1)).1,
    (runL r c lf rt G d (fallL r c l G (entOf lf rt nx)).2.2.2.2 (aj b nx) (redOf rd nx) (al c (fallL r c l G (entOf lf rt nx)).1 (fallL r c l G (entOf lf rt nx)).2.2.1)).2)
  else ([], l, b, rd, nx)
theorem bV (r c lf rt : Int) (G : List Int) : ∀ (d : Nat) (l : List S88) (b rd nx : Int), (runL r c lf rt G d l b rd nx).1.length ≤ d ∧ (runL r c lf rt G d l b rd nx).2.1.length = l.length := by
 intro d
 induction d with
 | zero => intro l b rd nx; exact ⟨Nat.le_refl _, rfl⟩
 | succ d ih =>
  intro l b rd nx
  unfold runL
  split
  ·have h := ih (fallL r c l G (entOf lf rt nx)).2.2.2.2 (aj b nx) (redOf rd nx) (al c (fallL r c l G (entOf lf rt nx)).1 (fallL r c l G (entOf lf rt nx)).2.2.1)
   rw [bu] at h
   exact ⟨by rw [List.length_cons]; omega, h.2⟩
  ·exact ⟨by simp, rfl⟩
theorem cZ (r c lf rt : Int) (G : List Int) : ∀ (d : Nat) (l : List S88) (b rd nx : Int), 0 ≤ nx ∧ nx ≤ 2 → 0 ≤ (runL r c lf rt G d l b rd nx).2.2.2.2 ∧ (runL r c lf rt G d l b rd nx).2.2.2.2 ≤ 2 := by
 intro d
 induction d with
 | zero => intro l b rd nx h; exact h
 | succ d ih =>
  intro l b rd nx h
  unfold runL
  split
  ·refine ih _ _ _ _ ?_
   unfold al
   split
   ·split <;> omega
   ·omega
  ·exact h
theorem bH (r c lf rt : Int) (G : List Int) : ∀ (d : Nat) (l : List S88) (b rd nx : Int), ∀ e ∈ (runL r c lf rt G d l b rd nx).1, e.f0 = 0 ∨ e.f0 = 1 := by
 intro d
 induction d with
 | zero => intro l b rd nx e he; simp [runL] at he
 | succ d ih =>
  intro l b rd nx e he
  unfold runL at he
  split at he
  ·rename_i h
   simp only [canB, decide_eq_true_eq] at h
   rcases List.mem_cons.1 he with h1 | h1
   ·subst h1
    show nx = 0 ∨ nx = 1
    omega
   ·exact ih _ _ _ _ e h1
  ·simp at he

theorem bY {r c lf rt : Int} (G : List Int) : ∀ (d : Nat) (l : List S88) (b rd nx : Int) (acc : List S69) (n : Int), n = ((acc.length + d : Nat) : Int) → n ≤ 60 → Mch r c l lf rt b rd → G.length = l.length →
 Ev (fun k => impl_runSteps.l0 k n G acc r c l lf rt b rd nx) (r, c, (runL r c lf rt G d l b rd nx).2.1, lf, rt, (runL r c lf rt G d l b rd nx).2.2.1, (runL r c lf rt G d l b rd nx).2.2.2.1, (runL r c lf rt G d l b rd nx).2.2.2.2, acc ++ (runL r c lf rt G d l b rd nx).1) := by
 intro d
 induction d with
 | zero =>
  intro l b rd nx acc n hn h60 m hG
  refine a9 0 fun k _ => ?_
  simp only [impl_runSteps.l0]
  rw [if_neg (by omega)]
  simp [runL]
 | succ d ih =>
  intro l b rd nx acc n hn h60 m hG
  unfold runL
  by_cases h : canB b rd nx = true
  ·rw [if_pos h]
   obtain ⟨K, hK⟩ := a4 (cv m.brd G hG m.lf m.rt b rd nx m.b m.rd)
   have h2 := ih (fallL r c l G (entOf lf rt nx)).2.2.2.2 (aj b nx) (redOf rd nx) (al c (fallL r c l G (entOf lf rt nx)).1 (fallL r c l G (entOf lf rt nx)).2.2.1) (acc ++ [(⟨nx, ⟨(fallL r c l G (entOf lf rt nx)).1, (fallL r c l G (entOf lf rt nx)).2.1, (fallL r c l G (entOf lf rt nx)).2.2.1⟩⟩ : S69)]) n
    (by rw [List.length_append, List.length_singleton]; omega) h60 (bQ m h G) (by rw [bu]; exact hG)
   rw [List.append_assoc, List.singleton_append] at h2
   refine a6 K h2 fun k hk => ?_
   simp only [impl_runSteps.l0]
   rw [if_pos (by omega), bindE (ba r c l lf rt b rd nx), if_pos h, bindE (hK k hk), if_pos (by omega)]
  ·rw [if_neg h, List.append_nil]
   refine a9 0 fun k _ => ?_
   simp only [impl_runSteps.l0]
   rw [if_pos (by omega), bindE (ba r c l lf rt b rd nx), if_neg h]
def runOf (r c : Int) (l : List S88) (lf rt b rd nx n : Int) : List S69 × List S88 × Int × Int × Int := runL r c lf rt (a1 l r.toNat c.toNat) n.toNat l b rd nx
theorem bO {r c lf rt b rd nx n : Int} {l : List S88} (m : Mch r c l lf rt b rd) (h0 : 0 ≤ n) (h60 : n ≤ 60) :
 Ev (fun k => impl_runSteps.f k r c l lf rt b rd nx n) (r, c, (runOf r c l lf rt b rd nx n).2.1, lf, rt, (runOf r c l lf rt b rd nx n).2.2.1, (runOf r c l lf rt b rd nx n).2.2.2.1, (runOf r c l lf rt b rd nx n).2.2.2.2, (runOf r c l lf rt b rd nx n).1) := by
 obtain ⟨K, hK⟩ := a4 (aV m.brd).1
 have hle := m.brd.le
 have h := bY (a1 l r.toNat c.toNat) n.toNat l b rd nx [] n (by simp; omega) h60 m (ax _ _ _)
 refine ao K h fun k hk => ?_
 simp only [impl_runSteps.f]
 rw [bindE (bo r c l lf rt b rd nx (by omega)), bindE (hK k hk)]

theorem cF {r c lf rt : Int} (G : List Int) : ∀ (d : Nat) (l : List S88) (b rd nx : Int) (cs : List Int) (fs : List S52) (n : Int), n = ((fs.length + d : Nat) : Int) → cs.length = fs.length → n ≤ 60 → Mch r c l lf rt b rd → a1 l r.toNat c.toNat = G →
 Ev (fun k => spec_maRun.l0 k n cs fs r c l lf rt b rd nx) (r, c, (runL r c lf rt G d l b rd nx).2.1, lf, rt, (runL r c lf rt G d l b rd nx).2.2.1, (runL r c lf rt G d l b rd nx).2.2.2.1, (runL r c lf rt G d l b rd nx).2.2.2.2, cs ++ (runL r c lf rt G d l b rd nx).1.map (fun e => e.f0), fs ++ (runL r c lf rt G d l b rd nx).1.map (fun e => e.f1)) := by
 intro d
 induction d with
 | zero =>
  intro l b rd nx cs fs n hn hc h60 m hG
  refine a9 0 fun k _ => ?_
  simp only [spec_maRun.l0]
  rw [if_neg (by omega)]
  simp [runL]
 | succ d ih =>
  intro l b rd nx cs fs n hn hc h60 m hG
  unfold runL
  by_cases h : canB b rd nx = true
  ·rw [if_pos h]
   have h1 := cx m.brd m.lf m.rt b rd nx m.b m.rd
   rw [hG] at h1
   obtain ⟨K, hK⟩ := a4 h1
   have h2 := ih (fallL r c l G (entOf lf rt nx)).2.2.2.2 (aj b nx) (redOf rd nx) (al c (fallL r c l G (entOf lf rt nx)).1 (fallL r c l G (entOf lf rt nx)).2.2.1) (cs ++ [nx]) (fs ++ [(⟨(fallL r c l G (entOf lf rt nx)).1, (fallL r c l G (entOf lf rt nx)).2.1, (fallL r c l G (entOf lf rt nx)).2.2.1⟩ : S52)]) n
    (by rw [List.length_append, List.length_singleton]; omega) (by simp [hc]) h60 (bQ m h G) (by rw [bD]; exact hG)
   rw [List.append_assoc, List.singleton_append, List.append_assoc, List.singleton_append] at h2
   refine a6 K h2 fun k hk => ?_
   simp only [spec_maRun.l0]
   rw [if_pos (by omega), bindE (c4 r c l lf rt b rd nx), if_pos h, if_pos (by omega), bindE (hK k hk), if_pos (by omega)]
  ·rw [if_neg h]
   refine a9 0 fun k _ => ?_
   simp only [spec_maRun.l0]
   rw [if_pos (by omega), bindE (c4 r c l lf rt b rd nx), if_neg h]
   simp
theorem cN {r c lf rt b rd nx n : Int} {l : List S88} (m : Mch r c l lf rt b rd) (h0 : 0 ≤ n) (h60 : n ≤ 60) :
 Ev (fun k => spec_maRun.f k r c l lf rt b rd nx n) (r, c, (runOf r c l lf rt b rd nx n).2.1, lf, rt, (runOf r c l lf rt b rd nx n).2.2.1, (runOf r c l lf rt b rd nx n).2.2.2.1, (runOf r c l lf rt b rd nx n).2.2.2.2, (runOf r c l lf rt b rd nx n).1.map (fun e => e.f0), (runOf r c l lf rt b rd nx n).1.map (fun e => e.f1)) := by
 have hle := m.brd.le
 have h := cF (a1 l r.toNat c.toNat) n.toNat l b rd nx [] [] n (by simp; omega) rfl h60 m rfl
 refine ao 0 h fun k hk => ?_
 simp only [spec_maRun.f]
 rw [bindE (bK r c l (by omega))]

theorem aO (r c : Int) (l : List S88) (lf rt b rd nx : Int) : (runOf r c l lf rt b rd nx 60).1.length ≤ 60 := (bV _ _ _ _ _ _ _ _ _ _).1

def an : List S69 → Int → Int → Int × Int
 | [], a, b => (a, b)
 | e :: es, a, b => if e.f1.f0 = 1 then (if e.f0 = 0 then an es (a + 1) b else an es a (b + 1)) else an es a b
def acRes (r c : Int) (l : List S88) (lf rt b rd nx : Int) : Int × Int × Bool := if machB r c l lf rt b rd nx = true then ((an (runOf r c l lf rt b rd nx 60).1 0 0).1, (an (runOf r c l lf rt b rd nx 60).1 0 0).2, true) else (0, 0, false)
theorem aG (r c : Int) (l : List S88) (lf rt b rd nx n : Int) : ∀ e ∈ (runOf r c l lf rt b rd nx n).1, e.f0 = 0 ∨ e.f0 = 1 := bH _ _ _ _ _ _ _ _ _ _
theorem bP (es : List S69) {i : Nat} (h : i < es.length) : es.getD i z69 ∈ es := by
 rw [List.getD_eq_getElem?_getD, List.getElem?_eq_getElem h]
 exact List.getElem_mem h
theorem aN (es : List S69) (hes : es.length ≤ 60) (hc : ∀ e ∈ es, e.f0 = 0 ∨ e.f0 = 1) : ∀ (d i : Nat) (a b : Int), es.length - i = d → i ≤ es.length → 0 ≤ a ∧ a ≤ i → 0 ≤ b ∧ b ≤ i → Ev (fun k => impl_ArrivedColours.l0 k es (es.length : Int) (i : Int) a b) ((an (es.drop i) a b).1, (an (es.drop i) a b).2, true) := by
 intro d
 induction d with
 | zero =>
  intro i a b hd hi ha hb
  refine a9 0 fun k _ => ?_
  simp only [impl_ArrivedColours.l0]
  rw [if_neg (by omega), List.drop_of_length_le (by omega)]
  rfl
 | succ d ih =>
  intro i a b hd hi ha hb
  have hlt : i < es.length := by omega
  have hm := hc _ (bP es hlt)
  rw [ac es z69 hlt, an]
  by_cases h1 : (es.getD i z69).f1.f0 = 1
  ·rw [if_pos h1]
   by_cases h2 : (es.getD i z69).f0 = 0
   ·rw [if_pos h2]
    refine a6 0 (ih (i + 1) (a + 1) b (by omega) (by omega) (by omega) (by omega)) fun k _ => ?_
    simp only [impl_ArrivedColours.l0]
    rw [if_pos (by omega), if_pos (by omega), if_pos (by omega), rd_T69, Int.toNat_natCast, if_pos h1, if_pos h2, a3 hlt (by omega), a2 (x := a + 1) (by omega) (by omega)]
   ·rw [if_neg h2]
    refine a6 0 (ih (i + 1) a (b + 1) (by omega) (by omega) (by omega) (by omega)) fun k _ => ?_
    simp only [impl_ArrivedColours.l0]
    rw [if_pos (by omega), if_pos (by omega), if_pos (by omega), rd_T69, Int.toNat_natCast, if_pos h1, if_neg h2, if_pos (hm.resolve_left h2), a3 hlt (by omega), a2 (x := b + 1) (by omega) (by omega)]
  ·rw [if_neg h1]
   refine a6 0 (ih (i + 1) a b (by omega) (by omega) (by omega) (by omega)) fun k _ => ?_
   simp only [impl_ArrivedColours.l0]
   rw [if_pos (by omega), if_pos (by omega), if_pos (by omega), rd_T69, Int.toNat_natCast, if_neg h1, a3 hlt (by omega)]
theorem aK (r c : Int) (l : List S88) (lf rt b rd nx : Int) (hn : l.length ≤ 1048576) : Ev (fun k => impl_ArrivedColours.f k r c l lf rt b rd nx) (acRes r c l lf rt b rd nx) := by
 obtain ⟨K, hK⟩ := a4 (bG r c l lf rt b rd nx hn)
 unfold acRes
 by_cases h : machB r c l lf rt b rd nx = true
 case neg =>
  rw [if_neg h]
  refine ⟨K, fun k hk => ?_⟩
  simp only [impl_ArrivedColours.f]
  rw [bindE (hK k hk), if_neg h]
 obtain ⟨K2, hK2⟩ := a4 (bO (nx := nx) (n := 60) (cI h).1 (by omega) (by omega))
 obtain ⟨K3, hK3⟩ := a4 (aN (runOf r c l lf rt b rd nx 60).1 (aO r c l lf rt b rd nx) (aG r c l lf rt b rd nx 60) _ 0 0 0 rfl (by omega) (by omega) (by omega))
 refine ⟨K + K2 + K3, fun k hk => ?_⟩
 simp only [impl_ArrivedColours.f]
 rw [bindE (hK k (by omega)), if_pos h, bindE (hK2 k (by omega)), if_pos h]
 exact hK3 k (by omega)

theorem az (es : List S69) (hes : es.length ≤ 60) (hc : ∀ e ∈ es, e.f0 = 0 ∨ e.f0 = 1) : ∀ (d i : Nat) (a b : Int), es.length - i = d → i ≤ es.length → 0 ≤ a ∧ a ≤ i → 0 ≤ b ∧ b ≤ i → Ev (fun k => spec_ArrivedColours.l0 k (es.map (fun e => e.f0)) [a, b] (es.map (fun e => e.f1)) (es.length : Int) (i : Int)) ((an (es.drop i) a b).1, (an (es.drop i) a b).2, true) := by
 intro d
 induction d with
 | zero =>
  intro i a b hd hi ha hb
  refine a9 0 fun k _ => ?_
  simp only [spec_ArrivedColours.l0]
  rw [if_neg (by omega), List.drop_of_length_le (by omega)]
  rfl
 | succ d ih =>
  intro i a b hd hi ha hb
  have hlt : i < es.length := by omega
  have hm := hc _ (bP es hlt)
  have e : rd_T52 (es.map (fun e => e.f1)) (i : Int) = (es.getD i z69).f1 := by
   rw [rd_T52, Int.toNat_natCast, List.getD_eq_getElem?_getD, List.getD_eq_getElem?_getD, List.getElem?_eq_getElem hlt, List.getElem?_map, List.getElem?_eq_getElem hlt]
   rfl
  have e0 : rd (es.map (fun e => e.f0)) (i : Int) = (es.getD i z69).f0 := by
   rw [rd, Int.toNat_natCast, List.getD_eq_getElem?_getD, List.getD_eq_getElem?_getD, List.getElem?_eq_getElem hlt, List.getElem?_map, List.getElem?_eq_getElem hlt]
   rfl
  rw [ac es z69 hlt, an]
  by_cases h1 : (es.getD i z69).f1.f0 = 1
  ·rw [if_pos h1]
   by_cases h2 : (es.getD i z69).f0 = 0
   ·rw [if_pos h2]
    refine a6 0 (ih (i + 1) (a + 1) b (by omega) (by omega) (by omega) (by omega)) fun k _ => ?_
    simp only [spec_ArrivedColours.l0]
    rw [if_pos (by omega), if_pos (by omega), if_pos (by rw [List.length_map]; omega), e, if_pos h1, if_pos (by rw [List.length_map]; omega), e0, h2, if_pos (by omega), if_pos (by simp), a3 hlt (by omega), show rd [a, b] 0 = a from rfl, a2 (x := a + 1) (by omega) (by omega)]
    rfl
   ·rw [if_neg h2]
    refine a6 0 (ih (i + 1) a (b + 1) (by omega) (by omega) (by omega) (by omega)) fun k _ => ?_
    simp only [spec_ArrivedColours.l0]
    rw [if_pos (by omega), if_pos (by omega), if_pos (by rw [List.length_map]; omega), e, if_pos h1, if_pos (by rw [List.length_map]; omega), e0, hm.resolve_left h2, if_pos (by omega), if_pos (by simp), a3 hlt (by omega), show rd [a, b] 1 = b from rfl, a2 (x := b + 1) (by omega) (by omega)]
    rfl
  ·rw [if_neg h1]
   refine a6 0 (ih (i + 1) a b (by omega) (by omega) (by omega) (by omega)) fun k _ => ?_
   simp only [spec_ArrivedColours.l0]
   rw [if_pos (by omega), if_pos (by omega), if_pos (by rw [List.length_map]; omega), e, if_neg h1, a3 hlt (by omega)]
theorem ay (r c : Int) (l : List S88) (lf rt b rd nx : Int) (hn : l.length ≤ 1048576) : Ev (fun k => spec_ArrivedColours.f k r c l lf rt b rd nx) (acRes r c l lf rt b rd nx) := by
 obtain ⟨K, hK⟩ := a4 (ck r c l lf rt b rd nx hn)
 unfold acRes
 by_cases h : machB r c l lf rt b rd nx = true
 case neg =>
  rw [if_neg h]
  refine ⟨K, fun k hk => ?_⟩
  simp only [spec_ArrivedColours.f]
  rw [bindE (hK k hk), if_neg h]
 obtain ⟨K2, hK2⟩ := a4 (cN (nx := nx) (n := 60) (cI h).1 (by omega) (by omega))
 obtain ⟨K3, hK3⟩ := a4 (az (runOf r c l lf rt b rd nx 60).1 (aO r c l lf rt b rd nx) (aG r c l lf rt b rd nx 60) _ 0 0 0 rfl (by omega) (by omega) (by omega))
 refine ⟨K + K2 + K3, fun k hk => ?_⟩
 simp only [spec_ArrivedColours.f]
 rw [bindE (hK k (by omega)), if_pos h, bindE (hK2 k (by omega)), if_pos h, if_pos (by omega)]
 simp only [List.length_map]
 exact hK3 k (by omega)

theorem FnExactArrivedColours (r0 c0 : Int) (a0 : List S93) (m0_1 m0_2 m0_3 m0_4 m0_5 : Int) (hn0 : a0.length ≤ 9223372036854775807) : ∃ k, laws_FnExactArrivedColours.f k r0 c0 a0 m0_1 m0_2 m0_3 m0_4 m0_5 = some true := by
 unfold laws_FnExactArrivedColours.f
 simp only [bindE (bz r0 c0 a0 m0_1 m0_2 m0_3 m0_4 m0_5 (1048576) (by omega) (by omega) hn0)]
 by_cases hs0 : (a0.length : Int) ≤ 1048576
 case neg =>
  exact ⟨0, by rw [if_neg hs0]; rfl⟩
 have hq0 : ¬ (1048576 - (a0.length : Int) < 0) := by omega
 simp only [if_pos hs0, if_neg hq0]
 have hl0 : (a0.map conv).length ≤ 1048576 := by rw [List.length_map]; omega
 obtain ⟨K1, h1⟩ := a4 (bB r0 c0 a0 m0_1 m0_2 m0_3 m0_4 m0_5 (by omega))
 obtain ⟨K2, h2⟩ := a4 (aK r0 c0 (a0.map conv) m0_1 m0_2 m0_3 m0_4 m0_5 hl0)
 obtain ⟨K3, h3⟩ := a4 (ay r0 c0 (a0.map conv) m0_1 m0_2 m0_3 m0_4 m0_5 hl0)
 revert h2 h3
 generalize acRes r0 c0 (a0.map conv) m0_1 m0_2 m0_3 m0_4 m0_5 = r
 intro h2 h3
 obtain ⟨K4, h4⟩ := a4 (bC r0 c0 (a0.map conv) m0_1 m0_2 m0_3 m0_4 m0_5 hl0)
 refine ⟨K1 + K2 + K3 + K4 + 1, ?_⟩
 repeat (first | rw [bindE (h1 _ (by omega))] | rw [bindE (h2 _ (by omega))] | rw [bindE (h3 _ (by omega))] | rw [bindE (h4 _ (by omega))] | rw [Option.bind_some] | rw [ab] | rw [cH] | rw [cM] | rw [if_pos rfl] | rw [laws_FnExactArrivedColours.j0])

end Go.Proofs.Ytjkiolpepchpdaa.Pure
