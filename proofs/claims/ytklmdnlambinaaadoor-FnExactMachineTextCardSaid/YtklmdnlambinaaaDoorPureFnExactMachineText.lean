/- For all arguments the program's MachineText answers as the reference's does (the plain law, over the printed functions). Conditions: none. -/
import Derived.Test.YtklmdnlambinaaaDoorG6
set_option linter.unusedVariables false
set_option linter.unusedSimpArgs false
namespace Go.Proofs.YtklmdnlambinaaaDoor.Pure
open Go.RowKit Go.Proofs.YtklmdnlambinaaaDoor.PAll Go.Proofs.YtklmdnlambinaaaDoorW.PrintWords Go.Proofs.YtklmdnlambinaaaDoorW.PrintLast Go.Proofs.YtklmdnlambinaaaDoorW.PrintMore

theorem a7 {x : Int} (h0 : -9223372036854775808 ≤ x) (h1 : x < 9223372036854775808) : wrap64 x = x := by unfold wrap64; omega
theorem a4 {i n : Nat} (h : i < n) (hn : n ≤ 4611686018427387904) : wrap64 ((i : Int) + 1) = ((i + 1 : Nat) : Int) := by unfold wrap64; omega
theorem bW : wrap64 (-1) = -1 := by decide +kernel
theorem bX : wrap64 0 = 0 := by decide +kernel
theorem bb : wrap64 1 = 1 := by decide +kernel
theorem bY : wrap64 2 = 2 := by decide +kernel
structure Hid (p : Prop) : Prop where
 out : p
theorem a9 {α : Type} {g : Nat → Option α} {r : α} (K : Nat) (h : ∀ k, K ≤ k → g (k + 1) = some r) : Ev g r := by
 refine ⟨K + 1, fun k hk => ?_⟩
 obtain ⟨m, rfl⟩ : ∃ m, k = m + 1 := ⟨k - 1, by omega⟩
 exact h m (by omega)
theorem a8 {α : Type} {g f : Nat → Option α} {r : α} (K : Nat) (hf : Ev f r) (h : ∀ k, K ≤ k → g (k + 1) = f k) : Ev g r := by
 obtain ⟨K', hf⟩ := hf
 refine ⟨K + K' + 1, fun k hk => ?_⟩
 obtain ⟨m, rfl⟩ : ∃ m, k = m + 1 := ⟨k - 1, by omega⟩
 rw [h m (by omega)]
 exact hf m (by omega)
theorem a2 {α : Type} {g : Nat → Option α} {r : α} (h : Ev g r) : ∃ K, ∀ k, K ≤ k → g k = some r := h
theorem bN {α : Type} {g : Nat → Option α} {r : α} (h : ∀ k, g k = some r) : Ev g r := ⟨0, fun k _ => h k⟩
theorem aO {α : Type} {g f : Nat → Option α} {r : α} (K : Nat) (hf : Ev f r) (h : ∀ k, K ≤ k → g k = f k) : Ev g r := by
 obtain ⟨K', hf⟩ := hf
 exact ⟨K + K', fun k hk => (h k (by omega)).trans (hf k (by omega))⟩
theorem bindE {α β : Type} {o : Option α} {v : α} {f : α → Option β} (h : o = some v) : o.bind f = f v := by rw [h]; rfl
theorem bG {β : Type} (x : Bool) (a b : β) : (if (x != x) = true then a else b) = b := by simp
theorem bI {β : Type} (x : Int) (a b : β) : (if (x != x) = true then a else b) = b := by simp
theorem a3 {β : Type} (a b : β) : (if true = true then a else b) = a := rfl
theorem aB {α : Type} (l : List α) (z : α) {i : Nat} (h : i < l.length) : l.drop i = l.getD i z :: l.drop (i + 1) := by
 rw [List.drop_eq_getElem_cons h, List.getD_eq_getElem?_getD, List.getElem?_eq_getElem h]; rfl
theorem bJ {α : Type} (l : List α) (v : α) {i : Nat} (h : i < l.length) : (l.set i v).take (i + 1) = l.take i ++ [v] := by
 rw [List.take_succ_eq_append_getElem (by simpa using h)]
 simp [List.take_set_of_le]
theorem bS {α : Type} (l : List α) (i : Nat) (z : α) : l.getD ((i : Int).toNat) z = l.getD i z := by rw [Int.toNat_natCast]

def decL (n : Nat) : List UInt8 := if n < 10 then [UInt8.ofNat (48 + n)] else [UInt8.ofNat (48 + n / 10), UInt8.ofNat (48 + n % 10)]
def decT (n : Int) : ByteArray := ⟨(decL n.toNat).toArray⟩
theorem ai {n : Nat} (h : n < 100) : Lib.decDigits n = decL n := by
 unfold decL
 rw [Lib.decDigits]
 by_cases h1 : n < 10
 ·rw [dif_pos h1, if_pos h1]
 ·rw [dif_neg h1, if_neg h1, Lib.decDigits, dif_pos (show n / 10 < 10 by omega)]
  rfl
theorem ae (n : Int) : (decT n).size ≤ 2 := by
 show (decL n.toNat).toArray.size ≤ 2
 unfold decL
 split <;> simp
theorem bK {n : Int} (h0 : 0 ≤ n) (h1 : n < 100) : strconv_Itoa_28.f n = some (decT n) := by
 unfold strconv_Itoa_28.f decT
 rw [if_pos h0, if_pos h1, ai (by omega)]
theorem bM : ∀ m : Fin 10, strOfNums [(wrap64 (48 + ((m.val : Nat) : Int))) % 256] = (⟨#[UInt8.ofNat (48 + m.val)]⟩ : ByteArray) := by decide +kernel
theorem bL : ∀ m : Fin 100, strOfNums [(wrap64 (48 + (Int.tmod ((m.val : Nat) : Int) 10))) % 256] = (⟨#[UInt8.ofNat (48 + m.val % 10)]⟩ : ByteArray) := by decide +kernel
theorem ag (k : Nat) {n : Nat} (h : n < 10) : spec_l1Num.f (k + 1) (n : Int) = some (⟨#[UInt8.ofNat (48 + n)]⟩ : ByteArray) := by
 simp only [spec_l1Num.f]
 rw [if_pos (by omega), bM ⟨n, h⟩]
theorem bH {n : Int} (h0 : 0 ≤ n) (h1 : n < 100) : Ev (fun k => spec_l1Num.f k n) (decT n) := by
 obtain ⟨m, rfl⟩ : ∃ m : Nat, n = m := ⟨n.toNat, by omega⟩
 refine ⟨2, fun k hk => ?_⟩
 obtain ⟨k, rfl⟩ : ∃ q, k = q + 1 + 1 := ⟨k - 2, by omega⟩
 unfold decT decL
 rw [Int.toNat_natCast]
 by_cases h : m < 10
 ·rw [if_pos h]
  exact ag (k + 1) h
 ·rw [if_neg h]
  have e : wrap64 (Int.tdiv (m : Int) 10) = ((m / 10 : Nat) : Int) := by
   rw [show (10 : Int) = ((10 : Nat) : Int) from rfl, ← Int.ofNat_tdiv]
   exact a7 (by omega) (by omega)
  show spec_l1Num.f (k + 1 + 1) (m : Int) = _
  rw [spec_l1Num.f]
  rw [if_neg (by omega), e, bindE (ag k (show m / 10 < 10 by omega)), Option.bind_some, bL ⟨m, by omega⟩]
  rfl

def joinT : ByteArray → Nat → List Int → ByteArray
 | acc, _, [] => acc
 | acc, i, n :: l => joinT ((if i = 0 then acc else acc ++ (⟨#[32]⟩ : ByteArray)) ++ decT n) (i + 1) l
theorem aF : (⟨#[32]⟩ : ByteArray).size = 1 := rfl
theorem ab : (⟨#[10]⟩ : ByteArray).size = 1 := rfl
theorem aU (T : ByteArray) (hT : T.size ≤ 1000) (y : List Int) (hy : y.length ≤ 10) (hb : ∀ n ∈ y, 0 ≤ n ∧ n < 100) : ∀ (d i : Nat) (acc : ByteArray), y.length - i = d → i ≤ y.length → acc.size ≤ 3 * i →
 Ev (fun k => impl_MachineText.l0 k T acc y (y.length : Int) (i : Int)) ((joinT acc i (y.drop i) ++ (⟨#[10]⟩ : ByteArray)) ++ T, true) := by
 intro d
 induction d with
 | zero =>
  intro i acc hd hi ha
  refine a9 0 fun k _ => ?_
  simp only [impl_MachineText.l0]
  rw [if_neg (by omega), if_pos (by omega), if_pos (by rw [ByteArray.size_append, ab]; omega), List.drop_of_length_le (by omega)]
  rfl
 | succ d ih =>
  intro i acc hd hi ha
  have hlt : i < y.length := by omega
  have hn := hb (y.getD i 0) (by rw [List.getD_eq_getElem?_getD, List.getElem?_eq_getElem hlt]; exact List.getElem_mem hlt)
  have hr : rd y (i : Int) = y.getD i 0 := by rw [rd, Int.toNat_natCast]
  have hi2 := bK hn.1 hn.2
  have hs := ae (y.getD i 0)
  rw [aB y 0 hlt, joinT]
  generalize y.getD i 0 = n at hn hr hi2 hs
  by_cases h0 : i = 0
  ·rw [if_pos h0]
   refine a8 0 (ih (i + 1) (acc ++ decT n) (by omega) (by omega) (by rw [ByteArray.size_append]; omega)) fun k _ => ?_
   simp only [impl_MachineText.l0]
   rw [if_pos (by omega), if_pos (by omega), if_pos (by omega), if_neg (by omega), hr, bindE hi2, if_pos (by omega), a4 hlt (by omega)]
  ·rw [if_neg h0]
   refine a8 0 (ih (i + 1) ((acc ++ (⟨#[32]⟩ : ByteArray)) ++ decT n) (by omega) (by omega) (by rw [ByteArray.size_append, ByteArray.size_append, aF]; omega)) fun k _ => ?_
   simp only [impl_MachineText.l0]
   rw [if_pos (by omega), if_pos (by omega), if_pos (by omega), if_pos (by omega), if_pos (by omega), hr, bindE hi2, if_pos (by rw [ByteArray.size_append, aF]; omega), a4 hlt (by omega)]
theorem aM (T : ByteArray) (hT : T.size ≤ 1000) (r c : Int) (l : List S62) (m1 m2 m3 m4 m5 : Int) (hev : Ev (fun k => spec_boText.f k r c l) T) (y : List Int) (hy : y.length ≤ 10) (hb : ∀ n ∈ y, 0 ≤ n ∧ n < 100) : ∀ (d i : Nat) (acc : ByteArray), y.length - i = d → i ≤ y.length → acc.size ≤ 3 * i →
 Ev (fun k => spec_MachineText.l0 k acc y (y.length : Int) (i : Int) r c l m1 m2 m3 m4 m5) ((joinT acc i (y.drop i) ++ (⟨#[10]⟩ : ByteArray)) ++ T, true) := by
 intro d
 induction d with
 | zero =>
  intro i acc hd hi ha
  obtain ⟨K, hK⟩ := a2 hev
  refine a9 K fun k hk => ?_
  simp only [spec_MachineText.l0]
  rw [if_neg (by omega), if_pos (by omega), bindE (hK k hk), if_pos (by rw [ByteArray.size_append, ab]; omega), List.drop_of_length_le (by omega)]
  rfl
 | succ d ih =>
  intro i acc hd hi ha
  have hlt : i < y.length := by omega
  have hn := hb (y.getD i 0) (by rw [List.getD_eq_getElem?_getD, List.getElem?_eq_getElem hlt]; exact List.getElem_mem hlt)
  have hr : rd y (i : Int) = y.getD i 0 := by rw [rd, Int.toNat_natCast]
  obtain ⟨K, hK⟩ := a2 (bH hn.1 hn.2)
  have hs := ae (y.getD i 0)
  rw [aB y 0 hlt, joinT]
  generalize y.getD i 0 = n at hn hr hK hs
  by_cases h0 : i = 0
  ·rw [if_pos h0]
   refine a8 K (ih (i + 1) (acc ++ decT n) (by omega) (by omega) (by rw [ByteArray.size_append]; omega)) fun k hk => ?_
   simp only [spec_MachineText.l0]
   rw [if_pos (by omega), if_pos (by omega), if_pos (by omega), if_neg (by omega), hr, bindE (hK k hk), if_pos (by omega), a4 hlt (by omega)]
  ·rw [if_neg h0]
   refine a8 K (ih (i + 1) ((acc ++ (⟨#[32]⟩ : ByteArray)) ++ decT n) (by omega) (by omega) (by rw [ByteArray.size_append, ByteArray.size_append, aF]; omega)) fun k hk => ?_
   simp only [spec_MachineText.l0]
   rw [if_pos (by omega), if_pos (by omega), if_pos (by omega), if_pos (by omega), if_pos (by omega), hr, bindE (hK k hk), if_pos (by rw [ByteArray.size_append, aF]; omega), a4 hlt (by omega)]

def goodB (a b : Int) : Bool := decide ((0 ≤ a ∧ a ≤ 7) ∧ (b = 0 ∨ b = 1 ∧ (a = 3 ∨ a = 6)))
theorem aV {a b : Int} (h : goodB a b = true) : (a = 0 ∧ b = 0) ∨ (a = 1 ∧ b = 0) ∨ (a = 2 ∧ b = 0) ∨ (a = 3 ∧ b = 0) ∨ (a = 3 ∧ b = 1) ∨ (a = 4 ∧ b = 0) ∨ (a = 5 ∧ b = 0) ∨ (a = 6 ∧ b = 0) ∨ (a = 6 ∧ b = 1) ∨ (a = 7 ∧ b = 0) := by
 simp only [goodB, decide_eq_true_eq] at h
 obtain ⟨⟨h0, h7⟩, hb⟩ := h
 have ha : a = 0 ∨ a = 1 ∨ a = 2 ∨ a = 3 ∨ a = 4 ∨ a = 5 ∨ a = 6 ∨ a = 7 := by
  clear hb
  omega
 rcases ha with rfl | rfl | rfl | rfl | rfl | rfl | rfl | rfl <;> simp_all

def aC (a b : Int) : ByteArray := if b = 1 then (if a = 3 then ⟨#[70]⟩ else ⟨#[71]⟩) else ⟨#[[46, 108, 114, 102, 120, 111, 103, 99].getD a.toNat 46]⟩
theorem aE (a b : Int) : (aC a b).size = 1 := by
 unfold aC
 split
 ·split <;> rfl
 ·rfl

theorem bV (l : List S62) (i : Nat) : rd_T62 l (i : Int) = l.getD i z62 := by rw [rd_T62, Int.toNat_natCast]
def goodC (x : S62) : Bool := goodB x.f0 x.f1

def a6 (l : List S62) : List UInt8 := l.flatMap fun x => (aC x.f0 x.f1).data.toList
theorem aL : ∀ l : List S62, (a6 l).length = l.length
 | [] => rfl
 | x :: l => by
  have h := aL l
  have h1 : (aC x.f0 x.f1).data.toList.length = 1 := aE x.f0 x.f1
  simp only [a6, List.flatMap_cons, List.length_append, List.length_cons] at h ⊢
  omega
theorem ad {l : List S62} (hl : l.all goodC = true) {i : Nat} (h : i < l.length) : goodC (l.getD i z62) = true := by
 rw [List.getD_eq_getElem?_getD, List.getElem?_eq_getElem h]
 exact List.all_eq_true.1 hl _ (List.getElem_mem h)
theorem aA (a b : List UInt8) : (⟨a.toArray⟩ : ByteArray) ++ (⟨b.toArray⟩ : ByteArray) = ⟨(a ++ b).toArray⟩ := by
 apply ByteArray.ext
 simp
theorem ax (b : List UInt8) : strOfNums (b.map fun x => (x.toNat : Int)) = ⟨b.toArray⟩ := by
 unfold strOfNums
 rw [List.map_map]
 congr 2
 induction b with
 | nil => rfl
 | cons x l ih => simp [ih]

def sizeB (r c : Int) (n : Nat) : Bool := decide ((1 ≤ r ∧ r ≤ 10) ∧ (1 ≤ c ∧ c ≤ 9) ∧ (n : Int) = r * c)
def a1 (r c : Int) (l : List S62) : Bool := sizeB r c l.length && l.all goodC
theorem aQ {r c : Int} (h1 : 1 ≤ r) (h2 : r ≤ 10) (h3 : 1 ≤ c) (h4 : c ≤ 9) : 1 ≤ r * c ∧ r * c ≤ 90 := by
 have hr : r = 1 ∨ r = 2 ∨ r = 3 ∨ r = 4 ∨ r = 5 ∨ r = 6 ∨ r = 7 ∨ r = 8 ∨ r = 9 ∨ r = 10 := by omega
 rcases hr with rfl | rfl | rfl | rfl | rfl | rfl | rfl | rfl | rfl | rfl <;> omega
structure Brd (r c : Int) (l : List S62) : Prop where
 r1 : 1 ≤ r
 r2 : r ≤ 10
 c1 : 1 ≤ c
 c2 : c ≤ 9
 len : (l.length : Int) = r * c
 all : l.all goodC = true
 le : l.length ≤ 90
 pos : 1 ≤ l.length
theorem aS {r c : Int} {l : List S62} (h : a1 r c l = true) : Brd r c l := by
 simp only [a1, sizeB, Bool.and_eq_true, decide_eq_true_eq] at h
 obtain ⟨⟨⟨h1, h2⟩, ⟨h3, h4⟩, h5⟩, h6⟩ := h
 have := aQ h1 h2 h3 h4
 exact ⟨h1, h2, h3, h4, h5, h6, by omega, by omega⟩
theorem bZ {r c : Int} {l : List S62} (h : Brd r c l) : a1 r c l = true := by
 simp only [a1, sizeB, Bool.and_eq_true, decide_eq_true_eq]
 exact ⟨⟨⟨h.r1, h.r2⟩, ⟨h.c1, h.c2⟩, h.len⟩, h.all⟩
theorem bP {r c i j : Int} (h0 : 0 ≤ i) (h1 : i < r) (h2 : 0 ≤ j) (h3 : j < c) : 0 ≤ i * c + j ∧ i * c + j < r * c := by
 have a : 0 ≤ i * c := Int.mul_nonneg h0 (by omega)
 have b : (i + 1) * c ≤ r * c := Int.mul_le_mul_of_nonneg_right (by omega) (by omega)
 rw [Int.add_mul, Int.one_mul] at b
 omega

theorem bQ {i j C : Nat} (h : i * C + j ≤ 1000000) : wrap64 (wrap64 ((i : Int) * (C : Int)) + (j : Int)) = ((i * C + j : Nat) : Int) := by
 rw [show (i : Int) * (C : Int) = ((i * C : Nat) : Int) by simp]
 generalize i * C = n at h ⊢
 rw [a7 (x := (n : Int)) (by omega) (by omega), a7 (x := (n : Int) + (j : Int)) (by omega) (by omega)]
 omega
theorem bR {i j C : Nat} (hj : j < C) (h : i * C + C ≤ 1000000) : wrap64 (wrap64 (wrap64 (wrap64 ((i : Int) * (C : Int)) + (C : Int)) - 1) - (j : Int)) = ((i * C + (C - 1 - j) : Nat) : Int) := by
 rw [show (i : Int) * (C : Int) = ((i * C : Nat) : Int) by simp]
 generalize i * C = n at h ⊢
 rw [a7 (x := (n : Int)) (by omega) (by omega), a7 (x := (n : Int) + (C : Int)) (by omega) (by omega), a7 (x := (n : Int) + (C : Int) - 1) (by omega) (by omega), a7 (x := (n : Int) + (C : Int) - 1 - (j : Int)) (by omega) (by omega)]
 omega
theorem ba {R C i j : Nat} (hi : i < R) (hj : j < C) : i * C + j < R * C := by
 have h : (i + 1) * C ≤ R * C := Nat.mul_le_mul_right C hi
 rw [Nat.succ_mul] at h
 omega
theorem bT {C i j : Nat} (hj : j < C) : (i * C + j) / C = i := by
 rw [Nat.add_comm, Nat.mul_comm, Nat.add_mul_div_left _ _ (by omega), Nat.div_eq_of_lt hj, Nat.zero_add]
theorem bU {C i j : Nat} (hj : j < C) : (i * C + j) % C = j := by
 rw [Nat.add_comm, Nat.mul_comm, Nat.add_mul_mod_self_left, Nat.mod_eq_of_lt hj]
theorem ao {r c : Int} {l : List S62} (b : Brd r c l) : ∃ R C : Nat, r = R ∧ c = C ∧ l.length = R * C ∧ 1 ≤ R ∧ R ≤ 10 ∧ 1 ≤ C ∧ C ≤ 9 := by
 have h1 := b.r1; have h2 := b.r2; have h3 := b.c1; have h4 := b.c2; have h5 := b.len
 obtain ⟨R, rfl⟩ : ∃ R : Nat, r = R := ⟨r.toNat, by omega⟩
 obtain ⟨C, rfl⟩ : ∃ C : Nat, c = C := ⟨c.toNat, by omega⟩
 refine ⟨R, C, rfl, rfl, ?_, by omega, by omega, by omega, by omega⟩
 have : ((l.length : Nat) : Int) = ((R * C : Nat) : Int) := by rw [h5]; simp
 exact Int.ofNat.inj this

def rowL (l : List S62) (C i : Nat) : List S62 := (l.take ((i + 1) * C)).drop (i * C)
def a5 (l : List S62) (C : Nat) : Nat → Nat → List UInt8
 | 0, _ => []
 | d + 1, i => (a6 (rowL l C i) ++ [10]) ++ a5 l C d (i + 1)
theorem aP {R C i : Nat} {l : List S62} (hlen : l.length = R * C) (hi : i < R) (hR : R ≤ 10) (hC : C ≤ 9) :
 wrap64 ((i : Int) * (C : Int)) = ((i * C : Nat) : Int) ∧ wrap64 ((wrap64 ((i : Int) + 1)) * (C : Int)) = (((i + 1) * C : Nat) : Int) ∧ i * C ≤ (i + 1) * C ∧ (i + 1) * C ≤ l.length ∧ (rowL l C i).length = C := by
 have h1 : (i + 1) * C ≤ R * C := Nat.mul_le_mul_right C hi
 have h2 : R * C ≤ 10 * 9 := Nat.mul_le_mul hR hC
 have h3 : (i + 1) * C = i * C + C := Nat.succ_mul i C
 rw [a4 (n := 1000) (i := i) (by omega) (by omega), show (i : Int) * (C : Int) = ((i * C : Nat) : Int) by simp, show ((i + 1 : Nat) : Int) * (C : Int) = (((i + 1) * C : Nat) : Int) by simp]
 have hl : (rowL l C i).length = (i + 1) * C - i * C := by
  unfold rowL
  rw [List.length_drop, List.length_take, Nat.min_eq_left (by omega)]
 generalize (i + 1) * C = n at *
 generalize i * C = m at *
 rw [a7 (x := (m : Int)) (by omega) (by omega), a7 (x := (n : Int)) (by omega) (by omega)]
 exact ⟨rfl, rfl, by omega, by omega, by omega⟩
theorem aa {l : List S62} (hl : l.all goodC = true) (C i : Nat) : (rowL l C i).all goodC = true := by
 rw [List.all_eq_true] at hl ⊢
 exact fun x hx => hl x (List.mem_of_mem_take (List.mem_of_mem_drop hx))
theorem aD {R C i : Nat} {l : List S62} (hlen : l.length = R * C) (hi : i < R) (hR : R ≤ 10) (hC : C ≤ 9) : (a6 (rowL l C i)).length = C := by
 rw [aL]; exact (aP hlen hi hR hC).2.2.2.2

theorem af (a b : Int) : impl_IsCell.f a b = some (goodB a b) := by
 unfold impl_IsCell.f goodB
 by_cases h0 : a < 0
 ·rw [if_pos h0]; simp; omega
 rw [if_neg h0]
 by_cases h1 : a > 7
 ·rw [if_pos h1]; simp; omega
 rw [if_neg h1]
 by_cases h2 : b < 0
 ·rw [if_pos h2]; simp; omega
 rw [if_neg h2]
 by_cases h3 : b > 1
 ·rw [if_pos h3]; simp; omega
 rw [if_neg h3]
 by_cases h4 : b = 0
 ·rw [if_pos h4]; simp; omega
 rw [if_neg h4]
 by_cases h5 : a = 3
 ·rw [if_pos h5]; simp; omega
 rw [if_neg h5]
 by_cases h6 : a = 6
 ·simp [h6]; omega
 ·simp [h5, h6, h4]

theorem aY (a b : Int) : impl_CellLetter.f a b = some (if goodB a b = true then (aC a b, true) else (⟨#[]⟩, false)) := by
 unfold impl_CellLetter.f
 rw [af, Option.bind_some]
 by_cases h : goodB a b = true
 ·rw [if_pos h, if_pos h]
  rcases aV h with ⟨rfl, rfl⟩ | ⟨rfl, rfl⟩ | ⟨rfl, rfl⟩ | ⟨rfl, rfl⟩ | ⟨rfl, rfl⟩ | ⟨rfl, rfl⟩ | ⟨rfl, rfl⟩ | ⟨rfl, rfl⟩ | ⟨rfl, rfl⟩ | ⟨rfl, rfl⟩ <;> decide +kernel
 ·rw [if_neg h, if_neg h]

theorem aX (x : S62) : impl_IsCell.f x.f0 x.f1 = some (goodC x) := af _ _
theorem aZ (a : List S62) (hn : a.length ≤ 1048576) : ∀ (d i : Nat), a.length - i = d → i ≤ a.length →
 Ev (fun k => impl_validCells.l0 k a (a.length : Int) (i : Int)) ((a.drop i).all goodC) := by
 intro d
 induction d with
 | zero =>
  intro i hd hi
  refine a9 0 fun k _ => ?_
  simp only [impl_validCells.l0]
  rw [if_neg (by omega), List.drop_of_length_le (by omega)]
  simp
 | succ d ih =>
  intro i hd hi
  have hlt : i < a.length := by omega
  have h := ih (i + 1) (by omega) (by omega)
  rw [aB a z62 hlt, List.all_cons]
  by_cases hg : goodC (a.getD i z62) = true
  ·rw [hg, Bool.true_and]
   refine a8 0 h fun k _ => ?_
   simp only [impl_validCells.l0, rd_T62, Int.toNat_natCast, aX, Option.bind_some]
   rw [if_pos (by omega), if_pos (by omega), if_pos (by omega), if_pos hg, a4 hlt (by omega)]
  ·rw [Bool.eq_false_iff.2 hg, Bool.false_and]
   refine a9 0 fun k _ => ?_
   simp only [impl_validCells.l0, rd_T62, Int.toNat_natCast, aX, Option.bind_some]
   rw [if_pos (by omega), if_pos (by omega), if_pos (by omega), if_neg hg]
theorem aJ (a : List S62) (hn : a.length ≤ 1048576) : Ev (fun k => impl_validCells.f k a) (a.all goodC && decide (a.length ≤ 90)) := by
 by_cases h : a.length ≤ 90
 ·rw [decide_eq_true h, Bool.and_true]
  refine aO 0 (aZ a hn a.length 0 (by omega) (by omega)) fun k _ => ?_
  simp only [impl_validCells.f]
  rw [if_neg (by omega)]
  rfl
 ·rw [decide_eq_false h, Bool.and_false]
  refine bN fun k => ?_
  simp only [impl_validCells.f]
  rw [if_pos (by omega)]

theorem au (l : List S62) (hl : l.all goodC = true) (hn : l.length ≤ 1048576) : ∀ (d i : Nat) (b : List UInt8), l.length - i = d → i ≤ l.length → b.length ≤ 1048576 + i →
 Ev (fun k => impl_CellsText.l0 k (b.map fun x => (x.toNat : Int)) l (l.length : Int) (i : Int)) (⟨(b ++ a6 (l.drop i)).toArray⟩, true) := by
 intro d
 induction d with
 | zero =>
  intro i b hd hi hb
  refine a9 0 fun k _ => ?_
  simp only [impl_CellsText.l0]
  rw [if_neg (by omega), List.drop_of_length_le (by omega), ax]
  simp [a6]
 | succ d ih =>
  intro i b hd hi hb
  have hlt : i < l.length := by omega
  have hg := ad hl hlt
  have hp := aY (l.getD i z62).f0 (l.getD i z62).f1
  rw [if_pos (show goodB (l.getD i z62).f0 (l.getD i z62).f1 = true from hg)] at hp
  have hs := aE (l.getD i z62).f0 (l.getD i z62).f1
  rw [aB l z62 hlt, a6, List.flatMap_cons, ← List.append_assoc]
  generalize aC (l.getD i z62).f0 (l.getD i z62).f1 = q at hp hs ⊢
  refine a8 0 (ih (i + 1) (b ++ q.data.toList) (by omega) (by omega) ?_) fun k _ => ?_
  ·have : q.data.toList.length = 1 := hs
   rw [List.length_append]
   omega
  ·simp only [impl_CellsText.l0, rd_T62, Int.toNat_natCast, hp, Option.bind_some]
   rw [if_pos (by omega), if_pos (by omega), if_pos (by omega), if_pos (by rw [hs, List.length_map]; omega), a4 hlt (by omega), List.map_append]
   rfl
theorem an (l : List S62) (hn : l.length ≤ 1048576) : Ev (fun k => impl_CellsText.f k l) (if (l.all goodC && decide (l.length ≤ 90)) = true then (⟨(a6 l).toArray⟩, true) else (⟨#[]⟩, false)) := by
 obtain ⟨K, hK⟩ := a2 (aJ l hn)
 by_cases h : (l.all goodC && decide (l.length ≤ 90)) = true
 ·rw [if_pos h]
  refine aO K (au l (by simp only [Bool.and_eq_true] at h; exact h.1) hn l.length 0 [] (by omega) (by omega) (by simp)) fun k hk => ?_
  simp only [impl_CellsText.f]
  rw [hK k hk, Option.bind_some, if_pos h]
  rfl
 ·rw [if_neg h]
  refine ⟨K, fun k hk => ?_⟩
  simp only [impl_CellsText.f]
  rw [hK k hk, Option.bind_some, if_neg h]

theorem aW (r c : Int) (l : List S62) (hn : l.length ≤ 1048576) : Ev (fun k => impl_IsBoard.f k r c l) (a1 r c l) := by
 obtain ⟨K, hK⟩ := a2 (aJ l hn)
 refine ⟨K, fun k hk => ?_⟩
 simp only [impl_IsBoard.f]
 by_cases h1 : r ≥ 1
 ·rw [if_pos h1]
  by_cases h2 : r ≤ 10
  ·rw [if_pos h2]
   by_cases h3 : c ≥ 1
   ·rw [if_pos h3]
    by_cases h4 : c ≤ 9
    ·have hm := aQ h1 h2 h3 h4
     rw [if_pos h4, a7 (by omega) (by omega)]
     by_cases h5 : (l.length : Int) = r * c
     ·rw [if_pos h5, bindE (hK k hk)]
      have h6 : l.length ≤ 90 := by omega
      have h7 : 1 ≤ r := h1
      have h8 : 1 ≤ c := h3
      simp [a1, sizeB, h7, h2, h8, h4, h5, h6]
     ·rw [if_neg h5]
      simp [a1, sizeB, h5]
    ·rw [if_neg h4]
     simp [a1, sizeB, h4]
   ·rw [if_neg h3]
    have h3' : ¬ 1 ≤ c := h3
    simp [a1, sizeB, h3']
  ·rw [if_neg h2]
   simp [a1, sizeB, h2]
 ·rw [if_neg h1]
  have h1' : ¬ 1 ≤ r := h1
  simp [a1, sizeB, h1']

def btRes (r c : Int) (l : List S62) : ByteArray × Bool := if a1 r c l = true then (⟨(a5 l c.toNat r.toNat 0).toArray⟩, true) else (⟨#[]⟩, false)
theorem ak {R C : Nat} (l : List S62) (hlen : l.length = R * C) (hR : R ≤ 10) (hC : C ≤ 9) (hl : l.all goodC = true) (h90 : l.length ≤ 90) : ∀ (d i : Nat) (b : List UInt8), R - i = d → i ≤ R → b.length ≤ 10 * i →
 Ev (fun k => impl_BoardText.l0 k ⟨b.toArray⟩ (i : Int) (R : Int) (C : Int) l) (⟨(b ++ a5 l C d i).toArray⟩, true) := by
 intro d
 induction d with
 | zero =>
  intro i b hd hi hb
  refine a9 0 fun k _ => ?_
  simp only [impl_BoardText.l0]
  rw [if_neg (by omega)]
  simp [a5]
 | succ d ih =>
  intro i b hd hi hb
  have hlt : i < R := by omega
  obtain ⟨e1, e2, h1, h2, h3⟩ := aP hlen hlt hR hC
  have ht := aD hlen hlt hR hC
  have hce := an (rowL l C i) (by omega)
  rw [if_pos (by rw [aa hl C i, decide_eq_true (by omega)]; rfl)] at hce
  obtain ⟨K, hK⟩ := a2 hce
  have h := ih (i + 1) (b ++ (a6 (rowL l C i) ++ [10])) (by omega) (by omega) (by rw [List.length_append, List.length_append, List.length_singleton]; omega)
  rw [List.append_assoc] at h
  refine a8 K h fun k hk => ?_
  simp only [impl_BoardText.l0]
  rw [e1, e2, if_pos (by omega), if_pos (by omega), if_pos (by omega), if_pos (by omega), Int.toNat_natCast, Int.toNat_natCast, bindE (show impl_CellsText.f k (List.drop (i * C) (List.take ((i + 1) * C) l)) = _ from hK k hk)]
  rw [if_pos (by show (a6 (rowL l C i)).length + 1 ≤ _; omega), show (⟨#[10]⟩ : ByteArray) = ⟨[(10 : UInt8)].toArray⟩ from rfl, aA, if_pos (by show b.length + (a6 (rowL l C i) ++ [10]).length ≤ _; rw [List.length_append, List.length_singleton]; omega), aA, a4 hlt (by omega)]
theorem ar (r c : Int) (l : List S62) (hn : l.length ≤ 1048576) : Ev (fun k => impl_BoardText.f k r c l) (btRes r c l) := by
 obtain ⟨K, hK⟩ := a2 (aW r c l hn)
 unfold btRes
 by_cases hg : a1 r c l = true
 ·have b := aS hg
  obtain ⟨R, C, rfl, rfl, hlen, hR1, hR, hC1, hC⟩ := ao b
  rw [if_pos hg, Int.toNat_natCast, Int.toNat_natCast]
  refine aO K (ak l hlen hR hC b.all b.le R 0 [] (by omega) (by omega) (by simp)) fun k hk => ?_
  simp only [impl_BoardText.f]
  rw [bindE (hK k hk), if_pos hg]
  try rfl
 ·rw [if_neg hg]
  refine ⟨K, fun k hk => ?_⟩
  simp only [impl_BoardText.f]
  rw [bindE (hK k hk), if_neg hg]

theorem av (a b : Int) (h : goodB a b = true) : spec_paLetter.f a b = some (aC a b) := by
 rcases aV h with ⟨rfl, rfl⟩ | ⟨rfl, rfl⟩ | ⟨rfl, rfl⟩ | ⟨rfl, rfl⟩ | ⟨rfl, rfl⟩ | ⟨rfl, rfl⟩ | ⟨rfl, rfl⟩ | ⟨rfl, rfl⟩ | ⟨rfl, rfl⟩ | ⟨rfl, rfl⟩ <;> decide +kernel

theorem bB (l : List S62) (hl : l.all goodC = true) (hn : l.length ≤ 1048576) : ∀ (d i : Nat) (b : List UInt8), l.length - i = d → i ≤ l.length → b.length ≤ 1048576 + i →
 Ev (fun k => spec_paText.l0 k ⟨b.toArray⟩ l (l.length : Int) (i : Int)) ⟨(b ++ a6 (l.drop i)).toArray⟩ := by
 intro d
 induction d with
 | zero =>
  intro i b hd hi hb
  refine a9 0 fun k _ => ?_
  simp only [spec_paText.l0]
  rw [if_neg (by omega), List.drop_of_length_le (by omega)]
  simp [a6]
 | succ d ih =>
  intro i b hd hi hb
  have hlt : i < l.length := by omega
  have hp := av _ _ (ad hl hlt)
  have hs := aE (l.getD i z62).f0 (l.getD i z62).f1
  rw [aB l z62 hlt, a6, List.flatMap_cons, ← List.append_assoc]
  generalize hq : aC (l.getD i z62).f0 (l.getD i z62).f1 = q at hp hs ⊢
  have hq2 : q = ⟨q.data.toList.toArray⟩ := by simp
  refine a8 0 (ih (i + 1) (b ++ q.data.toList) (by omega) (by omega) ?_) fun k _ => ?_
  ·have : q.data.toList.length = 1 := hs
   rw [List.length_append]
   omega
  ·simp only [spec_paText.l0, rd_T62, Int.toNat_natCast, hp, Option.bind_some]
   rw [if_pos (by omega), if_pos (by omega), if_pos (by omega), if_pos (by rw [hs]; show b.length + 1 ≤ _; omega), a4 hlt (by omega), ← aA]
theorem bF (l : List S62) (hl : l.all goodC = true) (hn : l.length ≤ 1048576) : Ev (fun k => spec_paText.f k l) ⟨(a6 l).toArray⟩ := by
 have h := bB l hl hn l.length 0 [] (by omega) (by omega) (by simp)
 exact h

theorem b9 {R C : Nat} (l : List S62) (hlen : l.length = R * C) (hR : R ≤ 10) (hC : C ≤ 9) (hl : l.all goodC = true) (h90 : l.length ≤ 90) : ∀ (d i : Nat) (b : List UInt8), R - i = d → i ≤ R → b.length ≤ 10 * i →
 Ev (fun k => spec_boText.l0 k ⟨b.toArray⟩ (i : Int) (R : Int) (C : Int) l) ⟨(b ++ a5 l C d i).toArray⟩ := by
 intro d
 induction d with
 | zero =>
  intro i b hd hi hb
  refine a9 0 fun k _ => ?_
  simp only [spec_boText.l0]
  rw [if_neg (by omega)]
  simp [a5]
 | succ d ih =>
  intro i b hd hi hb
  have hlt : i < R := by omega
  obtain ⟨e1, e2, h1, h2, h3⟩ := aP hlen hlt hR hC
  have ht := aD hlen hlt hR hC
  obtain ⟨K, hK⟩ := a2 (bF (rowL l C i) (aa hl C i) (by omega))
  have h := ih (i + 1) (b ++ (a6 (rowL l C i) ++ [10])) (by omega) (by omega) (by rw [List.length_append, List.length_append, List.length_singleton]; omega)
  rw [List.append_assoc] at h
  refine a8 K h fun k hk => ?_
  simp only [spec_boText.l0]
  rw [e1, e2, if_pos (by omega), if_pos (by omega), if_pos (by omega), if_pos (by omega), Int.toNat_natCast, Int.toNat_natCast, bindE (show spec_paText.f k (List.drop (i * C) (List.take ((i + 1) * C) l)) = _ from hK k hk)]
  rw [if_pos (by show (a6 (rowL l C i)).length + 1 ≤ _; omega), show (⟨#[10]⟩ : ByteArray) = ⟨[(10 : UInt8)].toArray⟩ from rfl, aA, if_pos (by show b.length + (a6 (rowL l C i) ++ [10]).length ≤ _; rw [List.length_append, List.length_singleton]; omega), aA, a4 hlt (by omega)]

def colB (r c : Int) (l : List S62) (j : Int) : Bool := a1 r c l && decide (0 ≤ j ∧ j < c)

theorem aK (r c : Int) (l : List S62) (j : Int) (hn : l.length ≤ 1048576) : Ev (fun k => impl_validEntry.f k r c l j) (colB r c l j) := by
 obtain ⟨K, hK⟩ := a2 (aW r c l hn)
 refine ⟨K, fun k hk => ?_⟩
 simp only [impl_validEntry.f]
 rw [bindE (hK k hk)]
 unfold colB
 by_cases hg : a1 r c l = true
 ·rw [hg, a3, Bool.true_and]
  by_cases h : j ≥ 0
  ·rw [if_pos h]
   simp [show (0 : Int) ≤ j from h]
  ·rw [if_neg h]
   simp [show ¬ (0 : Int) ≤ j from h]
 ·rw [Bool.eq_false_iff.2 hg]
  rfl

def machB (r c : Int) (l : List S62) (m1 m2 m3 m4 m5 : Int) : Bool := colB r c l m1 && (colB r c l m2 && decide ((0 ≤ m3 ∧ m3 ≤ 30) ∧ (0 ≤ m4 ∧ m4 ≤ 30) ∧ 0 ≤ m5 ∧ m5 ≤ 2))
theorem al (r c : Int) (l : List S62) (m1 m2 m3 m4 m5 : Int) (hn : l.length ≤ 1048576) : Ev (fun k => impl_IsMachine.f k r c l m1 m2 m3 m4 m5) (machB r c l m1 m2 m3 m4 m5) := by
 obtain ⟨K, hK⟩ := a2 (aK r c l m1 hn)
 obtain ⟨K2, hK2⟩ := a2 (aK r c l m2 hn)
 refine ⟨K + K2, fun k hk => ?_⟩
 simp only [impl_IsMachine.f]
 rw [bindE (hK k (by omega))]
 unfold machB
 cases colB r c l m1
 ·rfl
 rw [a3, bindE (hK2 k (by omega)), Bool.true_and]
 cases colB r c l m2
 ·rfl
 rw [a3, Bool.true_and]
 by_cases h1 : m3 ≥ 0
 case neg => rw [if_neg h1, decide_eq_false (by omega)]
 rw [if_pos h1]
 by_cases h2 : m3 ≤ 30
 case neg => rw [if_neg h2, decide_eq_false (by omega)]
 rw [if_pos h2]
 by_cases h3 : m4 ≥ 0
 case neg => rw [if_neg h3, decide_eq_false (by omega)]
 rw [if_pos h3]
 by_cases h4 : m4 ≤ 30
 case neg => rw [if_neg h4, decide_eq_false (by omega)]
 rw [if_pos h4]
 by_cases h5 : m5 ≥ 0
 case neg => rw [if_neg h5, decide_eq_false (by omega)]
 rw [if_pos h5]
 congr 1
 apply decide_eq_decide.2
 omega

theorem bO {r c : Int} {l : List S62} {m1 m2 m3 m4 m5 : Int} (h : machB r c l m1 m2 m3 m4 m5 = true) : (0 ≤ m3 ∧ m3 ≤ 30) ∧ (0 ≤ m4 ∧ m4 ≤ 30) ∧ 0 ≤ m5 ∧ m5 ≤ 2 := by
 simp only [machB, Bool.and_eq_true, decide_eq_true_eq] at h
 exact h.2.2

theorem aI (a lo hi : Int) : spec_l1In.f a lo hi = some (decide (lo ≤ a ∧ a ≤ hi)) := by
 unfold spec_l1In.f
 by_cases h : a ≥ lo
 ·rw [if_pos h]
  simp [show lo ≤ a from h]
 ·rw [if_neg h]
  simp [show ¬ lo ≤ a from h]

def turnB (a : Int) : Bool := decide (a = 3 ∨ a = 6)
theorem ap (a b : Int) : spec_paTurning.f a b = some (turnB a) := by
 unfold spec_paTurning.f turnB
 by_cases h : a = 3
 ·simp [h]
 ·rw [if_neg h]
  by_cases h6 : a = 6 <;> simp [h, h6]

theorem bE (a b : Int) : spec_paGood.f a b = some (goodB a b) := by
 unfold spec_paGood.f
 rw [aI, Option.bind_some]
 by_cases h : 0 ≤ a ∧ a ≤ 7
 ·rw [decide_eq_true h, if_pos rfl]
  by_cases h0 : b = 0
  ·rw [if_pos h0]
   simp [goodB, h, h0]
  ·rw [if_neg h0]
   by_cases h1 : b = 1
   ·rw [if_pos h1, ap, Option.bind_some]
    simp [goodB, turnB, h, h1]
   ·rw [if_neg h1]
    simp [goodB, h0, h1]
 ·rw [decide_eq_false h, if_neg (by simp)]
  simp [goodB, h]

theorem aT (x : S62) : spec_paGood.f x.f0 x.f1 = some (goodC x) := bE _ _
theorem bD (a : List S62) (hn : a.length ≤ 1048576) : ∀ (d i : Nat), a.length - i = d → i ≤ a.length →
 Ev (fun k => spec_boGood.l0 k a (a.length : Int) (i : Int)) ((a.drop i).all goodC) := by
 intro d
 induction d with
 | zero =>
  intro i hd hi
  refine a9 0 fun k _ => ?_
  simp only [spec_boGood.l0]
  rw [if_neg (by omega), List.drop_of_length_le (by omega)]
  simp
 | succ d ih =>
  intro i hd hi
  have hlt : i < a.length := by omega
  have h := ih (i + 1) (by omega) (by omega)
  rw [aB a z62 hlt, List.all_cons]
  by_cases hg : goodC (a.getD i z62) = true
  ·rw [hg, Bool.true_and]
   refine a8 0 h fun k _ => ?_
   simp only [spec_boGood.l0, rd_T62, Int.toNat_natCast, aT, Option.bind_some]
   rw [if_pos (by omega), if_pos (by omega), if_pos (by omega), if_pos hg, a4 hlt (by omega)]
  ·rw [Bool.eq_false_iff.2 hg, Bool.false_and]
   refine a9 0 fun k _ => ?_
   simp only [spec_boGood.l0, rd_T62, Int.toNat_natCast, aT, Option.bind_some]
   rw [if_pos (by omega), if_pos (by omega), if_pos (by omega), if_neg hg]
theorem bC (r c : Int) (l : List S62) (hn : l.length ≤ 1048576) : Ev (fun k => spec_boGood.f k r c l) (a1 r c l) := by
 obtain ⟨K, hK⟩ := a2 (bD l hn l.length 0 (by omega) (by omega))
 refine ⟨K + 1, fun k hk => ?_⟩
 obtain ⟨k, rfl⟩ : ∃ m, k = m + 1 := ⟨k - 1, by omega⟩
 have hK' := hK k (by omega)
 simp only [spec_boGood.f, aI, Option.bind_some, spec_boGood.j0, a3]
 by_cases h1 : 1 ≤ r ∧ r ≤ 10
 ·rw [decide_eq_true h1, a3]
  by_cases h2 : 1 ≤ c ∧ c ≤ 9
  ·rw [decide_eq_true h2, a3]
   have hm := aQ h1.1 h1.2 h2.1 h2.2
   rw [a7 (by omega) (by omega)]
   by_cases h5 : (l.length : Int) = r * c
   ·have h6 : ((l.length : Int) != r * c) = false := by simp [h5]
    rw [h6, if_neg (by simp)]
    refine hK'.trans ?_
    simp [a1, sizeB, h1, h2, h5]
   ·have h6 : ((l.length : Int) != r * c) = true := by simp [h5]
    rw [h6, a3]
    simp [a1, sizeB, h5]
  ·rw [decide_eq_false h2, if_neg (by simp)]
   simp [a1, sizeB, h2]
 ·rw [decide_eq_false h1, if_neg (by simp)]
  simp [a1, sizeB, h1]

theorem aw (r c : Int) (l : List S62) (j : Int) (hn : l.length ≤ 1048576) : Ev (fun k => spec_flHas.f k r c l j) (colB r c l j) := by
 obtain ⟨K, hK⟩ := a2 (bC r c l hn)
 refine ⟨K, fun k hk => ?_⟩
 simp only [spec_flHas.f]
 rw [bindE (hK k hk)]
 unfold colB
 by_cases hg : a1 r c l = true
 ·have b := aS hg
  have b1 := b.c1; have b2 := b.c2
  rw [hg, a3, Bool.true_and, a7 (x := c - 1) (by omega) (by omega), aI, show decide (0 ≤ j ∧ j ≤ c - 1) = decide (0 ≤ j ∧ j < c) from decide_eq_decide.2 (by omega)]
  try rfl
 ·rw [Bool.eq_false_iff.2 hg]
  rfl

theorem bA (r c : Int) (l : List S62) (m1 m2 m3 m4 m5 : Int) (hn : l.length ≤ 1048576) : Ev (fun k => spec_maGood.f k r c l m1 m2 m3 m4 m5) (machB r c l m1 m2 m3 m4 m5) := by
 obtain ⟨K, hK⟩ := a2 (aw r c l m1 hn)
 obtain ⟨K2, hK2⟩ := a2 (aw r c l m2 hn)
 refine ⟨K + K2, fun k hk => ?_⟩
 simp only [spec_maGood.f]
 rw [bindE (hK k (by omega))]
 unfold machB
 cases colB r c l m1
 ·rfl
 rw [a3, bindE (hK2 k (by omega)), Bool.true_and]
 cases colB r c l m2
 ·rfl
 rw [a3, Bool.true_and, aI, aI, aI, Option.bind_some]
 by_cases h1 : 0 ≤ m3 ∧ m3 ≤ 30
 case neg => rw [decide_eq_false h1, decide_eq_false (show ¬ ((0 ≤ m3 ∧ m3 ≤ 30) ∧ (0 ≤ m4 ∧ m4 ≤ 30) ∧ 0 ≤ m5 ∧ m5 ≤ 2) from fun h => h1 h.1)]; rfl
 rw [decide_eq_true h1, a3, Option.bind_some]
 by_cases h2 : 0 ≤ m4 ∧ m4 ≤ 30
 case neg => rw [decide_eq_false h2, decide_eq_false (show ¬ ((0 ≤ m3 ∧ m3 ≤ 30) ∧ (0 ≤ m4 ∧ m4 ≤ 30) ∧ 0 ≤ m5 ∧ m5 ≤ 2) from fun h => h2 h.2.1)]; rfl
 rw [decide_eq_true h2, a3, Option.bind_some]
 congr 1
 apply decide_eq_decide.2
 omega

theorem aG {R C : Nat} {l : List S62} (hlen : l.length = R * C) (hR : R ≤ 10) (hC : C ≤ 9) : ∀ d i, i + d = R → (a5 l C d i).length ≤ 10 * d
 | 0, _, _ => by simp [a5]
 | d + 1, i, h => by
  have ht := aD hlen (show i < R by omega) hR hC
  have hr := aG hlen hR hC d (i + 1) (by omega)
  rw [a5, List.length_append, List.length_append, List.length_singleton]
  omega
def aH (r c : Int) (l : List S62) (m1 m2 m3 m4 m5 : Int) : ByteArray × Bool := if machB r c l m1 m2 m3 m4 m5 = true then ((joinT ⟨#[]⟩ 0 [m1, m2, m3, m4, m5] ++ (⟨#[10]⟩ : ByteArray)) ++ ⟨(a5 l c.toNat r.toNat 0).toArray⟩, true) else (⟨#[]⟩, false)
theorem ac {r c : Int} {l : List S62} {m1 m2 m3 m4 m5 : Int} (h : machB r c l m1 m2 m3 m4 m5 = true) : a1 r c l = true ∧ ∀ n ∈ [m1, m2, m3, m4, m5], 0 ≤ n ∧ n < 100 := by
 simp only [machB, colB, Bool.and_eq_true, decide_eq_true_eq] at h
 have b := aS h.1.1
 have e := b.c2
 refine ⟨h.1.1, fun n hn => ?_⟩
 simp only [List.mem_cons, List.not_mem_nil, or_false] at hn
 omega
theorem ah {r c : Int} {l : List S62} (h : a1 r c l = true) : (⟨(a5 l c.toNat r.toNat 0).toArray⟩ : ByteArray).size ≤ 1000 := by
 obtain ⟨R, C, rfl, rfl, hlen, hR1, hR, hC1, hC⟩ := ao (aS h)
 have := aG hlen hR hC R 0 (by omega)
 show (a5 l (C : Int).toNat (R : Int).toNat 0).toArray.size ≤ 1000
 rw [Int.toNat_natCast, Int.toNat_natCast, List.size_toArray]
 omega
theorem aR (r c : Int) (l : List S62) (m1 m2 m3 m4 m5 : Int) (hn : l.length ≤ 1048576) : Ev (fun k => impl_MachineText.f k r c l m1 m2 m3 m4 m5) (aH r c l m1 m2 m3 m4 m5) := by
 obtain ⟨K, hK⟩ := a2 (al r c l m1 m2 m3 m4 m5 hn)
 unfold aH
 by_cases h : machB r c l m1 m2 m3 m4 m5 = true
 ·obtain ⟨hg, hb⟩ := ac h
  have hB := ar r c l hn
  rw [btRes, if_pos hg] at hB
  obtain ⟨K2, hK2⟩ := a2 hB
  obtain ⟨K3, hK3⟩ := a2 (aU _ (ah hg) [m1, m2, m3, m4, m5] (by simp) hb 5 0 ⟨#[]⟩ rfl (Nat.zero_le _) (by decide))
  rw [if_pos h]
  refine ⟨K + K2 + K3, fun k hk => ?_⟩
  have h3 := hK3 k (by omega)
  simp only [impl_MachineText.f]
  rw [bindE (hK k (by omega)), if_pos h, bindE (hK2 k (by omega)), Option.bind_some]
  exact h3
 ·rw [if_neg h]
  refine ⟨K, fun k hk => ?_⟩
  simp only [impl_MachineText.f]
  rw [bindE (hK k hk), if_neg h]
theorem b8 {r c : Int} {l : List S62} (hg : a1 r c l = true) : Ev (fun k => spec_boText.f k r c l) ⟨(a5 l c.toNat r.toNat 0).toArray⟩ := by
 have b := aS hg
 obtain ⟨R, C, rfl, rfl, hlen, hR1, hR, hC1, hC⟩ := ao b
 have h := b9 l hlen hR hC b.all b.le R 0 [] (by omega) (by omega) (by simp)
 rw [Int.toNat_natCast, Int.toNat_natCast]
 exact h
theorem aN (r c : Int) (l : List S62) (m1 m2 m3 m4 m5 : Int) (hn : l.length ≤ 1048576) : Ev (fun k => spec_MachineText.f k r c l m1 m2 m3 m4 m5) (aH r c l m1 m2 m3 m4 m5) := by
 obtain ⟨K, hK⟩ := a2 (bA r c l m1 m2 m3 m4 m5 hn)
 unfold aH
 by_cases h : machB r c l m1 m2 m3 m4 m5 = true
 ·obtain ⟨hg, hb⟩ := ac h
  obtain ⟨K3, hK3⟩ := a2 (aM _ (ah hg) r c l m1 m2 m3 m4 m5 (b8 hg) [m1, m2, m3, m4, m5] (by simp) hb 5 0 ⟨#[]⟩ rfl (Nat.zero_le _) (by decide))
  rw [if_pos h]
  refine ⟨K + K3, fun k hk => ?_⟩
  have h3 := hK3 k (by omega)
  simp only [spec_MachineText.f]
  rw [bindE (hK k (by omega)), if_pos h, Option.bind_some]
  exact h3
 ·rw [if_neg h]
  refine ⟨K, fun k hk => ?_⟩
  simp only [spec_MachineText.f]
  rw [bindE (hK k hk), if_neg h]

theorem b7 (a : List S79) (left : Int) (h0 : 0 ≤ left) (h1 : left ≤ 1048576) (hn : a.length ≤ 9223372036854775807) :
 laws_szCellS.f a left = some (if (a.length : Int) ≤ left then left - a.length else -1) := by
 unfold laws_szCellS.f
 rw [a7 (by omega) (by omega)]
 by_cases h : (a.length : Int) ≤ left
 ·rw [if_neg (by omega), if_pos h]
 ·rw [if_pos (by omega), if_neg h]

theorem b5 (r c : Int) (a : List S79) (left : Int) (h0 : 0 ≤ left) (h1 : left ≤ 1048576) (hn : a.length ≤ 9223372036854775807) :
 laws_szBoard.f r c a left = some (if (a.length : Int) ≤ left then left - a.length else -1) := by
 unfold laws_szBoard.f
 rw [bindE (b7 a left h0 h1 hn)]
 by_cases h : (a.length : Int) ≤ left
 ·rw [if_pos h, if_neg (by omega)]
 ·rw [if_neg h, if_pos (by omega)]

theorem am (r c : Int) (a : List S79) (m1 m2 m3 m4 m5 : Int) (left : Int) (h0 : 0 ≤ left) (h1 : left ≤ 1048576) (hn : a.length ≤ 9223372036854775807) :
 laws_szMachine.f r c a m1 m2 m3 m4 m5 left = some (if (a.length : Int) ≤ left then left - a.length else -1) := by
 unfold laws_szMachine.f
 rw [bindE (b5 r c a left h0 h1 hn)]
 by_cases h : (a.length : Int) ≤ left
 ·rw [if_pos h, if_neg (by omega)]
 ·rw [if_neg h, if_pos (by omega)]

def conv (x : S79) : S62 := ⟨x.f0, x.f1⟩
theorem b4 (a : List S79) (hn : a.length ≤ 1048576) : ∀ (d i : Nat) (x : List S62), a.length - i = d → i ≤ a.length → x.length = a.length →
 Ev (fun k => laws_toCellS.l0 k a x (i : Int)) (x.take i ++ (a.drop i).map conv) := by
 intro d
 induction d with
 | zero =>
  intro i x hd hi hx
  obtain rfl : i = a.length := by omega
  refine a9 0 fun k _ => ?_
  simp only [laws_toCellS.l0]
  rw [if_neg (by omega)]
  simp [← hx]
 | succ d ih =>
  intro i x hd hi hx
  have hlt : i < a.length := by omega
  refine a8 0 (f := fun k => laws_toCellS.l0 k a (x.set i (conv (a.getD i z79))) ((i + 1 : Nat) : Int)) ?_ fun k _ => ?_
  ·have h := ih (i + 1) (x.set i (conv (a.getD i z79))) (by omega) (by omega) (by simpa using hx)
   rwa [bJ x _ (by omega), List.append_assoc, List.singleton_append, ← List.map_cons, ← aB a z79 hlt] at h
  ·simp only [laws_toCellS.l0]
   rw [if_pos (by omega), if_pos (by omega)]
   simp only [laws_toCell.f, Option.bind_some]
   rw [if_pos (by omega), a4 hlt (by omega), Int.toNat_natCast]
   simp only [rd_T79, Int.toNat_natCast]
   rfl
theorem b3 (a : List S79) (hn : a.length ≤ 1048576) : Ev (fun k => laws_toCellS.f k a) (a.map conv) := by
 refine aO 0 (f := fun k => laws_toCellS.l0 k a (List.replicate a.length z62) ((0 : Nat) : Int)) ?_ fun k _ => ?_
 ·have h := b4 a hn a.length 0 (List.replicate a.length z62) (by omega) (by omega) (by simp)
  simpa using h
 ·simp only [laws_toCellS.f]
  rw [if_pos (by omega), if_pos (by omega)]
  simp

theorem ay (r c : Int) (a : List S79) (hn : a.length ≤ 1048576) : Ev (fun k => laws_toBoard.f k r c a) (r, c, a.map conv) := by
 obtain ⟨K, hK⟩ := a2 (b3 a hn)
 refine ⟨K, fun k hk => ?_⟩
 simp only [laws_toBoard.f]
 rw [bindE (hK k hk)]

theorem aq (r c : Int) (a : List S79) (m1 m2 m3 m4 m5 : Int) (hn : a.length ≤ 1048576) : Ev (fun k => laws_toMachine.f k r c a m1 m2 m3 m4 m5) (r, c, a.map conv, m1, m2, m3, m4, m5) := by
 obtain ⟨K, hK⟩ := a2 (ay r c a hn)
 refine ⟨K, fun k hk => ?_⟩
 simp only [laws_toMachine.f]
 rw [bindE (hK k hk)]

theorem b6 (a : List S62) (hn : a.length ≤ 1048576) : ∀ (d i : Nat), a.length - i = d → i ≤ a.length → Ev (fun k => laws_eqCellS.l0 k a a (i : Int)) true := by
 intro d
 induction d with
 | zero =>
  intro i hd hi
  refine a9 0 fun k _ => ?_
  simp only [laws_eqCellS.l0]
  rw [if_neg (by omega)]
 | succ d ih =>
  intro i hd hi
  have hlt : i < a.length := by omega
  refine a8 0 (ih (i + 1) (by omega) (by omega)) fun k _ => ?_
  simp only [laws_eqCellS.l0]
  rw [if_pos (by omega), if_pos (by omega), if_pos (by omega), a4 hlt (by omega)]
  simp [laws_eqCell.f]
theorem b0 (a : List S62) (hn : a.length ≤ 1048576) : Ev (fun k => laws_eqCellS.f k a a) true := by
 refine aO 0 (b6 a hn a.length 0 (by omega) (by omega)) fun k _ => ?_
 simp only [laws_eqCellS.f, if_true]
 rfl

theorem az (r c : Int) (a : List S62) (hn : a.length ≤ 1048576) : Ev (fun k => laws_eqBoard.f k r c a r c a) true := by
 obtain ⟨K, hK⟩ := a2 (b0 a hn)
 refine ⟨K, fun k hk => ?_⟩
 simp only [laws_eqBoard.f]
 rw [if_pos trivial, if_pos trivial, bindE (hK k hk), a3]

theorem aj (r c : Int) (a : List S62) (m1 m2 m3 m4 m5 : Int) (hn : a.length ≤ 1048576) : Ev (fun k => laws_eqMachine.f k r c a m1 m2 m3 m4 m5 r c a m1 m2 m3 m4 m5) true := by
 obtain ⟨K, hK⟩ := a2 (az r c a hn)
 refine ⟨K, fun k hk => ?_⟩
 simp only [laws_eqMachine.f]
 rw [bindE (hK k hk)]
 simp



theorem FnExactMachineText (r0 c0 : Int) (a0 : List S79) (m0_1 m0_2 m0_3 m0_4 m0_5 : Int) (hn0 : a0.length ≤ 9223372036854775807) : ∃ k, laws_FnExactMachineText.f k r0 c0 a0 m0_1 m0_2 m0_3 m0_4 m0_5 = some true := by
 unfold laws_FnExactMachineText.f
 simp only [bindE (am r0 c0 a0 m0_1 m0_2 m0_3 m0_4 m0_5 (1048576) (by omega) (by omega) hn0)]
 by_cases hs0 : (a0.length : Int) ≤ 1048576
 case neg =>
  exact ⟨0, by rw [if_neg hs0]; rfl⟩
 have hq0 : ¬ (1048576 - (a0.length : Int) < 0) := by omega
 simp only [if_pos hs0, if_neg hq0]
 have hl0 : (a0.map conv).length ≤ 1048576 := by rw [List.length_map]; omega
 obtain ⟨K1, h1⟩ := a2 (aq r0 c0 a0 m0_1 m0_2 m0_3 m0_4 m0_5 (by omega))
 obtain ⟨K2, h2⟩ := a2 (aR r0 c0 (a0.map conv) m0_1 m0_2 m0_3 m0_4 m0_5 hl0)
 obtain ⟨K3, h3⟩ := a2 (aN r0 c0 (a0.map conv) m0_1 m0_2 m0_3 m0_4 m0_5 hl0)
 revert h2 h3
 generalize aH r0 c0 (a0.map conv) m0_1 m0_2 m0_3 m0_4 m0_5 = r
 intro h2 h3
 obtain ⟨K4, h4⟩ := a2 (aj r0 c0 (a0.map conv) m0_1 m0_2 m0_3 m0_4 m0_5 hl0)
 refine ⟨K1 + K2 + K3 + K4 + 1, ?_⟩
 repeat (first | rw [bindE (h1 _ (by omega))] | rw [bindE (h2 _ (by omega))] | rw [bindE (h3 _ (by omega))] | rw [bindE (h4 _ (by omega))] | rw [Option.bind_some] | rw [a3] | rw [bG] | rw [bI] | rw [if_pos rfl] | rw [laws_FnExactMachineText.j0])

end Go.Proofs.YtklmdnlambinaaaDoor.Pure
