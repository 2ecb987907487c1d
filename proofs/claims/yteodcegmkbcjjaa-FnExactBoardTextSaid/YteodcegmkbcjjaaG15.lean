/- Began as a text that print.sh wrote (of the functions named below); turned and shortened by this session. -/
import Derived.Test.YteodcegmkbcjjaaG0
import Derived.Test.YteodcegmkbcjjaaG2
import Derived.Test.YteodcegmkbcjjaaG4
namespace Go.Proofs.Yteodcegmkbcjjaa.PAll
open Go.RowKit Go.Proofs.YteodcegmkbcjjaaW.PrintWords Go.Proofs.YteodcegmkbcjjaaW.PrintLast Go.Proofs.YteodcegmkbcjjaaW.PrintMore
attribute [local go_sem] max2_int min2_int max_two min_two max_three min_three max_four min_four   -- for this text's walks alone
set_option linter.unusedVariables false
set_option linter.unusedSimpArgs false

/-! ### spec_paLetter: function 87 -/
def spec_paLetter.f (a0_0 : Int) (a0_1 : Int) : Option (ByteArray) := if a0_1 = 1 then (if 0 ≤ a0_0 then (if a0_0 ≤ (wrap64 (a0_0 + 1)) then (if (wrap64 (a0_0 + 1)) ≤ 8 then (some ((⟨#[46, 46, 46, 70, 46, 46, 71, 46]⟩ : ByteArray).extract (a0_0 : Int).toNat ((wrap64 (a0_0 + 1)) : Int).toNat)) else (none)) else (none)) else (none)) else (if 0 ≤ a0_0 then (if a0_0 ≤ (wrap64 (a0_0 + 1)) then (if (wrap64 (a0_0 + 1)) ≤ 8 then (some ((⟨#[46, 108, 114, 102, 120, 111, 103, 99]⟩ : ByteArray).extract (a0_0 : Int).toNat ((wrap64 (a0_0 + 1)) : Int).toNat)) else (none)) else (none)) else (none))
set_option maxHeartbeats 8000000 in
set_option maxRecDepth 100000 in
theorem spec_paLetter.calls (a0_0 : Int) (a0_1 : Int) (r : ByteArray) (w : World) (h : spec_paLetter.f a0_0 a0_1 = some r) :
 Calls Try.prog 87 #[.agg #[.int .i64 a0_0, .int .i64 a0_1]] w fun e w' => e = .returned (.string r) ∧ Below w.heap.size w w' := by
 have Aq := Try.underlying34
 have HB := Z.m (Below.refl w.heap.size w)
 have H : (if a0_1 = 1 then (if 0 ≤ a0_0 then (if a0_0 ≤ (wrap64 (a0_0 + 1)) then (if (wrap64 (a0_0 + 1)) ≤ 8 then (some ((⟨#[46, 46, 46, 70, 46, 46, 71, 46]⟩ : ByteArray).extract (a0_0 : Int).toNat ((wrap64 (a0_0 + 1)) : Int).toNat)) else (none)) else (none)) else (none)) else (if 0 ≤ a0_0 then (if a0_0 ≤ (wrap64 (a0_0 + 1)) then (if (wrap64 (a0_0 + 1)) ≤ 8 then (some ((⟨#[46, 108, 114, 102, 120, 111, 103, 99]⟩ : ByteArray).extract (a0_0 : Int).toNat ((wrap64 (a0_0 + 1)) : Int).toNat)) else (none)) else (none)) else (none))) = some r := h
 clear h
 by_cases c2 : a0_1 = 1
 ·rw [if_pos c2] at H
  have A8 := beq_iff_eq.mpr c2
  have A9 := bne_eq_false_iff_eq.mpr c2
  clear c2
  by_cases c3 : 0 ≤ a0_0
  ·rw [if_pos c3] at H
   have Ag := eq_true c3
   have Ah := decide_eq_true c3
   clear c3
   by_cases c4 : a0_0 ≤ (wrap64 (a0_0 + 1))
   ·rw [if_pos c4] at H
    have Ai := eq_true c4
    have Aj := decide_eq_true c4
    by_cases c5 : (wrap64 (a0_0 + 1)) ≤ 8
    ·rw [if_pos c5] at H
     have Ak := eq_true c5
     have Al := decide_eq_true c5
     obtain rfl := Option.some.inj H
     go_enter Try.func87, Try.ntmps87
     go_wp2_with (first | ((with_reducible refine gq (N := 1) rfl ?_); refine be (N := 1) (cs := #[.int .i64 a0_0, .int .i64 a0_1]) (t := 34) ?_; intro A3 hg w6 hbox hb; have A0 := Z.m (hbox); have A1 := gW (w := w) HB hg; have A2 := A1; replace HB := bB HB hb; clear hb hbox hg; have Aa := bc0 A0; have Ab := bc1 A0; have Ac := qz A0.o 0; have Ad := qz A0.o 1))
     go_ret
     exact ⟨by first | rfl | (simp [eN, eS] <;> rfl) | (simp [*, eN, eS] <;> rfl), vB HB⟩
    ·rw [if_neg c5] at H
     exact absurd H (by simp)
   ·rw [if_neg c4] at H
    exact absurd H (by simp)
  ·rw [if_neg c3] at H
   exact absurd H (by simp)
 ·rw [if_neg c2] at H
  have A8 := beq_eq_false_iff_ne.mpr c2
  have A9 := bne_iff_ne.mpr c2
  by_cases c8 : 0 ≤ a0_0
  ·rw [if_pos c8] at H
   have Am := eq_true c8
   have An := decide_eq_true c8
   clear c8
   by_cases c9 : a0_0 ≤ (wrap64 (a0_0 + 1))
   ·rw [if_pos c9] at H
    have Ao := eq_true c9
    have Ap := decide_eq_true c9
    by_cases c10 : (wrap64 (a0_0 + 1)) ≤ 8
    ·rw [if_pos c10] at H
     have Ae := eq_true c10
     have Af := decide_eq_true c10
     obtain rfl := Option.some.inj H
     go_enter Try.func87, Try.ntmps87
     go_wp2_with (first | ((with_reducible refine gq (N := 1) rfl ?_); refine be (N := 1) (cs := #[.int .i64 a0_0, .int .i64 a0_1]) (t := 34) ?_; intro A3 hg Ar hbox hb; have A0 := Z.m (hbox); have A1 := gW (w := w) HB hg; have A2 := A1; replace HB := bB HB hb; clear hb hbox hg; have A4 := bc0 A0; have A5 := bc1 A0; have A6 := qz A0.o 0; have A7 := qz A0.o 1))
     go_ret
     exact ⟨by first | rfl | (simp [eN, eS] <;> rfl) | (simp [*, eN, eS] <;> rfl), vB HB⟩
    ·rw [if_neg c10] at H
     exact absurd H (by simp)
   ·rw [if_neg c9] at H
    exact absurd H (by simp)
  ·rw [if_neg c8] at H
   exact absurd H (by simp)

/-! ### spec_paText: function 81 -/
def spec_paText.l0 : Nat → ByteArray → List (S34) → Int → Int → Option (ByteArray)
 | 0, _, _, _, _ => none
 | k + 1, x3, x6, x7, x8 => if x8 < x7 then (if 0 ≤ x8 then (if x8 < (x6.length : Int) then ((spec_paLetter.f ((rd_T34 x6 x8).f0) ((rd_T34 x6 x8).f1)).bind fun t472 => (if x3.size + t472.size ≤ 9223372036854775807 then (spec_paText.l0 k (x3 ++ t472) x6 x7 (wrap64 (x8 + 1))) else (none))) else (none)) else (none)) else (some x3)
def spec_paText.f (k : Nat) (l0 : List (S34)) : Option (ByteArray) := spec_paText.l0 k (⟨#[]⟩ : ByteArray) l0 (l0.length : Int) 0
set_option maxHeartbeats 8000000 in
set_option maxRecDepth 100000 in
theorem spec_paText.calls (k : Nat) (A0 : Option Addr) (c0 : Nat) (l0 : List (S34)) (r : ByteArray) (w : World) (hr0 : Kd.C k34 w A0 l0.length l0) (hc0 : l0.length ≤ c0) (h : spec_paText.f k l0 = some r) :
 Calls Try.prog 81 #[.slice A0 l0.length c0] w fun e w' => e = .returned (.string r) ∧ Below w.heap.size w w' := by
 have Ap := Try.underlying34
 have Aj := Z.m hr0
 have Aq := Z.m hc0
 clear hr0 hc0
 have HB := Z.m (Below.refl w.heap.size w)
 have H : (spec_paText.l0 k (⟨#[]⟩ : ByteArray) l0 (l0.length : Int) 0) = some r := h
 clear h
 have H' := Z.m H
 clear H
 go_enter Try.func81, Try.ntmps81
 go_wp2
 go_loopg [3, 8] k (fun kq v3 v8 w' => ∃ (A6 : ByteArray) (A1 : Int), v3 = .string A6 ∧ v8 = .int .i64 A1 ∧ Z (spec_paText.l0 kq A6 l0 (l0.length : Int) A1 = some r) ∧ Z (kq ≤ k) ∧ Z (Below w.heap.size w w'))
 case atStart => exact ⟨((⟨#[]⟩ : ByteArray)), (0), (by first | rfl | (simp; done) | (simp [*]; done)), (by first | rfl | (simp; done) | (simp [*]; done)), H', ⟨Nat.le_refl _⟩, ⟨vB HB⟩⟩
 case round =>
  clear H'
  obtain ⟨A6, A1, rfl, rfl, HA, Ah, HB⟩ := hrel
  cases gk with
  | zero => exact absurd HA.o (by simp [spec_paText.l0])
  | succ k1 =>
   have H := HA.o
   clear HA
   simp only [spec_paText.l0] at H
   by_cases c2 : A1 < (l0.length : Int)
   ·rw [if_pos c2] at H
    have Aa := decide_eq_true c2
    clear c2
    by_cases c3 : 0 ≤ A1
    ·rw [if_pos c3] at H
     have Ak := decide_eq_true c3
     clear c3
     by_cases c4 : A1 < (l0.length : Int)
     ·rw [if_pos c4] at H
      have Al := decide_eq_true c4
      clear c4
      replace H := Option.bind_eq_some_iff.mp H
      obtain ⟨A7, Af, H⟩ := H
      replace H : (if A6.size + A7.size ≤ 9223372036854775807 then (spec_paText.l0 k1 (A6 ++ A7) l0 (l0.length : Int) (wrap64 (A1 + 1))) else (none)) = some r := H
      have A5 := Z.m Af
      clear Af
      by_cases c6 : A6.size + A7.size ≤ 9223372036854775807
      ·rw [if_pos c6] at H
       have Am := eq_true c6
       have An := decide_eq_true c6
       try have Ao : (9223372036854775807 < A6.size + A7.size) = False := eq_false (Nat.not_lt.2 c6)
       have H' := Z.m H
       clear H
       have p470 : 0 ≤ (A1 : Int) := ofD
       have q470 : A1 < (l0.length : Int) := ofD
       obtain ⟨Ai, e470, A3, A4⟩ := at_T34 Aj.o A1 p470 q470
       cases e470
       replace A3 := (HB.o.cell (World.block_lt_of_cell? w _ A3)).trans A3
       replace A4 := (HB.o.cell (World.block_lt_of_cell? w _ A4)).trans A4
       replace p470 := eq_true p470
       replace q470 := eq_true q470
       go_wp2_with (first | ((with_reducible refine gq (N := 5) rfl ?_); refine be (N := 5) (cs := #[.int .i64 0, .int .i64 0]) (t := 34) ?_; intro A9 hg w7 hbox hb; have A2 := Z.m (hbox); have A8 := gW (w := w) HB hg; have Ag := A8; replace HB := bB HB hb; clear hb hbox hg; have Ab := bc0 A2; have Ac := bc1 A2; have Ad := qz A2.o 0; have Ae := qz A2.o 1) | ((with_reducible refine gc (f := 87) rfl ?_); refine gA (some 14) _ #[.agg #[.int .i64 ((rd_T34 l0 A1).f0), .int .i64 ((rd_T34 l0 A1).f1)]] ?_ Try.func87; (with_reducible refine (spec_paLetter.calls ((rd_T34 l0 A1).f0) ((rd_T34 l0 A1).f1) A7 _ A5.o).mono ?_); rintro e w9 ⟨rfl, hb⟩; refine ⟨_, rfl, ?_⟩; replace A2 := Z.m (qb (g := A9) (o := .cells #[.int .i64 ((rd_T34 l0 A1).f0), .int .i64 ((rd_T34 l0 A1).f1)] 34 (0, 0)) (by refine bK ?_; refine qp (cs := #[iV ((rd_T34 l0 A1).f0), iV 0]) ?_ 1 _ rfl; refine bK ?_; refine qp (cs := #[iV 0, iV 0]) ?_ 0 _ rfl; refine bK ?_; exact A2.o) hb); replace HB := bB HB hb; (try clear hb); (try clear Ar); (try clear hk); (try clear hi)))
       go_roundg k1
       case measure => have := Ah.o; omega
       case rel => exact ⟨(A6 ++ A7), (wrap64 (A1 + 1)), (by first | rfl | (simp; done) | (simp [*]; done)), (by first | rfl | (simp; done) | (simp [*]; done)), H', ⟨by have := Ah.o; omega⟩, ⟨vB HB⟩⟩
      ·rw [if_neg c6] at H
       exact absurd H (by simp)
     ·rw [if_neg c4] at H
      exact absurd H (by simp)
    ·rw [if_neg c3] at H
     exact absurd H (by simp)
   ·rw [if_neg c2] at H
    have Aa := decide_eq_false c2
    clear c2
    obtain rfl := Option.some.inj H
    go_wp2
    go_ret
    exact ⟨by first | rfl | (simp [eN, eS] <;> rfl) | (simp [*, eN, eS] <;> rfl), vB HB⟩

/-! ### spec_boRow: function 67 -/
set_option maxHeartbeats 8000000 in
set_option maxRecDepth 100000 in
/-- The part of the board's own row that boRow hands back. -/
theorem spec_boRow.calls (a0_0 a0_1 : Int) (A0_2 : Option Addr) (c0_2 : Nat) (l0_2 : List S34) (a1 ji : Int) (w : World) (hc0_2 : l0_2.length ≤ c0_2) (hji : wrap64 (a1 * a0_1) = ji) (h0 : 0 ≤ ji) (h1 : ji ≤ wrap64 ((wrap64 (a1 + 1)) * a0_1)) (h2 : wrap64 ((wrap64 (a1 + 1)) * a0_1) ≤ (l0_2.length : Int)) :
 Calls Try.prog 67 #[.agg #[.int .i64 a0_0, .int .i64 a0_1, .slice A0_2 l0_2.length c0_2], .int .i64 a1] w fun e w' => e = .returned (.slice (if c0_2 = ((ji) : Int).toNat then A0_2 else (A0_2 : Option Addr).map (·.add (((ji) : Int).toNat * 2))) (((wrap64 ((wrap64 (a1 + 1)) * a0_1)) : Int).toNat - ((ji) : Int).toNat) (c0_2 - ((ji) : Int).toNat)) ∧ Below w.heap.size w w' := by
 have A0 := Try.underlying29
 have HB := Z.m (Below.refl w.heap.size w)
 have hjiw : (IntKind.i64.wrap (a1 * a0_1)) = ji := (i64_w _).trans hji
 obtain ⟨i0, hi0, _, hsz, _⟩ := info_parts info34
 have hcut := cut_mid (P := Try.prog) 27 34 .i64 .i64 Try.underlying27 hi0 2 hsz A0_2 l0_2.length c0_2 (ji) (wrap64 ((wrap64 (a1 + 1)) * a0_1)) h0 h1 h2 hc0_2
 clear hi0 hsz
 generalize (if c0_2 = ((ji) : Int).toNat then A0_2 else (A0_2 : Option Addr).map (·.add (((ji) : Int).toNat * 2))) = Ce at hcut ⊢
 go_enter Try.func67, Try.ntmps67
 go_wp2_with (first | ((with_reducible refine gq (N := 2) rfl ?_); refine be (N := 2) (cs := #[.int .i64 a0_0, .int .i64 a0_1, .slice A0_2 l0_2.length c0_2]) (t := 29) ?_; intro gb hg w2 hbox hb; have BK := Z.m (hbox); have GW := gW (w := w) HB hg; replace HB := bB HB hb; clear hb hbox hg; have hcz_0 := bc0 BK; have hcz_1 := bc1 BK; have hcz_2 := bc2 BK))
 go_ret
 exact ⟨by first | rfl | (simp; done) | (simp [*] <;> rfl), vB HB⟩

/-! ### spec_boText: function 65 -/
def spec_boText.l0 : Nat → ByteArray → Int → Int → Int → List (S34) → Option (ByteArray)
 | 0, _, _, _, _, _ => none
 | k + 1, x3, x4, x474000, x474001, x474002 => if x4 < x474000 then (if 0 ≤ (wrap64 (x4 * x474001)) then (if (wrap64 (x4 * x474001)) ≤ (wrap64 ((wrap64 (x4 + 1)) * x474001)) then (if (wrap64 ((wrap64 (x4 + 1)) * x474001)) ≤ (x474002.length : Int) then ((spec_paText.f k ((x474002.take ((wrap64 ((wrap64 (x4 + 1)) * x474001)) : Int).toNat).drop ((wrap64 (x4 * x474001)) : Int).toNat)).bind fun t478 => (if t478.size + 1 ≤ 9223372036854775807 then (if x3.size + (t478 ++ (⟨#[10]⟩ : ByteArray)).size ≤ 9223372036854775807 then (spec_boText.l0 k (x3 ++ (t478 ++ (⟨#[10]⟩ : ByteArray))) (wrap64 (x4 + 1)) x474000 x474001 x474002) else (none)) else (none))) else (none)) else (none)) else (none)) else (some x3)
def spec_boText.f (k : Nat) (a0_0 : Int) (a0_1 : Int) (l0_2 : List (S34)) : Option (ByteArray) := spec_boText.l0 k (⟨#[]⟩ : ByteArray) 0 a0_0 a0_1 l0_2
set_option maxHeartbeats 8000000 in
set_option maxRecDepth 100000 in
theorem spec_boText.calls (k : Nat) (a0_0 : Int) (a0_1 : Int) (A0_2 : Option Addr) (c0_2 : Nat) (l0_2 : List (S34)) (r : ByteArray) (w : World) (hr0_2 : Kd.C k34 w A0_2 l0_2.length l0_2) (hc0_2 : l0_2.length ≤ c0_2) (h : spec_boText.f k a0_0 a0_1 l0_2 = some r) :
 Calls Try.prog 65 #[.agg #[.int .i64 a0_0, .int .i64 a0_1, .slice A0_2 l0_2.length c0_2]] w fun e w' => e = .returned (.string r) ∧ Below w.heap.size w w' := by
 have AM := Try.underlying29
 have Ag := Z.m hr0_2
 have Ac := Z.m hc0_2
 clear hr0_2 hc0_2
 have HB := Z.m (Below.refl w.heap.size w)
 have H : (spec_boText.l0 k (⟨#[]⟩ : ByteArray) 0 a0_0 a0_1 l0_2) = some r := h
 clear h
 have H' := Z.m H
 clear H
 go_enter Try.func65, Try.ntmps65
 go_wp2_with (first | ((with_reducible refine gq (N := 1) rfl ?_); refine be (N := 1) (cs := #[.int .i64 a0_0, .int .i64 a0_1, .slice A0_2 l0_2.length c0_2]) (t := 29) ?_; intro Ai hg w2 hbox hb; have A0 := Z.m (hbox); have Ae := gW (w := w) HB hg; have Ay := Ae; replace HB := bB HB hb; clear hb hbox hg))
 go_loopg [3, 4] k (fun kq v3 v4 w' => ∃ (A4 : ByteArray) (A2 : Int), v3 = .string A4 ∧ v4 = .int .i64 A2 ∧ Z (spec_boText.l0 kq A4 A2 a0_0 a0_1 l0_2 = some r) ∧ Z (kq ≤ k) ∧ Z (w'.heap[Ai]? = some (.cells #[.int .i64 a0_0, .int .i64 a0_1, (.slice A0_2 l0_2.length c0_2)] 29 (0, 0))) ∧ Z (Below w.heap.size w w'))
 case atStart => exact ⟨((⟨#[]⟩ : ByteArray)), (0), (by first | rfl | (simp; done) | (simp [*]; done)), (by first | rfl | (simp; done) | (simp [*]; done)), H', ⟨Nat.le_refl _⟩, ⟨vK A0⟩, ⟨vB HB⟩⟩
 case round =>
  clear H'
  obtain ⟨A4, A2, rfl, rfl, HA, Az, A0, HB⟩ := hrel
  cases gk with
  | zero => exact absurd HA.o (by simp [spec_boText.l0])
  | succ k1 =>
   have H := HA.o
   clear HA
   simp only [spec_boText.l0] at H
   by_cases c3 : A2 < a0_0
   ·rw [if_pos c3] at H
    have Av := decide_eq_true c3
    clear c3
    obtain ⟨A6, Aa⟩ : ∃ j_ : Int, (wrap64 (A2 * a0_1)) = j_ := ⟨_, rfl⟩
    replace H : (if 0 ≤ (A6) then (if (A6) ≤ (wrap64 ((wrap64 (A2 + 1)) * a0_1)) then (if (wrap64 ((wrap64 (A2 + 1)) * a0_1)) ≤ (l0_2.length : Int) then ((spec_paText.f k1 ((l0_2.take ((wrap64 ((wrap64 (A2 + 1)) * a0_1)) : Int).toNat).drop ((A6) : Int).toNat)).bind fun A3 => (if A3.size + 1 ≤ 9223372036854775807 then (if A4.size + (A3 ++ (⟨#[10]⟩ : ByteArray)).size ≤ 9223372036854775807 then (spec_boText.l0 k1 (A4 ++ (A3 ++ (⟨#[10]⟩ : ByteArray))) (wrap64 (A2 + 1)) a0_0 a0_1 l0_2) else (none)) else (none))) else (none)) else (none)) else (none)) = some r := by first | (rw [Aa] at H; exact H) | (simp only [Aa] at H ⊢; exact H)
    have hji4w : (IntKind.i64.wrap (A2 * a0_1)) = A6 := (i64_w _).trans Aa
    by_cases c5 : 0 ≤ (A6)
    ·rw [if_pos c5] at H
     have AD := eq_true c5
     have AE := decide_eq_true c5
     clear c5
     by_cases c6 : (A6) ≤ (wrap64 ((wrap64 (A2 + 1)) * a0_1))
     ·rw [if_pos c6] at H
      have AF := eq_true c6
      have AG := decide_eq_true c6
      by_cases c7 : (wrap64 ((wrap64 (A2 + 1)) * a0_1)) ≤ (l0_2.length : Int)
      ·rw [if_pos c7] at H
       have AH := eq_true c7
       have AI := decide_eq_true c7
       obtain ⟨A7, A5⟩ : ∃ y_ : List (S34), y_ = ((l0_2.take ((wrap64 ((wrap64 (A2 + 1)) * a0_1)) : Int).toNat).drop ((A6) : Int).toNat) := ⟨_, rfl⟩
       replace H : ((spec_paText.f k1 A7).bind fun A3 => (if A3.size + 1 ≤ 9223372036854775807 then (if A4.size + (A3 ++ (⟨#[10]⟩ : ByteArray)).size ≤ 9223372036854775807 then (spec_boText.l0 k1 (A4 ++ (A3 ++ (⟨#[10]⟩ : ByteArray))) (wrap64 (A2 + 1)) a0_0 a0_1 l0_2) else (none)) else (none))) = some r := by first | (rw [A5]; with_reducible exact H) | (have H2_ := (Option.bind_some _ _).symm.trans H; rw [A5]; with_reducible exact H2_) | (have H2_ := (Option.bind_some _ _).symm.trans H; with_reducible exact H2_) | with_reducible exact H | (rw [A5]; exact H) | exact H
       have Ad := Z.m A5
       clear A5
       replace H := Option.bind_eq_some_iff.mp H
       obtain ⟨A3, Ax, H⟩ := H
       replace H : (if A3.size + 1 ≤ 9223372036854775807 then (if A4.size + (A3 ++ (⟨#[10]⟩ : ByteArray)).size ≤ 9223372036854775807 then (spec_boText.l0 k1 (A4 ++ (A3 ++ (⟨#[10]⟩ : ByteArray))) (wrap64 (A2 + 1)) a0_0 a0_1 l0_2) else (none)) else (none)) = some r := H
       have A8 := Z.m Ax
       clear Ax
       by_cases c9 : A3.size + 1 ≤ 9223372036854775807
       ·rw [if_pos c9] at H
        have AJ := eq_true c9
        have AK := decide_eq_true c9
        try have AL : (9223372036854775807 < A3.size + 1) = False := eq_false (Nat.not_lt.2 c9)
        by_cases c10 : A4.size + (A3 ++ (⟨#[10]⟩ : ByteArray)).size ≤ 9223372036854775807
        ·rw [if_pos c10] at H
         have AA := eq_true c10
         have AB := decide_eq_true c10
         try have AC : (9223372036854775807 < A4.size + (A3 ++ (⟨#[10]⟩ : ByteArray)).size) = False := eq_false (Nat.not_lt.2 c10)
         have H' := Z.m H
         clear H
         have Aj := bc0 A0
         have Ak := bc1 A0
         have Al := bc2 A0
         have Ap := qz A0.o 0
         have Aq := qz A0.o 1
         have Ar := qz A0.o 2
         have q12 : ((wrap64 ((wrap64 (A2 + 1)) * a0_1)) : Int) ≤ ((l0_2.length : Int) : Int) := ofD
         obtain ⟨i012, hi012, _, hsz12, _⟩ := info_parts info34
         have hroom12 : l0_2.length ≤ c0_2 := Ac.o
         have hC12 : Kd.C k34 _ A0_2 l0_2.length l0_2 := Ag.o
         have ql12 : ((A6) : Int) ≤ ((wrap64 ((wrap64 (A2 + 1)) * a0_1)) : Int) := ofD
         have q012 : (0 : Int) ≤ ((A6) : Int) := ofD
         have hcut12 := cut_mid (P := Try.prog) 27 34 .i64 .i64 Try.underlying27 hi012 2 hsz12 A0_2 l0_2.length c0_2 (A6) (wrap64 ((wrap64 (A2 + 1)) * a0_1)) q012 ql12 q12 hroom12
         have A9 := Kd.C_mid (lo := ((A6) : Int).toNat) (hi := ((wrap64 ((wrap64 (A2 + 1)) * a0_1)) : Int).toNat) (c := c0_2) hC12 (by omega) (by omega) hroom12
         obtain ⟨Aw, hA12⟩ : ∃ A1, A1 = (if c0_2 = ((A6) : Int).toNat then A0_2 else (A0_2 : Option Addr).map (·.add (((A6) : Int).toNat * 2))) := ⟨_, rfl⟩
         obtain ⟨c12, hc12⟩ : ∃ c1, c1 = c0_2 - ((A6) : Int).toNat := ⟨_, rfl⟩
         have Ab : A7.length = ((wrap64 ((wrap64 (A2 + 1)) * a0_1)) : Int).toNat - ((A6) : Int).toNat := (by rw [Ad.o, List.length_drop, List.length_take] <;> omega)
         rw [show ((l0_2).take ((wrap64 ((wrap64 (A2 + 1)) * a0_1)) : Int).toNat).drop ((A6) : Int).toNat = A7 from Ad.o.symm] at A9
         replace A9 : Kd.C k34 _ Aw A7.length A7 := (by rw [hA12]; exact A9)
         rw [← Ab, ← hA12, ← hc12] at hcut12
         have Ah := Z.m A9
         have Af := Z.m (show A7.length ≤ c12 from by rw [Ab, hc12]; exact Nat.sub_le_sub_right (Nat.le_trans (by omega) hroom12) _)
         clear A9 hC12 hroom12 hi012 hsz12
         have KY12 := Z.m Ab
         have KA12 := Z.m hA12
         clear Ab hA12
         replace q12 := eq_true q12
         go_wp2_with (first | ((with_reducible refine gc (f := 67) rfl ?_); refine gA (some 14) _ #[.agg #[.int .i64 a0_0, .int .i64 a0_1, .slice A0_2 l0_2.length c0_2], .int .i64 A2] ?_ Try.func67; (with_reducible refine (spec_boRow.calls a0_0 a0_1 A0_2 c0_2 l0_2 A2 A6 _ ?side1 Aa q012 ql12 (of_eq_true q12)).mono ?_); (case side1 => exact Ac.o); rintro e wb ⟨rfl, hb⟩; refine ⟨_, rfl, ?_⟩; rw [← KY12.o, ← KA12.o, ← hc12]; replace A0 := kB A0 hb; replace HB := bB HB hb; (try clear hb)) | ((with_reducible refine gc (f := 81) rfl ?_); refine gA (some 15) _ #[.slice Aw A7.length c12] ?_ Try.func81; (with_reducible refine (spec_paText.calls k1 _ _ A7 A3 _ ?side1 ?side2 A8.o).mono ?_); (case side1 => repeat (first | exact (Kd.C_below Ah.o HB.o) | (with_reducible refine Kd.C_alloc ?_ _) | (with_reducible refine Kd.C_drewN ?_ _) | (with_reducible refine Kd.C_drew ?_))); (case side2 => exact Af.o); rintro e AO ⟨rfl, hb⟩; refine ⟨_, rfl, ?_⟩; replace A0 := kB A0 hb; replace HB := bB HB hb; (try clear hb); (try clear AN); (try clear hk); (try clear hi)))
         go_roundg k1
         case measure => have := Az.o; omega
         case rel => exact ⟨(A4 ++ (A3 ++ (⟨#[10]⟩ : ByteArray))), (wrap64 (A2 + 1)), (by first | rfl | (simp; done) | (simp [*]; done)), (by first | rfl | (simp; done) | (simp [*]; done)), H', ⟨by have := Az.o; omega⟩, ⟨vK A0⟩, ⟨vB HB⟩⟩
        ·rw [if_neg c10] at H
         exact absurd H (by simp)
       ·rw [if_neg c9] at H
        exact absurd H (by simp)
      ·rw [if_neg c7] at H
       exact absurd H (by simp)
     ·rw [if_neg c6] at H
      exact absurd H (by simp)
    ·rw [if_neg c5] at H
     exact absurd H (by simp)
   ·rw [if_neg c3] at H
    have Av := decide_eq_false c3
    clear c3
    obtain rfl := Option.some.inj H
    have Am := bc0 A0
    have An := bc1 A0
    have Ao := bc2 A0
    have As := qz A0.o 0
    have At := qz A0.o 1
    have Au := qz A0.o 2
    go_wp2
    go_ret
    exact ⟨by first | rfl | (simp [eN, eS] <;> rfl) | (simp [*, eN, eS] <;> rfl), vB HB⟩

/-! ### spec_BoardText: function 29 -/
def spec_BoardText.f (k : Nat) (a0_0 : Int) (a0_1 : Int) (l0_2 : List (S34)) : Option (ByteArray × Bool) := (spec_boGood.f k a0_0 a0_1 l0_2).bind fun t480 => (if t480 = true then ((spec_boText.f k a0_0 a0_1 l0_2).bind fun t481 => (some (t481, true))) else (some ((⟨#[]⟩ : ByteArray), false)))
set_option maxHeartbeats 8000000 in
set_option maxRecDepth 100000 in
theorem spec_BoardText.calls (k : Nat) (a0_0 : Int) (a0_1 : Int) (A0_2 : Option Addr) (c0_2 : Nat) (l0_2 : List (S34)) (r1 : ByteArray) (r2 : Bool) (w : World) (hr0_2 : Kd.C k34 w A0_2 l0_2.length l0_2) (hc0_2 : l0_2.length ≤ c0_2) (h : spec_BoardText.f k a0_0 a0_1 l0_2 = some (r1, r2)) :
 Calls Try.prog 29 #[.agg #[.int .i64 a0_0, .int .i64 a0_1, .slice A0_2 l0_2.length c0_2]] w fun e w' => e = .returned (.tuple #[.string r1, .bool r2]) ∧ Below w.heap.size w w' := by
 have Av := Try.underlying29
 have A6 := Z.m hr0_2
 have A5 := Z.m hc0_2
 clear hr0_2 hc0_2
 have HB := Z.m (Below.refl w.heap.size w)
 have H : ((spec_boGood.f k a0_0 a0_1 l0_2).bind fun A7 => (if A7 = true then ((spec_boText.f k a0_0 a0_1 l0_2).bind fun A1 => (some (A1, true))) else (some ((⟨#[]⟩ : ByteArray), false)))) = some (r1, r2) := h
 clear h
 replace H := Option.bind_eq_some_iff.mp H
 obtain ⟨A7, As, H⟩ := H
 replace H : (if A7 = true then ((spec_boText.f k a0_0 a0_1 l0_2).bind fun A1 => (some (A1, true))) else (some ((⟨#[]⟩ : ByteArray), false))) = some (r1, r2) := H
 have A2 := Z.m As
 clear As
 by_cases c3 : A7 = true
 ·subst c3
  have H1 : ((spec_boText.f k a0_0 a0_1 l0_2).bind fun A1 => (some (A1, true))) = some (r1, r2) := by rw [if_pos rfl] at H; exact H
  clear H
  have H := H1
  clear H1
  replace H := Option.bind_eq_some_iff.mp H
  obtain ⟨A1, At, H⟩ := H
  replace H : (some (A1, true)) = some (r1, r2) := H
  have A4 := Z.m At
  clear At
  simp only [Option.some.injEq, Prod.mk.injEq] at H
  obtain ⟨rfl, rfl⟩ := H
  go_enter Try.func29, Try.ntmps29
  go_wp2_with (first | ((with_reducible refine gq (N := 1) rfl ?_); refine be (N := 1) (cs := #[.int .i64 a0_0, .int .i64 a0_1, .slice A0_2 l0_2.length c0_2]) (t := 29) ?_; intro A9 hg w5 hbox hb; have A0 := Z.m (hbox); have A3 := gW (w := w) HB hg; have A8 := A3; replace HB := bB HB hb; clear hb hbox hg; have Ag := bc0 A0; have Ah := bc1 A0; have Ai := bc2 A0; have Am := qz A0.o 0; have An := qz A0.o 1; have Ao := qz A0.o 2) | ((with_reducible refine gc (f := 53) rfl ?_); refine gA (some 5) _ #[.agg #[.int .i64 a0_0, .int .i64 a0_1, .slice A0_2 l0_2.length c0_2]] ?_ Try.func53; (with_reducible refine (spec_boGood.calls k a0_0 a0_1 _ _ l0_2 true _ ?side1 ?side2 A2.o).mono ?_); (case side1 => repeat (first | exact (Kd.C_below A6.o HB.o) | (with_reducible refine Kd.C_alloc ?_ _) | (with_reducible refine Kd.C_drewN ?_ _) | (with_reducible refine Kd.C_drew ?_))); (case side2 => exact A5.o); rintro e w7 ⟨rfl, hb⟩; refine ⟨_, rfl, ?_⟩; replace A0 := kB A0 hb; replace HB := bB HB hb; (try clear hb); (try clear Au); (try clear hk); (try clear hi); have Aj := bc0 A0; have Ak := bc1 A0; have Al := bc2 A0; have Ap := qz A0.o 0; have Aq := qz A0.o 1; have Ar := qz A0.o 2) | ((with_reducible refine gc (f := 65) rfl ?_); refine gA (some 8) _ #[.agg #[.int .i64 a0_0, .int .i64 a0_1, .slice A0_2 l0_2.length c0_2]] ?_ Try.func65; (with_reducible refine (spec_boText.calls k a0_0 a0_1 _ _ l0_2 A1 _ ?side1 ?side2 A4.o).mono ?_); (case side1 => repeat (first | exact (Kd.C_below A6.o HB.o) | (with_reducible refine Kd.C_alloc ?_ _) | (with_reducible refine Kd.C_drewN ?_ _) | (with_reducible refine Kd.C_drew ?_))); (case side2 => exact A5.o); rintro e w9 ⟨rfl, hb⟩; refine ⟨_, rfl, ?_⟩; replace A0 := kB A0 hb; replace HB := bB HB hb; (try clear hb); (try clear Au); (try clear hk); (try clear hi)))
  go_ret2
  exact ⟨by first | rfl | (simp [eN, eS] <;> rfl) | (simp [*, eN, eS] <;> rfl), vB HB⟩
 ·replace c3 := Bool.eq_false_iff.mpr c3
  subst c3
  have H1 : (some ((⟨#[]⟩ : ByteArray), false)) = some (r1, r2) := by rw [if_neg (show ¬ (false = true) by decide)] at H; exact H
  clear H
  have H := H1
  clear H1
  simp only [Option.some.injEq, Prod.mk.injEq] at H
  obtain ⟨rfl, rfl⟩ := H
  go_enter Try.func29, Try.ntmps29
  go_wp2_with (first | ((with_reducible refine gq (N := 1) rfl ?_); refine be (N := 1) (cs := #[.int .i64 a0_0, .int .i64 a0_1, .slice A0_2 l0_2.length c0_2]) (t := 29) ?_; intro A9 hg Aw hbox hb; have A0 := Z.m (hbox); have A3 := gW (w := w) HB hg; have A8 := A3; replace HB := bB HB hb; clear hb hbox hg; have Aa := bc0 A0; have Ab := bc1 A0; have Ac := bc2 A0; have Ad := qz A0.o 0; have Ae := qz A0.o 1; have Af := qz A0.o 2) | ((with_reducible refine gc (f := 53) rfl ?_); refine gA (some 5) _ #[.agg #[.int .i64 a0_0, .int .i64 a0_1, .slice A0_2 l0_2.length c0_2]] ?_ Try.func53; (with_reducible refine (spec_boGood.calls k a0_0 a0_1 _ _ l0_2 false _ ?side1 ?side2 A2.o).mono ?_); (case side1 => repeat (first | exact (Kd.C_below A6.o HB.o) | (with_reducible refine Kd.C_alloc ?_ _) | (with_reducible refine Kd.C_drewN ?_ _) | (with_reducible refine Kd.C_drew ?_))); (case side2 => exact A5.o); rintro e Ax ⟨rfl, hb⟩; refine ⟨_, rfl, ?_⟩; replace A0 := kB A0 hb; replace HB := bB HB hb; (try clear hb); (try clear Au); (try clear hk); (try clear hi)))
  go_ret2
  exact ⟨by first | rfl | (simp [eN, eS] <;> rfl) | (simp [*, eN, eS] <;> rfl), vB HB⟩

/-! ### impl_CellLetter: function 82 -/
def impl_CellLetter.f (a0_0 : Int) (a0_1 : Int) : Option (ByteArray × Bool) := (impl_IsCell.f a0_0 a0_1).bind fun t483 => (if t483 = true then (if a0_1 = 1 then (if 0 ≤ a0_0 then (if a0_0 ≤ (wrap64 (a0_0 + 1)) then (if (wrap64 (a0_0 + 1)) ≤ 8 then (some ((⟨#[46, 108, 114, 70, 120, 111, 71, 99]⟩ : ByteArray).extract (a0_0 : Int).toNat ((wrap64 (a0_0 + 1)) : Int).toNat, true)) else (none)) else (none)) else (none)) else (if 0 ≤ a0_0 then (if a0_0 ≤ (wrap64 (a0_0 + 1)) then (if (wrap64 (a0_0 + 1)) ≤ 8 then (some ((⟨#[46, 108, 114, 102, 120, 111, 103, 99]⟩ : ByteArray).extract (a0_0 : Int).toNat ((wrap64 (a0_0 + 1)) : Int).toNat, true)) else (none)) else (none)) else (none))) else (some ((⟨#[]⟩ : ByteArray), false)))
set_option maxHeartbeats 8000000 in
set_option maxRecDepth 100000 in
theorem impl_CellLetter.calls (a0_0 : Int) (a0_1 : Int) (r1 : ByteArray) (r2 : Bool) (w : World) (h : impl_CellLetter.f a0_0 a0_1 = some (r1, r2)) :
 Calls Try.prog 82 #[.agg #[.int .i64 a0_0, .int .i64 a0_1]] w fun e w' => e = .returned (.tuple #[.string r1, .bool r2]) ∧ Below w.heap.size w w' := by
 have AG := Try.underlying34
 have HB := Z.m (Below.refl w.heap.size w)
 have H : ((impl_IsCell.f a0_0 a0_1).bind fun A3 => (if A3 = true then (if a0_1 = 1 then (if 0 ≤ a0_0 then (if a0_0 ≤ (wrap64 (a0_0 + 1)) then (if (wrap64 (a0_0 + 1)) ≤ 8 then (some ((⟨#[46, 108, 114, 70, 120, 111, 71, 99]⟩ : ByteArray).extract (a0_0 : Int).toNat ((wrap64 (a0_0 + 1)) : Int).toNat, true)) else (none)) else (none)) else (none)) else (if 0 ≤ a0_0 then (if a0_0 ≤ (wrap64 (a0_0 + 1)) then (if (wrap64 (a0_0 + 1)) ≤ 8 then (some ((⟨#[46, 108, 114, 102, 120, 111, 103, 99]⟩ : ByteArray).extract (a0_0 : Int).toNat ((wrap64 (a0_0 + 1)) : Int).toNat, true)) else (none)) else (none)) else (none))) else (some ((⟨#[]⟩ : ByteArray), false)))) = some (r1, r2) := h
 clear h
 replace H := Option.bind_eq_some_iff.mp H
 obtain ⟨A3, As, H⟩ := H
 replace H : (if A3 = true then (if a0_1 = 1 then (if 0 ≤ a0_0 then (if a0_0 ≤ (wrap64 (a0_0 + 1)) then (if (wrap64 (a0_0 + 1)) ≤ 8 then (some ((⟨#[46, 108, 114, 70, 120, 111, 71, 99]⟩ : ByteArray).extract (a0_0 : Int).toNat ((wrap64 (a0_0 + 1)) : Int).toNat, true)) else (none)) else (none)) else (none)) else (if 0 ≤ a0_0 then (if a0_0 ≤ (wrap64 (a0_0 + 1)) then (if (wrap64 (a0_0 + 1)) ≤ 8 then (some ((⟨#[46, 108, 114, 102, 120, 111, 103, 99]⟩ : ByteArray).extract (a0_0 : Int).toNat ((wrap64 (a0_0 + 1)) : Int).toNat, true)) else (none)) else (none)) else (none))) else (some ((⟨#[]⟩ : ByteArray), false))) = some (r1, r2) := H
 have A2 := Z.m As
 clear As
 by_cases c3 : A3 = true
 ·subst c3
  have H1 : (if a0_1 = 1 then (if 0 ≤ a0_0 then (if a0_0 ≤ (wrap64 (a0_0 + 1)) then (if (wrap64 (a0_0 + 1)) ≤ 8 then (some ((⟨#[46, 108, 114, 70, 120, 111, 71, 99]⟩ : ByteArray).extract (a0_0 : Int).toNat ((wrap64 (a0_0 + 1)) : Int).toNat, true)) else (none)) else (none)) else (none)) else (if 0 ≤ a0_0 then (if a0_0 ≤ (wrap64 (a0_0 + 1)) then (if (wrap64 (a0_0 + 1)) ≤ 8 then (some ((⟨#[46, 108, 114, 102, 120, 111, 103, 99]⟩ : ByteArray).extract (a0_0 : Int).toNat ((wrap64 (a0_0 + 1)) : Int).toNat, true)) else (none)) else (none)) else (none))) = some (r1, r2) := by rw [if_pos rfl] at H; exact H
  clear H
  have H := H1
  clear H1
  by_cases c4 : a0_1 = 1
  ·rw [if_pos c4] at H
   have Am := beq_iff_eq.mpr c4
   have An := bne_eq_false_iff_eq.mpr c4
   clear c4
   by_cases c5 : 0 ≤ a0_0
   ·rw [if_pos c5] at H
    have AA := eq_true c5
    have AB := decide_eq_true c5
    clear c5
    by_cases c6 : a0_0 ≤ (wrap64 (a0_0 + 1))
    ·rw [if_pos c6] at H
     have AC := eq_true c6
     have AD := decide_eq_true c6
     by_cases c7 : (wrap64 (a0_0 + 1)) ≤ 8
     ·rw [if_pos c7] at H
      have AE := eq_true c7
      have AF := decide_eq_true c7
      simp only [Option.some.injEq, Prod.mk.injEq] at H
      obtain ⟨rfl, rfl⟩ := H
      go_enter Try.func82, Try.ntmps82
      go_wp2_with (first | ((with_reducible refine gq (N := 1) rfl ?_); refine be (N := 1) (cs := #[.int .i64 a0_0, .int .i64 a0_1]) (t := 34) ?_; intro A5 hg w8 hbox hb; have A0 := Z.m (hbox); have A1 := gW (w := w) HB hg; have A4 := A1; replace HB := bB HB hb; clear hb hbox hg; have Ao := bc0 A0; have Ap := bc1 A0; have Aq := qz A0.o 0; have Ar := qz A0.o 1) | ((with_reducible refine gc (f := 70) rfl ?_); refine gA (some 6) _ #[.agg #[.int .i64 a0_0, .int .i64 a0_1]] ?_ Try.func70; (with_reducible refine (impl_IsCell.calls a0_0 a0_1 true _ A2.o).mono ?_); rintro e AH ⟨rfl, hb⟩; refine ⟨_, rfl, ?_⟩; replace A0 := kB A0 hb; replace HB := bB HB hb; (try clear hb); (try clear Az); (try clear hk); (try clear hi); have A6 := bc0 A0; have A7 := bc1 A0; have Ae := qz A0.o 0; have Af := qz A0.o 1))
      go_ret2
      exact ⟨by first | rfl | (simp [eN, eS] <;> rfl) | (simp [*, eN, eS] <;> rfl), vB HB⟩
     ·rw [if_neg c7] at H
      exact absurd H (by simp)
    ·rw [if_neg c6] at H
     exact absurd H (by simp)
   ·rw [if_neg c5] at H
    exact absurd H (by simp)
  ·rw [if_neg c4] at H
   have Am := beq_eq_false_iff_ne.mpr c4
   have An := bne_iff_ne.mpr c4
   by_cases c12 : 0 ≤ a0_0
   ·rw [if_pos c12] at H
    have At := eq_true c12
    have Au := decide_eq_true c12
    clear c12
    by_cases c13 : a0_0 ≤ (wrap64 (a0_0 + 1))
    ·rw [if_pos c13] at H
     have Av := eq_true c13
     have Aw := decide_eq_true c13
     by_cases c14 : (wrap64 (a0_0 + 1)) ≤ 8
     ·rw [if_pos c14] at H
      have Ax := eq_true c14
      have Ay := decide_eq_true c14
      simp only [Option.some.injEq, Prod.mk.injEq] at H
      obtain ⟨rfl, rfl⟩ := H
      go_enter Try.func82, Try.ntmps82
      go_wp2_with (first | ((with_reducible refine gq (N := 1) rfl ?_); refine be (N := 1) (cs := #[.int .i64 a0_0, .int .i64 a0_1]) (t := 34) ?_; intro A5 hg AI hbox hb; have A0 := Z.m (hbox); have A1 := gW (w := w) HB hg; have A4 := A1; replace HB := bB HB hb; clear hb hbox hg; have A8 := bc0 A0; have A9 := bc1 A0; have Ag := qz A0.o 0; have Ah := qz A0.o 1) | ((with_reducible refine gc (f := 70) rfl ?_); refine gA (some 6) _ #[.agg #[.int .i64 a0_0, .int .i64 a0_1]] ?_ Try.func70; (with_reducible refine (impl_IsCell.calls a0_0 a0_1 true _ A2.o).mono ?_); rintro e AJ ⟨rfl, hb⟩; refine ⟨_, rfl, ?_⟩; replace A0 := kB A0 hb; replace HB := bB HB hb; (try clear hb); (try clear Az); (try clear hk); (try clear hi); have Aa := bc0 A0; have Ab := bc1 A0; have Ai := qz A0.o 0; have Aj := qz A0.o 1))
      go_ret2
      exact ⟨by first | rfl | (simp [eN, eS] <;> rfl) | (simp [*, eN, eS] <;> rfl), vB HB⟩
     ·rw [if_neg c14] at H
      exact absurd H (by simp)
    ·rw [if_neg c13] at H
     exact absurd H (by simp)
   ·rw [if_neg c12] at H
    exact absurd H (by simp)
 ·replace c3 := Bool.eq_false_iff.mpr c3
  subst c3
  have H1 : (some ((⟨#[]⟩ : ByteArray), false)) = some (r1, r2) := by rw [if_neg (show ¬ (false = true) by decide)] at H; exact H
  clear H
  have H := H1
  clear H1
  simp only [Option.some.injEq, Prod.mk.injEq] at H
  obtain ⟨rfl, rfl⟩ := H
  go_enter Try.func82, Try.ntmps82
  go_wp2_with (first | ((with_reducible refine gq (N := 1) rfl ?_); refine be (N := 1) (cs := #[.int .i64 a0_0, .int .i64 a0_1]) (t := 34) ?_; intro A5 hg AK hbox hb; have A0 := Z.m (hbox); have A1 := gW (w := w) HB hg; have A4 := A1; replace HB := bB HB hb; clear hb hbox hg; have Ac := bc0 A0; have Ad := bc1 A0; have Ak := qz A0.o 0; have Al := qz A0.o 1) | ((with_reducible refine gc (f := 70) rfl ?_); refine gA (some 6) _ #[.agg #[.int .i64 a0_0, .int .i64 a0_1]] ?_ Try.func70; (with_reducible refine (impl_IsCell.calls a0_0 a0_1 false _ A2.o).mono ?_); rintro e AL ⟨rfl, hb⟩; refine ⟨_, rfl, ?_⟩; replace A0 := kB A0 hb; replace HB := bB HB hb; (try clear hb); (try clear Az); (try clear hk); (try clear hi)))
  go_ret2
  exact ⟨by first | rfl | (simp [eN, eS] <;> rfl) | (simp [*, eN, eS] <;> rfl), vB HB⟩

/-! ### impl_CellsText: function 66 -/
def impl_CellsText.l0 : Nat → List Int → List (S34) → Int → Int → Option (ByteArray × Bool)
 | 0, _, _, _, _ => none
 | k + 1, x4, x13, x14, x15 => if x15 < x14 then (if 0 ≤ x15 then (if x15 < (x13.length : Int) then ((impl_CellLetter.f ((rd_T34 x13 x15).f0) ((rd_T34 x13 x15).f1)).bind fun bt490 => (if x4.length + bt490.1.size < 140737488355328 then (impl_CellsText.l0 k (x4 ++ bytesOf bt490.1) x13 x14 (wrap64 (x15 + 1))) else (none))) else (none)) else (none)) else (some (strOfNums x4, true))
def impl_CellsText.f (k : Nat) (l0 : List (S34)) : Option (ByteArray × Bool) := (impl_validCells.f k l0).bind fun t484 => (if t484 = true then (impl_CellsText.l0 k (([] : List Int)) l0 (l0.length : Int) 0) else (some ((⟨#[]⟩ : ByteArray), false)))
set_option maxHeartbeats 8000000 in
set_option maxRecDepth 100000 in
theorem impl_CellsText.calls (k : Nat) (A0 : Option Addr) (c0 : Nat) (l0 : List (S34)) (r1 : ByteArray) (r2 : Bool) (w : World) (hr0 : Kd.C k34 w A0 l0.length l0) (hc0 : l0.length ≤ c0) (h : impl_CellsText.f k l0 = some (r1, r2)) :
 Calls Try.prog 66 #[.slice A0 l0.length c0] w fun e w' => e = .returned (.tuple #[.string r1, .bool r2]) ∧ Below w.heap.size w w' := by
 have AF := Try.underlying34
 have Ar := Z.m hr0
 have Ax := Z.m hc0
 clear hr0 hc0
 have HB := Z.m (Below.refl w.heap.size w)
 have H : ((impl_validCells.f k l0).bind fun Ab => (if Ab = true then (impl_CellsText.l0 k (([] : List Int)) l0 (l0.length : Int) 0) else (some ((⟨#[]⟩ : ByteArray), false)))) = some (r1, r2) := h
 clear h
 replace H := Option.bind_eq_some_iff.mp H
 obtain ⟨Ab, Av, H⟩ := H
 replace H : (if Ab = true then (impl_CellsText.l0 k (([] : List Int)) l0 (l0.length : Int) 0) else (some ((⟨#[]⟩ : ByteArray), false))) = some (r1, r2) := H
 have A2 := Z.m Av
 clear Av
 by_cases c3 : Ab = true
 ·subst c3
  have H1 : (impl_CellsText.l0 k (([] : List Int)) l0 (l0.length : Int) 0) = some (r1, r2) := by rw [if_pos rfl] at H; exact H
  clear H
  have H := H1
  clear H1
  obtain ⟨Am, A7⟩ : ∃ y_ : List Int, y_ = (([] : List Int)) := ⟨_, rfl⟩
  replace H : (impl_CellsText.l0 k Am l0 (l0.length : Int) 0) = some (r1, r2) := by first | (rw [A7]; with_reducible exact H) | (have H2_ := (Option.bind_some _ _).symm.trans H; rw [A7]; with_reducible exact H2_) | (have H2_ := (Option.bind_some _ _).symm.trans H; with_reducible exact H2_) | with_reducible exact H | (rw [A7]; exact H) | exact H
  have Ac := Z.m A7
  clear A7
  have H' := Z.m H
  clear H
  go_enter Try.func66, Try.ntmps66
  go_wp2_with (first | ((with_reducible refine gc (f := 55) rfl ?_); refine gA (some 10) _ #[.slice A0 l0.length c0] ?_ Try.func55; (with_reducible refine (impl_validCells.calls k _ _ l0 true _ ?side1 ?side2 A2.o).mono ?_); (case side1 => repeat (first | exact Ar.o | (with_reducible refine Kd.C_alloc ?_ _) | (with_reducible refine Kd.C_drewN ?_ _) | (with_reducible refine Kd.C_drew ?_))); (case side2 => exact Ax.o); rintro e w4 ⟨rfl, hb⟩; refine ⟨_, rfl, ?_⟩; replace HB := bB HB hb; (try clear hb); (try clear AA); (try clear hk); (try clear hi)) | ((with_reducible refine gq (N := 12) rfl ?_); refine Kd.R_lit (Kd.int .u8) _ 5 ?hg (N := 12) ?hd (xs := ([] : List Int)) (inner := []) (ok := fun _ => True) (okp := fun _ => True) ?hr ?hp (fun _ hk => hk) trivial (Below.refl _ _) (Nat.le_refl _) (by simp) ?_; (case hd => rfl); (case hg => rfl); (case hr => first | (go_simp; done) | (go_simp; rfl)); (case hp => exact (Reps.none _ _)); intro AG w5 Al hb hg_ hnew_; clear hg_ hnew_; (first | rw [← Ac.o] at Al | (simp only [Int.reduceToNat] at Al; rw [← Ac.o] at Al)); have Ah := Z.m (Kd.R_lower Al (below_size (vB HB))); replace HB := bB HB hb; clear hb Al))
  go_loopg [4, 15] k (fun kq v4 v15 w' => ∃ (A9 : List Int) (A1 : Int), v15 = .int .i64 A1 ∧ Z (impl_CellsText.l0 kq A9 l0 (l0.length : Int) A1 = some (r1, r2)) ∧ Z (kq ≤ k) ∧ Z (Kd.R (Kd.int .u8) 5 w' w.heap.size (fun _ => True) v4 A9) ∧ Z (Below w.heap.size w w'))
  case atStart => exact ⟨(Am), (0), (by first | rfl | (simp; done) | (simp [*]; done)), H', ⟨Nat.le_refl _⟩, ⟨vR Ah⟩, ⟨vB HB⟩⟩
  case round =>
   clear H'
   (try clear c3)
   obtain ⟨A9, A1, rfl, HA, Ay, A6, HB⟩ := hrel
   cases gk with
   | zero => exact absurd HA.o (by simp [impl_CellsText.l0])
   | succ k1 =>
    have H := HA.o
    clear HA
    simp only [impl_CellsText.l0] at H
    by_cases c7 : A1 < (l0.length : Int)
    ·rw [if_pos c7] at H
     have As := decide_eq_true c7
     clear c7
     by_cases c8 : 0 ≤ A1
     ·rw [if_pos c8] at H
      have AD := decide_eq_true c8
      clear c8
      by_cases c9 : A1 < (l0.length : Int)
      ·rw [if_pos c9] at H
       have AE := decide_eq_true c9
       clear c9
       replace H := Option.bind_eq_some_iff.mp H
       obtain ⟨⟨Aa, At⟩, Af, H⟩ := H
       replace H : (if A9.length + Aa.size < 140737488355328 then (impl_CellsText.l0 k1 (A9 ++ bytesOf Aa) l0 (l0.length : Int) (wrap64 (A1 + 1))) else (none)) = some (r1, r2) := H
       have AC := Z.m Af
       clear Af
       by_cases c11 : A9.length + Aa.size < 140737488355328
       ·rw [if_pos c11] at H
        have Aj := Z.m c11
        clear c11
        obtain ⟨Ae, A8⟩ : ∃ y_ : List Int, y_ = (A9 ++ bytesOf Aa) := ⟨_, rfl⟩
        replace H : (impl_CellsText.l0 k1 Ae l0 (l0.length : Int) (wrap64 (A1 + 1))) = some (r1, r2) := by first | (rw [A8]; with_reducible exact H) | (have H2_ := (Option.bind_some _ _).symm.trans H; rw [A8]; with_reducible exact H2_) | (have H2_ := (Option.bind_some _ _).symm.trans H; with_reducible exact H2_) | with_reducible exact H | (rw [A8]; exact H) | exact H
        have Ak := Z.m A8
        clear A8
        have H' := Z.m H
        clear H
        have p488 : 0 ≤ (A1 : Int) := ofD
        have q488 : A1 < (l0.length : Int) := ofD
        obtain ⟨Az, e488, A4, A5⟩ := at_T34 Ar.o A1 p488 q488
        cases e488
        replace A4 := (HB.o.cell (World.block_lt_of_cell? w _ A4)).trans A4
        replace A5 := (HB.o.cell (World.block_lt_of_cell? w _ A5)).trans A5
        replace p488 := eq_true p488
        replace q488 := eq_true q488
        go_wp2_with (first | ((with_reducible refine gq (N := 6) rfl ?_); refine be (N := 6) (cs := #[.int .i64 0, .int .i64 0]) (t := 34) ?_; intro Ad hg AI hbox hb; have A3 := Z.m (hbox); have Ag := gW (w := w) HB hg; have Aw := Ag; replace A6 := Z.m (Kd.Rb (vR A6) hb); replace HB := bB HB hb; clear hb hbox hg; have An := bc0 A3; have Ao := bc1 A3; have Ap := qz A3.o 0; have Aq := qz A3.o 1) | ((with_reducible refine gc (f := 82) rfl ?_); refine gA (some 21) _ #[.agg #[.int .i64 ((rd_T34 l0 A1).f0), .int .i64 ((rd_T34 l0 A1).f1)]] ?_ Try.func82; (with_reducible refine (impl_CellLetter.calls ((rd_T34 l0 A1).f0) ((rd_T34 l0 A1).f1) Aa At _ AC.o).mono ?_); rintro e AJ ⟨rfl, hb⟩; refine ⟨_, rfl, ?_⟩; replace A6 := Z.m (Kd.Rb (by refine rK ?_; exact (Kd.Rm (rf (rf (Kd.Ry A6.o A3.o (by decide)))) (fun _ h_ => h_.1))) hb); replace A3 := Z.m (qb (g := Ad) (o := .cells #[.int .i64 ((rd_T34 l0 A1).f0), .int .i64 ((rd_T34 l0 A1).f1)] 34 (0, 0)) (by refine bK ?_; refine qp (cs := #[iV ((rd_T34 l0 A1).f0), iV 0]) ?_ 1 _ rfl; refine bK ?_; refine qp (cs := #[iV 0, iV 0]) ?_ 0 _ rfl; refine bK ?_; exact A3.o) hb); replace HB := bB HB hb; (try clear hb); (try clear AA); (try clear hk); (try clear hi)) | (at_builtin; refine print_append_str (w0 := w) w.heap.size rfl (.tmp 24) _ 86 9 5 rfl Try.underlying86 Try.underlying9 info5 u4 A9 Aa rfl rfl ?aO ?aB ?aS ?aL ?_; (case aB => exact (vB HB)); (case aO => exact (Kd.own_of_R (vR A6))); (case aS => exact (below_size (vB HB))); (case aL => have := Aj.o; omega); intro Au AH AB hb hg; have ho := Kd.R_of_own (h1 := fun _ => rfl) (ok := fun _ => True) AB (fun _ _ => trivial); clear AB; have hat := True.intro; rw [← Ak.o] at ho; change Kd.R (Kd.int .u8) 5 AH w.heap.size (fun _ => True) Au Ae at ho; have Ai := Z.m (ho); replace A3 := Z.m (qg (g := Ad) (o := .cells #[.int .i64 ((rd_T34 l0 A1).f0), .int .i64 ((rd_T34 l0 A1).f1)] 34 (0, 0)) (vK A3) hg (Kd.R_ne A6.o A3.o (by decide))); replace HB := Z.m (hb); clear A6; clear ho hb hg hat))
        go_roundg k1
        case measure => have := Ay.o; omega
        case rel => exact ⟨(Ae), (wrap64 (A1 + 1)), (by first | rfl | (simp; done) | (simp [*]; done)), H', ⟨by have := Ay.o; omega⟩, ⟨vR Ai⟩, ⟨vB HB⟩⟩
       ·rw [if_neg c11] at H
        exact absurd H (by simp)
      ·rw [if_neg c9] at H
       exact absurd H (by simp)
     ·rw [if_neg c8] at H
      exact absurd H (by simp)
    ·rw [if_neg c7] at H
     have As := decide_eq_false c7
     clear c7
     simp only [Option.some.injEq, Prod.mk.injEq] at H
     obtain ⟨rfl, rfl⟩ := H
     have hcv16 := own_string (P := Try.prog) Try.underlying86 Try.underlying5 Try.underlying9 (Kd.own_of_R A6.o)
     go_wp2
     go_ret2
     exact ⟨by first | rfl | (simp [eN, eS] <;> rfl) | (simp [*, eN, eS] <;> rfl), vB HB⟩
 ·replace c3 := Bool.eq_false_iff.mpr c3
  subst c3
  have H1 : (some ((⟨#[]⟩ : ByteArray), false)) = some (r1, r2) := by rw [if_neg (show ¬ (false = true) by decide)] at H; exact H
  clear H
  have H := H1
  clear H1
  simp only [Option.some.injEq, Prod.mk.injEq] at H
  obtain ⟨rfl, rfl⟩ := H
  go_enter Try.func66, Try.ntmps66
  go_wp2_with (first | ((with_reducible refine gc (f := 55) rfl ?_); refine gA (some 10) _ #[.slice A0 l0.length c0] ?_ Try.func55; (with_reducible refine (impl_validCells.calls k _ _ l0 false _ ?side1 ?side2 A2.o).mono ?_); (case side1 => repeat (first | exact Ar.o | (with_reducible refine Kd.C_alloc ?_ _) | (with_reducible refine Kd.C_drewN ?_ _) | (with_reducible refine Kd.C_drew ?_))); (case side2 => exact Ax.o); rintro e AK ⟨rfl, hb⟩; refine ⟨_, rfl, ?_⟩; replace HB := bB HB hb; (try clear hb); (try clear AA); (try clear hk); (try clear hi)))
  go_ret2
  exact ⟨by first | rfl | (simp [eN, eS] <;> rfl) | (simp [*, eN, eS] <;> rfl), vB HB⟩

/-! ### impl_BoardText: function 30 -/
def impl_BoardText.l0 : Nat → ByteArray → Int → Int → Int → List (S34) → Option (ByteArray × Bool)
 | 0, _, _, _, _, _ => none
 | k + 1, x4, x5, x496000, x496001, x496002 => if x5 < x496000 then (if 0 ≤ (wrap64 (x5 * x496001)) then (if (wrap64 (x5 * x496001)) ≤ (wrap64 ((wrap64 (x5 + 1)) * x496001)) then (if (wrap64 ((wrap64 (x5 + 1)) * x496001)) ≤ (x496002.length : Int) then ((impl_CellsText.f k ((x496002.take ((wrap64 ((wrap64 (x5 + 1)) * x496001)) : Int).toNat).drop ((wrap64 (x5 * x496001)) : Int).toNat)).bind fun bt501 => (if bt501.1.size + 1 ≤ 9223372036854775807 then (if x4.size + (bt501.1 ++ (⟨#[10]⟩ : ByteArray)).size ≤ 9223372036854775807 then (impl_BoardText.l0 k (x4 ++ (bt501.1 ++ (⟨#[10]⟩ : ByteArray))) (wrap64 (x5 + 1)) x496000 x496001 x496002) else (none)) else (none))) else (none)) else (none)) else (none)) else (some (x4, true))
def impl_BoardText.f (k : Nat) (a0_0 : Int) (a0_1 : Int) (l0_2 : List (S34)) : Option (ByteArray × Bool) := (impl_IsBoard.f k a0_0 a0_1 l0_2).bind fun t496 => (if t496 = true then (impl_BoardText.l0 k (⟨#[]⟩ : ByteArray) 0 a0_0 a0_1 l0_2) else (some ((⟨#[]⟩ : ByteArray), false)))
set_option maxHeartbeats 8000000 in
set_option maxRecDepth 100000 in
theorem impl_BoardText.calls (k : Nat) (a0_0 : Int) (a0_1 : Int) (A0_2 : Option Addr) (c0_2 : Nat) (l0_2 : List (S34)) (r1 : ByteArray) (r2 : Bool) (w : World) (hr0_2 : Kd.C k34 w A0_2 l0_2.length l0_2) (hc0_2 : l0_2.length ≤ c0_2) (h : impl_BoardText.f k a0_0 a0_1 l0_2 = some (r1, r2)) :
 Calls Try.prog 30 #[.agg #[.int .i64 a0_0, .int .i64 a0_1, .slice A0_2 l0_2.length c0_2]] w fun e w' => e = .returned (.tuple #[.string r1, .bool r2]) ∧ Below w.heap.size w w' := by
 have Ba := Try.underlying29
 have Ab := Z.m hr0_2
 have Aa := Z.m hc0_2
 clear hr0_2 hc0_2
 have HB := Z.m (Below.refl w.heap.size w)
 have H : ((impl_IsBoard.f k a0_0 a0_1 l0_2).bind fun Ae => (if Ae = true then (impl_BoardText.l0 k (⟨#[]⟩ : ByteArray) 0 a0_0 a0_1 l0_2) else (some ((⟨#[]⟩ : ByteArray), false)))) = some (r1, r2) := h
 clear h
 replace H := Option.bind_eq_some_iff.mp H
 obtain ⟨Ae, AN, H⟩ := H
 replace H : (if Ae = true then (impl_BoardText.l0 k (⟨#[]⟩ : ByteArray) 0 a0_0 a0_1 l0_2) else (some ((⟨#[]⟩ : ByteArray), false))) = some (r1, r2) := H
 have A2 := Z.m AN
 clear AN
 by_cases c3 : Ae = true
 ·subst c3
  have H1 : (impl_BoardText.l0 k (⟨#[]⟩ : ByteArray) 0 a0_0 a0_1 l0_2) = some (r1, r2) := by rw [if_pos rfl] at H; exact H
  clear H
  have H := H1
  clear H1
  have H' := Z.m H
  clear H
  go_enter Try.func30, Try.ntmps30
  go_wp2_with (first | ((with_reducible refine gq (N := 1) rfl ?_); refine be (N := 1) (cs := #[.int .i64 a0_0, .int .i64 a0_1, .slice A0_2 l0_2.length c0_2]) (t := 29) ?_; intro Ag hg w4 hbox hb; have A0 := Z.m (hbox); have A9 := gW (w := w) HB hg; have Ap := A9; replace HB := bB HB hb; clear hb hbox hg; have Ah := bc0 A0; have Ai := bc1 A0; have Aj := bc2 A0; have Ak := qz A0.o 0; have Al := qz A0.o 1; have Am := qz A0.o 2) | ((with_reducible refine gc (f := 18) rfl ?_); refine gA (some 9) _ #[.agg #[.int .i64 a0_0, .int .i64 a0_1, .slice A0_2 l0_2.length c0_2]] ?_ Try.func18; (with_reducible refine (impl_IsBoard.calls k a0_0 a0_1 _ _ l0_2 true _ ?side1 ?side2 A2.o).mono ?_); (case side1 => repeat (first | exact (Kd.C_below Ab.o HB.o) | (with_reducible refine Kd.C_alloc ?_ _) | (with_reducible refine Kd.C_drewN ?_ _) | (with_reducible refine Kd.C_drew ?_))); (case side2 => exact Aa.o); rintro e w6 ⟨rfl, hb⟩; refine ⟨_, rfl, ?_⟩; replace A0 := kB A0 hb; replace HB := bB HB hb; (try clear hb); (try clear AZ); (try clear hk); (try clear hi)))
  go_loopg [4, 5] k (fun kq v4 v5 w' => ∃ (A4 : ByteArray) (A3 : Int), v4 = .string A4 ∧ v5 = .int .i64 A3 ∧ Z (impl_BoardText.l0 kq A4 A3 a0_0 a0_1 l0_2 = some (r1, r2)) ∧ Z (kq ≤ k) ∧ Z (w'.heap[Ag]? = some (.cells #[.int .i64 a0_0, .int .i64 a0_1, (.slice A0_2 l0_2.length c0_2)] 29 (0, 0))) ∧ Z (Below w.heap.size w w'))
  case atStart => exact ⟨((⟨#[]⟩ : ByteArray)), (0), (by first | rfl | (simp; done) | (simp [*]; done)), (by first | rfl | (simp; done) | (simp [*]; done)), H', ⟨Nat.le_refl _⟩, ⟨vK A0⟩, ⟨vB HB⟩⟩
  case round =>
   clear H'
   (try clear c3)
   (try clear Ah); (try clear Ai); (try clear Aj); (try clear Ak); (try clear Al); (try clear Am)
   obtain ⟨A4, A3, rfl, rfl, HA, AO, A0, HB⟩ := hrel
   cases gk with
   | zero => exact absurd HA.o (by simp [impl_BoardText.l0])
   | succ k1 =>
    have H := HA.o
    clear HA
    simp only [impl_BoardText.l0] at H
    by_cases c7 : A3 < a0_0
    ·rw [if_pos c7] at H
     have AK := decide_eq_true c7
     clear c7
     obtain ⟨A8, An⟩ : ∃ j_ : Int, (wrap64 (A3 * a0_1)) = j_ := ⟨_, rfl⟩
     replace H : (if 0 ≤ (A8) then (if (A8) ≤ (wrap64 ((wrap64 (A3 + 1)) * a0_1)) then (if (wrap64 ((wrap64 (A3 + 1)) * a0_1)) ≤ (l0_2.length : Int) then ((impl_CellsText.f k1 ((l0_2.take ((wrap64 ((wrap64 (A3 + 1)) * a0_1)) : Int).toNat).drop ((A8) : Int).toNat)).bind fun bt501 => (if bt501.1.size + 1 ≤ 9223372036854775807 then (if A4.size + (bt501.1 ++ (⟨#[10]⟩ : ByteArray)).size ≤ 9223372036854775807 then (impl_BoardText.l0 k1 (A4 ++ (bt501.1 ++ (⟨#[10]⟩ : ByteArray))) (wrap64 (A3 + 1)) a0_0 a0_1 l0_2) else (none)) else (none))) else (none)) else (none)) else (none)) = some (r1, r2) := by first | (rw [An] at H; exact H) | (simp only [An] at H ⊢; exact H)
     have hji8w : (IntKind.i64.wrap (A3 * a0_1)) = A8 := (i64_w _).trans An
     by_cases c9 : 0 ≤ (A8)
     ·rw [if_pos c9] at H
      have B2 := eq_true c9
      have B9 := decide_eq_true c9
      clear c9
      by_cases c10 : (A8) ≤ (wrap64 ((wrap64 (A3 + 1)) * a0_1))
      ·rw [if_pos c10] at H
       have AP := eq_true c10
       have AQ := decide_eq_true c10
       by_cases c11 : (wrap64 ((wrap64 (A3 + 1)) * a0_1)) ≤ (l0_2.length : Int)
       ·rw [if_pos c11] at H
        have AR := eq_true c11
        have AS := decide_eq_true c11
        obtain ⟨A7, A6⟩ : ∃ y_ : List (S34), y_ = ((l0_2.take ((wrap64 ((wrap64 (A3 + 1)) * a0_1)) : Int).toNat).drop ((A8) : Int).toNat) := ⟨_, rfl⟩
        replace H : ((impl_CellsText.f k1 A7).bind fun bt501 => (if bt501.1.size + 1 ≤ 9223372036854775807 then (if A4.size + (bt501.1 ++ (⟨#[10]⟩ : ByteArray)).size ≤ 9223372036854775807 then (impl_BoardText.l0 k1 (A4 ++ (bt501.1 ++ (⟨#[10]⟩ : ByteArray))) (wrap64 (A3 + 1)) a0_0 a0_1 l0_2) else (none)) else (none))) = some (r1, r2) := by first | (rw [A6]; with_reducible exact H) | (have H2_ := (Option.bind_some _ _).symm.trans H; rw [A6]; with_reducible exact H2_) | (have H2_ := (Option.bind_some _ _).symm.trans H; with_reducible exact H2_) | with_reducible exact H | (rw [A6]; exact H) | exact H
        have Af := Z.m A6
        clear A6
        replace H := Option.bind_eq_some_iff.mp H
        obtain ⟨⟨A5, AL⟩, Ao, H⟩ := H
        replace H : (if A5.size + 1 ≤ 9223372036854775807 then (if A4.size + (A5 ++ (⟨#[10]⟩ : ByteArray)).size ≤ 9223372036854775807 then (impl_BoardText.l0 k1 (A4 ++ (A5 ++ (⟨#[10]⟩ : ByteArray))) (wrap64 (A3 + 1)) a0_0 a0_1 l0_2) else (none)) else (none)) = some (r1, r2) := H
        have B0 := Z.m Ao
        clear Ao
        by_cases c13 : A5.size + 1 ≤ 9223372036854775807
        ·rw [if_pos c13] at H
         have AT := eq_true c13
         have AU := decide_eq_true c13
         try have AV : (9223372036854775807 < A5.size + 1) = False := eq_false (Nat.not_lt.2 c13)
         by_cases c14 : A4.size + (A5 ++ (⟨#[10]⟩ : ByteArray)).size ≤ 9223372036854775807
         ·rw [if_pos c14] at H
          have AW := eq_true c14
          have AX := decide_eq_true c14
          try have AY : (9223372036854775807 < A4.size + (A5 ++ (⟨#[10]⟩ : ByteArray)).size) = False := eq_false (Nat.not_lt.2 c14)
          have H' := Z.m H
          clear H
          have As := bc0 A0
          have At := bc1 A0
          have Au := bc2 A0
          have AB := qz A0.o 0
          have AC := qz A0.o 1
          have AD := qz A0.o 2
          have q16 : ((wrap64 ((wrap64 (A3 + 1)) * a0_1)) : Int) ≤ ((l0_2.length : Int) : Int) := ofD
          obtain ⟨i016, hi016, _, hsz16, _⟩ := info_parts info34
          have hroom16 : l0_2.length ≤ c0_2 := Aa.o
          have hC16 : Kd.C k34 _ A0_2 l0_2.length l0_2 := Ab.o
          have ql16 : ((A8) : Int) ≤ ((wrap64 ((wrap64 (A3 + 1)) * a0_1)) : Int) := ofD
          have q016 : (0 : Int) ≤ ((A8) : Int) := ofD
          have hcut16 := cut_mid (P := Try.prog) 27 34 .i64 .i64 Try.underlying27 hi016 2 hsz16 A0_2 l0_2.length c0_2 (A8) (wrap64 ((wrap64 (A3 + 1)) * a0_1)) q016 ql16 q16 hroom16
          have Ac := Kd.C_mid (lo := ((A8) : Int).toNat) (hi := ((wrap64 ((wrap64 (A3 + 1)) * a0_1)) : Int).toNat) (c := c0_2) hC16 (by omega) (by omega) hroom16
          obtain ⟨AM, hA16⟩ : ∃ A1, A1 = (if c0_2 = ((A8) : Int).toNat then A0_2 else (A0_2 : Option Addr).map (·.add (((A8) : Int).toNat * 2))) := ⟨_, rfl⟩
          obtain ⟨c16, hc16⟩ : ∃ c1, c1 = c0_2 - ((A8) : Int).toNat := ⟨_, rfl⟩
          have Ad : A7.length = ((wrap64 ((wrap64 (A3 + 1)) * a0_1)) : Int).toNat - ((A8) : Int).toNat := (by rw [Af.o, List.length_drop, List.length_take] <;> omega)
          rw [show ((l0_2).take ((wrap64 ((wrap64 (A3 + 1)) * a0_1)) : Int).toNat).drop ((A8) : Int).toNat = A7 from Af.o.symm] at Ac
          replace Ac : Kd.C k34 _ AM A7.length A7 := (by rw [hA16]; exact Ac)
          rw [← Ad, ← hA16, ← hc16] at hcut16
          have Ar := Z.m Ac
          have Aq := Z.m (show A7.length ≤ c16 from by rw [Ad, hc16]; exact Nat.sub_le_sub_right (Nat.le_trans (by omega) hroom16) _)
          clear Ac hC16 hroom16 hi016 hsz16 hc16
          have KY16 := Z.m Ad
          have KA16 := Z.m hA16
          clear Ad hA16
          replace q16 := eq_true q16
          go_wp2_with (first | ((with_reducible refine gc (f := 66) rfl ?_); refine gA (some 30) _ #[.slice AM A7.length c16] ?_ Try.func66; (with_reducible refine (impl_CellsText.calls k1 _ _ A7 A5 AL _ ?side1 ?side2 B0.o).mono ?_); (case side1 => repeat (first | exact (Kd.C_below Ar.o HB.o) | (with_reducible refine Kd.C_alloc ?_ _) | (with_reducible refine Kd.C_drewN ?_ _) | (with_reducible refine Kd.C_drew ?_))); (case side2 => exact Aq.o); rintro e Bb ⟨rfl, hb⟩; refine ⟨_, rfl, ?_⟩; replace A0 := kB A0 hb; replace HB := bB HB hb; (try clear hb); (try clear AZ); (try clear hk); (try clear hi)))
          go_roundg k1
          case measure => have := AO.o; omega
          case rel => exact ⟨(A4 ++ (A5 ++ (⟨#[10]⟩ : ByteArray))), (wrap64 (A3 + 1)), (by first | rfl | (simp; done) | (simp [*]; done)), (by first | rfl | (simp; done) | (simp [*]; done)), H', ⟨by have := AO.o; omega⟩, ⟨vK A0⟩, ⟨vB HB⟩⟩
         ·rw [if_neg c14] at H
          exact absurd H (by simp)
        ·rw [if_neg c13] at H
         exact absurd H (by simp)
       ·rw [if_neg c11] at H
        exact absurd H (by simp)
      ·rw [if_neg c10] at H
       exact absurd H (by simp)
     ·rw [if_neg c9] at H
      exact absurd H (by simp)
    ·rw [if_neg c7] at H
     have AK := decide_eq_false c7
     clear c7
     simp only [Option.some.injEq, Prod.mk.injEq] at H
     obtain ⟨rfl, rfl⟩ := H
     have Av := bc0 A0
     have Aw := bc1 A0
     have Ax := bc2 A0
     have AE := qz A0.o 0
     have AF := qz A0.o 1
     have AG := qz A0.o 2
     go_wp2
     go_ret2
     exact ⟨by first | rfl | (simp [eN, eS] <;> rfl) | (simp [*, eN, eS] <;> rfl), vB HB⟩
 ·replace c3 := Bool.eq_false_iff.mpr c3
  subst c3
  have H1 : (some ((⟨#[]⟩ : ByteArray), false)) = some (r1, r2) := by rw [if_neg (show ¬ (false = true) by decide)] at H; exact H
  clear H
  have H := H1
  clear H1
  simp only [Option.some.injEq, Prod.mk.injEq] at H
  obtain ⟨rfl, rfl⟩ := H
  go_enter Try.func30, Try.ntmps30
  go_wp2_with (first | ((with_reducible refine gq (N := 1) rfl ?_); refine be (N := 1) (cs := #[.int .i64 a0_0, .int .i64 a0_1, .slice A0_2 l0_2.length c0_2]) (t := 29) ?_; intro Ag hg Bc hbox hb; have A0 := Z.m (hbox); have A9 := gW (w := w) HB hg; have Ap := A9; replace HB := bB HB hb; clear hb hbox hg; have Ay := bc0 A0; have Az := bc1 A0; have AA := bc2 A0; have AH := qz A0.o 0; have AI := qz A0.o 1; have AJ := qz A0.o 2) | ((with_reducible refine gc (f := 18) rfl ?_); refine gA (some 9) _ #[.agg #[.int .i64 a0_0, .int .i64 a0_1, .slice A0_2 l0_2.length c0_2]] ?_ Try.func18; (with_reducible refine (impl_IsBoard.calls k a0_0 a0_1 _ _ l0_2 false _ ?side1 ?side2 A2.o).mono ?_); (case side1 => repeat (first | exact (Kd.C_below Ab.o HB.o) | (with_reducible refine Kd.C_alloc ?_ _) | (with_reducible refine Kd.C_drewN ?_ _) | (with_reducible refine Kd.C_drew ?_))); (case side2 => exact Aa.o); rintro e Bd ⟨rfl, hb⟩; refine ⟨_, rfl, ?_⟩; replace A0 := kB A0 hb; replace HB := bB HB hb; (try clear hb); (try clear AZ); (try clear hk); (try clear hi)))
  go_ret2
  exact ⟨by first | rfl | (simp [eN, eS] <;> rfl) | (simp [*, eN, eS] <;> rfl), vB HB⟩

end Go.Proofs.Yteodcegmkbcjjaa.PAll
