/- Began as a text that print.sh wrote (of the functions named below); turned and shortened by this session. -/
import Derived.Test.YtklmdnlambinaaaDoorG0
namespace Go.Proofs.YtklmdnlambinaaaDoor.PAll
open Go.RowKit Go.Proofs.YtklmdnlambinaaaDoorW.PrintWords Go.Proofs.YtklmdnlambinaaaDoorW.PrintLast Go.Proofs.YtklmdnlambinaaaDoorW.PrintMore
attribute [local go_sem] max2_int min2_int max_two min_two max_three min_three max_four min_four   -- for this text's walks alone
set_option linter.unusedVariables false
set_option linter.unusedSimpArgs false

/-! ### spec_paLetter: function 51 -/
def spec_paLetter.f (a0_0 : Int) (a0_1 : Int) : Option (ByteArray) := if a0_1 = 1 then (if 0 ≤ a0_0 then (if a0_0 ≤ (wrap64 (a0_0 + 1)) then (if (wrap64 (a0_0 + 1)) ≤ 8 then (some ((⟨#[46, 46, 46, 70, 46, 46, 71, 46]⟩ : ByteArray).extract (a0_0 : Int).toNat ((wrap64 (a0_0 + 1)) : Int).toNat)) else (none)) else (none)) else (none)) else (if 0 ≤ a0_0 then (if a0_0 ≤ (wrap64 (a0_0 + 1)) then (if (wrap64 (a0_0 + 1)) ≤ 8 then (some ((⟨#[46, 108, 114, 102, 120, 111, 103, 99]⟩ : ByteArray).extract (a0_0 : Int).toNat ((wrap64 (a0_0 + 1)) : Int).toNat)) else (none)) else (none)) else (none))
set_option maxHeartbeats 8000000 in
set_option maxRecDepth 100000 in
theorem spec_paLetter.calls (a0_0 : Int) (a0_1 : Int) (r : ByteArray) (w : World) (h : spec_paLetter.f a0_0 a0_1 = some r) :
 Calls Tryd.prog 51 #[.agg #[.int .i64 a0_0, .int .i64 a0_1]] w fun e w' => e = .returned (.string r) ∧ Below w.heap.size w w' := by
 have Aq := Tryd.underlying62
 have HB := Z.m (Below.refl w.heap.size w)
 have H : (if a0_1 = 1 then (if 0 ≤ a0_0 then (if a0_0 ≤ (wrap64 (a0_0 + 1)) then (if (wrap64 (a0_0 + 1)) ≤ 8 then (some ((⟨#[46, 46, 46, 70, 46, 46, 71, 46]⟩ : ByteArray).extract (a0_0 : Int).toNat ((wrap64 (a0_0 + 1)) : Int).toNat)) else (none)) else (none)) else (none)) else (if 0 ≤ a0_0 then (if a0_0 ≤ (wrap64 (a0_0 + 1)) then (if (wrap64 (a0_0 + 1)) ≤ 8 then (some ((⟨#[46, 108, 114, 102, 120, 111, 103, 99]⟩ : ByteArray).extract (a0_0 : Int).toNat ((wrap64 (a0_0 + 1)) : Int).toNat)) else (none)) else (none)) else (none))) = some r := h
 clear h
 by_cases c2 : a0_1 = 1
 ·rw [if_pos c2] at H
  have A8 := beq_iff_eq.mpr c2
  have A9 := bne_eq_false_iff_eq.mpr c2
  clear c2
  by_cases c3 : 0 ≤ a0_0
  ·rw [if_pos c3] at H
   have Ag := eq_true c3
   have Ah := decide_eq_true c3
   clear c3
   by_cases c4 : a0_0 ≤ (wrap64 (a0_0 + 1))
   ·rw [if_pos c4] at H
    have Ai := eq_true c4
    have Aj := decide_eq_true c4
    by_cases c5 : (wrap64 (a0_0 + 1)) ≤ 8
    ·rw [if_pos c5] at H
     have Ak := eq_true c5
     have Al := decide_eq_true c5
     obtain rfl := Option.some.inj H
     go_enter Tryd.func51, Tryd.ntmps51
     go_wp2_with (first | ((with_reducible refine gq (N := 1) rfl ?_); refine be (N := 1) (cs := #[.int .i64 a0_0, .int .i64 a0_1]) (t := 62) ?_; intro A3 hg w6 hbox hb; have A0 := Z.m (hbox); have A1 := gW (w := w) HB hg; have A2 := A1; replace HB := bB HB hb; clear hb hbox hg; have Aa := bc0 A0; have Ab := bc1 A0; have Ac := qz A0.o 0; have Ad := qz A0.o 1))
     go_ret
     exact ⟨by first | rfl | (simp [eN, eS] <;> rfl) | (simp [*, eN, eS] <;> rfl), vB HB⟩
    ·rw [if_neg c5] at H
     exact absurd H (by simp)
   ·rw [if_neg c4] at H
    exact absurd H (by simp)
  ·rw [if_neg c3] at H
   exact absurd H (by simp)
 ·rw [if_neg c2] at H
  have A8 := beq_eq_false_iff_ne.mpr c2
  have A9 := bne_iff_ne.mpr c2
  by_cases c8 : 0 ≤ a0_0
  ·rw [if_pos c8] at H
   have Am := eq_true c8
   have An := decide_eq_true c8
   clear c8
   by_cases c9 : a0_0 ≤ (wrap64 (a0_0 + 1))
   ·rw [if_pos c9] at H
    have Ao := eq_true c9
    have Ap := decide_eq_true c9
    by_cases c10 : (wrap64 (a0_0 + 1)) ≤ 8
    ·rw [if_pos c10] at H
     have Ae := eq_true c10
     have Af := decide_eq_true c10
     obtain rfl := Option.some.inj H
     go_enter Tryd.func51, Tryd.ntmps51
     go_wp2_with (first | ((with_reducible refine gq (N := 1) rfl ?_); refine be (N := 1) (cs := #[.int .i64 a0_0, .int .i64 a0_1]) (t := 62) ?_; intro A3 hg Ar hbox hb; have A0 := Z.m (hbox); have A1 := gW (w := w) HB hg; have A2 := A1; replace HB := bB HB hb; clear hb hbox hg; have A4 := bc0 A0; have A5 := bc1 A0; have A6 := qz A0.o 0; have A7 := qz A0.o 1))
     go_ret
     exact ⟨by first | rfl | (simp [eN, eS] <;> rfl) | (simp [*, eN, eS] <;> rfl), vB HB⟩
    ·rw [if_neg c10] at H
     exact absurd H (by simp)
   ·rw [if_neg c9] at H
    exact absurd H (by simp)
  ·rw [if_neg c8] at H
   exact absurd H (by simp)

/-! ### spec_paText: function 39 -/
def spec_paText.l0 : Nat → ByteArray → List (S62) → Int → Int → Option (ByteArray)
 | 0, _, _, _, _ => none
 | k + 1, x3, x6, x7, x8 => if x8 < x7 then (if 0 ≤ x8 then (if x8 < (x6.length : Int) then ((spec_paLetter.f ((rd_T62 x6 x8).f0) ((rd_T62 x6 x8).f1)).bind fun t104 => (if x3.size + t104.size ≤ 9223372036854775807 then (spec_paText.l0 k (x3 ++ t104) x6 x7 (wrap64 (x8 + 1))) else (none))) else (none)) else (none)) else (some x3)
def spec_paText.f (k : Nat) (l0 : List (S62)) : Option (ByteArray) := spec_paText.l0 k (⟨#[]⟩ : ByteArray) l0 (l0.length : Int) 0
set_option maxHeartbeats 8000000 in
set_option maxRecDepth 100000 in
theorem spec_paText.calls (k : Nat) (A0 : Option Addr) (c0 : Nat) (l0 : List (S62)) (r : ByteArray) (w : World) (hr0 : Kd.C k62 w A0 l0.length l0) (hc0 : l0.length ≤ c0) (h : spec_paText.f k l0 = some r) :
 Calls Tryd.prog 39 #[.slice A0 l0.length c0] w fun e w' => e = .returned (.string r) ∧ Below w.heap.size w w' := by
 have Ap := Tryd.underlying62
 have Aj := Z.m hr0
 have Aq := Z.m hc0
 clear hr0 hc0
 have HB := Z.m (Below.refl w.heap.size w)
 have H : (spec_paText.l0 k (⟨#[]⟩ : ByteArray) l0 (l0.length : Int) 0) = some r := h
 clear h
 have H' := Z.m H
 clear H
 go_enter Tryd.func39, Tryd.ntmps39
 go_wp2
 go_loopg [3, 8] k (fun kq v3 v8 w' => ∃ (A6 : ByteArray) (A1 : Int), v3 = .string A6 ∧ v8 = .int .i64 A1 ∧ Z (spec_paText.l0 kq A6 l0 (l0.length : Int) A1 = some r) ∧ Z (kq ≤ k) ∧ Z (Below w.heap.size w w'))
 case atStart => exact ⟨((⟨#[]⟩ : ByteArray)), (0), (by first | rfl | (simp; done) | (simp [*]; done)), (by first | rfl | (simp; done) | (simp [*]; done)), H', ⟨Nat.le_refl _⟩, ⟨vB HB⟩⟩
 case round =>
  clear H'
  obtain ⟨A6, A1, rfl, rfl, HA, Ah, HB⟩ := hrel
  cases gk with
  | zero => exact absurd HA.o (by simp [spec_paText.l0])
  | succ k1 =>
   have H := HA.o
   clear HA
   simp only [spec_paText.l0] at H
   by_cases c2 : A1 < (l0.length : Int)
   ·rw [if_pos c2] at H
    have Aa := decide_eq_true c2
    clear c2
    by_cases c3 : 0 ≤ A1
    ·rw [if_pos c3] at H
     have Ak := decide_eq_true c3
     clear c3
     by_cases c4 : A1 < (l0.length : Int)
     ·rw [if_pos c4] at H
      have Al := decide_eq_true c4
      clear c4
      replace H := Option.bind_eq_some_iff.mp H
      obtain ⟨A7, Af, H⟩ := H
      replace H : (if A6.size + A7.size ≤ 9223372036854775807 then (spec_paText.l0 k1 (A6 ++ A7) l0 (l0.length : Int) (wrap64 (A1 + 1))) else (none)) = some r := H
      have A5 := Z.m Af
      clear Af
      by_cases c6 : A6.size + A7.size ≤ 9223372036854775807
      ·rw [if_pos c6] at H
       have Am := eq_true c6
       have An := decide_eq_true c6
       try have Ao : (9223372036854775807 < A6.size + A7.size) = False := eq_false (Nat.not_lt.2 c6)
       have H' := Z.m H
       clear H
       have p102 : 0 ≤ (A1 : Int) := ofD
       have q102 : A1 < (l0.length : Int) := ofD
       obtain ⟨Ai, e102, A3, A4⟩ := at_T62 Aj.o A1 p102 q102
       cases e102
       replace A3 := (HB.o.cell (World.block_lt_of_cell? w _ A3)).trans A3
       replace A4 := (HB.o.cell (World.block_lt_of_cell? w _ A4)).trans A4
       replace p102 := eq_true p102
       replace q102 := eq_true q102
       go_wp2_with (first | ((with_reducible refine gq (N := 5) rfl ?_); refine be (N := 5) (cs := #[.int .i64 0, .int .i64 0]) (t := 62) ?_; intro A9 hg w7 hbox hb; have A2 := Z.m (hbox); have A8 := gW (w := w) HB hg; have Ag := A8; replace HB := bB HB hb; clear hb hbox hg; have Ab := bc0 A2; have Ac := bc1 A2; have Ad := qz A2.o 0; have Ae := qz A2.o 1) | ((with_reducible refine gc (f := 51) rfl ?_); refine gA (some 14) _ #[.agg #[.int .i64 ((rd_T62 l0 A1).f0), .int .i64 ((rd_T62 l0 A1).f1)]] ?_ Tryd.func51; (with_reducible refine (spec_paLetter.calls ((rd_T62 l0 A1).f0) ((rd_T62 l0 A1).f1) A7 _ A5.o).mono ?_); rintro e w9 ⟨rfl, hb⟩; refine ⟨_, rfl, ?_⟩; replace A2 := Z.m (qb (g := A9) (o := .cells #[.int .i64 ((rd_T62 l0 A1).f0), .int .i64 ((rd_T62 l0 A1).f1)] 62 (0, 0)) (by refine bK ?_; refine qp (cs := #[iV ((rd_T62 l0 A1).f0), iV 0]) ?_ 1 _ rfl; refine bK ?_; refine qp (cs := #[iV 0, iV 0]) ?_ 0 _ rfl; refine bK ?_; exact A2.o) hb); replace HB := bB HB hb; (try clear hb); (try clear Ar); (try clear hk); (try clear hi)))
       go_roundg k1
       case measure => have := Ah.o; omega
       case rel => exact ⟨(A6 ++ A7), (wrap64 (A1 + 1)), (by first | rfl | (simp; done) | (simp [*]; done)), (by first | rfl | (simp; done) | (simp [*]; done)), H', ⟨by have := Ah.o; omega⟩, ⟨vB HB⟩⟩
      ·rw [if_neg c6] at H
       exact absurd H (by simp)
     ·rw [if_neg c4] at H
      exact absurd H (by simp)
    ·rw [if_neg c3] at H
     exact absurd H (by simp)
   ·rw [if_neg c2] at H
    have Aa := decide_eq_false c2
    clear c2
    obtain rfl := Option.some.inj H
    go_wp2
    go_ret
    exact ⟨by first | rfl | (simp [eN, eS] <;> rfl) | (simp [*, eN, eS] <;> rfl), vB HB⟩

/-! ### spec_boRow: function 40 -/
set_option maxHeartbeats 8000000 in
set_option maxRecDepth 100000 in
/-- The part of the board's own row that boRow hands back. -/
theorem spec_boRow.calls (a0_0 a0_1 : Int) (A0_2 : Option Addr) (c0_2 : Nat) (l0_2 : List S62) (a1 ji : Int) (w : World) (hc0_2 : l0_2.length ≤ c0_2) (hji : wrap64 (a1 * a0_1) = ji) (h0 : 0 ≤ ji) (h1 : ji ≤ wrap64 ((wrap64 (a1 + 1)) * a0_1)) (h2 : wrap64 ((wrap64 (a1 + 1)) * a0_1) ≤ (l0_2.length : Int)) :
 Calls Tryd.prog 40 #[.agg #[.int .i64 a0_0, .int .i64 a0_1, .slice A0_2 l0_2.length c0_2], .int .i64 a1] w fun e w' => e = .returned (.slice (if c0_2 = ((ji) : Int).toNat then A0_2 else (A0_2 : Option Addr).map (·.add (((ji) : Int).toNat * 2))) (((wrap64 ((wrap64 (a1 + 1)) * a0_1)) : Int).toNat - ((ji) : Int).toNat) (c0_2 - ((ji) : Int).toNat)) ∧ Below w.heap.size w w' := by
 have A0 := Tryd.underlying24
 have HB := Z.m (Below.refl w.heap.size w)
 have hjiw : (IntKind.i64.wrap (a1 * a0_1)) = ji := (i64_w _).trans hji
 obtain ⟨i0, hi0, _, hsz, _⟩ := info_parts info62
 have hcut := cut_mid (P := Tryd.prog) 22 62 .i64 .i64 Tryd.underlying22 hi0 2 hsz A0_2 l0_2.length c0_2 (ji) (wrap64 ((wrap64 (a1 + 1)) * a0_1)) h0 h1 h2 hc0_2
 clear hi0 hsz
 generalize (if c0_2 = ((ji) : Int).toNat then A0_2 else (A0_2 : Option Addr).map (·.add (((ji) : Int).toNat * 2))) = Ce at hcut ⊢
 go_enter Tryd.func40, Tryd.ntmps40
 go_wp2_with (first | ((with_reducible refine gq (N := 2) rfl ?_); refine be (N := 2) (cs := #[.int .i64 a0_0, .int .i64 a0_1, .slice A0_2 l0_2.length c0_2]) (t := 24) ?_; intro gb hg w2 hbox hb; have BK := Z.m (hbox); have GW := gW (w := w) HB hg; replace HB := bB HB hb; clear hb hbox hg; have hcz_0 := bc0 BK; have hcz_1 := bc1 BK; have hcz_2 := bc2 BK))
 go_ret
 exact ⟨by first | rfl | (simp; done) | (simp [*] <;> rfl), vB HB⟩

/-! ### spec_boText: function 24 -/
def spec_boText.l0 : Nat → ByteArray → Int → Int → Int → List (S62) → Option (ByteArray)
 | 0, _, _, _, _, _ => none
 | k + 1, x3, x4, x111000, x111001, x111002 => if x4 < x111000 then (if 0 ≤ (wrap64 (x4 * x111001)) then (if (wrap64 (x4 * x111001)) ≤ (wrap64 ((wrap64 (x4 + 1)) * x111001)) then (if (wrap64 ((wrap64 (x4 + 1)) * x111001)) ≤ (x111002.length : Int) then ((spec_paText.f k ((x111002.take ((wrap64 ((wrap64 (x4 + 1)) * x111001)) : Int).toNat).drop ((wrap64 (x4 * x111001)) : Int).toNat)).bind fun t115 => (if t115.size + 1 ≤ 9223372036854775807 then (if x3.size + (t115 ++ (⟨#[10]⟩ : ByteArray)).size ≤ 9223372036854775807 then (spec_boText.l0 k (x3 ++ (t115 ++ (⟨#[10]⟩ : ByteArray))) (wrap64 (x4 + 1)) x111000 x111001 x111002) else (none)) else (none))) else (none)) else (none)) else (none)) else (some x3)
def spec_boText.f (k : Nat) (a0_0 : Int) (a0_1 : Int) (l0_2 : List (S62)) : Option (ByteArray) := spec_boText.l0 k (⟨#[]⟩ : ByteArray) 0 a0_0 a0_1 l0_2
set_option maxHeartbeats 8000000 in
set_option maxRecDepth 100000 in
theorem spec_boText.calls (k : Nat) (a0_0 : Int) (a0_1 : Int) (A0_2 : Option Addr) (c0_2 : Nat) (l0_2 : List (S62)) (r : ByteArray) (w : World) (hr0_2 : Kd.C k62 w A0_2 l0_2.length l0_2) (hc0_2 : l0_2.length ≤ c0_2) (h : spec_boText.f k a0_0 a0_1 l0_2 = some r) :
 Calls Tryd.prog 24 #[.agg #[.int .i64 a0_0, .int .i64 a0_1, .slice A0_2 l0_2.length c0_2]] w fun e w' => e = .returned (.string r) ∧ Below w.heap.size w w' := by
 have AM := Tryd.underlying24
 have Ag := Z.m hr0_2
 have Ac := Z.m hc0_2
 clear hr0_2 hc0_2
 have HB := Z.m (Below.refl w.heap.size w)
 have H : (spec_boText.l0 k (⟨#[]⟩ : ByteArray) 0 a0_0 a0_1 l0_2) = some r := h
 clear h
 have H' := Z.m H
 clear H
 go_enter Tryd.func24, Tryd.ntmps24
 go_wp2_with (first | ((with_reducible refine gq (N := 1) rfl ?_); refine be (N := 1) (cs := #[.int .i64 a0_0, .int .i64 a0_1, .slice A0_2 l0_2.length c0_2]) (t := 24) ?_; intro Ai hg w2 hbox hb; have A0 := Z.m (hbox); have Ae := gW (w := w) HB hg; have Ay := Ae; replace HB := bB HB hb; clear hb hbox hg))
 go_loopg [3, 4] k (fun kq v3 v4 w' => ∃ (A4 : ByteArray) (A2 : Int), v3 = .string A4 ∧ v4 = .int .i64 A2 ∧ Z (spec_boText.l0 kq A4 A2 a0_0 a0_1 l0_2 = some r) ∧ Z (kq ≤ k) ∧ Z (w'.heap[Ai]? = some (.cells #[.int .i64 a0_0, .int .i64 a0_1, (.slice A0_2 l0_2.length c0_2)] 24 (0, 0))) ∧ Z (Below w.heap.size w w'))
 case atStart => exact ⟨((⟨#[]⟩ : ByteArray)), (0), (by first | rfl | (simp; done) | (simp [*]; done)), (by first | rfl | (simp; done) | (simp [*]; done)), H', ⟨Nat.le_refl _⟩, ⟨vK A0⟩, ⟨vB HB⟩⟩
 case round =>
  clear H'
  obtain ⟨A4, A2, rfl, rfl, HA, Az, A0, HB⟩ := hrel
  cases gk with
  | zero => exact absurd HA.o (by simp [spec_boText.l0])
  | succ k1 =>
   have H := HA.o
   clear HA
   simp only [spec_boText.l0] at H
   by_cases c3 : A2 < a0_0
   ·rw [if_pos c3] at H
    have Av := decide_eq_true c3
    clear c3
    obtain ⟨A6, Aa⟩ : ∃ j_ : Int, (wrap64 (A2 * a0_1)) = j_ := ⟨_, rfl⟩
    replace H : (if 0 ≤ (A6) then (if (A6) ≤ (wrap64 ((wrap64 (A2 + 1)) * a0_1)) then (if (wrap64 ((wrap64 (A2 + 1)) * a0_1)) ≤ (l0_2.length : Int) then ((spec_paText.f k1 ((l0_2.take ((wrap64 ((wrap64 (A2 + 1)) * a0_1)) : Int).toNat).drop ((A6) : Int).toNat)).bind fun A3 => (if A3.size + 1 ≤ 9223372036854775807 then (if A4.size + (A3 ++ (⟨#[10]⟩ : ByteArray)).size ≤ 9223372036854775807 then (spec_boText.l0 k1 (A4 ++ (A3 ++ (⟨#[10]⟩ : ByteArray))) (wrap64 (A2 + 1)) a0_0 a0_1 l0_2) else (none)) else (none))) else (none)) else (none)) else (none)) = some r := by first | (rw [Aa] at H; exact H) | (simp only [Aa] at H ⊢; exact H)
    have hji4w : (IntKind.i64.wrap (A2 * a0_1)) = A6 := (i64_w _).trans Aa
    by_cases c5 : 0 ≤ (A6)
    ·rw [if_pos c5] at H
     have AD := eq_true c5
     have AE := decide_eq_true c5
     clear c5
     by_cases c6 : (A6) ≤ (wrap64 ((wrap64 (A2 + 1)) * a0_1))
     ·rw [if_pos c6] at H
      have AF := eq_true c6
      have AG := decide_eq_true c6
      by_cases c7 : (wrap64 ((wrap64 (A2 + 1)) * a0_1)) ≤ (l0_2.length : Int)
      ·rw [if_pos c7] at H
       have AH := eq_true c7
       have AI := decide_eq_true c7
       obtain ⟨A7, A5⟩ : ∃ y_ : List (S62), y_ = ((l0_2.take ((wrap64 ((wrap64 (A2 + 1)) * a0_1)) : Int).toNat).drop ((A6) : Int).toNat) := ⟨_, rfl⟩
       replace H : ((spec_paText.f k1 A7).bind fun A3 => (if A3.size + 1 ≤ 9223372036854775807 then (if A4.size + (A3 ++ (⟨#[10]⟩ : ByteArray)).size ≤ 9223372036854775807 then (spec_boText.l0 k1 (A4 ++ (A3 ++ (⟨#[10]⟩ : ByteArray))) (wrap64 (A2 + 1)) a0_0 a0_1 l0_2) else (none)) else (none))) = some r := by first | (rw [A5]; with_reducible exact H) | (have H2_ := (Option.bind_some _ _).symm.trans H; rw [A5]; with_reducible exact H2_) | (have H2_ := (Option.bind_some _ _).symm.trans H; with_reducible exact H2_) | with_reducible exact H | (rw [A5]; exact H) | exact H
       have Ad := Z.m A5
       clear A5
       replace H := Option.bind_eq_some_iff.mp H
       obtain ⟨A3, Ax, H⟩ := H
       replace H : (if A3.size + 1 ≤ 9223372036854775807 then (if A4.size + (A3 ++ (⟨#[10]⟩ : ByteArray)).size ≤ 9223372036854775807 then (spec_boText.l0 k1 (A4 ++ (A3 ++ (⟨#[10]⟩ : ByteArray))) (wrap64 (A2 + 1)) a0_0 a0_1 l0_2) else (none)) else (none)) = some r := H
       have A8 := Z.m Ax
       clear Ax
       by_cases c9 : A3.size + 1 ≤ 9223372036854775807
       ·rw [if_pos c9] at H
        have AJ := eq_true c9
        have AK := decide_eq_true c9
        try have AL : (9223372036854775807 < A3.size + 1) = False := eq_false (Nat.not_lt.2 c9)
        by_cases c10 : A4.size + (A3 ++ (⟨#[10]⟩ : ByteArray)).size ≤ 9223372036854775807
        ·rw [if_pos c10] at H
         have AA := eq_true c10
         have AB := decide_eq_true c10
         try have AC : (9223372036854775807 < A4.size + (A3 ++ (⟨#[10]⟩ : ByteArray)).size) = False := eq_false (Nat.not_lt.2 c10)
         have H' := Z.m H
         clear H
         have Aj := bc0 A0
         have Ak := bc1 A0
         have Al := bc2 A0
         have Ap := qz A0.o 0
         have Aq := qz A0.o 1
         have Ar := qz A0.o 2
         have q12 : ((wrap64 ((wrap64 (A2 + 1)) * a0_1)) : Int) ≤ ((l0_2.length : Int) : Int) := ofD
         obtain ⟨i012, hi012, _, hsz12, _⟩ := info_parts info62
         have hroom12 : l0_2.length ≤ c0_2 := Ac.o
         have hC12 : Kd.C k62 _ A0_2 l0_2.length l0_2 := Ag.o
         have ql12 : ((A6) : Int) ≤ ((wrap64 ((wrap64 (A2 + 1)) * a0_1)) : Int) := ofD
         have q012 : (0 : Int) ≤ ((A6) : Int) := ofD
         have hcut12 := cut_mid (P := Tryd.prog) 22 62 .i64 .i64 Tryd.underlying22 hi012 2 hsz12 A0_2 l0_2.length c0_2 (A6) (wrap64 ((wrap64 (A2 + 1)) * a0_1)) q012 ql12 q12 hroom12
         have A9 := Kd.C_mid (lo := ((A6) : Int).toNat) (hi := ((wrap64 ((wrap64 (A2 + 1)) * a0_1)) : Int).toNat) (c := c0_2) hC12 (by omega) (by omega) hroom12
         obtain ⟨Aw, hA12⟩ : ∃ A1, A1 = (if c0_2 = ((A6) : Int).toNat then A0_2 else (A0_2 : Option Addr).map (·.add (((A6) : Int).toNat * 2))) := ⟨_, rfl⟩
         obtain ⟨c12, hc12⟩ : ∃ c1, c1 = c0_2 - ((A6) : Int).toNat := ⟨_, rfl⟩
         have Ab : A7.length = ((wrap64 ((wrap64 (A2 + 1)) * a0_1)) : Int).toNat - ((A6) : Int).toNat := (by rw [Ad.o, List.length_drop, List.length_take] <;> omega)
         rw [show ((l0_2).take ((wrap64 ((wrap64 (A2 + 1)) * a0_1)) : Int).toNat).drop ((A6) : Int).toNat = A7 from Ad.o.symm] at A9
         replace A9 : Kd.C k62 _ Aw A7.length A7 := (by rw [hA12]; exact A9)
         rw [← Ab, ← hA12, ← hc12] at hcut12
         have Ah := Z.m A9
         have Af := Z.m (show A7.length ≤ c12 from by rw [Ab, hc12]; exact Nat.sub_le_sub_right (Nat.le_trans (by omega) hroom12) _)
         clear A9 hC12 hroom12 hi012 hsz12
         have KY12 := Z.m Ab
         have KA12 := Z.m hA12
         clear Ab hA12
         replace q12 := eq_true q12
         go_wp2_with (first | ((with_reducible refine gc (f := 40) rfl ?_); refine gA (some 14) _ #[.agg #[.int .i64 a0_0, .int .i64 a0_1, .slice A0_2 l0_2.length c0_2], .int .i64 A2] ?_ Tryd.func40; (with_reducible refine (spec_boRow.calls a0_0 a0_1 A0_2 c0_2 l0_2 A2 A6 _ ?side1 Aa q012 ql12 (of_eq_true q12)).mono ?_); (case side1 => exact Ac.o); rintro e wb ⟨rfl, hb⟩; refine ⟨_, rfl, ?_⟩; rw [← KY12.o, ← KA12.o, ← hc12]; replace A0 := kB A0 hb; replace HB := bB HB hb; (try clear hb)) | ((with_reducible refine gc (f := 39) rfl ?_); refine gA (some 15) _ #[.slice Aw A7.length c12] ?_ Tryd.func39; (with_reducible refine (spec_paText.calls k1 _ _ A7 A3 _ ?side1 ?side2 A8.o).mono ?_); (case side1 => repeat (first | exact (Kd.C_below Ah.o HB.o) | (with_reducible refine Kd.C_alloc ?_ _) | (with_reducible refine Kd.C_drewN ?_ _) | (with_reducible refine Kd.C_drew ?_))); (case side2 => exact Af.o); rintro e AO ⟨rfl, hb⟩; refine ⟨_, rfl, ?_⟩; replace A0 := kB A0 hb; replace HB := bB HB hb; (try clear hb); (try clear AN); (try clear hk); (try clear hi)))
         go_roundg k1
         case measure => have := Az.o; omega
         case rel => exact ⟨(A4 ++ (A3 ++ (⟨#[10]⟩ : ByteArray))), (wrap64 (A2 + 1)), (by first | rfl | (simp; done) | (simp [*]; done)), (by first | rfl | (simp; done) | (simp [*]; done)), H', ⟨by have := Az.o; omega⟩, ⟨vK A0⟩, ⟨vB HB⟩⟩
        ·rw [if_neg c10] at H
         exact absurd H (by simp)
       ·rw [if_neg c9] at H
        exact absurd H (by simp)
      ·rw [if_neg c7] at H
       exact absurd H (by simp)
     ·rw [if_neg c6] at H
      exact absurd H (by simp)
    ·rw [if_neg c5] at H
     exact absurd H (by simp)
   ·rw [if_neg c3] at H
    have Av := decide_eq_false c3
    clear c3
    obtain rfl := Option.some.inj H
    have Am := bc0 A0
    have An := bc1 A0
    have Ao := bc2 A0
    have As := qz A0.o 0
    have At := qz A0.o 1
    have Au := qz A0.o 2
    go_wp2
    go_ret
    exact ⟨by first | rfl | (simp [eN, eS] <;> rfl) | (simp [*, eN, eS] <;> rfl), vB HB⟩

/-! ### spec_l1Split: function 29 -/
def spec_l1Split.l0 : Nat → ByteArray → Int → List ByteArray → Int → Int → Option (List ByteArray)
 | 0, _, _, _, _, _ => none
 | k + 1, x0, x1, x5, x6, x7 => if x7 < (x0.size : Int) then (if 0 ≤ x7 then (if (bt x0 x7) = x1 then (if 0 ≤ x6 then (if x6 ≤ x7 then (if x7 ≤ (x0.size : Int) then (if x5.length < 8796093022208 then (spec_l1Split.l0 k x0 x1 (x5 ++ [x0.extract (x6 : Int).toNat (x7 : Int).toNat]) (wrap64 (x7 + 1)) (wrap64 (x7 + 1))) else (none)) else (none)) else (none)) else (none)) else (spec_l1Split.l0 k x0 x1 x5 x6 (wrap64 (x7 + 1)))) else (none)) else (if 0 ≤ x6 then (if x6 ≤ (x0.size : Int) then (if x5.length < 8796093022208 then (some (x5 ++ [x0.extract (x6 : Int).toNat x0.size])) else (none)) else (none)) else (none))
def spec_l1Split.f (k : Nat) (a0 : ByteArray) (a1 : Int) : Option (List ByteArray) := spec_l1Split.l0 k a0 a1 ([] : List ByteArray) 0 0
set_option maxHeartbeats 8000000 in
set_option maxRecDepth 100000 in
theorem spec_l1Split.calls (k : Nat) (a0 : ByteArray) (a1 : Int) (r : List ByteArray) (w : World) (h : spec_l1Split.f k a0 a1 = some r) :
 Calls Tryd.prog 29 #[.string a0, .int .u8 a1] w fun e w' => ∃ v0_ : Value, e = .returned (v0_) ∧ Kd.R Kd.string 9 w' w.heap.size (fun _ => True) v0_ r ∧ Below w.heap.size w w' := by
 have HB := Z.m (Below.refl w.heap.size w)
 have H : (spec_l1Split.l0 k a0 a1 ([] : List ByteArray) 0 0) = some r := h
 clear h
 have H' := Z.m H
 clear H
 go_enter Tryd.func29, Tryd.ntmps29
 go_wp2
 go_loopg [5, 6, 7] k (fun kq v5 v6 v7 w' => ∃ (A2 : List ByteArray) (A1 : Int) (A0 : Int), v6 = .int .i64 A1 ∧ v7 = .int .i64 A0 ∧ Z (spec_l1Split.l0 kq a0 a1 A2 A1 A0 = some r) ∧ Z (kq ≤ k) ∧ Z (Kd.R Kd.string 9 w' w.heap.size (fun _ => True) v5 A2) ∧ Z (Below w.heap.size w w'))
 case atStart => exact ⟨(([] : List ByteArray)), (0), (0), (by first | rfl | (simp; done) | (simp [*]; done)), (by first | rfl | (simp; done) | (simp [*]; done)), H', ⟨Nat.le_refl _⟩, ⟨by first | exact Kd.R_nil _ _ _ _ _ | exact Kd.N_nil _ _ _ _ _ | exact Kd.V_nil _ _ _ _ _ | exact Kd.Q_nil _ _ _ _ _ | exact Kd.S_nil _ _ _ _ _⟩, ⟨vB HB⟩⟩
 case round =>
  clear H'
  obtain ⟨A2, A1, A0, rfl, rfl, HA, Ad, A5, HB⟩ := hrel
  cases gk with
  | zero => exact absurd HA.o (by simp [spec_l1Split.l0])
  | succ k1 =>
   have H := HA.o
   clear HA
   simp only [spec_l1Split.l0] at H
   by_cases c3 : A0 < (a0.size : Int)
   ·rw [if_pos c3] at H
    have Ae := decide_eq_true c3
    clear c3
    by_cases c4 : 0 ≤ A0
    ·rw [if_pos c4] at H
     have Am := decide_eq_true c4
     clear c4
     by_cases c6 : (bt a0 A0) = a1
     ·rw [if_pos c6] at H
      have Af := beq_iff_eq.mpr c6
      have Ag := bne_eq_false_iff_eq.mpr c6
      clear c6
      by_cases c7 : 0 ≤ A1
      ·rw [if_pos c7] at H
       have An := eq_true c7
       have Ao := decide_eq_true c7
       clear c7
       by_cases c8 : A1 ≤ A0
       ·rw [if_pos c8] at H
        have Ap := eq_true c8
        have Aq := decide_eq_true c8
        clear c8
        by_cases c9 : A0 ≤ (a0.size : Int)
        ·rw [if_pos c9] at H
         have Ar := eq_true c9
         have As := decide_eq_true c9
         clear c9
         by_cases c10 : A2.length < 8796093022208
         ·rw [if_pos c10] at H
          have A8 := Z.m c10
          clear c10
          obtain ⟨Ac, A3⟩ : ∃ y_ : List ByteArray, y_ = (A2 ++ [a0.extract (A1 : Int).toNat (A0 : Int).toNat]) := ⟨_, rfl⟩
          replace H : (spec_l1Split.l0 k1 a0 a1 Ac (wrap64 (A0 + 1)) (wrap64 (A0 + 1))) = some r := by first | (rw [A3]; with_reducible exact H) | (have H2_ := (Option.bind_some _ _).symm.trans H; rw [A3]; with_reducible exact H2_) | (have H2_ := (Option.bind_some _ _).symm.trans H; with_reducible exact H2_) | with_reducible exact H | (rw [A3]; exact H) | exact H
          have Aa := Z.m A3
          clear A3
          have H' := Z.m H
          clear H
          have p5 : 0 ≤ (A0 : Int) := ofD
          have q5 : A0 < (a0.size : Int) := ofD
          have At := bt_at a0 A0
          replace p5 := eq_true p5
          replace q5 := eq_true q5
          go_wp2_with (first | ((with_reducible refine gu (b := .append) (xs := #[.tmp 19, .tmp 24]) rfl ?_); at_builtin; refine Kd.R_append Kd.string (w0 := w) w.heap.size rfl (.tmp 19) (.tmp 24) 43 9 (.string ⟨#[]⟩) 16 rfl Tryd.underlying43 info9 rfl (by decide) (by omega) u5 A2 (a0.extract (A1 : Int).toNat (A0 : Int).toNat) [.string (a0.extract (A1 : Int).toNat (A0 : Int).toNat)] (fun _ => True) (fun _ => False) rfl rfl ?aP (fun _ hk => hk.elim) ?aF ?aO ?aB ?aS ?aL ?_; (case aP => exact rfl); (case aB => exact (vB HB)); (case aF => exact (fun _ _ => trivial)); (case aO => exact (vR A5)); (case aS => exact (below_size (vB HB))); (case aL => have := A8.o; omega); intro Au Aw ho hb hg hat; rw [← Aa.o] at ho; have A6 := Z.m (ho); replace HB := Z.m (hb); clear A5; clear ho hb hg hat))
          go_roundg k1
          case measure => have := Ad.o; omega
          case rel => exact ⟨(Ac), (wrap64 (A0 + 1)), (wrap64 (A0 + 1)), (by first | rfl | (simp; done) | (simp [*]; done)), (by first | rfl | (simp; done) | (simp [*]; done)), H', ⟨by have := Ad.o; omega⟩, ⟨vR A6⟩, ⟨vB HB⟩⟩
         ·rw [if_neg c10] at H
          exact absurd H (by simp)
        ·rw [if_neg c9] at H
         exact absurd H (by simp)
       ·rw [if_neg c8] at H
        exact absurd H (by simp)
      ·rw [if_neg c7] at H
       exact absurd H (by simp)
     ·rw [if_neg c6] at H
      have Af := beq_eq_false_iff_ne.mpr c6
      have Ag := bne_iff_ne.mpr c6
      have H' := Z.m H
      clear H
      have p5 : 0 ≤ (A0 : Int) := ofD
      have q5 : A0 < (a0.size : Int) := ofD
      have At := bt_at a0 A0
      replace p5 := eq_true p5
      replace q5 := eq_true q5
      go_wp2
      go_roundg k1
      case measure => have := Ad.o; omega
      case rel => exact ⟨(A2), (A1), (wrap64 (A0 + 1)), (by first | rfl | (simp; done) | (simp [*]; done)), (by first | rfl | (simp; done) | (simp [*]; done)), H', ⟨by have := Ad.o; omega⟩, ⟨vR A5⟩, ⟨vB HB⟩⟩
    ·rw [if_neg c4] at H
     exact absurd H (by simp)
   ·rw [if_neg c3] at H
    have Ae := decide_eq_false c3
    clear c3
    by_cases c12 : 0 ≤ A1
    ·rw [if_pos c12] at H
     have Ai := eq_true c12
     have Aj := decide_eq_true c12
     clear c12
     by_cases c13 : A1 ≤ (a0.size : Int)
     ·rw [if_pos c13] at H
      have Ak := eq_true c13
      have Al := decide_eq_true c13
      clear c13
      by_cases c14 : A2.length < 8796093022208
      ·rw [if_pos c14] at H
       have A9 := Z.m c14
       clear c14
       obtain ⟨Ah, A4⟩ : ∃ y_ : List ByteArray, y_ = (A2 ++ [a0.extract (A1 : Int).toNat a0.size]) := ⟨_, rfl⟩
       replace H : (some Ah) = some r := by first | (rw [A4]; with_reducible exact H) | (have H2_ := (Option.bind_some _ _).symm.trans H; rw [A4]; with_reducible exact H2_) | (have H2_ := (Option.bind_some _ _).symm.trans H; with_reducible exact H2_) | with_reducible exact H | (rw [A4]; exact H) | exact H
       have Ab := Z.m A4
       clear A4
       obtain rfl := Option.some.inj H
       go_wp2_with (first | ((with_reducible refine gu (b := .append) (xs := #[.tmp 28, .tmp 32]) rfl ?_); at_builtin; refine Kd.R_append Kd.string (w0 := w) w.heap.size rfl (.tmp 28) (.tmp 32) 43 9 (.string ⟨#[]⟩) 16 rfl Tryd.underlying43 info9 rfl (by decide) (by omega) u5 A2 (a0.extract (A1 : Int).toNat a0.size) [.string (a0.extract (A1 : Int).toNat a0.size)] (fun _ => True) (fun _ => False) rfl rfl ?aP (fun _ hk => hk.elim) ?aF ?aO ?aB ?aS ?aL ?_; (case aP => exact rfl); (case aB => exact (vB HB)); (case aF => exact (fun _ _ => trivial)); (case aO => exact (vR A5)); (case aS => exact (below_size (vB HB))); (case aL => have := A9.o; omega); intro Av Ax ho hb hg hat; rw [← Ab.o] at ho; have A7 := Z.m (ho); replace HB := Z.m (hb); clear A5; clear ho hb hg hat))
       go_ret
       exact ⟨_, by first | rfl | (simp [eN, eS] <;> rfl) | (simp [*, eN, eS] <;> rfl), vR A7, vB HB⟩
      ·rw [if_neg c14] at H
       exact absurd H (by simp)
     ·rw [if_neg c13] at H
      exact absurd H (by simp)
    ·rw [if_neg c12] at H
     exact absurd H (by simp)

/-! ### spec_paTurning: function 56 -/
def spec_paTurning.f (a0_0 : Int) (a0_1 : Int) : Option (Bool) := if a0_0 = 3 then (some true) else (some (a0_0 == 6))
set_option maxHeartbeats 8000000 in
set_option maxRecDepth 100000 in
theorem spec_paTurning.calls (a0_0 : Int) (a0_1 : Int) (r : Bool) (w : World) (h : spec_paTurning.f a0_0 a0_1 = some r) :
 Calls Tryd.prog 56 #[.agg #[.int .i64 a0_0, .int .i64 a0_1]] w fun e w' => e = .returned (.bool r) ∧ Below w.heap.size w w' := by
 have Ae := Tryd.underlying62
 have HB := Z.m (Below.refl w.heap.size w)
 have H : (if a0_0 = 3 then (some true) else (some (a0_0 == 6))) = some r := h
 clear h
 by_cases c2 : a0_0 = 3
 ·rw [if_pos c2] at H
  have A4 := beq_iff_eq.mpr c2
  have A5 := bne_eq_false_iff_eq.mpr c2
  clear c2
  obtain rfl := Option.some.inj H
  go_enter Tryd.func56, Tryd.ntmps56
  go_wp2_with (first | ((with_reducible refine gq (N := 1) rfl ?_); refine be (N := 1) (cs := #[.int .i64 a0_0, .int .i64 a0_1]) (t := 62) ?_; intro A3 hg w3 hbox hb; have A0 := Z.m (hbox); have A1 := gW (w := w) HB hg; have A2 := A1; replace HB := bB HB hb; clear hb hbox hg; have A6 := bc0 A0; have A7 := bc1 A0; have Aa := qz A0.o 0; have Ab := qz A0.o 1))
  go_ret
  exact ⟨by first | rfl | (simp [eN, eS] <;> rfl) | (simp [*, eN, eS] <;> rfl), vB HB⟩
 ·rw [if_neg c2] at H
  have A4 := beq_eq_false_iff_ne.mpr c2
  have A5 := bne_iff_ne.mpr c2
  obtain rfl := Option.some.inj H
  go_enter Tryd.func56, Tryd.ntmps56
  go_wp2_with (first | ((with_reducible refine gq (N := 1) rfl ?_); refine be (N := 1) (cs := #[.int .i64 a0_0, .int .i64 a0_1]) (t := 62) ?_; intro A3 hg w5 hbox hb; have A0 := Z.m (hbox); have A1 := gW (w := w) HB hg; have A2 := A1; replace HB := bB HB hb; clear hb hbox hg; have A8 := bc0 A0; have A9 := bc1 A0; have Ac := qz A0.o 0; have Ad := qz A0.o 1))
  go_ret
  exact ⟨by first | rfl | (simp [eN, eS] <;> rfl) | (simp [*, eN, eS] <;> rfl), vB HB⟩

/-! ### spec_paAll: function 55 -/
def spec_paAll.l0 : Nat → List (S62) → Int → Option ((List (S62)))
 | 0, _, _ => none
 | k + 1, x1, x2 => if x2 ≤ 7 then (if x1.length < 8796093022208 then ((some (x1 ++ [(⟨x2, 0⟩ : S62)] : List (S62))).bind fun y123 => ((spec_paTurning.f x2 1).bind fun t127 => (if t127 = true then (if y123.length < 8796093022208 then (spec_paAll.l0 k (y123 ++ [(⟨x2, 1⟩ : S62)]) (wrap64 (x2 + 1))) else (none)) else (spec_paAll.l0 k y123 (wrap64 (x2 + 1)))))) else (none)) else (some x1)
def spec_paAll.f (k : Nat)  : Option ((List (S62))) := spec_paAll.l0 k ([] : List (S62)) 0
set_option maxHeartbeats 8000000 in
set_option maxRecDepth 100000 in
theorem spec_paAll.calls (k : Nat)  (r : List (S62)) (w : World) (h : spec_paAll.f k  = some r) :
 Calls Tryd.prog 55 #[] w fun e w' => ∃ v0_ : Value, e = .returned (v0_) ∧ Kd.R k62 62 w' w.heap.size (fun _ => True) v0_ r ∧ Below w.heap.size w w' := by
 have AA := Tryd.underlying62
 have HB := Z.m (Below.refl w.heap.size w)
 have H : (spec_paAll.l0 k ([] : List (S62)) 0) = some r := h
 clear h
 have H' := Z.m H
 clear H
 go_enter Tryd.func55, Tryd.ntmps55
 go_wp2
 go_loopg [1, 2] k (fun kq v1 v2 w' => ∃ (A8 : List (S62)) (A0 : Int), v2 = .int .i64 A0 ∧ Z (spec_paAll.l0 kq A8 A0 = some r) ∧ Z (kq ≤ k) ∧ Z (Kd.R k62 62 w' w.heap.size (fun _ => True) v1 A8) ∧ Z (Below w.heap.size w w'))
 case atStart => exact ⟨(([] : List (S62))), (0), (by first | rfl | (simp; done) | (simp [*]; done)), H', ⟨Nat.le_refl _⟩, ⟨by first | exact Kd.R_nil _ _ _ _ _ | exact Kd.N_nil _ _ _ _ _ | exact Kd.V_nil _ _ _ _ _ | exact Kd.Q_nil _ _ _ _ _ | exact Kd.S_nil _ _ _ _ _⟩, ⟨vB HB⟩⟩
 case round =>
  clear H'
  obtain ⟨A8, A0, rfl, HA, Aj, Aa, HB⟩ := hrel
  cases gk with
  | zero => exact absurd HA.o (by simp [spec_paAll.l0])
  | succ k1 =>
   have H := HA.o
   clear HA
   simp only [spec_paAll.l0] at H
   by_cases c1 : A0 ≤ 7
   ·rw [if_pos c1] at H
    have At := decide_eq_true c1
    clear c1
    by_cases c2 : A8.length < 8796093022208
    ·rw [if_pos c2] at H
     have Af := Z.m c2
     clear c2
     obtain ⟨A5, A6⟩ : ∃ y_ : List (S62), y_ = (A8 ++ [(⟨A0, 0⟩ : S62)]) := ⟨_, rfl⟩
     replace H : ((spec_paTurning.f A0 1).bind fun Ab => (if Ab = true then (if A5.length < 8796093022208 then (spec_paAll.l0 k1 (A5 ++ [(⟨A0, 1⟩ : S62)]) (wrap64 (A0 + 1))) else (none)) else (spec_paAll.l0 k1 A5 (wrap64 (A0 + 1))))) = some r := by first | (rw [A6]; with_reducible exact H) | (have H2_ := (Option.bind_some _ _).symm.trans H; rw [A6]; with_reducible exact H2_) | (have H2_ := (Option.bind_some _ _).symm.trans H; with_reducible exact H2_) | with_reducible exact H | (rw [A6]; exact H) | exact H
     have Ac := Z.m A6
     clear A6
     replace H := Option.bind_eq_some_iff.mp H
     obtain ⟨Ab, Ay, H⟩ := H
     replace H : (if Ab = true then (if A5.length < 8796093022208 then (spec_paAll.l0 k1 (A5 ++ [(⟨A0, 1⟩ : S62)]) (wrap64 (A0 + 1))) else (none)) else (spec_paAll.l0 k1 A5 (wrap64 (A0 + 1)))) = some r := H
     have A3 := Z.m Ay
     clear Ay
     by_cases c4 : Ab = true
     ·subst c4
      have H1 : (if A5.length < 8796093022208 then (spec_paAll.l0 k1 (A5 ++ [(⟨A0, 1⟩ : S62)]) (wrap64 (A0 + 1))) else (none)) = some r := by rw [if_pos rfl] at H; exact H
      clear H
      have H := H1
      clear H1
      by_cases c5 : A5.length < 8796093022208
      ·rw [if_pos c5] at H
       have As := Z.m c5
       clear c5
       obtain ⟨Ai, A7⟩ : ∃ y_ : List (S62), y_ = (A5 ++ [(⟨A0, 1⟩ : S62)]) := ⟨_, rfl⟩
       replace H : (spec_paAll.l0 k1 Ai (wrap64 (A0 + 1))) = some r := by first | (rw [A7]; with_reducible exact H) | (have H2_ := (Option.bind_some _ _).symm.trans H; rw [A7]; with_reducible exact H2_) | (have H2_ := (Option.bind_some _ _).symm.trans H; with_reducible exact H2_) | with_reducible exact H | (rw [A7]; exact H) | exact H
       have Ag := Z.m A7
       clear A7
       have H' := Z.m H
       clear H
       go_wp2_with (first | ((with_reducible refine gu (b := .append) (xs := #[.tmp 8, .tmp 11]) rfl ?_); at_builtin; refine Kd.R_append k62 (w0 := w) w.heap.size rfl (.tmp 8) (.tmp 11) 22 62 (.agg #[(.int .i64 0), (.int .i64 0)]) 16 rfl Tryd.underlying22 info62 rfl (by decide) (by omega) u1 A8 (⟨A0, 0⟩ : S62) [.int .i64 A0, .int .i64 0] (fun _ => True) (fun _ => False) rfl rfl ?aP (fun _ hk => hk.elim) ?aF ?aO ?aB ?aS ?aL ?_; (case aP => exact k62_mkM _ _ _ (⟨A0, 0⟩ : S62)); (case aB => exact (vB HB)); (case aF => exact (fun _ _ => trivial)); (case aO => exact (vR Aa)); (case aS => exact (below_size (vB HB))); (case aL => have := Af.o; omega); intro Ah w6 ho hb hg hat; rw [← Ac.o] at ho; have A2 := Z.m (ho); replace HB := Z.m (hb); clear Aa; clear ho hb hg hat) | ((with_reducible refine gq (N := 3) rfl ?_); refine be (N := 3) (cs := #[.int .i64 0, .int .i64 0]) (t := 62) ?_; intro A4 hg w7 hbox hb; have A1 := Z.m (hbox); have A9 := gW (w := w) HB hg; have Ad := A9; replace A2 := Z.m (Kd.Rb (Kd.R_elderB (vR A2) A4 (Nat.le_of_eq hg.symm)) hb); replace HB := bB HB hb; clear hb hbox hg; have Au := bc0 A1; have Av := bc1 A1; have Aw := qz A1.o 0; have Ax := qz A1.o 1) | ((with_reducible refine gc (f := 56) rfl ?_); refine gA (some 16) _ #[.agg #[.int .i64 A0, .int .i64 1]] ?_ Tryd.func56; (with_reducible refine (spec_paTurning.calls A0 1 true _ A3.o).mono ?_); rintro e w9 ⟨rfl, hb⟩; refine ⟨_, rfl, ?_⟩; replace A2 := Z.m (Kd.Rb (by refine rK ?_; exact (Kd.Rm (rf (rf (Kd.Rm A2.o (fun k_ hk => (⟨hk, hk.2⟩ : _ ∧ k_ ≠ A4))))) (fun _ h_ => h_.1))) hb); replace A1 := Z.m (qb (g := A4) (o := .cells #[.int .i64 A0, .int .i64 1] 62 (0, 0)) (by refine bK ?_; refine qp (cs := #[iV A0, iV 0]) ?_ 1 _ rfl; refine bK ?_; refine qp (cs := #[iV 0, iV 0]) ?_ 0 _ rfl; refine bK ?_; exact A1.o) hb); replace HB := bB HB hb; (try clear hb); (try clear Az); (try clear hk); (try clear hi); have Ak := bc0 A1; have Al := bc1 A1; have Ao := qz A1.o 0; have Ap := qz A1.o 1) | ((with_reducible refine gu (b := .append) (xs := #[.tmp 17, .tmp 19]) rfl ?_); at_builtin; refine Kd.R_append k62 (w0 := w) w.heap.size rfl (.tmp 17) (.tmp 19) 22 62 (.agg #[(.int .i64 0), (.int .i64 0)]) 16 rfl Tryd.underlying22 info62 rfl (by decide) (by omega) Ah A5 (⟨A0, 1⟩ : S62) [.int .i64 A0, .int .i64 1] (fun k_ => k_ ≠ A4) (fun _ => False) rfl rfl ?aP (fun _ hk => hk.elim) ?aF ?aO ?aB ?aS ?aL ?_; (case aP => exact k62_mkM _ _ _ (⟨A0, 1⟩ : S62)); (case aB => exact (vB HB)); (case aF => exact (fun k_ hk => Kd.freshB (g := A4) (o := .cells #[.int .i64 A0, .int .i64 1] 62 (0, 0)) (vK A1) k_ hk)); (case aO => exact (by refine rK ?_; exact Kd.Rm A2.o (fun _ hk => hk.2))); (case aS => exact (below_size (vB HB))); (case aL => have := As.o; omega); intro AB AC ho hb hg hat; rw [← Ag.o] at ho; have Ae := Z.m (ho); replace A1 := Z.m (qg (g := A4) (o := .cells #[.int .i64 A0, .int .i64 1] 62 (0, 0)) (vK A1) hg (Kd.R_away A2.o (fun _ hk => hk.2))); replace HB := Z.m (hb); clear A2; clear ho hb hg hat))
       go_roundg k1
       case measure => have := Aj.o; omega
       case rel => exact ⟨(Ai), (wrap64 (A0 + 1)), (by first | rfl | (simp; done) | (simp [*]; done)), H', ⟨by have := Aj.o; omega⟩, ⟨by refine rK ?_; exact Kd.Rm Ae.o (fun _ hk => trivial)⟩, ⟨vB HB⟩⟩
      ·rw [if_neg c5] at H
       exact absurd H (by simp)
     ·replace c4 := Bool.eq_false_iff.mpr c4
      subst c4
      have H1 : (spec_paAll.l0 k1 A5 (wrap64 (A0 + 1))) = some r := by rw [if_neg (show ¬ (false = true) by decide)] at H; exact H
      clear H
      have H := H1
      clear H1
      have H' := Z.m H
      clear H
      go_wp2_with (first | ((with_reducible refine gu (b := .append) (xs := #[.tmp 8, .tmp 11]) rfl ?_); at_builtin; refine Kd.R_append k62 (w0 := w) w.heap.size rfl (.tmp 8) (.tmp 11) 22 62 (.agg #[(.int .i64 0), (.int .i64 0)]) 16 rfl Tryd.underlying22 info62 rfl (by decide) (by omega) u1 A8 (⟨A0, 0⟩ : S62) [.int .i64 A0, .int .i64 0] (fun _ => True) (fun _ => False) rfl rfl ?aP (fun _ hk => hk.elim) ?aF ?aO ?aB ?aS ?aL ?_; (case aP => exact k62_mkM _ _ _ (⟨A0, 0⟩ : S62)); (case aB => exact (vB HB)); (case aF => exact (fun _ _ => trivial)); (case aO => exact (vR Aa)); (case aS => exact (below_size (vB HB))); (case aL => have := Af.o; omega); intro Ah AD ho hb hg hat; rw [← Ac.o] at ho; have A2 := Z.m (ho); replace HB := Z.m (hb); clear Aa; clear ho hb hg hat) | ((with_reducible refine gq (N := 3) rfl ?_); refine be (N := 3) (cs := #[.int .i64 0, .int .i64 0]) (t := 62) ?_; intro A4 hg AE hbox hb; have A1 := Z.m (hbox); have A9 := gW (w := w) HB hg; have Ad := A9; replace A2 := Z.m (Kd.Rb (Kd.R_elderB (vR A2) A4 (Nat.le_of_eq hg.symm)) hb); replace HB := bB HB hb; clear hb hbox hg; have Am := bc0 A1; have An := bc1 A1; have Aq := qz A1.o 0; have Ar := qz A1.o 1) | ((with_reducible refine gc (f := 56) rfl ?_); refine gA (some 16) _ #[.agg #[.int .i64 A0, .int .i64 1]] ?_ Tryd.func56; (with_reducible refine (spec_paTurning.calls A0 1 false _ A3.o).mono ?_); rintro e AF ⟨rfl, hb⟩; refine ⟨_, rfl, ?_⟩; replace A2 := Z.m (Kd.Rb (by refine rK ?_; exact (Kd.Rm (rf (rf (Kd.Rm A2.o (fun k_ hk => (⟨hk, hk.2⟩ : _ ∧ k_ ≠ A4))))) (fun _ h_ => h_.1))) hb); replace A1 := Z.m (qb (g := A4) (o := .cells #[.int .i64 A0, .int .i64 1] 62 (0, 0)) (by refine bK ?_; refine qp (cs := #[iV A0, iV 0]) ?_ 1 _ rfl; refine bK ?_; refine qp (cs := #[iV 0, iV 0]) ?_ 0 _ rfl; refine bK ?_; exact A1.o) hb); replace HB := bB HB hb; (try clear hb); (try clear Az); (try clear hk); (try clear hi)))
      go_roundg k1
      case measure => have := Aj.o; omega
      case rel => exact ⟨(A5), (wrap64 (A0 + 1)), (by first | rfl | (simp; done) | (simp [*]; done)), H', ⟨by have := Aj.o; omega⟩, ⟨by refine rK ?_; exact Kd.Rm A2.o (fun _ hk => trivial)⟩, ⟨vB HB⟩⟩
    ·rw [if_neg c2] at H
     exact absurd H (by simp)
   ·rw [if_neg c1] at H
    have At := decide_eq_false c1
    clear c1
    obtain rfl := Option.some.inj H
    go_wp2
    go_ret
    exact ⟨_, by first | rfl | (simp [eN, eS] <;> rfl) | (simp [*, eN, eS] <;> rfl), vR Aa, vB HB⟩

/-! ### spec_paRead: function 46 -/
def spec_paRead.l0 : Nat → ByteArray → List (S62) → Int → Int → Option (Int × Int × Bool)
 | 0, _, _, _, _ => none
 | k + 1, x0, x6, x7, x8 => if x8 < x7 then (if 0 ≤ x8 then (if x8 < (x6.length : Int) then ((spec_paLetter.f ((rd_T62 x6 x8).f0) ((rd_T62 x6 x8).f1)).bind fun t137 => (if t137.toList = x0.toList then (some ((rd_T62 x6 x8).f0, (rd_T62 x6 x8).f1, true)) else (spec_paRead.l0 k x0 x6 x7 (wrap64 (x8 + 1))))) else (none)) else (none)) else (some (0, 0, false))
def spec_paRead.f (k : Nat) (a0 : ByteArray) : Option (Int × Int × Bool) := (spec_paAll.f k).bind fun t132 => (spec_paRead.l0 k a0 t132 (t132.length : Int) 0)
set_option maxHeartbeats 8000000 in
set_option maxRecDepth 100000 in
theorem spec_paRead.calls (k : Nat) (a0 : ByteArray) (r1 : Int) (r2 : Int) (r3 : Bool) (w : World) (h : spec_paRead.f k a0 = some (r1, r2, r3)) :
 Calls Tryd.prog 46 #[.string a0] w fun e w' => e = .returned (.tuple #[.agg #[.int .i64 r1, .int .i64 r2], .bool r3]) ∧ Below w.heap.size w w' := by
 have AX := Tryd.underlying62
 have HB := Z.m (Below.refl w.heap.size w)
 have H : ((spec_paAll.f k).bind fun A1 => (spec_paRead.l0 k a0 A1 (A1.length : Int) 0)) = some (r1, r2, r3) := h
 clear h
 replace H := Option.bind_eq_some_iff.mp H
 obtain ⟨A1, AI, H⟩ := H
 replace H : (spec_paRead.l0 k a0 A1 (A1.length : Int) 0) = some (r1, r2, r3) := H
 have A2 := Z.m AI
 clear AI
 have H' := Z.m H
 clear H
 go_enter Tryd.func46, Tryd.ntmps46
 go_wp2_with (first | ((with_reducible refine gq (N := 2) rfl ?_); refine be (N := 2) (cs := #[.int .i64 0, .int .i64 0]) (t := 62) ?_; intro Ab hg w3 hbox hb; have A0 := Z.m (hbox); have Aj := gW (w := w) HB hg; have AK := Aj; replace HB := bB HB hb; clear hb hbox hg) | ((with_reducible refine gc (f := 55) rfl ?_); refine gA (some 6) _ #[] ?_ Tryd.func55; (with_reducible refine (spec_paAll.calls k  A1 _ A2.o).mono ?_); rintro e w4 ⟨AY, rfl, AR, hb⟩; refine ⟨_, rfl, ?_⟩; have Ah := Z.m (Kd.R_lower (Kd.R_newB AR (g := Ab) (o := .cells #[.int .i64 0, .int .i64 0] 62 (0, 0)) (vK A0)) (below_size (vB HB))); replace A0 := kB A0 hb; replace HB := bB HB hb; (try clear hb); (try clear AM); (try clear hk); (try clear hi); (try clear AR); obtain ⟨AS, AV, AW⟩ := Kd.R_slice Ah.o; subst AW))
 go_loopg [8] k (fun kq v8 w' => ∃ (A4 : Int) (A5 : Int) (A3 : Int), v8 = .int .i64 A4 ∧ Z (spec_paRead.l0 kq a0 A1 (A1.length : Int) A4 = some (r1, r2, r3)) ∧ Z (kq ≤ k) ∧ Z (Kd.R k62 62 w' w.heap.size (fun k_ => k_ ≠ Ab) (.slice AS A1.length AV) A1) ∧ Z (w'.heap[Ab]? = some (.cells #[.int .i64 A5, .int .i64 A3] 62 (0, 0))) ∧ Z (Below w.heap.size w w'))
 case atStart => exact ⟨(0), (0), (0), (by first | rfl | (simp; done) | (simp [*]; done)), H', ⟨Nat.le_refl _⟩, ⟨by refine rK ?_; exact Kd.Rm Ah.o (fun _ hk => hk.2)⟩, ⟨vK A0⟩, ⟨vB HB⟩⟩
 case round =>
  clear H'
  obtain ⟨A4, A5, A3, rfl, HA, AL, Aa, A0, HB⟩ := hrel
  cases gk with
  | zero => exact absurd HA.o (by simp [spec_paRead.l0])
  | succ k1 =>
   have H := HA.o
   clear HA
   simp only [spec_paRead.l0] at H
   by_cases c6 : A4 < (A1.length : Int)
   ·rw [if_pos c6] at H
    have AH := decide_eq_true c6
    clear c6
    by_cases c7 : 0 ≤ A4
    ·rw [if_pos c7] at H
     have AT := decide_eq_true c7
     clear c7
     by_cases c8 : A4 < (A1.length : Int)
     ·rw [if_pos c8] at H
      have AU := decide_eq_true c8
      clear c8
      replace H := Option.bind_eq_some_iff.mp H
      obtain ⟨Ag, AJ, H⟩ := H
      replace H : (if Ag.toList = a0.toList then (some ((rd_T62 A1 A4).f0, (rd_T62 A1 A4).f1, true)) else (spec_paRead.l0 k1 a0 A1 (A1.length : Int) (wrap64 (A4 + 1)))) = some (r1, r2, r3) := H
      have A9 := Z.m AJ
      clear AJ
      by_cases c10 : Ag.toList = a0.toList
      ·rw [if_pos c10] at H
       have Al := beq_iff_eq.mpr c10
       have Am := bne_eq_false_iff_eq.mpr c10
       clear c10
       simp only [Option.some.injEq, Prod.mk.injEq] at H
       obtain ⟨rfl, rfl, rfl⟩ := H
       have p135 : 0 ≤ (A4 : Int) := ofD
       have q135 : A4 < (A1.length : Int) := ofD
       obtain ⟨Ak, e135, Ae, Af⟩ := at_T62 (Kd.RrZ Aa.o).2.2 A4 p135 q135
       cases e135
       replace p135 := eq_true p135
       replace q135 := eq_true q135
       go_wp2_with (first | ((with_reducible refine gq (N := 5) rfl ?_); refine be (N := 5) (cs := #[.int .i64 0, .int .i64 0]) (t := 62) ?_; intro Ac hg AZ hbox hb; have A6 := Z.m (hbox); have Ad := gW (w := w) HB hg; have Ai := Ad; have A7 := neL A0 hg; have A8 := neG A0 hg; replace Aa := Z.m (Kd.Rb (Kd.R_elderB (vR Aa) Ac (Nat.le_of_eq hg.symm)) hb); replace A0 := kB A0 hb; replace HB := bB HB hb; clear hb hbox hg; have AN := A8.o; have AP := A7.o; have An := bc0 A6; have Ao := bc1 A6; have Ax := qz A6.o 0; have Ay := qz A6.o 1) | ((with_reducible refine gc (f := 51) rfl ?_); refine gA (some 13) _ #[.agg #[.int .i64 ((rd_T62 A1 A4).f0), .int .i64 ((rd_T62 A1 A4).f1)]] ?_ Tryd.func51; (with_reducible refine (spec_paLetter.calls ((rd_T62 A1 A4).f0) ((rd_T62 A1 A4).f1) Ag _ A9.o).mono ?_); rintro e B0 ⟨rfl, hb⟩; refine ⟨_, rfl, ?_⟩; replace Aa := Z.m (Kd.Rb (by refine rK ?_; exact (Kd.Rm (rf (rf (Kd.Rm Aa.o (fun k_ hk => (⟨hk, hk.2⟩ : _ ∧ k_ ≠ Ac))))) (fun _ h_ => h_.1))) hb); replace A0 := Z.m (qb (g := Ab) (o := .cells #[.int .i64 A5, .int .i64 A3] 62 (0, 0)) (by refine bK ?_; (iterate 2 refine qF ?_ A7); exact A0.o) hb); replace A6 := Z.m (qb (g := Ac) (o := .cells #[.int .i64 ((rd_T62 A1 A4).f0), .int .i64 ((rd_T62 A1 A4).f1)] 62 (0, 0)) (by refine bK ?_; refine qp (cs := #[iV ((rd_T62 A1 A4).f0), iV 0]) ?_ 1 _ rfl; refine bK ?_; refine qp (cs := #[iV 0, iV 0]) ?_ 0 _ rfl; refine bK ?_; exact A6.o) hb); replace HB := bB HB hb; (try clear hb); (try clear AM); (try clear hk); (try clear hi); have Ap := bc0 A6; have Aq := bc1 A6; have Az := qz A6.o 0; have AA := qz A6.o 1; have Ar := bc0 A0; have As := bc1 A0; have AB := qz A0.o 0; have AC := qz A0.o 1))
       refine bodyPost_ret (results_ct rfl _ _ Ab 62 #[.int .i64 ((rd_T62 A1 A4).f0), .int .i64 ((rd_T62 A1 A4).f1)] (0, 0) _ rfl (by refine bK ?_; refine qp (cs := #[iV ((rd_T62 A1 A4).f0), iV A3]) ?_ 1 _ rfl; refine bK ?_; refine qp (cs := #[iV A5, iV A3]) ?_ 0 _ rfl; refine bK ?_; exact A0.o) Tryd.underlying62 rfl (by kernel_rfl)) rfl ?_
       exact ⟨by first | rfl | (simp [eN, eS] <;> rfl) | (simp [*, eN, eS] <;> rfl), vB HB⟩
      ·rw [if_neg c10] at H
       have Al := beq_eq_false_iff_ne.mpr c10
       have Am := bne_iff_ne.mpr c10
       have H' := Z.m H
       clear H
       have p135 : 0 ≤ (A4 : Int) := ofD
       have q135 : A4 < (A1.length : Int) := ofD
       obtain ⟨Ak, e135, Ae, Af⟩ := at_T62 (Kd.RrZ Aa.o).2.2 A4 p135 q135
       cases e135
       replace p135 := eq_true p135
       replace q135 := eq_true q135
       go_wp2_with (first | ((with_reducible refine gq (N := 5) rfl ?_); refine be (N := 5) (cs := #[.int .i64 0, .int .i64 0]) (t := 62) ?_; intro Ac hg B1 hbox hb; have A6 := Z.m (hbox); have Ad := gW (w := w) HB hg; have Ai := Ad; have A7 := neL A0 hg; have A8 := neG A0 hg; replace Aa := Z.m (Kd.Rb (Kd.R_elderB (vR Aa) Ac (Nat.le_of_eq hg.symm)) hb); replace A0 := kB A0 hb; replace HB := bB HB hb; clear hb hbox hg; have AO := A8.o; have AQ := A7.o; have At := bc0 A6; have Au := bc1 A6; have AD := qz A6.o 0; have AE := qz A6.o 1) | ((with_reducible refine gc (f := 51) rfl ?_); refine gA (some 13) _ #[.agg #[.int .i64 ((rd_T62 A1 A4).f0), .int .i64 ((rd_T62 A1 A4).f1)]] ?_ Tryd.func51; (with_reducible refine (spec_paLetter.calls ((rd_T62 A1 A4).f0) ((rd_T62 A1 A4).f1) Ag _ A9.o).mono ?_); rintro e B2 ⟨rfl, hb⟩; refine ⟨_, rfl, ?_⟩; replace Aa := Z.m (Kd.Rb (by refine rK ?_; exact (Kd.Rm (rf (rf (Kd.Rm Aa.o (fun k_ hk => (⟨hk, hk.2⟩ : _ ∧ k_ ≠ Ac))))) (fun _ h_ => h_.1))) hb); replace A0 := Z.m (qb (g := Ab) (o := .cells #[.int .i64 A5, .int .i64 A3] 62 (0, 0)) (by refine bK ?_; (iterate 2 refine qF ?_ A7); exact A0.o) hb); replace A6 := Z.m (qb (g := Ac) (o := .cells #[.int .i64 ((rd_T62 A1 A4).f0), .int .i64 ((rd_T62 A1 A4).f1)] 62 (0, 0)) (by refine bK ?_; refine qp (cs := #[iV ((rd_T62 A1 A4).f0), iV 0]) ?_ 1 _ rfl; refine bK ?_; refine qp (cs := #[iV 0, iV 0]) ?_ 0 _ rfl; refine bK ?_; exact A6.o) hb); replace HB := bB HB hb; (try clear hb); (try clear AM); (try clear hk); (try clear hi)))
       go_roundg k1
       case measure => have := AL.o; omega
       case rel => exact ⟨(wrap64 (A4 + 1)), (A5), (A3), (by first | rfl | (simp; done) | (simp [*]; done)), H', ⟨by have := AL.o; omega⟩, ⟨by refine rK ?_; exact Kd.Rm Aa.o (fun _ hk => hk.1)⟩, ⟨vK A0⟩, ⟨vB HB⟩⟩
     ·rw [if_neg c8] at H
      exact absurd H (by simp)
    ·rw [if_neg c7] at H
     exact absurd H (by simp)
   ·rw [if_neg c6] at H
    have AH := decide_eq_false c6
    clear c6
    simp only [Option.some.injEq, Prod.mk.injEq] at H
    obtain ⟨rfl, rfl, rfl⟩ := H
    have Av := bc0 A0
    have Aw := bc1 A0
    have AF := qz A0.o 0
    have AG := qz A0.o 1
    go_wp2
    refine bodyPost_ret (results_ct rfl _ _ Ab 62 #[.int .i64 0, .int .i64 0] (0, 0) _ rfl (by refine bK ?_; refine qp (cs := #[iV 0, iV A3]) ?_ 1 _ rfl; refine bK ?_; refine qp (cs := #[iV A5, iV A3]) ?_ 0 _ rfl; refine bK ?_; exact A0.o) Tryd.underlying62 rfl (by kernel_rfl)) rfl ?_
    exact ⟨by first | rfl | (simp [eN, eS] <;> rfl) | (simp [*, eN, eS] <;> rfl), vB HB⟩

/-! ### spec_paCells: function 30 -/
def spec_paCells.l0 : Nat → ByteArray → List (S62) → Int → Option ((List (S62)) × Bool)
 | 0, _, _, _ => none
 | k + 1, x0, x4, x5 => if x5 < (x0.size : Int) then (if 0 ≤ x5 then (if x5 ≤ (wrap64 (x5 + 1)) then (if (wrap64 (x5 + 1)) ≤ (x0.size : Int) then ((spec_paRead.f k (x0.extract (x5 : Int).toNat ((wrap64 (x5 + 1)) : Int).toNat)).bind fun bt138 => (if bt138.2.2 = true then (if x4.length < 8796093022208 then (spec_paCells.l0 k x0 (x4 ++ [(⟨bt138.1, bt138.2.1⟩ : S62)]) (wrap64 (x5 + 1))) else (none)) else (some (([] : List (S62)), false)))) else (none)) else (none)) else (none)) else (some (x4, true))
def spec_paCells.f (k : Nat) (a0 : ByteArray) : Option ((List (S62)) × Bool) := spec_paCells.l0 k a0 ([] : List (S62)) 0
set_option maxHeartbeats 8000000 in
set_option maxRecDepth 100000 in
theorem spec_paCells.calls (k : Nat) (a0 : ByteArray) (r1 : List (S62)) (r2 : Bool) (w : World) (h : spec_paCells.f k a0 = some (r1, r2)) :
 Calls Tryd.prog 30 #[.string a0] w fun e w' => ∃ v0_ : Value, e = .returned (.tuple #[v0_, .bool r2]) ∧ Kd.R k62 62 w' w.heap.size (fun _ => True) v0_ r1 ∧ Below w.heap.size w w' := by
 have Ay := Tryd.underlying62
 have HB := Z.m (Below.refl w.heap.size w)
 have H : (spec_paCells.l0 k a0 ([] : List (S62)) 0) = some (r1, r2) := h
 clear h
 have H' := Z.m H
 clear H
 go_enter Tryd.func30, Tryd.ntmps30
 go_wp2
 go_loopg [4, 5] k (fun kq v4 v5 w' => ∃ (A7 : List (S62)) (A0 : Int), v5 = .int .i64 A0 ∧ Z (spec_paCells.l0 kq a0 A7 A0 = some (r1, r2)) ∧ Z (kq ≤ k) ∧ Z (Kd.R k62 62 w' w.heap.size (fun _ => True) v4 A7) ∧ Z (Below w.heap.size w w'))
 case atStart => exact ⟨(([] : List (S62))), (0), (by first | rfl | (simp; done) | (simp [*]; done)), H', ⟨Nat.le_refl _⟩, ⟨by first | exact Kd.R_nil _ _ _ _ _ | exact Kd.N_nil _ _ _ _ _ | exact Kd.V_nil _ _ _ _ _ | exact Kd.Q_nil _ _ _ _ _ | exact Kd.S_nil _ _ _ _ _⟩, ⟨vB HB⟩⟩
 case round =>
  clear H'
  obtain ⟨A7, A0, rfl, HA, Aq, A2, HB⟩ := hrel
  cases gk with
  | zero => exact absurd HA.o (by simp [spec_paCells.l0])
  | succ k1 =>
   have H := HA.o
   clear HA
   simp only [spec_paCells.l0] at H
   by_cases c2 : A0 < (a0.size : Int)
   ·rw [if_pos c2] at H
    have Ao := decide_eq_true c2
    clear c2
    by_cases c3 : 0 ≤ A0
    ·rw [if_pos c3] at H
     have Ar := eq_true c3
     have As := decide_eq_true c3
     clear c3
     by_cases c4 : A0 ≤ (wrap64 (A0 + 1))
     ·rw [if_pos c4] at H
      have At := eq_true c4
      have Au := decide_eq_true c4
      by_cases c5 : (wrap64 (A0 + 1)) ≤ (a0.size : Int)
      ·rw [if_pos c5] at H
       have Av := eq_true c5
       have Aw := decide_eq_true c5
       replace H := Option.bind_eq_some_iff.mp H
       obtain ⟨⟨A3, A5, Ad⟩, Ap, H⟩ := H
       replace H : (if Ad = true then (if A7.length < 8796093022208 then (spec_paCells.l0 k1 a0 (A7 ++ [(⟨A3, A5⟩ : S62)]) (wrap64 (A0 + 1))) else (none)) else (some (([] : List (S62)), false))) = some (r1, r2) := H
       have A6 := Z.m Ap
       clear Ap
       by_cases c7 : Ad = true
       ·subst c7
        have H1 : (if A7.length < 8796093022208 then (spec_paCells.l0 k1 a0 (A7 ++ [(⟨A3, A5⟩ : S62)]) (wrap64 (A0 + 1))) else (none)) = some (r1, r2) := by rw [if_pos rfl] at H; exact H
        clear H
        have H := H1
        clear H1
        by_cases c8 : A7.length < 8796093022208
        ·rw [if_pos c8] at H
         have An := Z.m c8
         clear c8
         obtain ⟨Ae, A8⟩ : ∃ y_ : List (S62), y_ = (A7 ++ [(⟨A3, A5⟩ : S62)]) := ⟨_, rfl⟩
         replace H : (spec_paCells.l0 k1 a0 Ae (wrap64 (A0 + 1))) = some (r1, r2) := by first | (rw [A8]; with_reducible exact H) | (have H2_ := (Option.bind_some _ _).symm.trans H; rw [A8]; with_reducible exact H2_) | (have H2_ := (Option.bind_some _ _).symm.trans H; with_reducible exact H2_) | with_reducible exact H | (rw [A8]; exact H) | exact H
         have Ac := Z.m A8
         clear A8
         have H' := Z.m H
         clear H
         go_wp2_with (first | ((with_reducible refine gc (f := 46) rfl ?_); refine gA (some 20) _ #[.string (a0.extract (A0 : Int).toNat ((wrap64 (A0 + 1)) : Int).toNat)] ?_ Tryd.func46; (with_reducible refine (spec_paRead.calls k1 (a0.extract (A0 : Int).toNat ((wrap64 (A0 + 1)) : Int).toNat) A3 A5 true _ A6.o).mono ?_); rintro e w9 ⟨rfl, hb⟩; refine ⟨_, rfl, ?_⟩; replace A2 := Z.m (Kd.Rb (vR A2) hb); replace HB := bB HB hb; (try clear hb); (try clear Ax); (try clear hk); (try clear hi)) | ((with_reducible refine gq (N := 6) rfl ?_); refine be (N := 6) (cs := #[.int .i64 0, .int .i64 0]) (t := 62) ?_; intro A4 hg AA hbox hb; have A1 := Z.m (hbox); have A9 := gW (w := w) HB hg; have Aa := A9; replace A2 := Z.m (Kd.Rb (Kd.R_elderB (vR A2) A4 (Nat.le_of_eq hg.symm)) hb); replace HB := bB HB hb; clear hb hbox hg; have Af := bc0 A1; have Ag := bc1 A1; have Aj := qz A1.o 0; have Ak := qz A1.o 1) | ((with_reducible refine gu (b := .append) (xs := #[.tmp 25, .tmp 27]) rfl ?_); at_builtin; refine Kd.R_append k62 (w0 := w) w.heap.size rfl (.tmp 25) (.tmp 27) 22 62 (.agg #[(.int .i64 0), (.int .i64 0)]) 16 rfl Tryd.underlying22 info62 rfl (by decide) (by omega) u4 A7 (⟨A3, A5⟩ : S62) [.int .i64 A3, .int .i64 A5] (fun k_ => k_ ≠ A4) (fun _ => False) rfl (by first | (go_simp; done) | (go_simp; rfl)) ?aP (fun _ hk => hk.elim) ?aF ?aO ?aB ?aS ?aL ?_; (case aP => exact k62_mkM _ _ _ (⟨A3, A5⟩ : S62)); (case aB => exact (vB HB)); (case aF => exact (fun k_ hk => Kd.freshB (g := A4) (o := .cells #[.int .i64 A3, .int .i64 A5] 62 (0, 0)) (by refine bK ?_; refine qp (cs := #[iV A3, iV 0]) ?_ 1 _ rfl; refine bK ?_; refine qp (cs := #[iV 0, iV 0]) ?_ 0 _ rfl; refine bK ?_; exact A1.o) k_ hk)); (case aO => exact (by refine rK ?_; exact Kd.Rm (rf (rf (Kd.Rm A2.o (fun k_ hk => (⟨hk, hk.2⟩ : _ ∧ k_ ≠ A4))))) (fun _ hk => hk.1.2))); (case aS => exact (below_size (vB HB))); (case aL => have := An.o; omega); intro Az AB ho hb hg hat; rw [← Ac.o] at ho; have Ab := Z.m (ho); replace A1 := Z.m (qg (g := A4) (o := .cells #[.int .i64 A3, .int .i64 A5] 62 (0, 0)) (by refine bK ?_; refine qp (cs := #[iV A3, iV 0]) ?_ 1 _ rfl; refine bK ?_; refine qp (cs := #[iV 0, iV 0]) ?_ 0 _ rfl; refine bK ?_; exact A1.o) hg (Kd.R_away A2.o (fun _ hk => hk.2))); replace HB := Z.m (hb); clear A2; clear ho hb hg hat))
         go_roundg k1
         case measure => have := Aq.o; omega
         case rel => exact ⟨(Ae), (wrap64 (A0 + 1)), (by first | rfl | (simp; done) | (simp [*]; done)), H', ⟨by have := Aq.o; omega⟩, ⟨by refine rK ?_; exact Kd.Rm Ab.o (fun _ hk => trivial)⟩, ⟨vB HB⟩⟩
        ·rw [if_neg c8] at H
         exact absurd H (by simp)
       ·replace c7 := Bool.eq_false_iff.mpr c7
        subst c7
        have H1 : (some (([] : List (S62)), false)) = some (r1, r2) := by rw [if_neg (show ¬ (false = true) by decide)] at H; exact H
        clear H
        have H := H1
        clear H1
        simp only [Option.some.injEq, Prod.mk.injEq] at H
        obtain ⟨rfl, rfl⟩ := H
        go_wp2_with (first | ((with_reducible refine gc (f := 46) rfl ?_); refine gA (some 20) _ #[.string (a0.extract (A0 : Int).toNat ((wrap64 (A0 + 1)) : Int).toNat)] ?_ Tryd.func46; (with_reducible refine (spec_paRead.calls k1 (a0.extract (A0 : Int).toNat ((wrap64 (A0 + 1)) : Int).toNat) A3 A5 false _ A6.o).mono ?_); rintro e AC ⟨rfl, hb⟩; refine ⟨_, rfl, ?_⟩; replace A2 := Z.m (Kd.Rb (vR A2) hb); replace HB := bB HB hb; (try clear hb); (try clear Ax); (try clear hk); (try clear hi)) | ((with_reducible refine gq (N := 6) rfl ?_); refine be (N := 6) (cs := #[.int .i64 0, .int .i64 0]) (t := 62) ?_; intro A4 hg AD hbox hb; have A1 := Z.m (hbox); have A9 := gW (w := w) HB hg; have Aa := A9; replace A2 := Z.m (Kd.Rb (Kd.R_elderB (vR A2) A4 (Nat.le_of_eq hg.symm)) hb); replace HB := bB HB hb; clear hb hbox hg; have Ah := bc0 A1; have Ai := bc1 A1; have Al := qz A1.o 0; have Am := qz A1.o 1))
        go_ret2
        exact ⟨_, by first | rfl | (simp [eN, eS] <;> rfl) | (simp [*, eN, eS] <;> rfl), by first | exact Kd.R_nil _ _ _ _ _ | exact Kd.N_nil _ _ _ _ _ | exact Kd.V_nil _ _ _ _ _ | exact Kd.Q_nil _ _ _ _ _ | exact Kd.S_nil _ _ _ _ _, vB HB⟩
      ·rw [if_neg c5] at H
       exact absurd H (by simp)
     ·rw [if_neg c4] at H
      exact absurd H (by simp)
    ·rw [if_neg c3] at H
     exact absurd H (by simp)
   ·rw [if_neg c2] at H
    have Ao := decide_eq_false c2
    clear c2
    simp only [Option.some.injEq, Prod.mk.injEq] at H
    obtain ⟨rfl, rfl⟩ := H
    go_wp2
    go_ret2
    exact ⟨_, by first | rfl | (simp [eN, eS] <;> rfl) | (simp [*, eN, eS] <;> rfl), vR A2, vB HB⟩

/-! ### spec_l1In: function 38 -/
def spec_l1In.f (a0 : Int) (a1 : Int) (a2 : Int) : Option (Bool) := if a0 ≥ a1 then (some (decide (a0 ≤ a2))) else (some false)
set_option maxHeartbeats 8000000 in
set_option maxRecDepth 100000 in
theorem spec_l1In.calls (a0 : Int) (a1 : Int) (a2 : Int) (r : Bool) (w : World) (h : spec_l1In.f a0 a1 a2 = some r) :
 Calls Tryd.prog 38 #[.int .i64 a0, .int .i64 a1, .int .i64 a2] w fun e w' => e = .returned (.bool r) ∧ Drawn0 w w' := by
 have H : (if a0 ≥ a1 then (some (decide (a0 ≤ a2))) else (some false)) = some r := h
 clear h
 by_cases c4 : a0 ≥ a1
 ·rw [if_pos c4] at H
  have A0 := decide_eq_true c4
  clear c4
  obtain rfl := Option.some.inj H
  go_enter Tryd.func38, Tryd.ntmps38
  go_wp2
  go_ret
  exact ⟨by first | rfl | (simp; done) | (simp [*]; done), by repeat (first | exact Drawn0.refl _ | apply Drawn0.step)⟩
 ·rw [if_neg c4] at H
  have A0 := decide_eq_false c4
  clear c4
  obtain rfl := Option.some.inj H
  go_enter Tryd.func38, Tryd.ntmps38
  go_wp2
  go_ret
  exact ⟨by first | rfl | (simp; done) | (simp [*]; done), by repeat (first | exact Drawn0.refl _ | apply Drawn0.step)⟩

end Go.Proofs.YtklmdnlambinaaaDoor.PAll
