/- Began as a text that print.sh wrote (of the functions named below); turned and shortened by this session. -/
import Derived.Test.YtoklfgjemfojgaaG0
namespace Go.Proofs.Ytoklfgjemfojgaa.PAll
open Go.RowKit Go.Proofs.YtoklfgjemfojgaaW.PrintWords Go.Proofs.YtoklfgjemfojgaaW.PrintLast Go.Proofs.YtoklfgjemfojgaaW.PrintMore
attribute [local go_sem] max2_int min2_int max_two min_two max_three min_three max_four min_four   -- for this text's walks alone
set_option linter.unusedVariables false
set_option linter.unusedSimpArgs false

/-! ### impl_IsCell: function 87 -/
def impl_IsCell.f (a0_0 : Int) (a0_1 : Int) : Option (Bool) := if a0_0 < 0 then (some false) else (if a0_0 > 7 then (some false) else (if a0_1 < 0 then (some false) else (if a0_1 > 1 then (some false) else (if a0_1 = 0 then (some true) else (if a0_0 = 3 then (some true) else (some (a0_0 == 6)))))))
set_option maxHeartbeats 8000000 in
set_option maxRecDepth 100000 in
theorem impl_IsCell.calls (a0_0 : Int) (a0_1 : Int) (r : Bool) (w : World) (h : impl_IsCell.f a0_0 a0_1 = some r) :
 Calls Try.prog 87 #[.agg #[.int .i64 a0_0, .int .i64 a0_1]] w fun e w' => e = .returned (.bool r) ∧ Below w.heap.size w w' := by
 have AE := Try.underlying89
 have HB := Z.m (Below.refl w.heap.size w)
 have H : (if a0_0 < 0 then (some false) else (if a0_0 > 7 then (some false) else (if a0_1 < 0 then (some false) else (if a0_1 > 1 then (some false) else (if a0_1 = 0 then (some true) else (if a0_0 = 3 then (some true) else (some (a0_0 == 6)))))))) = some r := h
 clear h
 by_cases c2 : a0_0 < 0
 ·rw [if_pos c2] at H
  have At := decide_eq_true c2
  clear c2
  obtain rfl := Option.some.inj H
  go_enter Try.func87, Try.ntmps87
  go_wp2_with (first | ((with_reducible refine gq (N := 1) rfl ?_); refine be (N := 1) (cs := #[.int .i64 a0_0, .int .i64 a0_1]) (t := 89) ?_; intro A3 hg w3 hbox hb; have A0 := Z.m (hbox); have A1 := gW (w := w) HB hg; have A2 := A1; replace HB := bB HB hb; clear hb hbox hg; have Aw := bc0 A0; have Ax := bc1 A0; have AA := qz A0.o 0; have AB := qz A0.o 1))
  go_ret
  exact ⟨by first | rfl | (simp [eN, eS] <;> rfl) | (simp [*, eN, eS] <;> rfl), vB HB⟩
 ·rw [if_neg c2] at H
  have At := decide_eq_false c2
  clear c2
  by_cases c5 : a0_0 > 7
  ·rw [if_pos c5] at H
   have Au := decide_eq_true c5
   clear c5
   obtain rfl := Option.some.inj H
   go_enter Try.func87, Try.ntmps87
   go_wp2_with (first | ((with_reducible refine gq (N := 1) rfl ?_); refine be (N := 1) (cs := #[.int .i64 a0_0, .int .i64 a0_1]) (t := 89) ?_; intro A3 hg w6 hbox hb; have A0 := Z.m (hbox); have A1 := gW (w := w) HB hg; have A2 := A1; replace HB := bB HB hb; clear hb hbox hg; have Ay := bc0 A0; have Az := bc1 A0; have AC := qz A0.o 0; have AD := qz A0.o 1))
   go_ret
   exact ⟨by first | rfl | (simp [eN, eS] <;> rfl) | (simp [*, eN, eS] <;> rfl), vB HB⟩
  ·rw [if_neg c5] at H
   have Au := decide_eq_false c5
   clear c5
   by_cases c8 : a0_1 < 0
   ·rw [if_pos c8] at H
    have Av := decide_eq_true c8
    clear c8
    obtain rfl := Option.some.inj H
    go_enter Try.func87, Try.ntmps87
    go_wp2_with (first | ((with_reducible refine gq (N := 1) rfl ?_); refine be (N := 1) (cs := #[.int .i64 a0_0, .int .i64 a0_1]) (t := 89) ?_; intro A3 hg w9 hbox hb; have A0 := Z.m (hbox); have A1 := gW (w := w) HB hg; have A2 := A1; replace HB := bB HB hb; clear hb hbox hg; have A9 := bc0 A0; have Aa := bc1 A0; have Aj := qz A0.o 0; have Ak := qz A0.o 1))
    go_ret
    exact ⟨by first | rfl | (simp [eN, eS] <;> rfl) | (simp [*, eN, eS] <;> rfl), vB HB⟩
   ·rw [if_neg c8] at H
    have Av := decide_eq_false c8
    clear c8
    by_cases c11 : a0_1 > 1
    ·rw [if_pos c11] at H
     have A4 := decide_eq_true c11
     clear c11
     obtain rfl := Option.some.inj H
     go_enter Try.func87, Try.ntmps87
     go_wp2_with (first | ((with_reducible refine gq (N := 1) rfl ?_); refine be (N := 1) (cs := #[.int .i64 a0_0, .int .i64 a0_1]) (t := 89) ?_; intro A3 hg AF hbox hb; have A0 := Z.m (hbox); have A1 := gW (w := w) HB hg; have A2 := A1; replace HB := bB HB hb; clear hb hbox hg; have Ab := bc0 A0; have Ac := bc1 A0; have Al := qz A0.o 0; have Am := qz A0.o 1))
     go_ret
     exact ⟨by first | rfl | (simp [eN, eS] <;> rfl) | (simp [*, eN, eS] <;> rfl), vB HB⟩
    ·rw [if_neg c11] at H
     have A4 := decide_eq_false c11
     clear c11
     by_cases c14 : a0_1 = 0
     ·rw [if_pos c14] at H
      have A5 := beq_iff_eq.mpr c14
      have A6 := bne_eq_false_iff_eq.mpr c14
      clear c14
      obtain rfl := Option.some.inj H
      go_enter Try.func87, Try.ntmps87
      go_wp2_with (first | ((with_reducible refine gq (N := 1) rfl ?_); refine be (N := 1) (cs := #[.int .i64 a0_0, .int .i64 a0_1]) (t := 89) ?_; intro A3 hg AG hbox hb; have A0 := Z.m (hbox); have A1 := gW (w := w) HB hg; have A2 := A1; replace HB := bB HB hb; clear hb hbox hg; have Ad := bc0 A0; have Ae := bc1 A0; have An := qz A0.o 0; have Ao := qz A0.o 1))
      go_ret
      exact ⟨by first | rfl | (simp [eN, eS] <;> rfl) | (simp [*, eN, eS] <;> rfl), vB HB⟩
     ·rw [if_neg c14] at H
      have A5 := beq_eq_false_iff_ne.mpr c14
      have A6 := bne_iff_ne.mpr c14
      by_cases c17 : a0_0 = 3
      ·rw [if_pos c17] at H
       have A7 := beq_iff_eq.mpr c17
       have A8 := bne_eq_false_iff_eq.mpr c17
       clear c17
       obtain rfl := Option.some.inj H
       go_enter Try.func87, Try.ntmps87
       go_wp2_with (first | ((with_reducible refine gq (N := 1) rfl ?_); refine be (N := 1) (cs := #[.int .i64 a0_0, .int .i64 a0_1]) (t := 89) ?_; intro A3 hg AH hbox hb; have A0 := Z.m (hbox); have A1 := gW (w := w) HB hg; have A2 := A1; replace HB := bB HB hb; clear hb hbox hg; have Af := bc0 A0; have Ag := bc1 A0; have Ap := qz A0.o 0; have Aq := qz A0.o 1))
       go_ret
       exact ⟨by first | rfl | (simp [eN, eS] <;> rfl) | (simp [*, eN, eS] <;> rfl), vB HB⟩
      ·rw [if_neg c17] at H
       have A7 := beq_eq_false_iff_ne.mpr c17
       have A8 := bne_iff_ne.mpr c17
       obtain rfl := Option.some.inj H
       go_enter Try.func87, Try.ntmps87
       go_wp2_with (first | ((with_reducible refine gq (N := 1) rfl ?_); refine be (N := 1) (cs := #[.int .i64 a0_0, .int .i64 a0_1]) (t := 89) ?_; intro A3 hg AI hbox hb; have A0 := Z.m (hbox); have A1 := gW (w := w) HB hg; have A2 := A1; replace HB := bB HB hb; clear hb hbox hg; have Ah := bc0 A0; have Ai := bc1 A0; have Ar := qz A0.o 0; have As := qz A0.o 1))
       go_ret
       exact ⟨by first | rfl | (simp [eN, eS] <;> rfl) | (simp [*, eN, eS] <;> rfl), vB HB⟩

/-! ### impl_validCells: function 79 -/
def impl_validCells.l0 : Nat → List (S89) → Int → Int → Option (Bool)
 | 0, _, _, _ => none
 | k + 1, x8, x9, x10 => if x10 < x9 then (if 0 ≤ x10 then (if x10 < (x8.length : Int) then ((impl_IsCell.f ((rd_T89 x8 x10).f0) ((rd_T89 x8 x10).f1)).bind fun t256 => (if t256 = true then (impl_validCells.l0 k x8 x9 (wrap64 (x10 + 1))) else (some false))) else (none)) else (none)) else (some true)
def impl_validCells.f (k : Nat) (l0 : List (S89)) : Option (Bool) := if (l0.length : Int) > 90 then (some false) else (impl_validCells.l0 k l0 (l0.length : Int) 0)
set_option maxHeartbeats 8000000 in
set_option maxRecDepth 100000 in
theorem impl_validCells.calls (k : Nat) (A0 : Option Addr) (c0 : Nat) (l0 : List (S89)) (r : Bool) (w : World) (hr0 : Kd.C k89 w A0 l0.length l0) (hc0 : l0.length ≤ c0) (h : impl_validCells.f k l0 = some r) :
 Calls Try.prog 79 #[.slice A0 l0.length c0] w fun e w' => e = .returned (.bool r) ∧ Below w.heap.size w w' := by
 have As := Try.underlying89
 have Ao := Z.m hr0
 have At := Z.m hc0
 clear hr0 hc0
 have HB := Z.m (Below.refl w.heap.size w)
 have H : (if (l0.length : Int) > 90 then (some false) else (impl_validCells.l0 k l0 (l0.length : Int) 0)) = some r := h
 clear h
 by_cases c2 : (l0.length : Int) > 90
 ·rw [if_pos c2] at H
  have Aa := decide_eq_true c2
  have Ab : decide (90 < l0.length) = true := decide_eq_true (by omega)
  clear c2
  obtain rfl := Option.some.inj H
  go_enter Try.func79, Try.ntmps79
  go_wp2
  go_ret
  exact ⟨by first | rfl | (simp [eN, eS] <;> rfl) | (simp [*, eN, eS] <;> rfl), vB HB⟩
 ·rw [if_neg c2] at H
  have Aa := decide_eq_false c2
  have Ab : decide (90 < l0.length) = false := decide_eq_false (by omega)
  clear c2
  have H' := Z.m H
  clear H
  go_enter Try.func79, Try.ntmps79
  go_wp2
  go_loopg [10] k (fun kq v10 w' => ∃ (A1 : Int), v10 = .int .i64 A1 ∧ Z (impl_validCells.l0 kq l0 (l0.length : Int) A1 = some r) ∧ Z (kq ≤ k) ∧ Z (Below w.heap.size w w'))
  case atStart => exact ⟨(0), (by first | rfl | (simp; done) | (simp [*]; done)), H', ⟨Nat.le_refl _⟩, ⟨vB HB⟩⟩
  case round =>
   clear H'
   (try clear Aa); (try clear Ab)
   obtain ⟨A1, rfl, HA, An, HB⟩ := hrel
   cases gk with
   | zero => exact absurd HA.o (by simp [impl_validCells.l0])
   | succ k1 =>
    have H := HA.o
    clear HA
    simp only [impl_validCells.l0] at H
    by_cases c3 : A1 < (l0.length : Int)
    ·rw [if_pos c3] at H
     have Ah := decide_eq_true c3
     clear c3
     by_cases c4 : 0 ≤ A1
     ·rw [if_pos c4] at H
      have Ap := decide_eq_true c4
      clear c4
      by_cases c5 : A1 < (l0.length : Int)
      ·rw [if_pos c5] at H
       have Aq := decide_eq_true c5
       clear c5
       replace H := Option.bind_eq_some_iff.mp H
       obtain ⟨Ac, Am, H⟩ := H
       replace H : (if Ac = true then (impl_validCells.l0 k1 l0 (l0.length : Int) (wrap64 (A1 + 1))) else (some false)) = some r := H
       have A6 := Z.m Am
       clear Am
       by_cases c7 : Ac = true
       ·subst c7
        have H1 : (impl_validCells.l0 k1 l0 (l0.length : Int) (wrap64 (A1 + 1))) = some r := by rw [if_pos rfl] at H; exact H
        clear H
        have H := H1
        clear H1
        have H' := Z.m H
        clear H
        have p254 : 0 ≤ (A1 : Int) := ofD
        have q254 : A1 < (l0.length : Int) := ofD
        obtain ⟨A9, e254, A3, A4⟩ := at_T89 Ao.o A1 p254 q254
        cases e254
        replace A3 := (HB.o.cell (World.block_lt_of_cell? w _ A3)).trans A3
        replace A4 := (HB.o.cell (World.block_lt_of_cell? w _ A4)).trans A4
        replace p254 := eq_true p254
        replace q254 := eq_true q254
        go_wp2_with (first | ((with_reducible refine gq (N := 4) rfl ?_); refine be (N := 4) (cs := #[.int .i64 0, .int .i64 0]) (t := 89) ?_; intro A7 hg w8 hbox hb; have A2 := Z.m (hbox); have A5 := gW (w := w) HB hg; have A8 := A5; replace HB := bB HB hb; clear hb hbox hg; have Ai := bc0 A2; have Aj := bc1 A2; have Ak := qz A2.o 0; have Al := qz A2.o 1) | ((with_reducible refine gc (f := 87) rfl ?_); refine gA (some 15) _ #[.agg #[.int .i64 ((rd_T89 l0 A1).f0), .int .i64 ((rd_T89 l0 A1).f1)]] ?_ Try.func87; (with_reducible refine (impl_IsCell.calls ((rd_T89 l0 A1).f0) ((rd_T89 l0 A1).f1) true _ A6.o).mono ?_); rintro e Au ⟨rfl, hb⟩; refine ⟨_, rfl, ?_⟩; replace A2 := Z.m (qb (g := A7) (o := .cells #[.int .i64 ((rd_T89 l0 A1).f0), .int .i64 ((rd_T89 l0 A1).f1)] 89 (0, 0)) (by refine bK ?_; refine qp (cs := #[iV ((rd_T89 l0 A1).f0), iV 0]) ?_ 1 _ rfl; refine bK ?_; refine qp (cs := #[iV 0, iV 0]) ?_ 0 _ rfl; refine bK ?_; exact A2.o) hb); replace HB := bB HB hb; (try clear hb); (try clear Ar); (try clear hk); (try clear hi)))
        go_roundg k1
        case measure => have := An.o; omega
        case rel => exact ⟨(wrap64 (A1 + 1)), (by first | rfl | (simp; done) | (simp [*]; done)), H', ⟨by have := An.o; omega⟩, ⟨vB HB⟩⟩
       ·replace c7 := Bool.eq_false_iff.mpr c7
        subst c7
        have H1 : (some false) = some r := by rw [if_neg (show ¬ (false = true) by decide)] at H; exact H
        clear H
        have H := H1
        clear H1
        obtain rfl := Option.some.inj H
        have p254 : 0 ≤ (A1 : Int) := ofD
        have q254 : A1 < (l0.length : Int) := ofD
        obtain ⟨A9, e254, A3, A4⟩ := at_T89 Ao.o A1 p254 q254
        cases e254
        replace A3 := (HB.o.cell (World.block_lt_of_cell? w _ A3)).trans A3
        replace A4 := (HB.o.cell (World.block_lt_of_cell? w _ A4)).trans A4
        replace p254 := eq_true p254
        replace q254 := eq_true q254
        go_wp2_with (first | ((with_reducible refine gq (N := 4) rfl ?_); refine be (N := 4) (cs := #[.int .i64 0, .int .i64 0]) (t := 89) ?_; intro A7 hg Av hbox hb; have A2 := Z.m (hbox); have A5 := gW (w := w) HB hg; have A8 := A5; replace HB := bB HB hb; clear hb hbox hg; have Ad := bc0 A2; have Ae := bc1 A2; have Af := qz A2.o 0; have Ag := qz A2.o 1) | ((with_reducible refine gc (f := 87) rfl ?_); refine gA (some 15) _ #[.agg #[.int .i64 ((rd_T89 l0 A1).f0), .int .i64 ((rd_T89 l0 A1).f1)]] ?_ Try.func87; (with_reducible refine (impl_IsCell.calls ((rd_T89 l0 A1).f0) ((rd_T89 l0 A1).f1) false _ A6.o).mono ?_); rintro e Aw ⟨rfl, hb⟩; refine ⟨_, rfl, ?_⟩; replace A2 := Z.m (qb (g := A7) (o := .cells #[.int .i64 ((rd_T89 l0 A1).f0), .int .i64 ((rd_T89 l0 A1).f1)] 89 (0, 0)) (by refine bK ?_; refine qp (cs := #[iV ((rd_T89 l0 A1).f0), iV 0]) ?_ 1 _ rfl; refine bK ?_; refine qp (cs := #[iV 0, iV 0]) ?_ 0 _ rfl; refine bK ?_; exact A2.o) hb); replace HB := bB HB hb; (try clear hb); (try clear Ar); (try clear hk); (try clear hi)))
        go_ret
        exact ⟨by first | rfl | (simp [eN, eS] <;> rfl) | (simp [*, eN, eS] <;> rfl), vB HB⟩
      ·rw [if_neg c5] at H
       exact absurd H (by simp)
     ·rw [if_neg c4] at H
      exact absurd H (by simp)
    ·rw [if_neg c3] at H
     have Ah := decide_eq_false c3
     clear c3
     obtain rfl := Option.some.inj H
     go_wp2
     go_ret
     exact ⟨by first | rfl | (simp [eN, eS] <;> rfl) | (simp [*, eN, eS] <;> rfl), vB HB⟩

/-! ### impl_IsBoard: function 59 -/
def impl_IsBoard.f (k : Nat) (a0_0 : Int) (a0_1 : Int) (l0_2 : List (S89)) : Option (Bool) := if a0_0 ≥ 1 then (if a0_0 ≤ 10 then (if a0_1 ≥ 1 then (if a0_1 ≤ 9 then (if (l0_2.length : Int) = (wrap64 (a0_0 * a0_1)) then ((impl_validCells.f k l0_2).bind fun t258 => (some t258)) else (some false)) else (some false)) else (some false)) else (some false)) else (some false)
set_option maxHeartbeats 8000000 in
set_option maxRecDepth 100000 in
theorem impl_IsBoard.calls (k : Nat) (a0_0 : Int) (a0_1 : Int) (A0_2 : Option Addr) (c0_2 : Nat) (l0_2 : List (S89)) (r : Bool) (w : World) (hr0_2 : Kd.C k89 w A0_2 l0_2.length l0_2) (hc0_2 : l0_2.length ≤ c0_2) (h : impl_IsBoard.f k a0_0 a0_1 l0_2 = some r) :
 Calls Try.prog 59 #[.agg #[.int .i64 a0_0, .int .i64 a0_1, .slice A0_2 l0_2.length c0_2]] w fun e w' => e = .returned (.bool r) ∧ Below w.heap.size w w' := by
 have AP := Try.underlying32
 have A6 := Z.m hr0_2
 have A5 := Z.m hc0_2
 clear hr0_2 hc0_2
 have HB := Z.m (Below.refl w.heap.size w)
 have H : (if a0_0 ≥ 1 then (if a0_0 ≤ 10 then (if a0_1 ≥ 1 then (if a0_1 ≤ 9 then (if (l0_2.length : Int) = (wrap64 (a0_0 * a0_1)) then ((impl_validCells.f k l0_2).bind fun A4 => (some A4)) else (some false)) else (some false)) else (some false)) else (some false)) else (some false)) = some r := h
 clear h
 by_cases c2 : a0_0 ≥ 1
 ·rw [if_pos c2] at H
  have AC := decide_eq_true c2
  clear c2
  by_cases c3 : a0_0 ≤ 10
  ·rw [if_pos c3] at H
   have AD := decide_eq_true c3
   clear c3
   by_cases c4 : a0_1 ≥ 1
   ·rw [if_pos c4] at H
    have AE := decide_eq_true c4
    clear c4
    by_cases c5 : a0_1 ≤ 9
    ·rw [if_pos c5] at H
     have AF := decide_eq_true c5
     clear c5
     by_cases c6 : (l0_2.length : Int) = (wrap64 (a0_0 * a0_1))
     ·rw [if_pos c6] at H
      have AG := beq_iff_eq.mpr c6
      have AH := bne_eq_false_iff_eq.mpr c6
      clear c6
      replace H := Option.bind_eq_some_iff.mp H
      obtain ⟨A4, AO, H⟩ := H
      replace H : (some A4) = some r := H
      have A7 := Z.m AO
      clear AO
      obtain rfl := Option.some.inj H
      go_enter Try.func59, Try.ntmps59
      go_wp2_with (first | ((with_reducible refine gq (N := 1) rfl ?_); (try (refine gate_guard (by rfl) ?_; dsimp only)); refine be (N := 1) (cs := #[.int .i64 a0_0, .int .i64 a0_1, .slice A0_2 l0_2.length c0_2]) (t := 32) ?_; intro A3 hg w8 hbox hb; have A0 := Z.m (hbox); have A1 := gW (w := w) HB hg; have A2 := A1; replace HB := bB HB hb; clear hb hbox hg; have AI := bc0 A0; have AJ := bc1 A0; have AK := bc2 A0; have AL := qz A0.o 0; have AM := qz A0.o 1; have AN := qz A0.o 2) | (go_at_call 79; (with_reducible refine (impl_validCells.calls k _ _ l0_2 A4 _ ?side1 ?side2 A7.o).mono ?_); (case side1 => repeat (first | exact (Kd.C_below A6.o HB.o) | (with_reducible refine Kd.C_alloc ?_ _) | (with_reducible refine Kd.C_drewN ?_ _) | (with_reducible refine Kd.C_drew ?_))); (case side2 => exact A5.o); rintro e AR ⟨rfl, hb⟩; replace A0 := kB A0 hb; replace HB := bB HB hb; (try clear hb); (try clear AQ); (try clear hk); (try clear hi)))
      go_ret
      exact ⟨by first | rfl | (simp [eN, eS] <;> rfl) | (simp [*, eN, eS] <;> rfl), vB HB⟩
     ·rw [if_neg c6] at H
      have AG := beq_eq_false_iff_ne.mpr c6
      have AH := bne_iff_ne.mpr c6
      obtain rfl := Option.some.inj H
      go_enter Try.func59, Try.ntmps59
      go_wp2_with (first | ((with_reducible refine gq (N := 1) rfl ?_); (try (refine gate_guard (by rfl) ?_; dsimp only)); refine be (N := 1) (cs := #[.int .i64 a0_0, .int .i64 a0_1, .slice A0_2 l0_2.length c0_2]) (t := 32) ?_; intro A3 hg AS hbox hb; have A0 := Z.m (hbox); have A1 := gW (w := w) HB hg; have A2 := A1; replace HB := bB HB hb; clear hb hbox hg; have A8 := bc0 A0; have A9 := bc1 A0; have Aa := bc2 A0; have An := qz A0.o 0; have Ao := qz A0.o 1; have Ap := qz A0.o 2))
      go_ret
      exact ⟨by first | rfl | (simp [eN, eS] <;> rfl) | (simp [*, eN, eS] <;> rfl), vB HB⟩
    ·rw [if_neg c5] at H
     have AF := decide_eq_false c5
     clear c5
     obtain rfl := Option.some.inj H
     go_enter Try.func59, Try.ntmps59
     go_wp2_with (first | ((with_reducible refine gq (N := 1) rfl ?_); (try (refine gate_guard (by rfl) ?_; dsimp only)); refine be (N := 1) (cs := #[.int .i64 a0_0, .int .i64 a0_1, .slice A0_2 l0_2.length c0_2]) (t := 32) ?_; intro A3 hg AT hbox hb; have A0 := Z.m (hbox); have A1 := gW (w := w) HB hg; have A2 := A1; replace HB := bB HB hb; clear hb hbox hg; have Ab := bc0 A0; have Ac := bc1 A0; have Ad := bc2 A0; have Aq := qz A0.o 0; have Ar := qz A0.o 1; have As := qz A0.o 2))
     go_ret
     exact ⟨by first | rfl | (simp [eN, eS] <;> rfl) | (simp [*, eN, eS] <;> rfl), vB HB⟩
   ·rw [if_neg c4] at H
    have AE := decide_eq_false c4
    clear c4
    obtain rfl := Option.some.inj H
    go_enter Try.func59, Try.ntmps59
    go_wp2_with (first | ((with_reducible refine gq (N := 1) rfl ?_); (try (refine gate_guard (by rfl) ?_; dsimp only)); refine be (N := 1) (cs := #[.int .i64 a0_0, .int .i64 a0_1, .slice A0_2 l0_2.length c0_2]) (t := 32) ?_; intro A3 hg AU hbox hb; have A0 := Z.m (hbox); have A1 := gW (w := w) HB hg; have A2 := A1; replace HB := bB HB hb; clear hb hbox hg; have Ae := bc0 A0; have Af := bc1 A0; have Ag := bc2 A0; have At := qz A0.o 0; have Au := qz A0.o 1; have Av := qz A0.o 2))
    go_ret
    exact ⟨by first | rfl | (simp [eN, eS] <;> rfl) | (simp [*, eN, eS] <;> rfl), vB HB⟩
  ·rw [if_neg c3] at H
   have AD := decide_eq_false c3
   clear c3
   obtain rfl := Option.some.inj H
   go_enter Try.func59, Try.ntmps59
   go_wp2_with (first | ((with_reducible refine gq (N := 1) rfl ?_); (try (refine gate_guard (by rfl) ?_; dsimp only)); refine be (N := 1) (cs := #[.int .i64 a0_0, .int .i64 a0_1, .slice A0_2 l0_2.length c0_2]) (t := 32) ?_; intro A3 hg AV hbox hb; have A0 := Z.m (hbox); have A1 := gW (w := w) HB hg; have A2 := A1; replace HB := bB HB hb; clear hb hbox hg; have Ah := bc0 A0; have Ai := bc1 A0; have Aj := bc2 A0; have Aw := qz A0.o 0; have Ax := qz A0.o 1; have Ay := qz A0.o 2))
   go_ret
   exact ⟨by first | rfl | (simp [eN, eS] <;> rfl) | (simp [*, eN, eS] <;> rfl), vB HB⟩
 ·rw [if_neg c2] at H
  have AC := decide_eq_false c2
  clear c2
  obtain rfl := Option.some.inj H
  go_enter Try.func59, Try.ntmps59
  go_wp2_with (first | ((with_reducible refine gq (N := 1) rfl ?_); (try (refine gate_guard (by rfl) ?_; dsimp only)); refine be (N := 1) (cs := #[.int .i64 a0_0, .int .i64 a0_1, .slice A0_2 l0_2.length c0_2]) (t := 32) ?_; intro A3 hg AW hbox hb; have A0 := Z.m (hbox); have A1 := gW (w := w) HB hg; have A2 := A1; replace HB := bB HB hb; clear hb hbox hg; have Ak := bc0 A0; have Al := bc1 A0; have Am := bc2 A0; have Az := qz A0.o 0; have AA := qz A0.o 1; have AB := qz A0.o 2))
  go_ret
  exact ⟨by first | rfl | (simp [eN, eS] <;> rfl) | (simp [*, eN, eS] <;> rfl), vB HB⟩

/-! ### impl_validEntry: function 53 -/
def impl_validEntry.f (k : Nat) (a0_0 : Int) (a0_1 : Int) (l0_2 : List (S89)) (a1 : Int) : Option (Bool) := (impl_IsBoard.f k a0_0 a0_1 l0_2).bind fun t260 => (if t260 = true then (if a1 ≥ 0 then (some (decide (a1 < a0_1))) else (some false)) else (some false))
set_option maxHeartbeats 8000000 in
set_option maxRecDepth 100000 in
theorem impl_validEntry.calls (k : Nat) (a0_0 : Int) (a0_1 : Int) (A0_2 : Option Addr) (c0_2 : Nat) (l0_2 : List (S89)) (a1 : Int) (r : Bool) (w : World) (hr0_2 : Kd.C k89 w A0_2 l0_2.length l0_2) (hc0_2 : l0_2.length ≤ c0_2) (h : impl_validEntry.f k a0_0 a0_1 l0_2 a1 = some r) :
 Calls Try.prog 53 #[.agg #[.int .i64 a0_0, .int .i64 a0_1, .slice A0_2 l0_2.length c0_2], .int .i64 a1] w fun e w' => e = .returned (.bool r) ∧ Below w.heap.size w w' := by
 have Az := Try.underlying32
 have A4 := Z.m hr0_2
 have A2 := Z.m hc0_2
 clear hr0_2 hc0_2
 have HB := Z.m (Below.refl w.heap.size w)
 have H : ((impl_IsBoard.f k a0_0 a0_1 l0_2).bind fun A5 => (if A5 = true then (if a1 ≥ 0 then (some (decide (a1 < a0_1))) else (some false)) else (some false))) = some r := h
 clear h
 replace H := Option.bind_eq_some_iff.mp H
 obtain ⟨A5, Ax, H⟩ := H
 replace H : (if A5 = true then (if a1 ≥ 0 then (some (decide (a1 < a0_1))) else (some false)) else (some false)) = some r := H
 have A3 := Z.m Ax
 clear Ax
 by_cases c4 : A5 = true
 ·subst c4
  have H1 : (if a1 ≥ 0 then (some (decide (a1 < a0_1))) else (some false)) = some r := by rw [if_pos rfl] at H; exact H
  clear H
  have H := H1
  clear H1
  by_cases c5 : a1 ≥ 0
  ·rw [if_pos c5] at H
   have Ak := decide_eq_true c5
   clear c5
   obtain rfl := Option.some.inj H
   go_enter Try.func53, Try.ntmps53
   go_wp2_with (first | ((with_reducible refine gq (N := 2) rfl ?_); refine be (N := 2) (cs := #[.int .i64 a0_0, .int .i64 a0_1, .slice A0_2 l0_2.length c0_2]) (t := 32) ?_; intro A7 hg w6 hbox hb; have A0 := Z.m (hbox); have A1 := gW (w := w) HB hg; have A6 := A1; replace HB := bB HB hb; clear hb hbox hg; have Al := bc0 A0; have Am := bc1 A0; have An := bc2 A0; have Ar := qz A0.o 0; have As := qz A0.o 1; have At := qz A0.o 2) | ((with_reducible refine gc (f := 59) rfl ?_); refine gA (some 6) _ #[.agg #[.int .i64 a0_0, .int .i64 a0_1, .slice A0_2 l0_2.length c0_2]] ?_ Try.func59; (with_reducible refine (impl_IsBoard.calls k a0_0 a0_1 _ _ l0_2 true _ ?side1 ?side2 A3.o).mono ?_); (case side1 => repeat (first | exact (Kd.C_below A4.o HB.o) | (with_reducible refine Kd.C_alloc ?_ _) | (with_reducible refine Kd.C_drewN ?_ _) | (with_reducible refine Kd.C_drew ?_))); (case side2 => exact A2.o); rintro e w8 ⟨rfl, hb⟩; refine ⟨_, rfl, ?_⟩; replace A0 := kB A0 hb; replace HB := bB HB hb; (try clear hb); (try clear Ay); (try clear hk); (try clear hi); have Ao := bc0 A0; have Ap := bc1 A0; have Aq := bc2 A0; have Au := qz A0.o 0; have Av := qz A0.o 1; have Aw := qz A0.o 2))
   go_ret
   exact ⟨by first | rfl | (simp [eN, eS] <;> rfl) | (simp [*, eN, eS] <;> rfl), vB HB⟩
  ·rw [if_neg c5] at H
   have Ak := decide_eq_false c5
   clear c5
   obtain rfl := Option.some.inj H
   go_enter Try.func53, Try.ntmps53
   go_wp2_with (first | ((with_reducible refine gq (N := 2) rfl ?_); refine be (N := 2) (cs := #[.int .i64 a0_0, .int .i64 a0_1, .slice A0_2 l0_2.length c0_2]) (t := 32) ?_; intro A7 hg AA hbox hb; have A0 := Z.m (hbox); have A1 := gW (w := w) HB hg; have A6 := A1; replace HB := bB HB hb; clear hb hbox hg; have A8 := bc0 A0; have A9 := bc1 A0; have Aa := bc2 A0; have Ae := qz A0.o 0; have Af := qz A0.o 1; have Ag := qz A0.o 2) | ((with_reducible refine gc (f := 59) rfl ?_); refine gA (some 6) _ #[.agg #[.int .i64 a0_0, .int .i64 a0_1, .slice A0_2 l0_2.length c0_2]] ?_ Try.func59; (with_reducible refine (impl_IsBoard.calls k a0_0 a0_1 _ _ l0_2 true _ ?side1 ?side2 A3.o).mono ?_); (case side1 => repeat (first | exact (Kd.C_below A4.o HB.o) | (with_reducible refine Kd.C_alloc ?_ _) | (with_reducible refine Kd.C_drewN ?_ _) | (with_reducible refine Kd.C_drew ?_))); (case side2 => exact A2.o); rintro e AB ⟨rfl, hb⟩; refine ⟨_, rfl, ?_⟩; replace A0 := kB A0 hb; replace HB := bB HB hb; (try clear hb); (try clear Ay); (try clear hk); (try clear hi)))
   go_ret
   exact ⟨by first | rfl | (simp [eN, eS] <;> rfl) | (simp [*, eN, eS] <;> rfl), vB HB⟩
 ·replace c4 := Bool.eq_false_iff.mpr c4
  subst c4
  have H1 : (some false) = some r := by rw [if_neg (show ¬ (false = true) by decide)] at H; exact H
  clear H
  have H := H1
  clear H1
  obtain rfl := Option.some.inj H
  go_enter Try.func53, Try.ntmps53
  go_wp2_with (first | ((with_reducible refine gq (N := 2) rfl ?_); refine be (N := 2) (cs := #[.int .i64 a0_0, .int .i64 a0_1, .slice A0_2 l0_2.length c0_2]) (t := 32) ?_; intro A7 hg AC hbox hb; have A0 := Z.m (hbox); have A1 := gW (w := w) HB hg; have A6 := A1; replace HB := bB HB hb; clear hb hbox hg; have Ab := bc0 A0; have Ac := bc1 A0; have Ad := bc2 A0; have Ah := qz A0.o 0; have Ai := qz A0.o 1; have Aj := qz A0.o 2) | ((with_reducible refine gc (f := 59) rfl ?_); refine gA (some 6) _ #[.agg #[.int .i64 a0_0, .int .i64 a0_1, .slice A0_2 l0_2.length c0_2]] ?_ Try.func59; (with_reducible refine (impl_IsBoard.calls k a0_0 a0_1 _ _ l0_2 false _ ?side1 ?side2 A3.o).mono ?_); (case side1 => repeat (first | exact (Kd.C_below A4.o HB.o) | (with_reducible refine Kd.C_alloc ?_ _) | (with_reducible refine Kd.C_drewN ?_ _) | (with_reducible refine Kd.C_drew ?_))); (case side2 => exact A2.o); rintro e AD ⟨rfl, hb⟩; refine ⟨_, rfl, ?_⟩; replace A0 := kB A0 hb; replace HB := bB HB hb; (try clear hb); (try clear Ay); (try clear hk); (try clear hi)))
  go_ret
  exact ⟨by first | rfl | (simp [eN, eS] <;> rfl) | (simp [*, eN, eS] <;> rfl), vB HB⟩

/-! ### impl_GoesTo: function 73 -/
mutual
def impl_GoesTo.j0 : Nat → Int → Bool → Int → Int → Option (Int × Bool)
 | 0, _, _, _, _ => none
 | k + 1, x1, x21, x262000, x262001 => if x21 = true then (some (0, false)) else (if x262000 = 1 then (some ((-1), true)) else (if x262000 = 2 then (some (1, true)) else (if x262000 = 3 then (impl_GoesTo.j1 k x1 x262000 (x262000 == 3) x262000 x262001) else (impl_GoesTo.j1 k x1 x262000 (x262000 == 6) x262000 x262001))))
def impl_GoesTo.j1 : Nat → Int → Int → Bool → Int → Int → Option (Int × Bool)
 | 0, _, _, _, _, _ => none
 | k + 1, x1, x23, x28, x262000, x262001 => if x28 = true then (some (wrap64 ((wrap64 (2 * x262001)) - 1), true)) else (if x23 = 4 then (some (wrap64 (-x1), true)) else (some (0, true)))
end
def impl_GoesTo.f (k : Nat) (a0_0 : Int) (a0_1 : Int) (a1 : Int) : Option (Int × Bool) := (impl_IsCell.f a0_0 a0_1).bind fun t262 => (if t262 = true then (if a1 < (-1) then (impl_GoesTo.j0 k a1 true a0_0 a0_1) else (if a1 > 1 then (impl_GoesTo.j0 k a1 true a0_0 a0_1) else (impl_GoesTo.j0 k a1 (a0_0 == 5) a0_0 a0_1))) else (impl_GoesTo.j0 k a1 true a0_0 a0_1))
set_option maxHeartbeats 8000000 in
set_option maxRecDepth 100000 in
theorem impl_GoesTo.calls (k : Nat) (a0_0 : Int) (a0_1 : Int) (a1 : Int) (r1 : Int) (r2 : Bool) (w : World) (h : impl_GoesTo.f k a0_0 a0_1 a1 = some (r1, r2)) :
 Calls Try.prog 73 #[.agg #[.int .i64 a0_0, .int .i64 a0_1], .int .i64 a1] w fun e w' => e = .returned (.tuple #[.int .i64 r1, .bool r2]) ∧ Below w.heap.size w w' := by
 have AY := Try.underlying89
 have HB := Z.m (Below.refl w.heap.size w)
 have H : ((impl_IsCell.f a0_0 a0_1).bind fun Aa => (if Aa = true then (if a1 < (-1) then (impl_GoesTo.j0 k a1 true a0_0 a0_1) else (if a1 > 1 then (impl_GoesTo.j0 k a1 true a0_0 a0_1) else (impl_GoesTo.j0 k a1 (a0_0 == 5) a0_0 a0_1))) else (impl_GoesTo.j0 k a1 true a0_0 a0_1))) = some (r1, r2) := h
 clear h
 have AO := Z.m H
 clear H
 go_enter Try.func73, Try.ntmps73
 go_upto_region 1 with (first | ((with_reducible refine gq (N := 2) rfl ?_); refine be (N := 2) (cs := #[.int .i64 a0_0, .int .i64 a0_1]) (t := 89) ?_; intro Af hg w4 hbox hb; have A0 := Z.m (hbox); have Ah := gW (w := w) HB hg; have AV := Ah; replace HB := bB HB hb; clear hb hbox hg))
 (try simp only [Act.put, q1, q2, q3])
 go_cut [21] (fun v21 wc => ∃ (kq : Nat) (A3 : Bool), v21 = .bool A3 ∧ Z (impl_GoesTo.j0 kq a1 A3 a0_0 a0_1 = some (r1, r2)) ∧ Z (kq ≤ k) ∧ Z (wc.heap[Af]? = some (.cells #[.int .i64 a0_0, .int .i64 a0_1] 89 (0, 0))) ∧ Z (Below w.heap.size w wc))
 case first =>
  have H := AO.o
  clear AO
  replace H := Option.bind_eq_some_iff.mp H
  obtain ⟨Aa, AU, H⟩ := H
  replace H : (if Aa = true then (if a1 < (-1) then (impl_GoesTo.j0 k a1 true a0_0 a0_1) else (if a1 > 1 then (impl_GoesTo.j0 k a1 true a0_0 a0_1) else (impl_GoesTo.j0 k a1 (a0_0 == 5) a0_0 a0_1))) else (impl_GoesTo.j0 k a1 true a0_0 a0_1)) = some (r1, r2) := H
  have A5 := Z.m AU
  clear AU
  by_cases c6 : Aa = true
  ·subst c6
   have H1 : (if a1 < (-1) then (impl_GoesTo.j0 k a1 true a0_0 a0_1) else (if a1 > 1 then (impl_GoesTo.j0 k a1 true a0_0 a0_1) else (impl_GoesTo.j0 k a1 (a0_0 == 5) a0_0 a0_1))) = some (r1, r2) := by rw [if_pos rfl] at H; exact H
   clear H
   have H := H1
   clear H1
   by_cases c7 : a1 < (-1)
   ·rw [if_pos c7] at H
    have A4 := decide_eq_true c7
    clear c7
    (first | rw [A4] | (simp only [i64_w, i32_w]; rw [A4]) | skip)
    have H' := Z.m H
    clear H
    have AQ := bc0 A0
    have AR := bc1 A0
    have AS := qz A0.o 0
    have AT := qz A0.o 1
    go_wp2_with (first | ((with_reducible refine gc (f := 87) rfl ?_); refine gA (some 7) _ #[.agg #[.int .i64 a0_0, .int .i64 a0_1]] ?_ Try.func87; (with_reducible refine (impl_IsCell.calls a0_0 a0_1 true _ A5.o).mono ?_); rintro e w9 ⟨rfl, hb⟩; refine ⟨_, rfl, ?_⟩; replace A0 := kB A0 hb; replace HB := bB HB hb; (try clear hb); (try clear AP); (try clear hk); (try clear hi)))
    go_meet
    case rel => exact ⟨_, (true), (by first | rfl | (simp; done) | (simp [*]; done)), H', ⟨by first | omega | exact Nat.le_refl _⟩, ⟨vK A0⟩, ⟨vB HB⟩⟩
   ·rw [if_neg c7] at H
    have A4 := decide_eq_false c7
    clear c7
    (first | rw [A4] | (simp only [i64_w, i32_w]; rw [A4]) | skip)
    by_cases c10 : a1 > 1
    ·rw [if_pos c10] at H
     have Ai := decide_eq_true c10
     clear c10
     have H' := Z.m H
     clear H
     have Am := bc0 A0
     have An := bc1 A0
     have AA := qz A0.o 0
     have AB := qz A0.o 1
     go_wp2_with (first | ((with_reducible refine gc (f := 87) rfl ?_); refine gA (some 7) _ #[.agg #[.int .i64 a0_0, .int .i64 a0_1]] ?_ Try.func87; (with_reducible refine (impl_IsCell.calls a0_0 a0_1 true _ A5.o).mono ?_); rintro e AZ ⟨rfl, hb⟩; refine ⟨_, rfl, ?_⟩; replace A0 := kB A0 hb; replace HB := bB HB hb; (try clear hb); (try clear AP); (try clear hk); (try clear hi)))
     go_meet
     case rel => exact ⟨_, (true), (by first | rfl | (simp; done) | (simp [*]; done)), H', ⟨by first | omega | exact Nat.le_refl _⟩, ⟨vK A0⟩, ⟨vB HB⟩⟩
    ·rw [if_neg c10] at H
     have Ai := decide_eq_false c10
     clear c10
     have H' := Z.m H
     clear H
     have Ao := bc0 A0
     have Ap := bc1 A0
     have AC := qz A0.o 0
     have AD := qz A0.o 1
     go_wp2_with (first | ((with_reducible refine gc (f := 87) rfl ?_); refine gA (some 7) _ #[.agg #[.int .i64 a0_0, .int .i64 a0_1]] ?_ Try.func87; (with_reducible refine (impl_IsCell.calls a0_0 a0_1 true _ A5.o).mono ?_); rintro e B0 ⟨rfl, hb⟩; refine ⟨_, rfl, ?_⟩; replace A0 := kB A0 hb; replace HB := bB HB hb; (try clear hb); (try clear AP); (try clear hk); (try clear hi); have Aq := bc0 A0; have Ar := bc1 A0; have AE := qz A0.o 0; have AF := qz A0.o 1))
     go_meet
     case rel => exact ⟨_, ((a0_0 == 5)), (by first | rfl | (simp; done) | (simp [*]; done)), H', ⟨by first | omega | exact Nat.le_refl _⟩, ⟨vK A0⟩, ⟨vB HB⟩⟩
  ·replace c6 := Bool.eq_false_iff.mpr c6
   subst c6
   have H1 : (impl_GoesTo.j0 k a1 true a0_0 a0_1) = some (r1, r2) := by rw [if_neg (show ¬ (false = true) by decide)] at H; exact H
   clear H
   have H := H1
   clear H1
   have H' := Z.m H
   clear H
   have As := bc0 A0
   have At := bc1 A0
   have AG := qz A0.o 0
   have AH := qz A0.o 1
   go_wp2_with (first | ((with_reducible refine gc (f := 87) rfl ?_); refine gA (some 7) _ #[.agg #[.int .i64 a0_0, .int .i64 a0_1]] ?_ Try.func87; (with_reducible refine (impl_IsCell.calls a0_0 a0_1 false _ A5.o).mono ?_); rintro e B2 ⟨rfl, hb⟩; refine ⟨_, rfl, ?_⟩; replace A0 := kB A0 hb; replace HB := bB HB hb; (try clear hb); (try clear AP); (try clear hk); (try clear hi)))
   go_meet
   case rel => exact ⟨_, (true), (by first | rfl | (simp; done) | (simp [*]; done)), H', ⟨by first | omega | exact Nat.le_refl _⟩, ⟨vK A0⟩, ⟨vB HB⟩⟩
 case rest =>
  clear AO
  obtain ⟨kq, A3, rfl, HA, AW, A0, HB⟩ := hcut
  cases kq with
  | zero => exact absurd HA.o (by simp [impl_GoesTo.j0])
  | succ kj2 =>
   have H := HA.o
   clear HA
   simp only [impl_GoesTo.j0] at H
   by_cases c18 : A3 = true
   ·subst c18
    have H1 : (some (0, false)) = some (r1, r2) := by rw [if_pos rfl] at H; exact H
    clear H
    have H := H1
    clear H1
    simp only [Option.some.injEq, Prod.mk.injEq] at H
    obtain ⟨rfl, rfl⟩ := H
    go_wp2
    go_ret2
    exact ⟨by first | rfl | (simp [eN, eS] <;> rfl) | (simp [*, eN, eS] <;> rfl), vB HB⟩
   ·replace c18 := Bool.eq_false_iff.mpr c18
    subst c18
    have H1 : (if a0_0 = 1 then (some ((-1), true)) else (if a0_0 = 2 then (some (1, true)) else (if a0_0 = 3 then (impl_GoesTo.j1 kj2 a1 a0_0 (a0_0 == 3) a0_0 a0_1) else (impl_GoesTo.j1 kj2 a1 a0_0 (a0_0 == 6) a0_0 a0_1)))) = some (r1, r2) := by rw [if_neg (show ¬ (false = true) by decide)] at H; exact H
    clear H
    have H := H1
    clear H1
    by_cases c19 : a0_0 = 1
    ·rw [if_pos c19] at H
     have Ab := beq_iff_eq.mpr c19
     have Ac := bne_eq_false_iff_eq.mpr c19
     clear c19
     simp only [Option.some.injEq, Prod.mk.injEq] at H
     obtain ⟨rfl, rfl⟩ := H
     have Au := bc0 A0
     have Av := bc1 A0
     have AI := qz A0.o 0
     have AJ := qz A0.o 1
     go_wp2
     go_ret2
     exact ⟨by first | rfl | (simp [eN, eS] <;> rfl) | (simp [*, eN, eS] <;> rfl), vB HB⟩
    ·rw [if_neg c19] at H
     have Ab := beq_eq_false_iff_ne.mpr c19
     have Ac := bne_iff_ne.mpr c19
     by_cases c21 : a0_0 = 2
     ·rw [if_pos c21] at H
      have Ad := beq_iff_eq.mpr c21
      have Ae := bne_eq_false_iff_eq.mpr c21
      clear c21
      simp only [Option.some.injEq, Prod.mk.injEq] at H
      obtain ⟨rfl, rfl⟩ := H
      have Aw := bc0 A0
      have Ax := bc1 A0
      have AK := qz A0.o 0
      have AL := qz A0.o 1
      go_wp2
      go_ret2
      exact ⟨by first | rfl | (simp [eN, eS] <;> rfl) | (simp [*, eN, eS] <;> rfl), vB HB⟩
     ·rw [if_neg c21] at H
      have Ad := beq_eq_false_iff_ne.mpr c21
      have Ae := bne_iff_ne.mpr c21
      have Ag := Z.m H
      clear H
      have A6 := bc0 A0
      have A7 := bc1 A0
      have A8 := qz A0.o 0
      have A9 := qz A0.o 1
      go_upto_if 28 with (fail)
      go_cut [28] (fun v28 wc => ∃ (kq : Nat) (A1 : Bool), v28 = .bool A1 ∧ Z (impl_GoesTo.j1 kq a1 a0_0 A1 a0_0 a0_1 = some (r1, r2)) ∧ Z (kq ≤ kj2) ∧ Z (wc.heap[Af]? = some (.cells #[.int .i64 a0_0, .int .i64 a0_1] 89 (0, 0))) ∧ Z (Below w.heap.size w wc))
      case first =>
       have H := Ag.o
       clear Ag
       by_cases c25 : a0_0 = 3
       ·rw [if_pos c25] at H
        have A2 := beq_iff_eq.mpr c25
        have Aj := bne_eq_false_iff_eq.mpr c25
        clear c25
        (first | rw [A2] | (simp only [i64_w, i32_w]; rw [A2]) | skip)
        have H' := Z.m H
        clear H
        go_wp2
        go_meet
        case rel => exact ⟨_, ((a0_0 == 3)), (by first | rfl | (simp; done) | (simp [*]; done)), H', ⟨by have := AW.o; first | omega | exact Nat.le_refl _⟩, ⟨vK A0⟩, ⟨vB HB⟩⟩
       ·rw [if_neg c25] at H
        have A2 := beq_eq_false_iff_ne.mpr c25
        have Aj := bne_iff_ne.mpr c25
        (first | rw [A2] | (simp only [i64_w, i32_w]; rw [A2]) | skip)
        have H' := Z.m H
        clear H
        go_wp2
        go_meet
        case rel => exact ⟨_, ((a0_0 == 6)), (by first | rfl | (simp; done) | (simp [*]; done)), H', ⟨by have := AW.o; first | omega | exact Nat.le_refl _⟩, ⟨vK A0⟩, ⟨vB HB⟩⟩
      case rest =>
       clear Ag
       (try clear c18); (try clear c19); (try clear Ab); (try clear Ac); (try clear c21); (try clear Ad); (try clear Ae)
       (try clear A6); (try clear A7); (try clear A8); (try clear A9)
       obtain ⟨kq, A1, rfl, HA, AX, A0, HB⟩ := hcut
       cases kq with
       | zero => exact absurd HA.o (by simp [impl_GoesTo.j1])
       | succ kj22 =>
        have H := HA.o
        clear HA
        simp only [impl_GoesTo.j1] at H
        by_cases c26 : A1 = true
        ·subst c26
         have H1 : (some (wrap64 ((wrap64 (2 * a0_1)) - 1), true)) = some (r1, r2) := by rw [if_pos rfl] at H; exact H
         clear H
         have H := H1
         clear H1
         simp only [Option.some.injEq, Prod.mk.injEq] at H
         obtain ⟨rfl, rfl⟩ := H
         have Ay := bc0 A0
         have Az := bc1 A0
         have AM := qz A0.o 0
         have AN := qz A0.o 1
         go_wp2
         go_ret2
         exact ⟨by first | rfl | (simp [eN, eS] <;> rfl) | (simp [*, eN, eS] <;> rfl), vB HB⟩
        ·replace c26 := Bool.eq_false_iff.mpr c26
         subst c26
         have H1 : (if a0_0 = 4 then (some (wrap64 (-a1), true)) else (some (0, true))) = some (r1, r2) := by rw [if_neg (show ¬ (false = true) by decide)] at H; exact H
         clear H
         have H := H1
         clear H1
         by_cases c28 : a0_0 = 4
         ·rw [if_pos c28] at H
          have Ak := beq_iff_eq.mpr c28
          have Al := bne_eq_false_iff_eq.mpr c28
          clear c28
          simp only [Option.some.injEq, Prod.mk.injEq] at H
          obtain ⟨rfl, rfl⟩ := H
          go_wp2
          go_ret2
          exact ⟨by first | rfl | (simp [eN, eS] <;> rfl) | (simp [*, eN, eS] <;> rfl), vB HB⟩
         ·rw [if_neg c28] at H
          have Ak := beq_eq_false_iff_ne.mpr c28
          have Al := bne_iff_ne.mpr c28
          simp only [Option.some.injEq, Prod.mk.injEq] at H
          obtain ⟨rfl, rfl⟩ := H
          go_wp2
          go_ret2
          exact ⟨by first | rfl | (simp [eN, eS] <;> rfl) | (simp [*, eN, eS] <;> rfl), vB HB⟩

end Go.Proofs.Ytoklfgjemfojgaa.PAll
