/- Began as a text that print.sh wrote (of the functions named below); turned and shortened by this session. -/
import Derived.Test.YteodcegmkbcjjaaG0
import Derived.Test.YteodcegmkbcjjaaG1
namespace Go.Proofs.Yteodcegmkbcjjaa.PAll
open Go.RowKit Go.Proofs.YteodcegmkbcjjaaW.PrintWords Go.Proofs.YteodcegmkbcjjaaW.PrintLast Go.Proofs.YteodcegmkbcjjaaW.PrintMore
attribute [local go_sem] max2_int min2_int max_two min_two max_three min_three max_four min_four   -- for this text's walks alone
set_option linter.unusedVariables false
set_option linter.unusedSimpArgs false

/-! ### impl_IsBoard: function 18 -/
def impl_IsBoard.f (k : Nat) (a0_0 : Int) (a0_1 : Int) (l0_2 : List (S34)) : Option (Bool) := if a0_0 ≥ 1 then (if a0_0 ≤ 10 then (if a0_1 ≥ 1 then (if a0_1 ≤ 9 then (if (l0_2.length : Int) = (wrap64 (a0_0 * a0_1)) then ((impl_validCells.f k l0_2).bind fun t136 => (some t136)) else (some false)) else (some false)) else (some false)) else (some false)) else (some false)
set_option maxHeartbeats 8000000 in
set_option maxRecDepth 100000 in
theorem impl_IsBoard.calls (k : Nat) (a0_0 : Int) (a0_1 : Int) (A0_2 : Option Addr) (c0_2 : Nat) (l0_2 : List (S34)) (r : Bool) (w : World) (hr0_2 : Kd.C k34 w A0_2 l0_2.length l0_2) (hc0_2 : l0_2.length ≤ c0_2) (h : impl_IsBoard.f k a0_0 a0_1 l0_2 = some r) :
 Calls Try.prog 18 #[.agg #[.int .i64 a0_0, .int .i64 a0_1, .slice A0_2 l0_2.length c0_2]] w fun e w' => e = .returned (.bool r) ∧ Below w.heap.size w w' := by
 have AP := Try.underlying29
 have A6 := Z.m hr0_2
 have A5 := Z.m hc0_2
 clear hr0_2 hc0_2
 have HB := Z.m (Below.refl w.heap.size w)
 have H : (if a0_0 ≥ 1 then (if a0_0 ≤ 10 then (if a0_1 ≥ 1 then (if a0_1 ≤ 9 then (if (l0_2.length : Int) = (wrap64 (a0_0 * a0_1)) then ((impl_validCells.f k l0_2).bind fun A4 => (some A4)) else (some false)) else (some false)) else (some false)) else (some false)) else (some false)) = some r := h
 clear h
 by_cases c2 : a0_0 ≥ 1
 ·rw [if_pos c2] at H
  have AC := decide_eq_true c2
  clear c2
  by_cases c3 : a0_0 ≤ 10
  ·rw [if_pos c3] at H
   have AD := decide_eq_true c3
   clear c3
   by_cases c4 : a0_1 ≥ 1
   ·rw [if_pos c4] at H
    have AE := decide_eq_true c4
    clear c4
    by_cases c5 : a0_1 ≤ 9
    ·rw [if_pos c5] at H
     have AF := decide_eq_true c5
     clear c5
     by_cases c6 : (l0_2.length : Int) = (wrap64 (a0_0 * a0_1))
     ·rw [if_pos c6] at H
      have AG := beq_iff_eq.mpr c6
      have AH := bne_eq_false_iff_eq.mpr c6
      clear c6
      replace H := Option.bind_eq_some_iff.mp H
      obtain ⟨A4, AO, H⟩ := H
      replace H : (some A4) = some r := H
      have A7 := Z.m AO
      clear AO
      obtain rfl := Option.some.inj H
      go_enter Try.func18, Try.ntmps18
      go_wp2_with (first | ((with_reducible refine gq (N := 1) rfl ?_); (try (refine gate_guard (by rfl) ?_; dsimp only)); refine be (N := 1) (cs := #[.int .i64 a0_0, .int .i64 a0_1, .slice A0_2 l0_2.length c0_2]) (t := 29) ?_; intro A3 hg w8 hbox hb; have A0 := Z.m (hbox); have A1 := gW (w := w) HB hg; have A2 := A1; replace HB := bB HB hb; clear hb hbox hg; have AI := bc0 A0; have AJ := bc1 A0; have AK := bc2 A0; have AL := qz A0.o 0; have AM := qz A0.o 1; have AN := qz A0.o 2) | (go_at_call 55; (with_reducible refine (impl_validCells.calls k _ _ l0_2 A4 _ ?side1 ?side2 A7.o).mono ?_); (case side1 => repeat (first | exact (Kd.C_below A6.o HB.o) | (with_reducible refine Kd.C_alloc ?_ _) | (with_reducible refine Kd.C_drewN ?_ _) | (with_reducible refine Kd.C_drew ?_))); (case side2 => exact A5.o); rintro e AR ⟨rfl, hb⟩; replace A0 := kB A0 hb; replace HB := bB HB hb; (try clear hb); (try clear AQ); (try clear hk); (try clear hi)))
      go_ret
      exact ⟨by first | rfl | (simp [eN, eS] <;> rfl) | (simp [*, eN, eS] <;> rfl), vB HB⟩
     ·rw [if_neg c6] at H
      have AG := beq_eq_false_iff_ne.mpr c6
      have AH := bne_iff_ne.mpr c6
      obtain rfl := Option.some.inj H
      go_enter Try.func18, Try.ntmps18
      go_wp2_with (first | ((with_reducible refine gq (N := 1) rfl ?_); (try (refine gate_guard (by rfl) ?_; dsimp only)); refine be (N := 1) (cs := #[.int .i64 a0_0, .int .i64 a0_1, .slice A0_2 l0_2.length c0_2]) (t := 29) ?_; intro A3 hg AS hbox hb; have A0 := Z.m (hbox); have A1 := gW (w := w) HB hg; have A2 := A1; replace HB := bB HB hb; clear hb hbox hg; have A8 := bc0 A0; have A9 := bc1 A0; have Aa := bc2 A0; have An := qz A0.o 0; have Ao := qz A0.o 1; have Ap := qz A0.o 2))
      go_ret
      exact ⟨by first | rfl | (simp [eN, eS] <;> rfl) | (simp [*, eN, eS] <;> rfl), vB HB⟩
    ·rw [if_neg c5] at H
     have AF := decide_eq_false c5
     clear c5
     obtain rfl := Option.some.inj H
     go_enter Try.func18, Try.ntmps18
     go_wp2_with (first | ((with_reducible refine gq (N := 1) rfl ?_); (try (refine gate_guard (by rfl) ?_; dsimp only)); refine be (N := 1) (cs := #[.int .i64 a0_0, .int .i64 a0_1, .slice A0_2 l0_2.length c0_2]) (t := 29) ?_; intro A3 hg AT hbox hb; have A0 := Z.m (hbox); have A1 := gW (w := w) HB hg; have A2 := A1; replace HB := bB HB hb; clear hb hbox hg; have Ab := bc0 A0; have Ac := bc1 A0; have Ad := bc2 A0; have Aq := qz A0.o 0; have Ar := qz A0.o 1; have As := qz A0.o 2))
     go_ret
     exact ⟨by first | rfl | (simp [eN, eS] <;> rfl) | (simp [*, eN, eS] <;> rfl), vB HB⟩
   ·rw [if_neg c4] at H
    have AE := decide_eq_false c4
    clear c4
    obtain rfl := Option.some.inj H
    go_enter Try.func18, Try.ntmps18
    go_wp2_with (first | ((with_reducible refine gq (N := 1) rfl ?_); (try (refine gate_guard (by rfl) ?_; dsimp only)); refine be (N := 1) (cs := #[.int .i64 a0_0, .int .i64 a0_1, .slice A0_2 l0_2.length c0_2]) (t := 29) ?_; intro A3 hg AU hbox hb; have A0 := Z.m (hbox); have A1 := gW (w := w) HB hg; have A2 := A1; replace HB := bB HB hb; clear hb hbox hg; have Ae := bc0 A0; have Af := bc1 A0; have Ag := bc2 A0; have At := qz A0.o 0; have Au := qz A0.o 1; have Av := qz A0.o 2))
    go_ret
    exact ⟨by first | rfl | (simp [eN, eS] <;> rfl) | (simp [*, eN, eS] <;> rfl), vB HB⟩
  ·rw [if_neg c3] at H
   have AD := decide_eq_false c3
   clear c3
   obtain rfl := Option.some.inj H
   go_enter Try.func18, Try.ntmps18
   go_wp2_with (first | ((with_reducible refine gq (N := 1) rfl ?_); (try (refine gate_guard (by rfl) ?_; dsimp only)); refine be (N := 1) (cs := #[.int .i64 a0_0, .int .i64 a0_1, .slice A0_2 l0_2.length c0_2]) (t := 29) ?_; intro A3 hg AV hbox hb; have A0 := Z.m (hbox); have A1 := gW (w := w) HB hg; have A2 := A1; replace HB := bB HB hb; clear hb hbox hg; have Ah := bc0 A0; have Ai := bc1 A0; have Aj := bc2 A0; have Aw := qz A0.o 0; have Ax := qz A0.o 1; have Ay := qz A0.o 2))
   go_ret
   exact ⟨by first | rfl | (simp [eN, eS] <;> rfl) | (simp [*, eN, eS] <;> rfl), vB HB⟩
 ·rw [if_neg c2] at H
  have AC := decide_eq_false c2
  clear c2
  obtain rfl := Option.some.inj H
  go_enter Try.func18, Try.ntmps18
  go_wp2_with (first | ((with_reducible refine gq (N := 1) rfl ?_); (try (refine gate_guard (by rfl) ?_; dsimp only)); refine be (N := 1) (cs := #[.int .i64 a0_0, .int .i64 a0_1, .slice A0_2 l0_2.length c0_2]) (t := 29) ?_; intro A3 hg AW hbox hb; have A0 := Z.m (hbox); have A1 := gW (w := w) HB hg; have A2 := A1; replace HB := bB HB hb; clear hb hbox hg; have Ak := bc0 A0; have Al := bc1 A0; have Am := bc2 A0; have Az := qz A0.o 0; have AA := qz A0.o 1; have AB := qz A0.o 2))
  go_ret
  exact ⟨by first | rfl | (simp [eN, eS] <;> rfl) | (simp [*, eN, eS] <;> rfl), vB HB⟩

/-! ### laws_eqCell: function 22 -/
def laws_eqCell.f (a0_0 : Int) (a0_1 : Int) (a1_0 : Int) (a1_1 : Int) : Option (Bool) := if a0_0 = a1_0 then (if a0_1 = a1_1 then (some true) else (some false)) else (some false)
set_option maxHeartbeats 8000000 in
set_option maxRecDepth 100000 in
theorem laws_eqCell.calls (a0_0 : Int) (a0_1 : Int) (a1_0 : Int) (a1_1 : Int) (r : Bool) (w : World) (h : laws_eqCell.f a0_0 a0_1 a1_0 a1_1 = some r) :
 Calls Try.prog 22 #[.agg #[.int .i64 a0_0, .int .i64 a0_1], .agg #[.int .i64 a1_0, .int .i64 a1_1]] w fun e w' => e = .returned (.bool r) ∧ Below w.heap.size w w' := by
 have AI := Try.underlying34
 have HB := Z.m (Below.refl w.heap.size w)
 have H : (if a0_0 = a1_0 then (if a0_1 = a1_1 then (some true) else (some false)) else (some false)) = some r := h
 clear h
 by_cases c3 : a0_0 = a1_0
 ·rw [if_pos c3] at H
  have Aq := beq_iff_eq.mpr c3
  have Ar := bne_eq_false_iff_eq.mpr c3
  clear c3
  by_cases c4 : a0_1 = a1_1
  ·rw [if_pos c4] at H
   have As := beq_iff_eq.mpr c4
   have At := bne_eq_false_iff_eq.mpr c4
   clear c4
   obtain rfl := Option.some.inj H
   go_enter Try.func22, Try.ntmps22
   go_wp2_with (first | ((with_reducible refine gq (N := 2) rfl ?_); refine be (N := 2) (cs := #[.int .i64 a0_0, .int .i64 a0_1]) (t := 34) ?_; intro A8 hg w5 hbox hb; have A0 := Z.m (hbox); have A4 := gW (w := w) HB hg; have A6 := A4; replace HB := bB HB hb; clear hb hbox hg) | ((with_reducible refine gq (N := 3) rfl ?_); refine be (N := 3) (cs := #[.int .i64 a1_0, .int .i64 a1_1]) (t := 34) ?_; intro A9 hg w6 hbox hb; have A1 := Z.m (hbox); have A5 := gW (w := w) HB hg; have A7 := A5; have A2 := neL A0 hg; have A3 := neG A0 hg; replace A0 := kB A0 hb; replace HB := bB HB hb; clear hb hbox hg; have AG := A2.o; have AH := A3.o; have Au := bc0 A0; have Av := bc1 A0; have Ay := qz A0.o 0; have Az := qz A0.o 1; have Aw := bc0 A1; have Ax := bc1 A1; have AA := qz A1.o 0; have AB := qz A1.o 1))
   go_ret
   exact ⟨by first | rfl | (simp [eN, eS] <;> rfl) | (simp [*, eN, eS] <;> rfl), vB HB⟩
  ·rw [if_neg c4] at H
   have As := beq_eq_false_iff_ne.mpr c4
   have At := bne_iff_ne.mpr c4
   obtain rfl := Option.some.inj H
   go_enter Try.func22, Try.ntmps22
   go_wp2_with (first | ((with_reducible refine gq (N := 2) rfl ?_); refine be (N := 2) (cs := #[.int .i64 a0_0, .int .i64 a0_1]) (t := 34) ?_; intro A8 hg AJ hbox hb; have A0 := Z.m (hbox); have A4 := gW (w := w) HB hg; have A6 := A4; replace HB := bB HB hb; clear hb hbox hg) | ((with_reducible refine gq (N := 3) rfl ?_); refine be (N := 3) (cs := #[.int .i64 a1_0, .int .i64 a1_1]) (t := 34) ?_; intro A9 hg AK hbox hb; have A1 := Z.m (hbox); have A5 := gW (w := w) HB hg; have A7 := A5; have A2 := neL A0 hg; have A3 := neG A0 hg; replace A0 := kB A0 hb; replace HB := bB HB hb; clear hb hbox hg; have AC := A2.o; have AE := A3.o; have Aa := bc0 A0; have Ab := bc1 A0; have Ai := qz A0.o 0; have Aj := qz A0.o 1; have Ac := bc0 A1; have Ad := bc1 A1; have Ak := qz A1.o 0; have Al := qz A1.o 1))
   go_ret
   exact ⟨by first | rfl | (simp [eN, eS] <;> rfl) | (simp [*, eN, eS] <;> rfl), vB HB⟩
 ·rw [if_neg c3] at H
  have Aq := beq_eq_false_iff_ne.mpr c3
  have Ar := bne_iff_ne.mpr c3
  obtain rfl := Option.some.inj H
  go_enter Try.func22, Try.ntmps22
  go_wp2_with (first | ((with_reducible refine gq (N := 2) rfl ?_); refine be (N := 2) (cs := #[.int .i64 a0_0, .int .i64 a0_1]) (t := 34) ?_; intro A8 hg AL hbox hb; have A0 := Z.m (hbox); have A4 := gW (w := w) HB hg; have A6 := A4; replace HB := bB HB hb; clear hb hbox hg) | ((with_reducible refine gq (N := 3) rfl ?_); refine be (N := 3) (cs := #[.int .i64 a1_0, .int .i64 a1_1]) (t := 34) ?_; intro A9 hg AM hbox hb; have A1 := Z.m (hbox); have A5 := gW (w := w) HB hg; have A7 := A5; have A2 := neL A0 hg; have A3 := neG A0 hg; replace A0 := kB A0 hb; replace HB := bB HB hb; clear hb hbox hg; have AD := A2.o; have AF := A3.o; have Ae := bc0 A0; have Af := bc1 A0; have Am := qz A0.o 0; have An := qz A0.o 1; have Ag := bc0 A1; have Ah := bc1 A1; have Ao := qz A1.o 0; have Ap := qz A1.o 1))
  go_ret
  exact ⟨by first | rfl | (simp [eN, eS] <;> rfl) | (simp [*, eN, eS] <;> rfl), vB HB⟩

/-! ### laws_eqCellS: function 56 -/
def laws_eqCellS.l0 : Nat → List (S34) → List (S34) → Int → Option (Bool)
 | 0, _, _, _ => none
 | k + 1, x0, x1, x5 => if x5 < (x0.length : Int) then (if 0 ≤ x5 then (if x5 < (x1.length : Int) then ((laws_eqCell.f ((rd_T34 x0 x5).f0) ((rd_T34 x0 x5).f1) ((rd_T34 x1 x5).f0) ((rd_T34 x1 x5).f1)).bind fun t141 => (if t141 = true then (laws_eqCellS.l0 k x0 x1 (wrap64 (x5 + 1))) else (some false))) else (none)) else (none)) else (some true)
def laws_eqCellS.f (k : Nat) (l0 : List (S34)) (l1 : List (S34)) : Option (Bool) := if (l0.length : Int) = (l1.length : Int) then (laws_eqCellS.l0 k l0 l1 0) else (some false)
def laws_eqCellS.T6 : Bool × List (List Nat × List Nat) := (true, [([], []), ([], []), ([0, 1], [0, 1]), ([2], [2]), ([], []), ([], []), ([4, 5], [4, 5]), ([6], [6]), ([3, 7], [3, 7]), ([8], [8])])
def laws_eqCellS.B6 : List Nat := [0, 0, 3, 7, 0, 0, 48, 112, 255, 511]
theorem laws_eqCellS.tab6 : rtab .any (opsOf Try.f56 6) = laws_eqCellS.T6 := by kernel_rfl
theorem laws_eqCellS.bits6 : waitsOk laws_eqCellS.T6.2 laws_eqCellS.B6 = true := by kernel_rfl
set_option maxHeartbeats 8000000 in
set_option maxRecDepth 100000 in
theorem laws_eqCellS.calls (k : Nat) (A0 : Option Addr) (c0 : Nat) (l0 : List (S34)) (A1 : Option Addr) (c1 : Nat) (l1 : List (S34)) (r : Bool) (w : World) (hr0 : Kd.C k34 w A0 l0.length l0) (hc0 : l0.length ≤ c0) (hr1 : Kd.C k34 w A1 l1.length l1) (hc1 : l1.length ≤ c1) (h : laws_eqCellS.f k l0 l1 = some r) :
 Calls Try.prog 56 #[.slice A0 l0.length c0, .slice A1 l1.length c1] w fun e w' => e = .returned (.bool r) ∧ Below w.heap.size w w' := by
 have Al := Try.underlying34
 have Ah := Z.m hr0
 have Am := Z.m hc0
 clear hr0 hc0
 have Ai := Z.m hr1
 have An := Z.m hc1
 clear hr1 hc1
 have HB := Z.m (Below.refl w.heap.size w)
 have H : (if (l0.length : Int) = (l1.length : Int) then (laws_eqCellS.l0 k l0 l1 0) else (some false)) = some r := h
 clear h
 by_cases c3 : (l0.length : Int) = (l1.length : Int)
 ·rw [if_pos c3] at H
  have Aa := beq_iff_eq.mpr c3
  have Ab := bne_eq_false_iff_eq.mpr c3
  have Ac : (l0.length == l1.length) = true := by first | simpa using c3 | (simp at c3 ⊢; omega)
  clear c3
  have H' := Z.m H
  clear H
  go_enter Try.func56, Try.ntmps56
  go_wp2
  go_loopg [5] k (fun kq v5 w' => ∃ (A2 : Int), v5 = .int .i64 A2 ∧ Z (laws_eqCellS.l0 kq l0 l1 A2 = some r) ∧ Z (kq ≤ k) ∧ Z (Below w.heap.size w w'))
  case atStart => exact ⟨(0), (by first | rfl | (simp; done) | (simp [*]; done)), H', ⟨Nat.le_refl _⟩, ⟨vB HB⟩⟩
  case round =>
   clear H'
   (try clear Aa); (try clear Ab); (try clear Ac)
   obtain ⟨A2, rfl, HA, Ag, HB⟩ := hrel
   cases gk with
   | zero => exact absurd HA.o (by simp [laws_eqCellS.l0])
   | succ k1 =>
    have H := HA.o
    clear HA
    simp only [laws_eqCellS.l0] at H
    by_cases c4 : A2 < (l0.length : Int)
    ·rw [if_pos c4] at H
     have Ae := decide_eq_true c4
     clear c4
     by_cases c5 : 0 ≤ A2
     ·rw [if_pos c5] at H
      have Aj := decide_eq_true c5
      clear c5
      by_cases c6 : A2 < (l1.length : Int)
      ·rw [if_pos c6] at H
       have Ak := decide_eq_true c6
       clear c6
       replace H := Option.bind_eq_some_iff.mp H
       obtain ⟨Ad, Af, H⟩ := H
       replace H : (if Ad = true then (laws_eqCellS.l0 k1 l0 l1 (wrap64 (A2 + 1))) else (some false)) = some r := H
       have A7 := Z.m Af
       clear Af
       by_cases c8 : Ad = true
       ·subst c8
        have H1 : (laws_eqCellS.l0 k1 l0 l1 (wrap64 (A2 + 1))) = some r := by rw [if_pos rfl] at H; exact H
        clear H
        have H := H1
        clear H1
        have H' := Z.m H
        clear H
        try go_wp2
        replace HB := Z.m (qd HB.o)
        have p139 : 0 ≤ (A2 : Int) := ofD
        have q139 : A2 < (l0.length : Int) := ofD
        obtain ⟨A8, e139, A3, A4⟩ := at_T34 Ah.o A2 p139 q139
        have hw139_1 := A4
        have hw139_0 := A3
        cases e139
        replace A3 := (HB.o.cell (World.block_lt_of_cell? w _ A3)).trans A3
        replace A4 := (HB.o.cell (World.block_lt_of_cell? w _ A4)).trans A4
        replace p139 := eq_true p139
        replace q139 := eq_true q139
        have p140 : 0 ≤ (A2 : Int) := ofD
        have q140 : A2 < (l1.length : Int) := ofD
        obtain ⟨A9, e140, A5, A6⟩ := at_T34 Ai.o A2 p140 q140
        have hw140_1 := A6
        have hw140_0 := A5
        cases e140
        replace A5 := (HB.o.cell (World.block_lt_of_cell? w _ A5)).trans A5
        replace A6 := (HB.o.cell (World.block_lt_of_cell? w _ A6)).trans A6
        replace p140 := eq_true p140
        replace q140 := eq_true q140
        refine start_ (n := 10) (S := fun w' => w'.cell? (A8.add ((A2).toNat * 2)) = some (.int .i64 ((rd_T34 l0 A2).f0)) ∧ w'.cell? ⟨(A8.add ((A2).toNat * 2)).block, (A8.add ((A2).toNat * 2)).off + 1, none⟩ = some (.int .i64 ((rd_T34 l0 A2).f1)) ∧ w'.cell? (A9.add ((A2).toNat * 2)) = some (.int .i64 ((rd_T34 l1 A2).f0)) ∧ w'.cell? ⟨(A9.add ((A2).toNat * 2)).block, (A9.add ((A2).toNat * 2)).off + 1, none⟩ = some (.int .i64 ((rd_T34 l1 A2).f1))) (ds := []) #[false, false, false, false, false, false, false, false, false, false] (by kernel_rfl) rfl rfl ⟨((HB.o.cell (World.block_lt_of_cell? w _ hw139_0)).trans hw139_0), ((HB.o.cell (World.block_lt_of_cell? w _ hw139_1)).trans hw139_1), ((HB.o.cell (World.block_lt_of_cell? w _ hw140_0)).trans hw140_0), ((HB.o.cell (World.block_lt_of_cell? w _ hw140_1)).trans hw140_1)⟩ (fun hHeld => ?_); refine with_tabW laws_eqCellS.tab6 laws_eqCellS.bits6 (fun HT_ HW_ => ?_)
        generalize wr.drew = w9 at HB A3 A4 A5 A6 hHeld ⊢
        refine pure_ (i := 0) (N := some 17) (v := ?_) (a' := ?_) #[true, false, false, false, false, false, false, false, false, false] rfl rfl (any_of HT_.o (by kernel_rfl)) (fun _ _ _ h => h) (Or.inl ⟨by rfl, ?_⟩) ?_ ?_
        rotate_left
        ·intro w'
         go_simp
         with_reducible rfl
        rotate_left
        ·simp only [Act.put, q1, q2, q3, i64_w, i32_w]
         rfl
        refine pure_ (i := 1) (N := some 18) (v := ?_) (a' := ?_) #[true, true, false, false, false, false, false, false, false, false] rfl rfl (any_of HT_.o (by kernel_rfl)) (fun _ _ _ h => h) (Or.inl ⟨by rfl, ?_⟩) ?_ ?_
        rotate_left
        ·intro w'
         go_simp
         with_reducible rfl
        rotate_left
        ·simp only [Act.put, q1, q2, q3, i64_w, i32_w]
         rfl
        refine pure_ (i := 2) (N := some 19) (v := ?_) (a' := ?_) #[true, true, true, false, false, false, false, false, false, false] rfl rfl (any_of HT_.o (by kernel_rfl)) (fun _ _ _ h => h) (Or.inl ⟨by rfl, ?_⟩) ?_ ?_
        rotate_left
        ·intro w'
         go_simp
         with_reducible rfl
        rotate_left
        ·simp only [Act.put, q1, q2, q3, i64_w, i32_w]
         rfl
        refine pure_ (i := 4) (N := some 21) (v := ?_) (a' := ?_) #[true, true, true, false, true, false, false, false, false, false] rfl rfl (any_of HT_.o (by kernel_rfl)) (fun _ _ _ h => h) (Or.inl ⟨by rfl, ?_⟩) ?_ ?_
        rotate_left
        ·intro w'
         go_simp
         with_reducible rfl
        rotate_left
        ·simp only [Act.put, q1, q2, q3, i64_w, i32_w]
         rfl
        refine pure_ (i := 5) (N := some 22) (v := ?_) (a' := ?_) #[true, true, true, false, true, true, false, false, false, false] rfl rfl (any_of HT_.o (by kernel_rfl)) (fun _ _ _ h => h) (Or.inl ⟨by rfl, ?_⟩) ?_ ?_
        rotate_left
        ·intro w'
         go_simp
         with_reducible rfl
        rotate_left
        ·simp only [Act.put, q1, q2, q3, i64_w, i32_w]
         rfl
        refine pure_ (i := 6) (N := some 23) (v := ?_) (a' := ?_) #[true, true, true, false, true, true, true, false, false, false] rfl rfl (any_of HT_.o (by kernel_rfl)) (fun _ _ _ h => h) (Or.inl ⟨by rfl, ?_⟩) ?_ ?_
        rotate_left
        ·intro w'
         go_simp
         with_reducible rfl
        rotate_left
        ·simp only [Act.put, q1, q2, q3, i64_w, i32_w]
         rfl
        refine take_ (i := 3) (N := some 20) (v := ?_) (a' := ?_) #[true, true, true, true, true, true, true, false, false, false] rfl rfl (take_ofW HT_.o HW_.o (by kernel_rfl)) (fun _ _ _ h => h) (Or.inl ⟨by rfl, ?_⟩) hHeld ?_ ?_
        rotate_left
        ·rintro w' ⟨s0, s1, s2, s3⟩
         go_simp
         with_reducible rfl
        rotate_left
        ·simp only [Act.put, q1, q2, q3, i64_w, i32_w]
         rfl
        refine take_ (i := 7) (N := some 24) (v := ?_) (a' := ?_) #[true, true, true, true, true, true, true, true, false, false] rfl rfl (take_ofW HT_.o HW_.o (by kernel_rfl)) (fun _ _ _ h => h) (Or.inl ⟨by rfl, ?_⟩) hHeld ?_ ?_
        rotate_left
        ·rintro w' ⟨s0, s1, s2, s3⟩
         go_simp
         with_reducible rfl
        rotate_left
        ·simp only [Act.put, q1, q2, q3, i64_w, i32_w]
         rfl
        refine one_ (i := 8) (N := some 25) #[true, true, true, true, true, true, true, true, true, false] rfl rfl (one_of HT_.o (by kernel_rfl)) (by decide) (fun K hK => ?_)
        refine goes_ Try.func22 (by kernel_rfl) rfl #[.agg #[.int .i64 ((rd_T34 l0 A2).f0), .int .i64 ((rd_T34 l0 A2).f1)], .agg #[.int .i64 ((rd_T34 l1 A2).f0), .int .i64 ((rd_T34 l1 A2).f1)]] (by rfl) rfl rfl (by (try simp only [List.map_toArray, List.map_cons, List.map_nil]); first | done | rfl | (simp only [List.length_drop, List.length_take]; rfl)) ?_
        with_reducible refine (laws_eqCell.calls ((rd_T34 l0 A2).f0) ((rd_T34 l0 A2).f1) ((rd_T34 l1 A2).f0) ((rd_T34 l1 A2).f1) true _ A7.o).mono ?_
        rintro e Ao ⟨rfl, hb⟩
        refine ⟨_, rfl, ?_⟩
        replace HB := bB HB hb
        (try clear hb)
        refine hK.out _ _ ⟨((HB.o.cell (World.block_lt_of_cell? w _ hw139_0)).trans hw139_0), ((HB.o.cell (World.block_lt_of_cell? w _ hw139_1)).trans hw139_1), ((HB.o.cell (World.block_lt_of_cell? w _ hw140_0)).trans hw140_0), ((HB.o.cell (World.block_lt_of_cell? w _ hw140_1)).trans hw140_1)⟩ (fun hHeld => ?_)
        clear hK K
        refine norm_ (a' := ?_) ?_ ?_
        rotate_left
        ·show Act.put _ (some 25) _ = _
         simp only [Act.put, q1, q2, q3, i64_w, i32_w]
         rfl
        refine pure_ (i := 9) (N := some 26) (v := ?_) (a' := ?_) #[true, true, true, true, true, true, true, true, true, true] rfl rfl (any_of HT_.o (by kernel_rfl)) (fun _ _ _ h => h) (Or.inl ⟨by rfl, ?_⟩) ?_ ?_
        rotate_left
        ·intro w'
         go_simp
         with_reducible rfl
        rotate_left
        ·simp only [Act.put, q1, q2, q3, i64_w, i32_w]
         rfl
        refine done_ (done_of HT_.o (by kernel_rfl)) ?_
        try go_wp2
        go_roundg k1
        case measure => have := Ag.o; omega
        case rel => exact ⟨(wrap64 (A2 + 1)), (by first | rfl | (simp; done) | (simp [*]; done)), H', ⟨by have := Ag.o; omega⟩, ⟨vB HB⟩⟩
       ·replace c8 := Bool.eq_false_iff.mpr c8
        subst c8
        have H1 : (some false) = some r := by rw [if_neg (show ¬ (false = true) by decide)] at H; exact H
        clear H
        have H := H1
        clear H1
        obtain rfl := Option.some.inj H
        try go_wp2
        replace HB := Z.m (qd HB.o)
        have p139 : 0 ≤ (A2 : Int) := ofD
        have q139 : A2 < (l0.length : Int) := ofD
        obtain ⟨A8, e139, A3, A4⟩ := at_T34 Ah.o A2 p139 q139
        have hw139_1 := A4
        have hw139_0 := A3
        cases e139
        replace A3 := (HB.o.cell (World.block_lt_of_cell? w _ A3)).trans A3
        replace A4 := (HB.o.cell (World.block_lt_of_cell? w _ A4)).trans A4
        replace p139 := eq_true p139
        replace q139 := eq_true q139
        have p140 : 0 ≤ (A2 : Int) := ofD
        have q140 : A2 < (l1.length : Int) := ofD
        obtain ⟨A9, e140, A5, A6⟩ := at_T34 Ai.o A2 p140 q140
        have hw140_1 := A6
        have hw140_0 := A5
        cases e140
        replace A5 := (HB.o.cell (World.block_lt_of_cell? w _ A5)).trans A5
        replace A6 := (HB.o.cell (World.block_lt_of_cell? w _ A6)).trans A6
        replace p140 := eq_true p140
        replace q140 := eq_true q140
        refine start_ (n := 10) (S := fun w' => w'.cell? (A8.add ((A2).toNat * 2)) = some (.int .i64 ((rd_T34 l0 A2).f0)) ∧ w'.cell? ⟨(A8.add ((A2).toNat * 2)).block, (A8.add ((A2).toNat * 2)).off + 1, none⟩ = some (.int .i64 ((rd_T34 l0 A2).f1)) ∧ w'.cell? (A9.add ((A2).toNat * 2)) = some (.int .i64 ((rd_T34 l1 A2).f0)) ∧ w'.cell? ⟨(A9.add ((A2).toNat * 2)).block, (A9.add ((A2).toNat * 2)).off + 1, none⟩ = some (.int .i64 ((rd_T34 l1 A2).f1))) (ds := []) #[false, false, false, false, false, false, false, false, false, false] (by kernel_rfl) rfl rfl ⟨((HB.o.cell (World.block_lt_of_cell? w _ hw139_0)).trans hw139_0), ((HB.o.cell (World.block_lt_of_cell? w _ hw139_1)).trans hw139_1), ((HB.o.cell (World.block_lt_of_cell? w _ hw140_0)).trans hw140_0), ((HB.o.cell (World.block_lt_of_cell? w _ hw140_1)).trans hw140_1)⟩ (fun hHeld => ?_); refine with_tabW laws_eqCellS.tab6 laws_eqCellS.bits6 (fun HT_ HW_ => ?_)
        generalize wr.drew = Ap at HB A3 A4 A5 A6 hHeld ⊢
        refine pure_ (i := 0) (N := some 17) (v := ?_) (a' := ?_) #[true, false, false, false, false, false, false, false, false, false] rfl rfl (any_of HT_.o (by kernel_rfl)) (fun _ _ _ h => h) (Or.inl ⟨by rfl, ?_⟩) ?_ ?_
        rotate_left
        ·intro w'
         go_simp
         with_reducible rfl
        rotate_left
        ·simp only [Act.put, q1, q2, q3, i64_w, i32_w]
         rfl
        refine pure_ (i := 1) (N := some 18) (v := ?_) (a' := ?_) #[true, true, false, false, false, false, false, false, false, false] rfl rfl (any_of HT_.o (by kernel_rfl)) (fun _ _ _ h => h) (Or.inl ⟨by rfl, ?_⟩) ?_ ?_
        rotate_left
        ·intro w'
         go_simp
         with_reducible rfl
        rotate_left
        ·simp only [Act.put, q1, q2, q3, i64_w, i32_w]
         rfl
        refine pure_ (i := 2) (N := some 19) (v := ?_) (a' := ?_) #[true, true, true, false, false, false, false, false, false, false] rfl rfl (any_of HT_.o (by kernel_rfl)) (fun _ _ _ h => h) (Or.inl ⟨by rfl, ?_⟩) ?_ ?_
        rotate_left
        ·intro w'
         go_simp
         with_reducible rfl
        rotate_left
        ·simp only [Act.put, q1, q2, q3, i64_w, i32_w]
         rfl
        refine pure_ (i := 4) (N := some 21) (v := ?_) (a' := ?_) #[true, true, true, false, true, false, false, false, false, false] rfl rfl (any_of HT_.o (by kernel_rfl)) (fun _ _ _ h => h) (Or.inl ⟨by rfl, ?_⟩) ?_ ?_
        rotate_left
        ·intro w'
         go_simp
         with_reducible rfl
        rotate_left
        ·simp only [Act.put, q1, q2, q3, i64_w, i32_w]
         rfl
        refine pure_ (i := 5) (N := some 22) (v := ?_) (a' := ?_) #[true, true, true, false, true, true, false, false, false, false] rfl rfl (any_of HT_.o (by kernel_rfl)) (fun _ _ _ h => h) (Or.inl ⟨by rfl, ?_⟩) ?_ ?_
        rotate_left
        ·intro w'
         go_simp
         with_reducible rfl
        rotate_left
        ·simp only [Act.put, q1, q2, q3, i64_w, i32_w]
         rfl
        refine pure_ (i := 6) (N := some 23) (v := ?_) (a' := ?_) #[true, true, true, false, true, true, true, false, false, false] rfl rfl (any_of HT_.o (by kernel_rfl)) (fun _ _ _ h => h) (Or.inl ⟨by rfl, ?_⟩) ?_ ?_
        rotate_left
        ·intro w'
         go_simp
         with_reducible rfl
        rotate_left
        ·simp only [Act.put, q1, q2, q3, i64_w, i32_w]
         rfl
        refine take_ (i := 3) (N := some 20) (v := ?_) (a' := ?_) #[true, true, true, true, true, true, true, false, false, false] rfl rfl (take_ofW HT_.o HW_.o (by kernel_rfl)) (fun _ _ _ h => h) (Or.inl ⟨by rfl, ?_⟩) hHeld ?_ ?_
        rotate_left
        ·rintro w' ⟨s0, s1, s2, s3⟩
         go_simp
         with_reducible rfl
        rotate_left
        ·simp only [Act.put, q1, q2, q3, i64_w, i32_w]
         rfl
        refine take_ (i := 7) (N := some 24) (v := ?_) (a' := ?_) #[true, true, true, true, true, true, true, true, false, false] rfl rfl (take_ofW HT_.o HW_.o (by kernel_rfl)) (fun _ _ _ h => h) (Or.inl ⟨by rfl, ?_⟩) hHeld ?_ ?_
        rotate_left
        ·rintro w' ⟨s0, s1, s2, s3⟩
         go_simp
         with_reducible rfl
        rotate_left
        ·simp only [Act.put, q1, q2, q3, i64_w, i32_w]
         rfl
        refine one_ (i := 8) (N := some 25) #[true, true, true, true, true, true, true, true, true, false] rfl rfl (one_of HT_.o (by kernel_rfl)) (by decide) (fun K hK => ?_)
        refine goes_ Try.func22 (by kernel_rfl) rfl #[.agg #[.int .i64 ((rd_T34 l0 A2).f0), .int .i64 ((rd_T34 l0 A2).f1)], .agg #[.int .i64 ((rd_T34 l1 A2).f0), .int .i64 ((rd_T34 l1 A2).f1)]] (by rfl) rfl rfl (by (try simp only [List.map_toArray, List.map_cons, List.map_nil]); first | done | rfl | (simp only [List.length_drop, List.length_take]; rfl)) ?_
        with_reducible refine (laws_eqCell.calls ((rd_T34 l0 A2).f0) ((rd_T34 l0 A2).f1) ((rd_T34 l1 A2).f0) ((rd_T34 l1 A2).f1) false _ A7.o).mono ?_
        rintro e Aq ⟨rfl, hb⟩
        refine ⟨_, rfl, ?_⟩
        replace HB := bB HB hb
        (try clear hb)
        refine hK.out _ _ ⟨((HB.o.cell (World.block_lt_of_cell? w _ hw139_0)).trans hw139_0), ((HB.o.cell (World.block_lt_of_cell? w _ hw139_1)).trans hw139_1), ((HB.o.cell (World.block_lt_of_cell? w _ hw140_0)).trans hw140_0), ((HB.o.cell (World.block_lt_of_cell? w _ hw140_1)).trans hw140_1)⟩ (fun hHeld => ?_)
        clear hK K
        refine norm_ (a' := ?_) ?_ ?_
        rotate_left
        ·show Act.put _ (some 25) _ = _
         simp only [Act.put, q1, q2, q3, i64_w, i32_w]
         rfl
        refine pure_ (i := 9) (N := some 26) (v := ?_) (a' := ?_) #[true, true, true, true, true, true, true, true, true, true] rfl rfl (any_of HT_.o (by kernel_rfl)) (fun _ _ _ h => h) (Or.inl ⟨by rfl, ?_⟩) ?_ ?_
        rotate_left
        ·intro w'
         go_simp
         with_reducible rfl
        rotate_left
        ·simp only [Act.put, q1, q2, q3, i64_w, i32_w]
         rfl
        refine done_ (done_of HT_.o (by kernel_rfl)) ?_
        try go_wp2
        go_ret
        exact ⟨by first | rfl | (simp [eN, eS] <;> rfl) | (simp [*, eN, eS] <;> rfl), vB HB⟩
      ·rw [if_neg c6] at H
       exact absurd H (by simp)
     ·rw [if_neg c5] at H
      exact absurd H (by simp)
    ·rw [if_neg c4] at H
     have Ae := decide_eq_false c4
     clear c4
     obtain rfl := Option.some.inj H
     go_wp2
     go_ret
     exact ⟨by first | rfl | (simp [eN, eS] <;> rfl) | (simp [*, eN, eS] <;> rfl), vB HB⟩
 ·rw [if_neg c3] at H
  have Aa := beq_eq_false_iff_ne.mpr c3
  have Ab := bne_iff_ne.mpr c3
  have Ac : (l0.length == l1.length) = false := by first | simpa using c3 | (simp at c3 ⊢; omega)
  obtain rfl := Option.some.inj H
  go_enter Try.func56, Try.ntmps56
  go_wp2
  go_ret
  exact ⟨by first | rfl | (simp [eN, eS] <;> rfl) | (simp [*, eN, eS] <;> rfl), vB HB⟩

/-! ### laws_eqBoard: function 19 -/
def laws_eqBoard.f (k : Nat) (a0_0 : Int) (a0_1 : Int) (l0_2 : List (S34)) (a1_0 : Int) (a1_1 : Int) (l1_2 : List (S34)) : Option (Bool) := if a0_0 = a1_0 then (if a0_1 = a1_1 then ((laws_eqCellS.f k l0_2 l1_2).bind fun t144 => (if t144 = true then (some true) else (some false))) else (some false)) else (some false)
set_option maxHeartbeats 8000000 in
set_option maxRecDepth 100000 in
theorem laws_eqBoard.calls (k : Nat) (a0_0 : Int) (a0_1 : Int) (A0_2 : Option Addr) (c0_2 : Nat) (l0_2 : List (S34)) (a1_0 : Int) (a1_1 : Int) (A1_2 : Option Addr) (c1_2 : Nat) (l1_2 : List (S34)) (r : Bool) (w : World) (hr0_2 : Kd.C k34 w A0_2 l0_2.length l0_2) (hc0_2 : l0_2.length ≤ c0_2) (hr1_2 : Kd.C k34 w A1_2 l1_2.length l1_2) (hc1_2 : l1_2.length ≤ c1_2) (h : laws_eqBoard.f k a0_0 a0_1 l0_2 a1_0 a1_1 l1_2 = some r) :
 Calls Try.prog 19 #[.agg #[.int .i64 a0_0, .int .i64 a0_1, .slice A0_2 l0_2.length c0_2], .agg #[.int .i64 a1_0, .int .i64 a1_1, .slice A1_2 l1_2.length c1_2]] w fun e w' => e = .returned (.bool r) ∧ Below w.heap.size w w' := by
 have Bj := Try.underlying29
 have Ae := Z.m hr0_2
 have Ac := Z.m hc0_2
 clear hr0_2 hc0_2
 have Af := Z.m hr1_2
 have Ad := Z.m hc1_2
 clear hr1_2 hc1_2
 have HB := Z.m (Below.refl w.heap.size w)
 have H : (if a0_0 = a1_0 then (if a0_1 = a1_1 then ((laws_eqCellS.f k l0_2 l1_2).bind fun Ab => (if Ab = true then (some true) else (some false))) else (some false)) else (some false)) = some r := h
 clear h
 by_cases c3 : a0_0 = a1_0
 ·rw [if_pos c3] at H
  have B2 := beq_iff_eq.mpr c3
  have B3 := bne_eq_false_iff_eq.mpr c3
  clear c3
  by_cases c4 : a0_1 = a1_1
  ·rw [if_pos c4] at H
   have B4 := beq_iff_eq.mpr c4
   have B5 := bne_eq_false_iff_eq.mpr c4
   clear c4
   replace H := Option.bind_eq_some_iff.mp H
   obtain ⟨Ab, B9, H⟩ := H
   replace H : (if Ab = true then (some true) else (some false)) = some r := H
   have A5 := Z.m B9
   clear B9
   by_cases c6 : Ab = true
   ·subst c6
    have H1 : (some true) = some r := by rw [if_pos rfl] at H; exact H
    clear H
    have H := H1
    clear H1
    obtain rfl := Option.some.inj H
    go_enter Try.func19, Try.ntmps19
    go_wp2_with (first | ((with_reducible refine gq (N := 2) rfl ?_); refine be (N := 2) (cs := #[.int .i64 a0_0, .int .i64 a0_1, .slice A0_2 l0_2.length c0_2]) (t := 29) ?_; intro A9 hg w7 hbox hb; have A0 := Z.m (hbox); have A4 := gW (w := w) HB hg; have A7 := A4; replace HB := bB HB hb; clear hb hbox hg) | ((with_reducible refine gq (N := 3) rfl ?_); refine be (N := 3) (cs := #[.int .i64 a1_0, .int .i64 a1_1, .slice A1_2 l1_2.length c1_2]) (t := 29) ?_; intro Aa hg w8 hbox hb; have A1 := Z.m (hbox); have A6 := gW (w := w) HB hg; have A8 := A6; have A2 := neL A0 hg; have A3 := neG A0 hg; replace A0 := kB A0 hb; replace HB := bB HB hb; clear hb hbox hg; have Bh := A2.o; have Bi := A3.o; have Ag := bc0 A0; have Ah := bc1 A0; have Ai := bc2 A0; have AE := qz A0.o 0; have AF := qz A0.o 1; have AG := qz A0.o 2; have Aj := bc0 A1; have Ak := bc1 A1; have Al := bc2 A1; have AH := qz A1.o 0; have AI := qz A1.o 1; have AJ := qz A1.o 2) | ((with_reducible refine gc (f := 56) rfl ?_); refine gA (some 19) _ #[.slice A0_2 l0_2.length c0_2, .slice A1_2 l1_2.length c1_2] ?_ Try.func56; (with_reducible refine (laws_eqCellS.calls k _ _ l0_2 _ _ l1_2 true _ ?side1 ?side2 ?side3 ?side4 A5.o).mono ?_); (case side1 => repeat (first | exact (Kd.C_below Ae.o HB.o) | (with_reducible refine Kd.C_alloc ?_ _) | (with_reducible refine Kd.C_drewN ?_ _) | (with_reducible refine Kd.C_drew ?_))); (case side2 => exact Ac.o); (case side3 => repeat (first | exact (Kd.C_below Af.o HB.o) | (with_reducible refine Kd.C_alloc ?_ _) | (with_reducible refine Kd.C_drewN ?_ _) | (with_reducible refine Kd.C_drew ?_))); (case side4 => exact Ad.o); rintro e Bk ⟨rfl, hb⟩; refine ⟨_, rfl, ?_⟩; replace A0 := kB A0 hb; replace A1 := kB A1 hb; replace HB := bB HB hb; (try clear hb); (try clear Bg); (try clear hk); (try clear hi)))
    go_ret
    exact ⟨by first | rfl | (simp [eN, eS] <;> rfl) | (simp [*, eN, eS] <;> rfl), vB HB⟩
   ·replace c6 := Bool.eq_false_iff.mpr c6
    subst c6
    have H1 : (some false) = some r := by rw [if_neg (show ¬ (false = true) by decide)] at H; exact H
    clear H
    have H := H1
    clear H1
    obtain rfl := Option.some.inj H
    go_enter Try.func19, Try.ntmps19
    go_wp2_with (first | ((with_reducible refine gq (N := 2) rfl ?_); refine be (N := 2) (cs := #[.int .i64 a0_0, .int .i64 a0_1, .slice A0_2 l0_2.length c0_2]) (t := 29) ?_; intro A9 hg Bl hbox hb; have A0 := Z.m (hbox); have A4 := gW (w := w) HB hg; have A7 := A4; replace HB := bB HB hb; clear hb hbox hg) | ((with_reducible refine gq (N := 3) rfl ?_); refine be (N := 3) (cs := #[.int .i64 a1_0, .int .i64 a1_1, .slice A1_2 l1_2.length c1_2]) (t := 29) ?_; intro Aa hg Bm hbox hb; have A1 := Z.m (hbox); have A6 := gW (w := w) HB hg; have A8 := A6; have A2 := neL A0 hg; have A3 := neG A0 hg; replace A0 := kB A0 hb; replace HB := bB HB hb; clear hb hbox hg; have Ba := A2.o; have Bd := A3.o; have Am := bc0 A0; have An := bc1 A0; have Ao := bc2 A0; have AK := qz A0.o 0; have AL := qz A0.o 1; have AM := qz A0.o 2; have Ap := bc0 A1; have Aq := bc1 A1; have Ar := bc2 A1; have AN := qz A1.o 0; have AO := qz A1.o 1; have AP := qz A1.o 2) | ((with_reducible refine gc (f := 56) rfl ?_); refine gA (some 19) _ #[.slice A0_2 l0_2.length c0_2, .slice A1_2 l1_2.length c1_2] ?_ Try.func56; (with_reducible refine (laws_eqCellS.calls k _ _ l0_2 _ _ l1_2 false _ ?side1 ?side2 ?side3 ?side4 A5.o).mono ?_); (case side1 => repeat (first | exact (Kd.C_below Ae.o HB.o) | (with_reducible refine Kd.C_alloc ?_ _) | (with_reducible refine Kd.C_drewN ?_ _) | (with_reducible refine Kd.C_drew ?_))); (case side2 => exact Ac.o); (case side3 => repeat (first | exact (Kd.C_below Af.o HB.o) | (with_reducible refine Kd.C_alloc ?_ _) | (with_reducible refine Kd.C_drewN ?_ _) | (with_reducible refine Kd.C_drew ?_))); (case side4 => exact Ad.o); rintro e Bn ⟨rfl, hb⟩; refine ⟨_, rfl, ?_⟩; replace A0 := kB A0 hb; replace A1 := kB A1 hb; replace HB := bB HB hb; (try clear hb); (try clear Bg); (try clear hk); (try clear hi)))
    go_ret
    exact ⟨by first | rfl | (simp [eN, eS] <;> rfl) | (simp [*, eN, eS] <;> rfl), vB HB⟩
  ·rw [if_neg c4] at H
   have B4 := beq_eq_false_iff_ne.mpr c4
   have B5 := bne_iff_ne.mpr c4
   obtain rfl := Option.some.inj H
   go_enter Try.func19, Try.ntmps19
   go_wp2_with (first | ((with_reducible refine gq (N := 2) rfl ?_); refine be (N := 2) (cs := #[.int .i64 a0_0, .int .i64 a0_1, .slice A0_2 l0_2.length c0_2]) (t := 29) ?_; intro A9 hg Bo hbox hb; have A0 := Z.m (hbox); have A4 := gW (w := w) HB hg; have A7 := A4; replace HB := bB HB hb; clear hb hbox hg) | ((with_reducible refine gq (N := 3) rfl ?_); refine be (N := 3) (cs := #[.int .i64 a1_0, .int .i64 a1_1, .slice A1_2 l1_2.length c1_2]) (t := 29) ?_; intro Aa hg Bp hbox hb; have A1 := Z.m (hbox); have A6 := gW (w := w) HB hg; have A8 := A6; have A2 := neL A0 hg; have A3 := neG A0 hg; replace A0 := kB A0 hb; replace HB := bB HB hb; clear hb hbox hg; have Bb := A2.o; have Be := A3.o; have As := bc0 A0; have At := bc1 A0; have Au := bc2 A0; have AQ := qz A0.o 0; have AR := qz A0.o 1; have AS := qz A0.o 2; have Av := bc0 A1; have Aw := bc1 A1; have Ax := bc2 A1; have AT := qz A1.o 0; have AU := qz A1.o 1; have AV := qz A1.o 2))
   go_ret
   exact ⟨by first | rfl | (simp [eN, eS] <;> rfl) | (simp [*, eN, eS] <;> rfl), vB HB⟩
 ·rw [if_neg c3] at H
  have B2 := beq_eq_false_iff_ne.mpr c3
  have B3 := bne_iff_ne.mpr c3
  obtain rfl := Option.some.inj H
  go_enter Try.func19, Try.ntmps19
  go_wp2_with (first | ((with_reducible refine gq (N := 2) rfl ?_); refine be (N := 2) (cs := #[.int .i64 a0_0, .int .i64 a0_1, .slice A0_2 l0_2.length c0_2]) (t := 29) ?_; intro A9 hg Bq hbox hb; have A0 := Z.m (hbox); have A4 := gW (w := w) HB hg; have A7 := A4; replace HB := bB HB hb; clear hb hbox hg) | ((with_reducible refine gq (N := 3) rfl ?_); refine be (N := 3) (cs := #[.int .i64 a1_0, .int .i64 a1_1, .slice A1_2 l1_2.length c1_2]) (t := 29) ?_; intro Aa hg Br hbox hb; have A1 := Z.m (hbox); have A6 := gW (w := w) HB hg; have A8 := A6; have A2 := neL A0 hg; have A3 := neG A0 hg; replace A0 := kB A0 hb; replace HB := bB HB hb; clear hb hbox hg; have Bc := A2.o; have Bf := A3.o; have Ay := bc0 A0; have Az := bc1 A0; have AA := bc2 A0; have AW := qz A0.o 0; have AX := qz A0.o 1; have AY := qz A0.o 2; have AB := bc0 A1; have AC := bc1 A1; have AD := bc2 A1; have AZ := qz A1.o 0; have B0 := qz A1.o 1; have B1 := qz A1.o 2))
  go_ret
  exact ⟨by first | rfl | (simp [eN, eS] <;> rfl) | (simp [*, eN, eS] <;> rfl), vB HB⟩

/-! ### laws_markCellS: function 61 -/
def laws_markCellS.l0 : Nat → List (S34) → Int → Int → Option (Int × (List (S34)))
 | 0, _, _, _ => none
 | k + 1, x0, x1, x5 => if x5 < (x0.length : Int) then (if 0 ≤ x5 then ((some (x0.set (x5 : Int).toNat (⟨x1, (rd_T34 x0 x5).f1⟩ : S34) : List (S34))).bind fun y238 => (laws_markCellS.l0 k (y238.set (x5 : Int).toNat (⟨(rd_T34 y238 x5).f0, wrap64 (x1 + 1)⟩ : S34)) (wrap64 ((wrap64 (x1 + 1)) + 1)) (wrap64 (x5 + 1)))) else (none)) else (some (x1, x0))
def laws_markCellS.f (k : Nat) (l0 : List (S34)) (a1 : Int) : Option (Int × (List (S34))) := laws_markCellS.l0 k l0 a1 0
set_option maxHeartbeats 8000000 in
set_option maxRecDepth 100000 in
theorem laws_markCellS.calls (k : Nat) (P0_ : Nat → Prop) (u9000_ : Value) (l0 : List (S34)) (a1 : Int) (r1 : Int) (r2 : List (S34)) (w0 w : World) (hB : Below w0.heap.size w0 w) (ho0 : Kd.R k34 34 w w0.heap.size P0_ u9000_ l0) (h : laws_markCellS.f k l0 a1 = some (r1, r2)) :
 Calls Try.prog 61 #[u9000_, .int .i64 a1] w fun e w' => e = .returned (.int .i64 r1) ∧ Kd.R k34 34 w' w0.heap.size (fun k_ => (P0_ k_ ∨ w.heap.size ≤ k_)) u9000_ r2 ∧ Below w0.heap.size w0 w' ∧ Kept w w' (fun k_ => P0_ k_) := by
 have AS := Z.m (show Kd.R k34 34 w w0.heap.size (fun k_ => (P0_ k_ ∨ w.heap.size ≤ k_)) u9000_ l0 from Kd.Rm ho0 (fun k_ hk => (.inl hk)))
 have HK := Z.m (Kept.refl w (fun k_ => P0_ k_))
 have HW0 := Z.m hB.size
 have HB := Z.m hB
 clear hB
 have H : (laws_markCellS.l0 k l0 a1 0) = some (r1, r2) := h
 clear h
 have H' := Z.m H
 clear H
 go_enter Try.func61, Try.ntmps61
 go_wp2
 go_loopg [1, 5] k (fun kq v1 v5 w' => ∃ (A1 : List (S34)) (A3 : Int) (A0 : Int), v1 = .int .i64 A3 ∧ v5 = .int .i64 A0 ∧ Z (laws_markCellS.l0 kq A1 A3 A0 = some (r1, r2)) ∧ Z (kq ≤ k) ∧ Z (Kd.R k34 34 w' w0.heap.size (fun k_ => (P0_ k_ ∨ w.heap.size ≤ k_)) u9000_ A1) ∧ Z (Kept w w' (fun k_ => P0_ k_)) ∧ Z (Below w0.heap.size w0 w'))
 case atStart => exact ⟨(l0), (a1), (0), (by first | rfl | (simp; done) | (simp [*]; done)), (by first | rfl | (simp; done) | (simp [*]; done)), H', ⟨Nat.le_refl _⟩, ⟨vR AS⟩, ⟨vT HK⟩, ⟨vB HB⟩⟩
 case round =>
  clear H'
  obtain ⟨A1, A3, A0, rfl, rfl, HA, AB, A2, HK, HB⟩ := hrel
  cases gk with
  | zero => exact absurd HA.o (by simp [laws_markCellS.l0])
  | succ k1 =>
   have H := HA.o
   clear HA
   simp only [laws_markCellS.l0] at H
   by_cases c3 : A0 < (A1.length : Int)
   ·rw [if_pos c3] at H
    have Au := decide_eq_true c3
    clear c3
    by_cases c4 : 0 ≤ A0
    ·rw [if_pos c4] at H
     have AT := decide_eq_true c4
     clear c4
     obtain ⟨A4, A6⟩ : ∃ y_ : List (S34), y_ = (A1.set (A0 : Int).toNat (⟨A3, (rd_T34 A1 A0).f1⟩ : S34)) := ⟨_, rfl⟩
     replace H : (laws_markCellS.l0 k1 (A4.set (A0 : Int).toNat (⟨(rd_T34 A4 A0).f0, wrap64 (A3 + 1)⟩ : S34)) (wrap64 ((wrap64 (A3 + 1)) + 1)) (wrap64 (A0 + 1))) = some (r1, r2) := by first | (rw [A6]; with_reducible exact H) | (have H2_ := (Option.bind_some _ _).symm.trans H; rw [A6]; with_reducible exact H2_) | (have H2_ := (Option.bind_some _ _).symm.trans H; with_reducible exact H2_) | with_reducible exact H | (rw [A6]; exact H) | exact H
     have Al := Z.m A6
     clear A6
     obtain ⟨Aj, A7⟩ : ∃ y_ : List (S34), y_ = (A4.set (A0 : Int).toNat (⟨(rd_T34 A4 A0).f0, wrap64 (A3 + 1)⟩ : S34)) := ⟨_, rfl⟩
     replace H : (laws_markCellS.l0 k1 Aj (wrap64 ((wrap64 (A3 + 1)) + 1)) (wrap64 (A0 + 1))) = some (r1, r2) := by first | (rw [A7]; with_reducible exact H) | (have H2_ := (Option.bind_some _ _).symm.trans H; rw [A7]; with_reducible exact H2_) | (have H2_ := (Option.bind_some _ _).symm.trans H; with_reducible exact H2_) | with_reducible exact H | (rw [A7]; exact H) | exact H
     have Am := Z.m A7
     clear A7
     have H' := Z.m H
     clear H
     obtain ⟨AX, As, AW⟩ := Kd.R_slice A2.o
     subst AW
     have p5 : 0 ≤ (A0 : Int) := ofD
     have q5 : (A0 : Int) < ((A1.length : Int) : Int) := ofD
     obtain ⟨A5, B2, AE, AF, gl5, cl5, AA⟩ := Kd.R_form A2.o (by omega)
     (first | cases AE | (injection AE with ea_ en_ ec_; (first | subst ea_ | (injection ea_ with ea_; subst ea_)); subst ec_; clear en_))
     have Az := Z.m AF
     have AY := Z.m AA
     clear AF gl5 AA
     have AC := Z.m (show (P0_ A5 ∨ w.heap.size ≤ A5) from (A2.o.1 _ rfl))
     obtain ⟨AZ, Aw, AG, Ac, Ag⟩ := Kd.R_elem A2.o z34 (A0 : Int) p5 q5
     obtain rfl := k34_openM AG
     have AN : wr.cell? ⟨A5, (A0 : Int).toNat * 2, none⟩ = some (.int .i64 ((rd_T34 A1 A0).f0)) := Ac 0 _ rfl
     have AO : wr.cell? ⟨A5, (A0 : Int).toNat * 2 + 1, none⟩ = some (.int .i64 ((rd_T34 A1 A0).f1)) := Ac 1 _ rfl
     have AJ : wr.frozen? ⟨A5, (A0 : Int).toNat * 2, none⟩ = false := Ag 0
     have AK : wr.frozen? ⟨A5, (A0 : Int).toNat * 2 + 1, none⟩ = false := Ag 1
     (try clear Aw); (try clear Ac); (try clear Ag); (try clear AG)
     replace p5 := eq_true p5
     replace q5 := eq_true q5
     have AD := Z.m (show Kd.R k34 34 wr w0.heap.size (fun k_ => (P0_ k_ ∨ w.heap.size ≤ k_)) (.slice (some ⟨A5, 0, none⟩) A1.length As) A1 from (vR A2))
     obtain ⟨B1, Ao, AI, Ae, Aq⟩ := Kd.R_elem AD.o z34 (A0 : Int) (ofD) (by have h_ : (A0 : Int) < ((A1.length : Int) : Int) := ofD; first | exact h_ | (have e_ := (Kd.RrZ A2.o).1; omega) | simpa using h_)
     obtain rfl := k34_openM AI
     have At := Kd.R_seg AD.o (A0 : Int) (ofD) (by have h_ : (A0 : Int) < ((A1.length : Int) : Int) := ofD; first | exact h_ | (have e_ := (Kd.RrZ A2.o).1; omega) | simpa using h_) (seg := [.int .i64 A3]) (j := 0) Ao Ae (show 1 ≤ 2 from by decide) (x' := (⟨A3, (rd_T34 A1 A0).f1⟩ : S34)) (k34_mkM _ _ _ (⟨A3, (rd_T34 A1 A0).f1⟩ : S34) ) (fun _ hk => hk)
     have Ar := Ae 0 _ rfl
     (try simp only [show (k34).sz = 2 from rfl, Nat.mul_one, Nat.add_zero] at Ar)
     have Ap := Aq 0
     (try simp only [show (k34).sz = 2 from rfl, Nat.mul_one, Nat.add_zero] at Ap)
     (try clear Ao); (try clear Ae); (try clear Aq); (try clear AI)
     go_wp2_with (first | ((with_reducible refine gt (t := 3) (p := 16) rfl ?_); refine store_event (t := 3) (p := 16) (v := ?vo_w9) (w1 := (wr.setCell ⟨A5, (A0 : Int).toNat * 2, none⟩ (.int .i64 A3))) ?hg ?ho ?hn ?hr ?_; (case ho => rfl); (case hg => rfl); (case hn => rfl); (case hr => first | (go_simp; done) | (go_simp; rfl)); intro w9 hw; have hg : wr.grownBy w9 (some A5) := (by rw [hw]; exact At.2); have hp_ : Kd.R k34 34 w9 w0.heap.size (fun k_ => (P0_ k_ ∨ w.heap.size ≤ k_)) (.slice (some ⟨A5, 0, none⟩) A1.length As) A4 := (by rw [hw, Al.o]; exact At.1); clear At; replace HB := Z.m ((by rw [hw]; exact qx (HB.o) Az.o : Below w0.heap.size w0 w9)); replace HK := Z.m (Kept.of_grown (S := (fun k_ => P0_ k_)) hg (vT HK) (fun k_ e_ => (A2.o.1 k_ e_))); replace A2 := Z.m (hp_); clear hg hw hp_; have p6 : 0 ≤ (A0 : Int) := ofD; have q6 : (A0 : Int) < ((A1.length : Int) : Int) := ofD; obtain ⟨B0, Ax, AH, Ad, Ah⟩ := Kd.R_elem A2.o z34 (A0 : Int) p6 q6; obtain rfl := k34_openM AH; have AP : w9.cell? ⟨A5, (A0 : Int).toNat * 2, none⟩ = some (.int .i64 ((rd_T34 A4 A0).f0)) := Ad 0 _ rfl; have AQ : w9.cell? ⟨A5, (A0 : Int).toNat * 2 + 1, none⟩ = some (.int .i64 ((rd_T34 A4 A0).f1)) := Ad 1 _ rfl; have AL : w9.frozen? ⟨A5, (A0 : Int).toNat * 2, none⟩ = false := Ah 0; have AM : w9.frozen? ⟨A5, (A0 : Int).toNat * 2 + 1, none⟩ = false := Ah 1; (try clear Ax); (try clear Ad); (try clear Ah); (try clear AH); replace p6 := eq_true p6; replace q6 := eq_true q6; have Ak := Z.m (show Kd.R k34 34 w9 w0.heap.size (fun k_ => (P0_ k_ ∨ w.heap.size ≤ k_)) (.slice (some ⟨A5, 0, none⟩) A1.length As) A4 from (vR A2)); obtain ⟨AU, A9, An, A8, Aa⟩ := Kd.R_elem Ak.o z34 (A0 : Int) (ofD) (by have h_ : (A0 : Int) < ((A1.length : Int) : Int) := ofD; first | exact h_ | (have e_ := (Kd.RrZ A2.o).1; omega) | simpa using h_); obtain rfl := k34_openM An; have Ab := Kd.R_seg Ak.o (A0 : Int) (ofD) (by have h_ : (A0 : Int) < ((A1.length : Int) : Int) := ofD; first | exact h_ | (have e_ := (Kd.RrZ A2.o).1; omega) | simpa using h_) (seg := [.int .i64 (wrap64 (A3 + 1))]) (j := 1) A9 A8 (show 2 ≤ 2 from by decide) (x' := (⟨(rd_T34 A4 A0).f0, wrap64 (A3 + 1)⟩ : S34)) (k34_mkM _ _ _ (⟨(rd_T34 A4 A0).f0, wrap64 (A3 + 1)⟩ : S34) ) (fun _ hk => hk); have Ai := A8 1 _ rfl; (try simp only [show (k34).sz = 2 from rfl, Nat.mul_one, Nat.add_zero] at Ai); have Af := Aa 1; (try simp only [show (k34).sz = 2 from rfl, Nat.mul_one, Nat.add_zero] at Af); (try clear A9); (try clear A8); (try clear Aa); (try clear An)) | ((with_reducible refine gt (t := 3) (p := 23) rfl ?_); refine store_event (t := 3) (p := 23) (v := ?vo_w11) (w1 := (w9.setCell ⟨A5, (A0 : Int).toNat * 2 + 1, none⟩ (.int .i64 (wrap64 (A3 + 1))))) ?hg ?ho ?hn ?hr ?_; (case ho => rfl); (case hg => rfl); (case hn => rfl); (case hr => first | (go_simp; done) | (go_simp; rfl)); intro Ay hw; have hg : w9.grownBy Ay (some A5) := (by rw [hw]; exact Ab.2); have hp_ : Kd.R k34 34 Ay w0.heap.size (fun k_ => (P0_ k_ ∨ w.heap.size ≤ k_)) (.slice (some ⟨A5, 0, none⟩) A1.length As) Aj := (by rw [hw, Am.o]; exact Ab.1); clear Ab; replace HB := Z.m ((by rw [hw]; exact qx (HB.o) Az.o : Below w0.heap.size w0 Ay)); replace HK := Z.m (Kept.of_grown (S := (fun k_ => P0_ k_)) hg (vT HK) (fun k_ e_ => (A2.o.1 k_ e_))); replace A2 := Z.m (hp_); clear hg hw hp_))
     go_roundg k1
     case measure => have := AB.o; omega
     case rel => exact ⟨(Aj), (wrap64 ((wrap64 (A3 + 1)) + 1)), (wrap64 (A0 + 1)), (by first | rfl | (simp; done) | (simp [*]; done)), (by first | rfl | (simp; done) | (simp [*]; done)), H', ⟨by have := AB.o; omega⟩, ⟨vR A2⟩, ⟨vT HK⟩, ⟨vB HB⟩⟩
    ·rw [if_neg c4] at H
     exact absurd H (by simp)
   ·rw [if_neg c3] at H
    have Au := decide_eq_false c3
    clear c3
    simp only [Option.some.injEq, Prod.mk.injEq] at H
    obtain ⟨rfl, rfl⟩ := H
    obtain ⟨AR, AV, Av⟩ := Kd.R_slice A2.o
    subst Av
    go_wp2
    go_ret
    exact ⟨by first | rfl | (simp [eN, eS] <;> rfl) | (simp [*, eN, eS] <;> rfl), vR A2, vB HB, vT HK⟩

/-! ### laws_markBoard: function 25 -/
def laws_markBoard.f (k : Nat) (a0_0 : Int) (a0_1 : Int) (l0_2 : List (S34)) (a1 : Int) : Option (Int × (List (S34))) := (laws_markCellS.f k l0_2 a1).bind fun bt241 => (some (bt241.1, bt241.2))
set_option maxHeartbeats 8000000 in
set_option maxRecDepth 100000 in
theorem laws_markBoard.calls (k : Nat) (a0_0 : Int) (a0_1 : Int) (P0_2_ : Nat → Prop) (u9000_ : Value) (l0_2 : List (S34)) (a1 : Int) (r1 : Int) (r2 : List (S34)) (w0 w : World) (hB : Below w0.heap.size w0 w) (ho0_2 : Kd.R k34 34 w w0.heap.size P0_2_ u9000_ l0_2) (h : laws_markBoard.f k a0_0 a0_1 l0_2 a1 = some (r1, r2)) :
 Calls Try.prog 25 #[.agg #[.int .i64 a0_0, .int .i64 a0_1, u9000_], .int .i64 a1] w fun e w' => e = .returned (.int .i64 r1) ∧ Kd.R k34 34 w' w0.heap.size (fun k_ => (P0_2_ k_ ∨ w.heap.size ≤ k_)) u9000_ r2 ∧ Below w0.heap.size w0 w' ∧ Kept w w' (fun k_ => P0_2_ k_) := by
 have Aj := Try.underlying29
 have A1 := Z.m (show Kd.R k34 34 w w0.heap.size (fun k_ => (P0_2_ k_ ∨ w.heap.size ≤ k_)) u9000_ l0_2 from Kd.Rm ho0_2 (fun k_ hk => (.inl hk)))
 have HK := Z.m (Kept.refl w (fun k_ => P0_2_ k_))
 have HW0 := Z.m hB.size
 have HB := Z.m hB
 clear hB
 have H : ((laws_markCellS.f k l0_2 a1).bind fun bt241 => (some (bt241.1, bt241.2))) = some (r1, r2) := h
 clear h
 replace H := Option.bind_eq_some_iff.mp H
 obtain ⟨⟨A5, A6⟩, Af, H⟩ := H
 replace H : (some (A5, A6)) = some (r1, r2) := H
 have A3 := Z.m Af
 clear Af
 simp only [Option.some.injEq, Prod.mk.injEq] at H
 obtain ⟨rfl, rfl⟩ := H
 obtain ⟨A7, A8, Ai⟩ := Kd.R_slice A1.o
 subst Ai
 go_enter Try.func25, Try.ntmps25
 go_wp2_with (first | ((with_reducible refine gq (N := 2) rfl ?_); refine be (N := 2) (cs := #[.int .i64 a0_0, .int .i64 a0_1, .slice A7 l0_2.length A8]) (t := 29) ?_; intro A4 hg w5 hbox hb; have A0 := Z.m (hbox); have Ag := Z.m ((by rw [hg]; exact (by first | exact HK.o.1 | exact (show Kept w _ (fun k_ => P0_2_ k_) from vT HK).1) : w.heap.size ≤ A4)); have A2 := gW (w := w0) HB hg; replace A1 := Z.m (Kd.Rb (vR A1) hb); replace HK := Z.m (Kept.below (S := (fun k_ => P0_2_ k_)) (vT HK) hb); replace HB := bB HB hb; clear hb hbox hg; have A9 := bc0 A0; have Aa := bc1 A0; have Ab := bc2 A0; have Ac := qz A0.o 0; have Ad := qz A0.o 1; have Ae := qz A0.o 2) | ((with_reducible refine gc (f := 61) rfl ?_); refine gA (some 8) _ #[.slice A7 l0_2.length A8, .int .i64 a1] ?_ Try.func61; (with_reducible refine (laws_markCellS.calls k (fun k_ => some k_ = (.slice A7 l0_2.length A8 : Value).ownBlock) (.slice A7 l0_2.length A8) l0_2 a1 A5 A6 w0 _ ?side1 ?side2 A3.o).mono ?_); (case side1 => repeat (first | (with_reducible first | exact HB.o | apply qa | apply qn | apply qd | refine qx ?_ A2.o) | exact HB.o)); (case side2 => exact Kd.Rg rfl A1.o); rintro e w7 ⟨rfl, Ah, hb, hkp⟩; refine ⟨_, rfl, ?_⟩; replace A0 := Z.m (qk (vK A0) hkp (fun hs_ => (fun e_ => (Kd.R_ne A1.o A0.o (by decide)) e_) hs_)); replace HK := Z.m (Kept.then_ (S := (fun k_ => P0_2_ k_)) (vT HK) hkp (fun k_ hs_ => (fun e_ => (A1.o.1 k_ e_.symm)) hs_)); replace A1 := Z.m (Kd.Re rfl Ah (fun k_ e_ => A1.o.1 k_ e_)); replace HB := Z.m (hb); (try clear hb); (try clear hkp); (try clear Ah)))
 go_ret
 exact ⟨by first | rfl | (simp [eN, eS] <;> rfl) | (simp [*, eN, eS] <;> rfl), vR A1, vB HB, vT HK⟩

/-! ### laws_heldCellS: function 62 -/
def laws_heldCellS.l0 : Nat → List (S34) → Int → Int → Option (Int)
 | 0, _, _, _ => none
 | k + 1, x0, x1, x5 => if x5 < (x0.length : Int) then (if 0 ≤ x5 then (if ((rd_T34 x0 x5).f0) = x1 then (if ((rd_T34 x0 x5).f1) = (wrap64 (x1 + 1)) then (laws_heldCellS.l0 k x0 (wrap64 ((wrap64 (x1 + 1)) + 1)) (wrap64 (x5 + 1))) else (some (-1))) else (some (-1))) else (none)) else (some x1)
def laws_heldCellS.f (k : Nat) (l0 : List (S34)) (a1 : Int) : Option (Int) := laws_heldCellS.l0 k l0 a1 0
set_option maxHeartbeats 8000000 in
set_option maxRecDepth 100000 in
theorem laws_heldCellS.calls (k : Nat) (A0 : Option Addr) (c0 : Nat) (l0 : List (S34)) (a1 : Int) (r : Int) (w : World) (hr0 : Kd.C k34 w A0 l0.length l0) (hc0 : l0.length ≤ c0) (h : laws_heldCellS.f k l0 a1 = some r) :
 Calls Try.prog 62 #[.slice A0 l0.length c0, .int .i64 a1] w fun e w' => e = .returned (.int .i64 r) ∧ Drawn0 w w' := by
 have A9 := Z.m hr0
 have Ah := Z.m hc0
 clear hr0 hc0
 have H : (laws_heldCellS.l0 k l0 a1 0) = some r := h
 clear h
 have H' := Z.m H
 clear H
 go_enter Try.func62, Try.ntmps62
 go_wp2
 go_loopg [1, 5] k (fun kq v1 v5 w' => ∃ (A5 : Int) (A1 : Int), v1 = .int .i64 A5 ∧ v5 = .int .i64 A1 ∧ Z (laws_heldCellS.l0 kq l0 A5 A1 = some r) ∧ Z (kq ≤ k) ∧ Drawn0 w w')
 case atStart => exact ⟨(a1), (0), (by first | rfl | (simp; done) | (simp [*]; done)), (by first | rfl | (simp; done) | (simp [*]; done)), H', ⟨Nat.le_refl _⟩, by repeat (first | exact Drawn0.refl _ | apply Drawn0.step)⟩
 case round =>
  clear H'
  obtain ⟨A5, A1, rfl, rfl, HA, Af, ⟨m1, rfl⟩⟩ := hrel
  cases gk with
  | zero => exact absurd HA.o (by simp [laws_heldCellS.l0])
  | succ k1 =>
   have H := HA.o
   clear HA
   simp only [laws_heldCellS.l0] at H
   by_cases c3 : A1 < (l0.length : Int)
   ·rw [if_pos c3] at H
    have Aa := decide_eq_true c3
    clear c3
    by_cases c4 : 0 ≤ A1
    ·rw [if_pos c4] at H
     have Ag := decide_eq_true c4
     clear c4
     by_cases c5 : ((rd_T34 l0 A1).f0) = A5
     ·rw [if_pos c5] at H
      have Ab := beq_iff_eq.mpr c5
      have Ac := bne_eq_false_iff_eq.mpr c5
      clear c5
      by_cases c6 : ((rd_T34 l0 A1).f1) = (wrap64 (A5 + 1))
      ·rw [if_pos c6] at H
       have Ad := beq_iff_eq.mpr c6
       have Ae := bne_eq_false_iff_eq.mpr c6
       clear c6
       have H' := Z.m H
       clear H
       have p243 : 0 ≤ (A1 : Int) := ofD
       have q243 : A1 < (l0.length : Int) := ofD
       obtain ⟨A2, e243, A3, A4⟩ := at_T34 A9.o A1 p243 q243
       cases e243
       replace p243 := eq_true p243
       replace q243 := eq_true q243
       have p244 : 0 ≤ (A1 : Int) := ofD
       have q244 : A1 < (l0.length : Int) := ofD
       obtain ⟨A6, e244, A7, A8⟩ := at_T34 A9.o A1 p244 q244
       obtain rfl : A2 = A6 := (by injection e244)
       replace p244 := eq_true p244
       replace q244 := eq_true q244
       go_wp2
       go_roundg k1
       case measure => have := Af.o; omega
       case rel => exact ⟨(wrap64 ((wrap64 (A5 + 1)) + 1)), (wrap64 (A1 + 1)), (by first | rfl | (simp; done) | (simp [*]; done)), (by first | rfl | (simp; done) | (simp [*]; done)), H', ⟨by have := Af.o; omega⟩, by repeat (first | exact Drawn0.refl _ | apply Drawn0.step)⟩
      ·rw [if_neg c6] at H
       have Ad := beq_eq_false_iff_ne.mpr c6
       have Ae := bne_iff_ne.mpr c6
       obtain rfl := Option.some.inj H
       have p243 : 0 ≤ (A1 : Int) := ofD
       have q243 : A1 < (l0.length : Int) := ofD
       obtain ⟨A2, e243, A3, A4⟩ := at_T34 A9.o A1 p243 q243
       cases e243
       replace p243 := eq_true p243
       replace q243 := eq_true q243
       have p244 : 0 ≤ (A1 : Int) := ofD
       have q244 : A1 < (l0.length : Int) := ofD
       obtain ⟨A6, e244, A7, A8⟩ := at_T34 A9.o A1 p244 q244
       obtain rfl : A2 = A6 := (by injection e244)
       replace p244 := eq_true p244
       replace q244 := eq_true q244
       go_wp2
       go_ret
       exact ⟨by first | rfl | (simp; done) | (simp [*]; done), by repeat (first | exact Drawn0.refl _ | apply Drawn0.step)⟩
     ·rw [if_neg c5] at H
      have Ab := beq_eq_false_iff_ne.mpr c5
      have Ac := bne_iff_ne.mpr c5
      obtain rfl := Option.some.inj H
      have p243 : 0 ≤ (A1 : Int) := ofD
      have q243 : A1 < (l0.length : Int) := ofD
      obtain ⟨A2, e243, A3, A4⟩ := at_T34 A9.o A1 p243 q243
      cases e243
      replace p243 := eq_true p243
      replace q243 := eq_true q243
      go_wp2
      go_ret
      exact ⟨by first | rfl | (simp; done) | (simp [*]; done), by repeat (first | exact Drawn0.refl _ | apply Drawn0.step)⟩
    ·rw [if_neg c4] at H
     exact absurd H (by simp)
   ·rw [if_neg c3] at H
    have Aa := decide_eq_false c3
    clear c3
    obtain rfl := Option.some.inj H
    go_wp2
    go_ret
    exact ⟨by first | rfl | (simp; done) | (simp [*]; done), by repeat (first | exact Drawn0.refl _ | apply Drawn0.step)⟩

end Go.Proofs.Yteodcegmkbcjjaa.PAll
