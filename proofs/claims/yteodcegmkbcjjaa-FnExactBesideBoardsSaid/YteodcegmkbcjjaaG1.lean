/- Began as a text that print.sh wrote (of the functions named below); turned and shortened by this session. -/
import Derived.Test.YteodcegmkbcjjaaG0
namespace Go.Proofs.Yteodcegmkbcjjaa.PAll
open Go.RowKit Go.Proofs.YteodcegmkbcjjaaW.PrintWords Go.Proofs.YteodcegmkbcjjaaW.PrintLast Go.Proofs.YteodcegmkbcjjaaW.PrintMore
attribute [local go_sem] max2_int min2_int max_two min_two max_three min_three max_four min_four   -- for this text's walks alone
set_option linter.unusedVariables false
set_option linter.unusedSimpArgs false

/-! ### laws_szCellS: function 52 -/
def laws_szCellS.f (l0 : List (S46)) (a1 : Int) : Option (Int) := if (wrap64 (a1 - (l0.length : Int))) < 0 then (some (-1)) else (some (wrap64 (a1 - (l0.length : Int))))
set_option maxHeartbeats 8000000 in
set_option maxRecDepth 100000 in
theorem laws_szCellS.calls (A0 : Option Addr) (c0 : Nat) (l0 : List (S46)) (a1 : Int) (r : Int) (w : World) (hr0 : Kd.C k46 w A0 l0.length l0) (hc0 : l0.length ≤ c0) (h : laws_szCellS.f l0 a1 = some r) :
 Calls Try.prog 52 #[.slice A0 l0.length c0, .int .i64 a1] w fun e w' => e = .returned (.int .i64 r) ∧ Drawn0 w w' := by
 have A3 := Z.m hr0
 have A2 := Z.m hc0
 clear hr0 hc0
 have H : (if (wrap64 (a1 - (l0.length : Int))) < 0 then (some (-1)) else (some (wrap64 (a1 - (l0.length : Int))))) = some r := h
 clear h
 by_cases c3 : (wrap64 (a1 - (l0.length : Int))) < 0
 ·rw [if_pos c3] at H
  have A1 := decide_eq_true c3
  clear c3
  obtain rfl := Option.some.inj H
  go_enter Try.func52, Try.ntmps52
  go_wp2
  go_ret
  exact ⟨by first | rfl | (simp; done) | (simp [*]; done), by repeat (first | exact Drawn0.refl _ | apply Drawn0.step)⟩
 ·rw [if_neg c3] at H
  have A1 := decide_eq_false c3
  clear c3
  obtain rfl := Option.some.inj H
  go_enter Try.func52, Try.ntmps52
  go_wp2
  go_ret
  exact ⟨by first | rfl | (simp; done) | (simp [*]; done), by repeat (first | exact Drawn0.refl _ | apply Drawn0.step)⟩

/-! ### laws_szBoard: function 15 -/
def laws_szBoard.f (a0_0 : Int) (a0_1 : Int) (l0_2 : List (S46)) (a1 : Int) : Option (Int) := (laws_szCellS.f l0_2 a1).bind fun t102 => (if t102 < 0 then (some (-1)) else (some t102))
set_option maxHeartbeats 8000000 in
set_option maxRecDepth 100000 in
theorem laws_szBoard.calls (a0_0 : Int) (a0_1 : Int) (A0_2 : Option Addr) (c0_2 : Nat) (l0_2 : List (S46)) (a1 : Int) (r : Int) (w : World) (hr0_2 : Kd.C k46 w A0_2 l0_2.length l0_2) (hc0_2 : l0_2.length ≤ c0_2) (h : laws_szBoard.f a0_0 a0_1 l0_2 a1 = some r) :
 Calls Try.prog 15 #[.agg #[.int .i64 a0_0, .int .i64 a0_1, .slice A0_2 l0_2.length c0_2], .int .i64 a1] w fun e w' => e = .returned (.int .i64 r) ∧ Below w.heap.size w w' := by
 have Am := Try.underlying24
 have A5 := Z.m hr0_2
 have A4 := Z.m hc0_2
 clear hr0_2 hc0_2
 have HB := Z.m (Below.refl w.heap.size w)
 have H : ((laws_szCellS.f l0_2 a1).bind fun A1 => (if A1 < 0 then (some (-1)) else (some A1))) = some r := h
 clear h
 replace H := Option.bind_eq_some_iff.mp H
 obtain ⟨A1, Al, H⟩ := H
 replace H : (if A1 < 0 then (some (-1)) else (some A1)) = some r := H
 have A3 := Z.m Al
 clear Al
 by_cases c4 : A1 < 0
 ·rw [if_pos c4] at H
  have A8 := decide_eq_true c4
  clear c4
  obtain rfl := Option.some.inj H
  go_enter Try.func15, Try.ntmps15
  go_wp2_with (first | ((with_reducible refine gq (N := 2) rfl ?_); refine be (N := 2) (cs := #[.int .i64 a0_0, .int .i64 a0_1, .slice A0_2 l0_2.length c0_2]) (t := 24) ?_; intro A7 hg w5 hbox hb; have A0 := Z.m (hbox); have A2 := gW (w := w) HB hg; have A6 := A2; replace HB := bB HB hb; clear hb hbox hg; have A9 := bc0 A0; have Aa := bc1 A0; have Ab := bc2 A0; have Af := qz A0.o 0; have Ag := qz A0.o 1; have Ah := qz A0.o 2) | ((with_reducible refine gc (f := 52) rfl ?_); refine gA (some 8) _ #[.slice A0_2 l0_2.length c0_2, .int .i64 a1] ?_ Try.func52; (with_reducible refine (laws_szCellS.calls _ _ l0_2 a1 A1 _ ?side1 ?side2 A3.o).mono ?_); (case side1 => repeat (first | exact (Kd.C_below A5.o HB.o) | (with_reducible refine Kd.C_alloc ?_ _) | (with_reducible refine Kd.C_drewN ?_ _) | (with_reducible refine Kd.C_drew ?_))); (case side2 => exact A4.o); rintro e w' ⟨rfl, ⟨nd, rfl⟩⟩; refine ⟨_, rfl, ?_⟩))
  go_ret
  exact ⟨by first | rfl | (simp [eN, eS] <;> rfl) | (simp [*, eN, eS] <;> rfl), vB HB⟩
 ·rw [if_neg c4] at H
  have A8 := decide_eq_false c4
  clear c4
  obtain rfl := Option.some.inj H
  go_enter Try.func15, Try.ntmps15
  go_wp2_with (first | ((with_reducible refine gq (N := 2) rfl ?_); refine be (N := 2) (cs := #[.int .i64 a0_0, .int .i64 a0_1, .slice A0_2 l0_2.length c0_2]) (t := 24) ?_; intro A7 hg w7 hbox hb; have A0 := Z.m (hbox); have A2 := gW (w := w) HB hg; have A6 := A2; replace HB := bB HB hb; clear hb hbox hg; have Ac := bc0 A0; have Ad := bc1 A0; have Ae := bc2 A0; have Ai := qz A0.o 0; have Aj := qz A0.o 1; have Ak := qz A0.o 2) | ((with_reducible refine gc (f := 52) rfl ?_); refine gA (some 8) _ #[.slice A0_2 l0_2.length c0_2, .int .i64 a1] ?_ Try.func52; (with_reducible refine (laws_szCellS.calls _ _ l0_2 a1 A1 _ ?side1 ?side2 A3.o).mono ?_); (case side1 => repeat (first | exact (Kd.C_below A5.o HB.o) | (with_reducible refine Kd.C_alloc ?_ _) | (with_reducible refine Kd.C_drewN ?_ _) | (with_reducible refine Kd.C_drew ?_))); (case side2 => exact A4.o); rintro e w' ⟨rfl, ⟨nd, rfl⟩⟩; refine ⟨_, rfl, ?_⟩))
  go_ret
  exact ⟨by first | rfl | (simp [eN, eS] <;> rfl) | (simp [*, eN, eS] <;> rfl), vB HB⟩

/-! ### spec_l1In: function 60 -/
def spec_l1In.f (a0 : Int) (a1 : Int) (a2 : Int) : Option (Bool) := if a0 ≥ a1 then (some (decide (a0 ≤ a2))) else (some false)
set_option maxHeartbeats 8000000 in
set_option maxRecDepth 100000 in
theorem spec_l1In.calls (a0 : Int) (a1 : Int) (a2 : Int) (r : Bool) (w : World) (h : spec_l1In.f a0 a1 a2 = some r) :
 Calls Try.prog 60 #[.int .i64 a0, .int .i64 a1, .int .i64 a2] w fun e w' => e = .returned (.bool r) ∧ Drawn0 w w' := by
 have H : (if a0 ≥ a1 then (some (decide (a0 ≤ a2))) else (some false)) = some r := h
 clear h
 by_cases c4 : a0 ≥ a1
 ·rw [if_pos c4] at H
  have A0 := decide_eq_true c4
  clear c4
  obtain rfl := Option.some.inj H
  go_enter Try.func60, Try.ntmps60
  go_wp2
  go_ret
  exact ⟨by first | rfl | (simp; done) | (simp [*]; done), by repeat (first | exact Drawn0.refl _ | apply Drawn0.step)⟩
 ·rw [if_neg c4] at H
  have A0 := decide_eq_false c4
  clear c4
  obtain rfl := Option.some.inj H
  go_enter Try.func60, Try.ntmps60
  go_wp2
  go_ret
  exact ⟨by first | rfl | (simp; done) | (simp [*]; done), by repeat (first | exact Drawn0.refl _ | apply Drawn0.step)⟩

/-! ### spec_paTurning: function 83 -/
def spec_paTurning.f (a0_0 : Int) (a0_1 : Int) : Option (Bool) := if a0_0 = 3 then (some true) else (some (a0_0 == 6))
set_option maxHeartbeats 8000000 in
set_option maxRecDepth 100000 in
theorem spec_paTurning.calls (a0_0 : Int) (a0_1 : Int) (r : Bool) (w : World) (h : spec_paTurning.f a0_0 a0_1 = some r) :
 Calls Try.prog 83 #[.agg #[.int .i64 a0_0, .int .i64 a0_1]] w fun e w' => e = .returned (.bool r) ∧ Below w.heap.size w w' := by
 have Ae := Try.underlying34
 have HB := Z.m (Below.refl w.heap.size w)
 have H : (if a0_0 = 3 then (some true) else (some (a0_0 == 6))) = some r := h
 clear h
 by_cases c2 : a0_0 = 3
 ·rw [if_pos c2] at H
  have A4 := beq_iff_eq.mpr c2
  have A5 := bne_eq_false_iff_eq.mpr c2
  clear c2
  obtain rfl := Option.some.inj H
  go_enter Try.func83, Try.ntmps83
  go_wp2_with (first | ((with_reducible refine gq (N := 1) rfl ?_); refine be (N := 1) (cs := #[.int .i64 a0_0, .int .i64 a0_1]) (t := 34) ?_; intro A3 hg w3 hbox hb; have A0 := Z.m (hbox); have A1 := gW (w := w) HB hg; have A2 := A1; replace HB := bB HB hb; clear hb hbox hg; have A6 := bc0 A0; have A7 := bc1 A0; have Aa := qz A0.o 0; have Ab := qz A0.o 1))
  go_ret
  exact ⟨by first | rfl | (simp [eN, eS] <;> rfl) | (simp [*, eN, eS] <;> rfl), vB HB⟩
 ·rw [if_neg c2] at H
  have A4 := beq_eq_false_iff_ne.mpr c2
  have A5 := bne_iff_ne.mpr c2
  obtain rfl := Option.some.inj H
  go_enter Try.func83, Try.ntmps83
  go_wp2_with (first | ((with_reducible refine gq (N := 1) rfl ?_); refine be (N := 1) (cs := #[.int .i64 a0_0, .int .i64 a0_1]) (t := 34) ?_; intro A3 hg w5 hbox hb; have A0 := Z.m (hbox); have A1 := gW (w := w) HB hg; have A2 := A1; replace HB := bB HB hb; clear hb hbox hg; have A8 := bc0 A0; have A9 := bc1 A0; have Ac := qz A0.o 0; have Ad := qz A0.o 1))
  go_ret
  exact ⟨by first | rfl | (simp [eN, eS] <;> rfl) | (simp [*, eN, eS] <;> rfl), vB HB⟩

/-! ### spec_paGood: function 68 -/
def spec_paGood.f (a0_0 : Int) (a0_1 : Int) : Option (Bool) := (spec_l1In.f a0_0 0 7).bind fun t105 => (if t105 = true then (if a0_1 = 0 then (some true) else (if a0_1 = 1 then ((spec_paTurning.f a0_0 a0_1).bind fun t106 => (some t106)) else (some false))) else (some false))
set_option maxHeartbeats 8000000 in
set_option maxRecDepth 100000 in
theorem spec_paGood.calls (a0_0 : Int) (a0_1 : Int) (r : Bool) (w : World) (h : spec_paGood.f a0_0 a0_1 = some r) :
 Calls Try.prog 68 #[.agg #[.int .i64 a0_0, .int .i64 a0_1]] w fun e w' => e = .returned (.bool r) ∧ Below w.heap.size w w' := by
 have Au := Try.underlying34
 have HB := Z.m (Below.refl w.heap.size w)
 have H : ((spec_l1In.f a0_0 0 7).bind fun A6 => (if A6 = true then (if a0_1 = 0 then (some true) else (if a0_1 = 1 then ((spec_paTurning.f a0_0 a0_1).bind fun A3 => (some A3)) else (some false))) else (some false))) = some r := h
 clear h
 replace H := Option.bind_eq_some_iff.mp H
 obtain ⟨A6, As, H⟩ := H
 replace H : (if A6 = true then (if a0_1 = 0 then (some true) else (if a0_1 = 1 then ((spec_paTurning.f a0_0 a0_1).bind fun A3 => (some A3)) else (some false))) else (some false)) = some r := H
 have A2 := Z.m As
 clear As
 by_cases c3 : A6 = true
 ·subst c3
  have H1 : (if a0_1 = 0 then (some true) else (if a0_1 = 1 then ((spec_paTurning.f a0_0 a0_1).bind fun A3 => (some A3)) else (some false))) = some r := by rw [if_pos rfl] at H; exact H
  clear H
  have H := H1
  clear H1
  by_cases c4 : a0_1 = 0
  ·rw [if_pos c4] at H
   have Ak := beq_iff_eq.mpr c4
   have Al := bne_eq_false_iff_eq.mpr c4
   clear c4
   obtain rfl := Option.some.inj H
   go_enter Try.func68, Try.ntmps68
   go_wp2_with (first | ((with_reducible refine gq (N := 1) rfl ?_); refine be (N := 1) (cs := #[.int .i64 a0_0, .int .i64 a0_1]) (t := 34) ?_; intro A5 hg w5 hbox hb; have A0 := Z.m (hbox); have A1 := gW (w := w) HB hg; have A4 := A1; replace HB := bB HB hb; clear hb hbox hg; have Ao := bc0 A0; have Ap := bc1 A0; have Aq := qz A0.o 0; have Ar := qz A0.o 1) | ((with_reducible refine gc (f := 60) rfl ?_); refine gA (some 5) _ #[.int .i64 a0_0, .int .i64 0, .int .i64 7] ?_ Try.func60; (with_reducible refine (spec_l1In.calls a0_0 0 7 true _ A2.o).mono ?_); rintro e w' ⟨rfl, ⟨nd, rfl⟩⟩; refine ⟨_, rfl, ?_⟩))
   go_ret
   exact ⟨by first | rfl | (simp [eN, eS] <;> rfl) | (simp [*, eN, eS] <;> rfl), vB HB⟩
  ·rw [if_neg c4] at H
   have Ak := beq_eq_false_iff_ne.mpr c4
   have Al := bne_iff_ne.mpr c4
   by_cases c7 : a0_1 = 1
   ·rw [if_pos c7] at H
    have Am := beq_iff_eq.mpr c7
    have An := bne_eq_false_iff_eq.mpr c7
    clear c7
    replace H := Option.bind_eq_some_iff.mp H
    obtain ⟨A3, At, H⟩ := H
    replace H : (some A3) = some r := H
    have A8 := Z.m At
    clear At
    obtain rfl := Option.some.inj H
    go_enter Try.func68, Try.ntmps68
    go_wp2_with (first | ((with_reducible refine gq (N := 1) rfl ?_); refine be (N := 1) (cs := #[.int .i64 a0_0, .int .i64 a0_1]) (t := 34) ?_; intro A5 hg w9 hbox hb; have A0 := Z.m (hbox); have A1 := gW (w := w) HB hg; have A4 := A1; replace HB := bB HB hb; clear hb hbox hg; have A7 := bc0 A0; have A9 := bc1 A0; have Ae := qz A0.o 0; have Af := qz A0.o 1) | ((with_reducible refine gc (f := 60) rfl ?_); refine gA (some 5) _ #[.int .i64 a0_0, .int .i64 0, .int .i64 7] ?_ Try.func60; (with_reducible refine (spec_l1In.calls a0_0 0 7 true _ A2.o).mono ?_); rintro e w' ⟨rfl, ⟨nd, rfl⟩⟩; refine ⟨_, rfl, ?_⟩) | (go_at_call 83; (with_reducible refine (spec_paTurning.calls a0_0 a0_1 A3 _ A8.o).mono ?_); rintro e Aw ⟨rfl, hb⟩; replace A0 := kB A0 hb; replace HB := bB HB hb; (try clear hb); (try clear Av); (try clear hk); (try clear hi)))
    go_ret
    exact ⟨by first | rfl | (simp [eN, eS] <;> rfl) | (simp [*, eN, eS] <;> rfl), vB HB⟩
   ·rw [if_neg c7] at H
    have Am := beq_eq_false_iff_ne.mpr c7
    have An := bne_iff_ne.mpr c7
    obtain rfl := Option.some.inj H
    go_enter Try.func68, Try.ntmps68
    go_wp2_with (first | ((with_reducible refine gq (N := 1) rfl ?_); refine be (N := 1) (cs := #[.int .i64 a0_0, .int .i64 a0_1]) (t := 34) ?_; intro A5 hg Ax hbox hb; have A0 := Z.m (hbox); have A1 := gW (w := w) HB hg; have A4 := A1; replace HB := bB HB hb; clear hb hbox hg; have Aa := bc0 A0; have Ab := bc1 A0; have Ag := qz A0.o 0; have Ah := qz A0.o 1) | ((with_reducible refine gc (f := 60) rfl ?_); refine gA (some 5) _ #[.int .i64 a0_0, .int .i64 0, .int .i64 7] ?_ Try.func60; (with_reducible refine (spec_l1In.calls a0_0 0 7 true _ A2.o).mono ?_); rintro e w' ⟨rfl, ⟨nd, rfl⟩⟩; refine ⟨_, rfl, ?_⟩))
    go_ret
    exact ⟨by first | rfl | (simp [eN, eS] <;> rfl) | (simp [*, eN, eS] <;> rfl), vB HB⟩
 ·replace c3 := Bool.eq_false_iff.mpr c3
  subst c3
  have H1 : (some false) = some r := by rw [if_neg (show ¬ (false = true) by decide)] at H; exact H
  clear H
  have H := H1
  clear H1
  obtain rfl := Option.some.inj H
  go_enter Try.func68, Try.ntmps68
  go_wp2_with (first | ((with_reducible refine gq (N := 1) rfl ?_); refine be (N := 1) (cs := #[.int .i64 a0_0, .int .i64 a0_1]) (t := 34) ?_; intro A5 hg Ay hbox hb; have A0 := Z.m (hbox); have A1 := gW (w := w) HB hg; have A4 := A1; replace HB := bB HB hb; clear hb hbox hg; have Ac := bc0 A0; have Ad := bc1 A0; have Ai := qz A0.o 0; have Aj := qz A0.o 1) | ((with_reducible refine gc (f := 60) rfl ?_); refine gA (some 5) _ #[.int .i64 a0_0, .int .i64 0, .int .i64 7] ?_ Try.func60; (with_reducible refine (spec_l1In.calls a0_0 0 7 false _ A2.o).mono ?_); rintro e w' ⟨rfl, ⟨nd, rfl⟩⟩; refine ⟨_, rfl, ?_⟩))
  go_ret
  exact ⟨by first | rfl | (simp [eN, eS] <;> rfl) | (simp [*, eN, eS] <;> rfl), vB HB⟩

/-! ### spec_boGood: function 53 -/
mutual
def spec_boGood.j0 : Nat → Bool → Int → Int → List (S34) → Option (Bool)
 | 0, _, _, _, _ => none
 | k + 1, x25, x108000, x108001, x108002 => if x25 = true then (some false) else (spec_boGood.l0 k x108002 (x108002.length : Int) 0)
def spec_boGood.l0 : Nat → List (S34) → Int → Int → Option (Bool)
 | 0, _, _, _ => none
 | k + 1, x27, x28, x29 => if x29 < x28 then (if 0 ≤ x29 then (if x29 < (x27.length : Int) then ((spec_paGood.f ((rd_T34 x27 x29).f0) ((rd_T34 x27 x29).f1)).bind fun t112 => (if t112 = true then (spec_boGood.l0 k x27 x28 (wrap64 (x29 + 1))) else (some false))) else (none)) else (none)) else (some true)
end
def spec_boGood.f (k : Nat) (a0_0 : Int) (a0_1 : Int) (l0_2 : List (S34)) : Option (Bool) := (spec_l1In.f a0_0 1 10).bind fun t108 => (if t108 = true then ((spec_l1In.f a0_1 1 9).bind fun t109 => (if t109 = true then (spec_boGood.j0 k ((l0_2.length : Int) != (wrap64 (a0_0 * a0_1))) a0_0 a0_1 l0_2) else (spec_boGood.j0 k true a0_0 a0_1 l0_2))) else (spec_boGood.j0 k true a0_0 a0_1 l0_2))
set_option maxHeartbeats 8000000 in
set_option maxRecDepth 100000 in
theorem spec_boGood.calls (k : Nat) (a0_0 : Int) (a0_1 : Int) (A0_2 : Option Addr) (c0_2 : Nat) (l0_2 : List (S34)) (r : Bool) (w : World) (hr0_2 : Kd.C k34 w A0_2 l0_2.length l0_2) (hc0_2 : l0_2.length ≤ c0_2) (h : spec_boGood.f k a0_0 a0_1 l0_2 = some r) :
 Calls Try.prog 53 #[.agg #[.int .i64 a0_0, .int .i64 a0_1, .slice A0_2 l0_2.length c0_2]] w fun e w' => e = .returned (.bool r) ∧ Below w.heap.size w w' := by
 have Ba := Try.underlying29
 have Bb := Try.underlying34
 have Am := Z.m hr0_2
 have AX := Z.m hc0_2
 clear hr0_2 hc0_2
 have HB := Z.m (Below.refl w.heap.size w)
 have H : ((spec_l1In.f a0_0 1 10).bind fun Al => (if Al = true then ((spec_l1In.f a0_1 1 9).bind fun A9 => (if A9 = true then (spec_boGood.j0 k ((l0_2.length : Int) != (wrap64 (a0_0 * a0_1))) a0_0 a0_1 l0_2) else (spec_boGood.j0 k true a0_0 a0_1 l0_2))) else (spec_boGood.j0 k true a0_0 a0_1 l0_2))) = some r := h
 clear h
 have AG := Z.m H
 clear H
 go_enter Try.func53, Try.ntmps53
 go_upto_region 1 with (first | ((with_reducible refine gq (N := 1) rfl ?_); (try (refine gate_guard (by rfl) ?_; dsimp only)); refine be (N := 1) (cs := #[.int .i64 a0_0, .int .i64 a0_1, .slice A0_2 l0_2.length c0_2]) (t := 29) ?_; intro Aa hg w3 hbox hb; have A0 := Z.m (hbox); have Ap := gW (w := w) HB hg; have AW := Ap; replace HB := bB HB hb; clear hb hbox hg))
 (try simp only [Act.put, q1, q2, q3])
 go_cut [25] (fun v25 wc => ∃ (kq : Nat) (Ab : Bool), v25 = .bool Ab ∧ Z (spec_boGood.j0 kq Ab a0_0 a0_1 l0_2 = some r) ∧ Z (kq ≤ k) ∧ Z (wc.heap[Aa]? = some (.cells #[.int .i64 a0_0, .int .i64 a0_1, (.slice A0_2 l0_2.length c0_2)] 29 (0, 0))) ∧ Z (Below w.heap.size w wc))
 case first =>
  have H := AG.o
  clear AG
  replace H := Option.bind_eq_some_iff.mp H
  obtain ⟨Al, AU, H⟩ := H
  replace H : (if Al = true then ((spec_l1In.f a0_1 1 9).bind fun A9 => (if A9 = true then (spec_boGood.j0 k ((l0_2.length : Int) != (wrap64 (a0_0 * a0_1))) a0_0 a0_1 l0_2) else (spec_boGood.j0 k true a0_0 a0_1 l0_2))) else (spec_boGood.j0 k true a0_0 a0_1 l0_2)) = some r := H
  have A4 := Z.m AU
  clear AU
  by_cases c5 : Al = true
  ·subst c5
   have H1 : ((spec_l1In.f a0_1 1 9).bind fun A9 => (if A9 = true then (spec_boGood.j0 k ((l0_2.length : Int) != (wrap64 (a0_0 * a0_1))) a0_0 a0_1 l0_2) else (spec_boGood.j0 k true a0_0 a0_1 l0_2))) = some r := by rw [if_pos rfl] at H; exact H
   clear H
   have H := H1
   clear H1
   replace H := Option.bind_eq_some_iff.mp H
   obtain ⟨A9, AV, H⟩ := H
   replace H : (if A9 = true then (spec_boGood.j0 k ((l0_2.length : Int) != (wrap64 (a0_0 * a0_1))) a0_0 a0_1 l0_2) else (spec_boGood.j0 k true a0_0 a0_1 l0_2)) = some r := H
   have A6 := Z.m AV
   clear AV
   by_cases c7 : A9 = true
   ·subst c7
    have H1 : (spec_boGood.j0 k ((l0_2.length : Int) != (wrap64 (a0_0 * a0_1))) a0_0 a0_1 l0_2) = some r := by rw [if_pos rfl] at H; exact H
    clear H
    have H := H1
    clear H1
    have H' := Z.m H
    clear H
    have AH := bc0 A0
    have AI := bc1 A0
    have AJ := bc2 A0
    have AN := qz A0.o 0
    have AO := qz A0.o 1
    have AP := qz A0.o 2
    go_wp2_with (first | ((with_reducible refine gc (f := 60) rfl ?_); refine gA (some 7) _ #[.int .i64 a0_0, .int .i64 1, .int .i64 10] ?_ Try.func60; (with_reducible refine (spec_l1In.calls a0_0 1 10 true _ A4.o).mono ?_); rintro e w' ⟨rfl, ⟨nd, rfl⟩⟩; refine ⟨_, rfl, ?_⟩) | (go_at_call 60; (with_reducible refine (spec_l1In.calls a0_1 1 9 true _ A6.o).mono ?_); rintro e w' ⟨rfl, ⟨nd, rfl⟩⟩))
    go_meet
    case rel => exact ⟨_, (((l0_2.length : Int) != (wrap64 (a0_0 * a0_1)))), (by first | rfl | (simp; done) | (simp [*]; done)), H', ⟨by first | omega | exact Nat.le_refl _⟩, ⟨vK A0⟩, ⟨vB HB⟩⟩
   ·replace c7 := Bool.eq_false_iff.mpr c7
    subst c7
    have H1 : (spec_boGood.j0 k true a0_0 a0_1 l0_2) = some r := by rw [if_neg (show ¬ (false = true) by decide)] at H; exact H
    clear H
    have H := H1
    clear H1
    have H' := Z.m H
    clear H
    have AK := bc0 A0
    have AL := bc1 A0
    have AM := bc2 A0
    have AQ := qz A0.o 0
    have AR := qz A0.o 1
    have AS := qz A0.o 2
    go_wp2_with (first | ((with_reducible refine gc (f := 60) rfl ?_); refine gA (some 7) _ #[.int .i64 a0_0, .int .i64 1, .int .i64 10] ?_ Try.func60; (with_reducible refine (spec_l1In.calls a0_0 1 10 true _ A4.o).mono ?_); rintro e w' ⟨rfl, ⟨nd, rfl⟩⟩; refine ⟨_, rfl, ?_⟩) | (go_at_call 60; (with_reducible refine (spec_l1In.calls a0_1 1 9 false _ A6.o).mono ?_); rintro e w' ⟨rfl, ⟨nd, rfl⟩⟩))
    go_meet
    case rel => exact ⟨_, (true), (by first | rfl | (simp; done) | (simp [*]; done)), H', ⟨by first | omega | exact Nat.le_refl _⟩, ⟨vK A0⟩, ⟨vB HB⟩⟩
  ·replace c5 := Bool.eq_false_iff.mpr c5
   subst c5
   have H1 : (spec_boGood.j0 k true a0_0 a0_1 l0_2) = some r := by rw [if_neg (show ¬ (false = true) by decide)] at H; exact H
   clear H
   have H := H1
   clear H1
   have H' := Z.m H
   clear H
   have As := bc0 A0
   have At := bc1 A0
   have Au := bc2 A0
   have Az := qz A0.o 0
   have AA := qz A0.o 1
   have AB := qz A0.o 2
   go_wp2_with (first | ((with_reducible refine gc (f := 60) rfl ?_); refine gA (some 7) _ #[.int .i64 a0_0, .int .i64 1, .int .i64 10] ?_ Try.func60; (with_reducible refine (spec_l1In.calls a0_0 1 10 false _ A4.o).mono ?_); rintro e w' ⟨rfl, ⟨nd, rfl⟩⟩; refine ⟨_, rfl, ?_⟩))
   go_meet
   case rel => exact ⟨_, (true), (by first | rfl | (simp; done) | (simp [*]; done)), H', ⟨by first | omega | exact Nat.le_refl _⟩, ⟨vK A0⟩, ⟨vB HB⟩⟩
 case rest =>
  clear AG
  obtain ⟨kq, Ab, rfl, HA, AY, A0, HB⟩ := hcut
  cases kq with
  | zero => exact absurd HA.o (by simp [spec_boGood.j0])
  | succ kj1 =>
   have H := HA.o
   clear HA
   simp only [spec_boGood.j0] at H
   by_cases c11 : Ab = true
   ·subst c11
    have H1 : (some false) = some r := by rw [if_pos rfl] at H; exact H
    clear H
    have H := H1
    clear H1
    obtain rfl := Option.some.inj H
    go_wp2
    go_ret
    exact ⟨by first | rfl | (simp [eN, eS] <;> rfl) | (simp [*, eN, eS] <;> rfl), vB HB⟩
   ·replace c11 := Bool.eq_false_iff.mpr c11
    subst c11
    have H1 : (spec_boGood.l0 kj1 l0_2 (l0_2.length : Int) 0) = some r := by rw [if_neg (show ¬ (false = true) by decide)] at H; exact H
    clear H
    have H := H1
    clear H1
    have H' := Z.m H
    clear H
    have Af := bc0 A0
    have Ag := bc1 A0
    have Ah := bc2 A0
    have Ai := qz A0.o 0
    have Aj := qz A0.o 1
    have Ak := qz A0.o 2
    go_wp2
    go_loopg [29] kj1 (fun kq v29 w' => ∃ (A1 : Int), v29 = .int .i64 A1 ∧ Z (spec_boGood.l0 kq l0_2 (l0_2.length : Int) A1 = some r) ∧ Z (kq ≤ kj1) ∧ Z (w'.heap[Aa]? = some (.cells #[.int .i64 a0_0, .int .i64 a0_1, (.slice A0_2 l0_2.length c0_2)] 29 (0, 0))) ∧ Z (Below w.heap.size w w'))
    case atStart => exact ⟨(0), (by first | rfl | (simp; done) | (simp [*]; done)), H', ⟨Nat.le_refl _⟩, ⟨vK A0⟩, ⟨vB HB⟩⟩
    case round =>
     clear H'
     (try clear c11)
     (try clear Af); (try clear Ag); (try clear Ah); (try clear Ai); (try clear Aj); (try clear Ak)
     obtain ⟨A1, rfl, HA, AZ, A0, HB⟩ := hrel
     cases gk with
     | zero => exact absurd HA.o (by simp [spec_boGood.l0])
     | succ k2 =>
      have H := HA.o
      clear HA
      simp only [spec_boGood.l0] at H
      by_cases c13 : A1 < (l0_2.length : Int)
      ·rw [if_pos c13] at H
       have Aq := decide_eq_true c13
       clear c13
       by_cases c14 : 0 ≤ A1
       ·rw [if_pos c14] at H
        have B0 := decide_eq_true c14
        clear c14
        by_cases c15 : A1 < (l0_2.length : Int)
        ·rw [if_pos c15] at H
         have B1 := decide_eq_true c15
         clear c15
         replace H := Option.bind_eq_some_iff.mp H
         obtain ⟨Ar, An, H⟩ := H
         replace H : (if Ar = true then (spec_boGood.l0 k2 l0_2 (l0_2.length : Int) (wrap64 (A1 + 1))) else (some false)) = some r := H
         have AT := Z.m An
         clear An
         by_cases c17 : Ar = true
         ·subst c17
          have H1 : (spec_boGood.l0 k2 l0_2 (l0_2.length : Int) (wrap64 (A1 + 1))) = some r := by rw [if_pos rfl] at H; exact H
          clear H
          have H := H1
          clear H1
          have H' := Z.m H
          clear H
          have p110 : 0 ≤ (A1 : Int) := ofD
          have q110 : A1 < (l0_2.length : Int) := ofD
          obtain ⟨Ad, e110, A5, A7⟩ := at_T34 Am.o A1 p110 q110
          cases e110
          replace A5 := (HB.o.cell (World.block_lt_of_cell? w _ A5)).trans A5
          replace A7 := (HB.o.cell (World.block_lt_of_cell? w _ A7)).trans A7
          replace p110 := eq_true p110
          replace q110 := eq_true q110
          go_wp2_with (first | ((with_reducible refine gq (N := 4) rfl ?_); (try (refine gate_guard (by rfl) ?_; dsimp only)); refine be (N := 4) (cs := #[.int .i64 0, .int .i64 0]) (t := 34) ?_; intro Ae hg Bc hbox hb; have A2 := Z.m (hbox); have Ac := gW (w := w) HB hg; have Ao := Ac; have A3 := neL A0 hg; have A8 := neG A0 hg; replace A0 := kB A0 hb; replace HB := bB HB hb; clear hb hbox hg; have B2 := A8.o; have B4 := A3.o; have Av := bc0 A2; have Aw := bc1 A2; have AC := qz A2.o 0; have AD := qz A2.o 1) | ((with_reducible refine gc (f := 68) rfl ?_); refine gA (some 34) _ #[.agg #[.int .i64 ((rd_T34 l0_2 A1).f0), .int .i64 ((rd_T34 l0_2 A1).f1)]] ?_ Try.func68; (with_reducible refine (spec_paGood.calls ((rd_T34 l0_2 A1).f0) ((rd_T34 l0_2 A1).f1) true _ AT.o).mono ?_); rintro e Bd ⟨rfl, hb⟩; refine ⟨_, rfl, ?_⟩; replace A0 := Z.m (qb (g := Aa) (o := .cells #[.int .i64 a0_0, .int .i64 a0_1, .slice (some Ad) l0_2.length c0_2] 29 (0, 0)) (by refine bK ?_; (iterate 2 refine qF ?_ A3); exact A0.o) hb); replace A2 := Z.m (qb (g := Ae) (o := .cells #[.int .i64 ((rd_T34 l0_2 A1).f0), .int .i64 ((rd_T34 l0_2 A1).f1)] 34 (0, 0)) (by refine bK ?_; refine qp (cs := #[iV ((rd_T34 l0_2 A1).f0), iV 0]) ?_ 1 _ rfl; refine bK ?_; refine qp (cs := #[iV 0, iV 0]) ?_ 0 _ rfl; refine bK ?_; exact A2.o) hb); replace HB := bB HB hb; (try clear hb); (try clear B9); (try clear hk); (try clear hi)))
          go_roundg k2
          case measure => have := AY.o; have := AZ.o; omega
          case rel => exact ⟨(wrap64 (A1 + 1)), (by first | rfl | (simp; done) | (simp [*]; done)), H', ⟨by have := AY.o; have := AZ.o; omega⟩, ⟨vK A0⟩, ⟨vB HB⟩⟩
         ·replace c17 := Bool.eq_false_iff.mpr c17
          subst c17
          have H1 : (some false) = some r := by rw [if_neg (show ¬ (false = true) by decide)] at H; exact H
          clear H
          have H := H1
          clear H1
          obtain rfl := Option.some.inj H
          have p110 : 0 ≤ (A1 : Int) := ofD
          have q110 : A1 < (l0_2.length : Int) := ofD
          obtain ⟨Ad, e110, A5, A7⟩ := at_T34 Am.o A1 p110 q110
          cases e110
          replace A5 := (HB.o.cell (World.block_lt_of_cell? w _ A5)).trans A5
          replace A7 := (HB.o.cell (World.block_lt_of_cell? w _ A7)).trans A7
          replace p110 := eq_true p110
          replace q110 := eq_true q110
          go_wp2_with (first | ((with_reducible refine gq (N := 4) rfl ?_); (try (refine gate_guard (by rfl) ?_; dsimp only)); refine be (N := 4) (cs := #[.int .i64 0, .int .i64 0]) (t := 34) ?_; intro Ae hg Be hbox hb; have A2 := Z.m (hbox); have Ac := gW (w := w) HB hg; have Ao := Ac; have A3 := neL A0 hg; have A8 := neG A0 hg; replace A0 := kB A0 hb; replace HB := bB HB hb; clear hb hbox hg; have B3 := A8.o; have B5 := A3.o; have Ax := bc0 A2; have Ay := bc1 A2; have AE := qz A2.o 0; have AF := qz A2.o 1) | ((with_reducible refine gc (f := 68) rfl ?_); refine gA (some 34) _ #[.agg #[.int .i64 ((rd_T34 l0_2 A1).f0), .int .i64 ((rd_T34 l0_2 A1).f1)]] ?_ Try.func68; (with_reducible refine (spec_paGood.calls ((rd_T34 l0_2 A1).f0) ((rd_T34 l0_2 A1).f1) false _ AT.o).mono ?_); rintro e Bf ⟨rfl, hb⟩; refine ⟨_, rfl, ?_⟩; replace A0 := Z.m (qb (g := Aa) (o := .cells #[.int .i64 a0_0, .int .i64 a0_1, .slice (some Ad) l0_2.length c0_2] 29 (0, 0)) (by refine bK ?_; (iterate 2 refine qF ?_ A3); exact A0.o) hb); replace A2 := Z.m (qb (g := Ae) (o := .cells #[.int .i64 ((rd_T34 l0_2 A1).f0), .int .i64 ((rd_T34 l0_2 A1).f1)] 34 (0, 0)) (by refine bK ?_; refine qp (cs := #[iV ((rd_T34 l0_2 A1).f0), iV 0]) ?_ 1 _ rfl; refine bK ?_; refine qp (cs := #[iV 0, iV 0]) ?_ 0 _ rfl; refine bK ?_; exact A2.o) hb); replace HB := bB HB hb; (try clear hb); (try clear B9); (try clear hk); (try clear hi)))
          go_ret
          exact ⟨by first | rfl | (simp [eN, eS] <;> rfl) | (simp [*, eN, eS] <;> rfl), vB HB⟩
        ·rw [if_neg c15] at H
         exact absurd H (by simp)
       ·rw [if_neg c14] at H
        exact absurd H (by simp)
      ·rw [if_neg c13] at H
       have Aq := decide_eq_false c13
       clear c13
       obtain rfl := Option.some.inj H
       go_wp2
       go_ret
       exact ⟨by first | rfl | (simp [eN, eS] <;> rfl) | (simp [*, eN, eS] <;> rfl), vB HB⟩

/-! ### laws_toCell: function 34 -/
def laws_toCell.f (a0_0 : Int) (a0_1 : Int) : Option (Int × Int) := some (a0_0, a0_1)
set_option maxHeartbeats 8000000 in
set_option maxRecDepth 100000 in
theorem laws_toCell.calls (a0_0 : Int) (a0_1 : Int) (r1 : Int) (r2 : Int) (w : World) (h : laws_toCell.f a0_0 a0_1 = some (r1, r2)) :
 Calls Try.prog 34 #[.agg #[.int .i64 a0_0, .int .i64 a0_1]] w fun e w' => e = .returned (.agg #[.int .i64 r1, .int .i64 r2]) ∧ Below w.heap.size w w' := by
 have AB := Try.underlying46
 have AA := Try.underlying34
 have HB := Z.m (Below.refl w.heap.size w)
 have H : (some (a0_0, a0_1)) = some (r1, r2) := h
 clear h
 simp only [Option.some.injEq, Prod.mk.injEq] at H
 obtain ⟨rfl, rfl⟩ := H
 go_enter Try.func34, Try.ntmps34
 go_wp2_with (first | ((with_reducible refine gq (N := 1) rfl ?_); refine be (N := 1) (cs := #[.int .i64 a0_0, .int .i64 a0_1]) (t := 46) ?_; intro As hg w2 hbox hb; have A0 := Z.m (hbox); have A9 := gW (w := w) HB hg; have Ap := A9; replace HB := bB HB hb; clear hb hbox hg) | ((with_reducible refine gq (N := 2) rfl ?_); refine be (N := 2) (cs := #[.int .i64 0, .int .i64 0]) (t := 34) ?_; intro Ac hg w3 hbox hb; have A1 := Z.m (hbox); have Aa := gW (w := w) HB hg; have Aq := Aa; have A4 := neL A0 hg; have A6 := neG A0 hg; replace A0 := kB A0 hb; replace HB := bB HB hb; clear hb hbox hg) | ((with_reducible refine gq (N := 3) rfl ?_); refine be (N := 3) (cs := #[.int .i64 0, .int .i64 0]) (t := 34) ?_; intro At hg w4 hbox hb; have A3 := Z.m (hbox); have Ab := gW (w := w) HB hg; have Ar := Ab; have A5 := neL A0 hg; have A7 := neG A0 hg; have A2 := neL A1 hg; have A8 := neG A1 hg; replace A0 := kB A0 hb; replace A1 := kB A1 hb; replace HB := bB HB hb; clear hb hbox hg; have Au := A4.o; have Ax := A6.o; have Av := A5.o; have Ay := A7.o; have Ah := bc0 A0; have Ai := bc1 A0; have Al := qz A0.o 0; have Am := qz A0.o 1; have Aw := A8.o; have Az := A2.o; have Aj := bc0 A3; have Ak := bc1 A3; have An := qz A3.o 0; have Ao := qz A3.o 1; have Ad := bc0 A1; have Ae := bc1 A1; have Af := qz A1.o 0; have Ag := qz A1.o 1))
 refine bodyPost_ret (results_cell_row rfl _ _ Ac 34 #[.int .i64 a0_0, .int .i64 a0_1] (0, 0) _ rfl (by refine bK ?_; refine qp (cs := #[iV a0_0, iV 0]) ?_ 1 _ rfl; refine bK ?_; refine qp (cs := #[iV 0, iV 0]) ?_ 0 _ rfl; refine bK ?_; (iterate 2 refine qF ?_ A2); exact A1.o) Try.underlying34 rfl (by kernel_rfl)) rfl ?_
 exact ⟨by first | rfl | (simp [eN, eS] <;> rfl) | (simp [*, eN, eS] <;> rfl), vB HB⟩

/-! ### laws_toCellS: function 54 -/
def laws_toCellS.l0 : Nat → List (S46) → List (S34) → Int → Option ((List (S34)))
 | 0, _, _, _ => none
 | k + 1, x0, x3, x4 => if x4 < (x0.length : Int) then (if 0 ≤ x4 then ((laws_toCell.f ((rd_T46 x0 x4).f0) ((rd_T46 x0 x4).f1)).bind fun bt122 => (if x4 < (x3.length : Int) then (laws_toCellS.l0 k x0 (x3.set (x4 : Int).toNat (⟨bt122.1, bt122.2⟩ : S34)) (wrap64 (x4 + 1))) else (none))) else (none)) else (some x3)
def laws_toCellS.f (k : Nat) (l0 : List (S46)) : Option ((List (S34))) := if 0 ≤ (l0.length : Int) then (if ((l0.length : Int) : Int).toNat ≤ 17592186044416 then (laws_toCellS.l0 k l0 (List.replicate ((l0.length : Int) : Int).toNat z34) 0) else (none)) else (none)
set_option maxHeartbeats 8000000 in
set_option maxRecDepth 100000 in
theorem laws_toCellS.calls (k : Nat) (A0 : Option Addr) (c0 : Nat) (l0 : List (S46)) (r : List (S34)) (w : World) (hr0 : Kd.C k46 w A0 l0.length l0) (hc0 : l0.length ≤ c0) (h : laws_toCellS.f k l0 = some r) :
 Calls Try.prog 54 #[.slice A0 l0.length c0] w fun e w' => ∃ v0_ : Value, e = .returned (v0_) ∧ Kd.R k34 34 w' w.heap.size (fun _ => True) v0_ r ∧ Below w.heap.size w w' := by
 have AX := Try.underlying46
 have AW := Try.underlying34
 have AR := Z.m hr0
 have AY := Z.m hc0
 clear hr0 hc0
 have HB := Z.m (Below.refl w.heap.size w)
 have H : (if 0 ≤ (l0.length : Int) then (if ((l0.length : Int) : Int).toNat ≤ 17592186044416 then (laws_toCellS.l0 k l0 (List.replicate ((l0.length : Int) : Int).toNat z34) 0) else (none)) else (none)) = some r := h
 clear h
 by_cases c2 : 0 ≤ (l0.length : Int)
 ·rw [if_pos c2] at H
  have AC := eq_true c2
  have AD := decide_eq_true c2
  clear c2
  by_cases c3 : ((l0.length : Int) : Int).toNat ≤ 17592186044416
  ·rw [if_pos c3] at H
   have AE := eq_true c3
   have AF := decide_eq_true c3
   clear c3
   obtain ⟨AB, A7⟩ : ∃ y_ : List (S34), y_ = (List.replicate ((l0.length : Int) : Int).toNat z34) := ⟨_, rfl⟩
   replace H : (laws_toCellS.l0 k l0 AB 0) = some r := by first | (rw [A7]; with_reducible exact H) | (have H2_ := (Option.bind_some _ _).symm.trans H; rw [A7]; with_reducible exact H2_) | (have H2_ := (Option.bind_some _ _).symm.trans H; with_reducible exact H2_) | with_reducible exact H | (rw [A7]; exact H) | exact H
   have Ag := Z.m A7
   clear A7
   have H' := Z.m H
   clear H
   go_enter Try.func54, Try.ntmps54
   go_wp2_with (first | ((with_reducible refine gq (N := 7) rfl ?_); refine Kd.R_make k34 _ 34 rfl (N := 7) rfl 27 _ _ rfl (l0.length : Int) rfl rfl Try.underlying27 (.agg #[(.int .i64 0), (.int .i64 0)]) 16 info34 rfl (by decide) (by omega) z34 (ok := fun _ => True) (okp := fun _ => True) (k34_mkM _ _ _ z34 ) (fun _ hk => hk) trivial (ofD) (Nat.le_trans (Nat.mul_le_mul_right _ (ofD : (l0.length : Int).toNat ≤ 17592186044416)) (by omega)) (Below.refl _ _) (Nat.le_refl _) ?_; intro AL w4 AA hb hg_ hnew_; clear hg_ hnew_; (first | rw [← Ag.o] at AA | (simp only [Int.reduceToNat] at AA; rw [← Ag.o] at AA)); have Ar := Z.m (Kd.R_lower AA (below_size (vB HB))); replace HB := bB HB hb; clear hb AA))
   go_loopg [4] k (fun kq v4 w' => ∃ (A2 : List (S34)) (A1 : Int), v4 = .int .i64 A1 ∧ Z (laws_toCellS.l0 kq l0 A2 A1 = some r) ∧ Z (kq ≤ k) ∧ Z (Kd.R k34 34 w' w.heap.size (fun _ => True) AL A2) ∧ Z (Below w.heap.size w w'))
   case atStart => exact ⟨(AB), (0), (by first | rfl | (simp; done) | (simp [*]; done)), H', ⟨Nat.le_refl _⟩, ⟨vR Ar⟩, ⟨vB HB⟩⟩
   case round =>
    clear H'
    (try clear AC); (try clear AD); (try clear AE); (try clear AF)
    obtain ⟨A2, A1, rfl, HA, AO, A3, HB⟩ := hrel
    cases gk with
    | zero => exact absurd HA.o (by simp [laws_toCellS.l0])
    | succ k1 =>
     have H := HA.o
     clear HA
     simp only [laws_toCellS.l0] at H
     by_cases c6 : A1 < (l0.length : Int)
     ·rw [if_pos c6] at H
      have AG := decide_eq_true c6
      clear c6
      by_cases c7 : 0 ≤ A1
      ·rw [if_pos c7] at H
       have AS := decide_eq_true c7
       clear c7
       replace H := Option.bind_eq_some_iff.mp H
       obtain ⟨⟨Aa, Ab⟩, AN, H⟩ := H
       replace H : (if A1 < (A2.length : Int) then (laws_toCellS.l0 k1 l0 (A2.set (A1 : Int).toNat (⟨Aa, Ab⟩ : S34)) (wrap64 (A1 + 1))) else (none)) = some r := H
       have A8 := Z.m AN
       clear AN
       by_cases c9 : A1 < (A2.length : Int)
       ·rw [if_pos c9] at H
        have AT := decide_eq_true c9
        clear c9
        obtain ⟨Ao, A9⟩ : ∃ y_ : List (S34), y_ = (A2.set (A1 : Int).toNat (⟨Aa, Ab⟩ : S34)) := ⟨_, rfl⟩
        replace H : (laws_toCellS.l0 k1 l0 Ao (wrap64 (A1 + 1))) = some r := by first | (rw [A9]; with_reducible exact H) | (have H2_ := (Option.bind_some _ _).symm.trans H; rw [A9]; with_reducible exact H2_) | (have H2_ := (Option.bind_some _ _).symm.trans H; with_reducible exact H2_) | with_reducible exact H | (rw [A9]; exact H) | exact H
        have At := Z.m A9
        clear A9
        have H' := Z.m H
        clear H
        have p121 : 0 ≤ (A1 : Int) := ofD
        have q121 : A1 < (l0.length : Int) := ofD
        obtain ⟨AP, e121, A5, A6⟩ := at_T46 AR.o A1 p121 q121
        cases e121
        replace A5 := (HB.o.cell (World.block_lt_of_cell? w _ A5)).trans A5
        replace A6 := (HB.o.cell (World.block_lt_of_cell? w _ A6)).trans A6
        replace p121 := eq_true p121
        replace q121 := eq_true q121
        go_wp2_with (first | ((with_reducible refine gc (f := 34) rfl ?_); refine gA (some 20) _ #[.agg #[.int .i64 ((rd_T46 l0 A1).f0), .int .i64 ((rd_T46 l0 A1).f1)]] ?_ Try.func34; (with_reducible refine (laws_toCell.calls ((rd_T46 l0 A1).f0) ((rd_T46 l0 A1).f1) Aa Ab _ A8.o).mono ?_); rintro e An ⟨rfl, hb⟩; refine ⟨_, rfl, ?_⟩; replace A3 := Z.m (Kd.Rb (vR A3) hb); replace HB := bB HB hb; (try clear hb); (try clear AZ); (try clear hk); (try clear hi); have p10 : 0 ≤ (A1 : Int) := ofD; have q10 : (A1 : Int) < ((A2.length : Int) : Int) := ofD; obtain ⟨A4, Au, Av, Aw, gl10, cl10, Aq⟩ := Kd.R_form A3.o (by omega); (first | cases Av | (injection Av with ea_ en_ ec_; (first | subst ea_ | (injection ea_ with ea_; subst ea_)); subst ec_; clear en_)); have Ap := Z.m Aw; have AQ := Z.m Aq; clear Aw gl10 Aq; obtain ⟨AU, Az, Ax, Ad, Ae⟩ := Kd.R_elem A3.o z34 (A1 : Int) p10 q10; obtain rfl := k34_openM Ax; have AJ : An.cell? ⟨A4, (A1 : Int).toNat * 2, none⟩ = some (.int .i64 ((rd_T34 A2 A1).f0)) := Ad 0 _ rfl; have AK : An.cell? ⟨A4, (A1 : Int).toNat * 2 + 1, none⟩ = some (.int .i64 ((rd_T34 A2 A1).f1)) := Ad 1 _ rfl; have AH : An.frozen? ⟨A4, (A1 : Int).toNat * 2, none⟩ = false := Ae 0; have AI : An.frozen? ⟨A4, (A1 : Int).toNat * 2 + 1, none⟩ = false := Ae 1; (try clear Az); (try clear Ad); (try clear Ae); (try clear Ax); replace p10 := eq_true p10; replace q10 := eq_true q10; have As := Z.m (show Kd.R k34 34 An w.heap.size (fun _ => True) (.slice (some ⟨A4, 0, none⟩) A2.length Au) A2 from (vR A3)); obtain ⟨AV, Ah, Ay, Ac, Af⟩ := Kd.R_elem As.o z34 (A1 : Int) (ofD) (by have h_ : (A1 : Int) < ((A2.length : Int) : Int) := ofD; first | exact h_ | (have e_ := (Kd.RrZ A3.o).1; omega) | simpa using h_); obtain rfl := k34_openM Ay; have Ai := Kd.R_seg As.o (A1 : Int) (ofD) (by have h_ : (A1 : Int) < ((A2.length : Int) : Int) := ofD; first | exact h_ | (have e_ := (Kd.RrZ A3.o).1; omega) | simpa using h_) (seg := [.int .i64 Aa, .int .i64 Ab]) (j := 0) Ah Ac (show 2 ≤ 2 from by decide) (x' := (⟨Aa, Ab⟩ : S34)) (k34_mkM _ _ _ (⟨Aa, Ab⟩ : S34) ) (fun _ hk => hk); have Al := Ac 0 _ rfl; (try simp only [show (k34).sz = 2 from rfl, Nat.mul_one, Nat.add_zero] at Al); have Aj := Af 0; (try simp only [show (k34).sz = 2 from rfl, Nat.mul_one, Nat.add_zero] at Aj); have Am := Ac 1 _ rfl; (try simp only [show (k34).sz = 2 from rfl, Nat.mul_one, Nat.add_zero] at Am); have Ak := Af 1; (try simp only [show (k34).sz = 2 from rfl, Nat.mul_one, Nat.add_zero] at Ak); (try clear Ah); (try clear Ac); (try clear Af); (try clear Ay)) | ((with_reducible refine gt (t := 34) (p := 21) rfl ?_); refine store_event (t := 34) (p := 21) (v := ?vo_w13) (w1 := ((An.setCell ⟨A4, (A1 : Int).toNat * 2, none⟩ (.int .i64 Aa)).setCell ⟨A4, (A1 : Int).toNat * 2 + 1, none⟩ (.int .i64 Ab))) ?hg ?ho ?hn ?hr ?_; (case ho => rfl); (case hg => rfl); (case hn => rfl); (case hr => first | (go_simp; done) | (go_simp; rfl)); intro AM hw; have hg : An.grownBy AM (some A4) := (by rw [hw]; exact Ai.2); have hp_ : Kd.R k34 34 AM w.heap.size (fun _ => True) (.slice (some ⟨A4, 0, none⟩) A2.length Au) Ao := (by rw [hw, At.o]; exact Ai.1); clear Ai; replace A3 := Z.m (hp_); replace HB := Z.m ((by rw [hw]; exact qx (qx (HB.o) Ap.o) Ap.o : Below w.heap.size w AM)); clear hg hw hp_))
        go_roundg k1
        case measure => have := AO.o; omega
        case rel => exact ⟨(Ao), (wrap64 (A1 + 1)), (by first | rfl | (simp; done) | (simp [*]; done)), H', ⟨by have := AO.o; omega⟩, ⟨vR A3⟩, ⟨vB HB⟩⟩
       ·rw [if_neg c9] at H
        exact absurd H (by simp)
      ·rw [if_neg c7] at H
       exact absurd H (by simp)
     ·rw [if_neg c6] at H
      have AG := decide_eq_false c6
      clear c6
      obtain rfl := Option.some.inj H
      go_wp2
      go_ret
      exact ⟨_, by first | rfl | (simp [eN, eS] <;> rfl) | (simp [*, eN, eS] <;> rfl), vR A3, vB HB⟩
  ·rw [if_neg c3] at H
   exact absurd H (by simp)
 ·rw [if_neg c2] at H
  exact absurd H (by simp)

/-! ### laws_toBoard: function 17 -/
def laws_toBoard.f (k : Nat) (a0_0 : Int) (a0_1 : Int) (l0_2 : List (S46)) : Option (Int × Int × (List (S34))) := (laws_toCellS.f k l0_2).bind fun t128 => (some (a0_0, a0_1, t128))
set_option maxHeartbeats 8000000 in
set_option maxRecDepth 100000 in
theorem laws_toBoard.calls (k : Nat) (a0_0 : Int) (a0_1 : Int) (A0_2 : Option Addr) (c0_2 : Nat) (l0_2 : List (S46)) (r1 : Int) (r2 : Int) (r3 : List (S34)) (w : World) (hr0_2 : Kd.C k46 w A0_2 l0_2.length l0_2) (hc0_2 : l0_2.length ≤ c0_2) (h : laws_toBoard.f k a0_0 a0_1 l0_2 = some (r1, r2, r3)) :
 Calls Try.prog 17 #[.agg #[.int .i64 a0_0, .int .i64 a0_1, .slice A0_2 l0_2.length c0_2]] w fun e w' => ∃ v2_ : Value, e = .returned (.agg #[.int .i64 r1, .int .i64 r2, v2_]) ∧ Kd.R k34 34 w' w.heap.size (fun _ => True) v2_ r3 ∧ Below w.heap.size w w' := by
 have AW := Try.underlying24
 have AX := Try.underlying29
 have Ah := Z.m hr0_2
 have Ag := Z.m hc0_2
 clear hr0_2 hc0_2
 have HB := Z.m (Below.refl w.heap.size w)
 have H : ((laws_toCellS.f k l0_2).bind fun Aa => (some (a0_0, a0_1, Aa))) = some (r1, r2, r3) := h
 clear h
 replace H := Option.bind_eq_some_iff.mp H
 obtain ⟨Aa, AL, H⟩ := H
 replace H : (some (a0_0, a0_1, Aa)) = some (r1, r2, r3) := H
 have A2 := Z.m AL
 clear AL
 simp only [Option.some.injEq, Prod.mk.injEq] at H
 obtain ⟨rfl, rfl, rfl⟩ := H
 go_enter Try.func17, Try.ntmps17
 go_wp2_with (first | ((with_reducible refine gq (N := 1) rfl ?_); refine be (N := 1) (cs := #[.int .i64 a0_0, .int .i64 a0_1, .slice A0_2 l0_2.length c0_2]) (t := 24) ?_; intro Ai hg w3 hbox hb; have A0 := Z.m (hbox); have Ad := gW (w := w) HB hg; have AM := Ad; replace HB := bB HB hb; clear hb hbox hg) | ((with_reducible refine gq (N := 2) rfl ?_); refine be (N := 2) (cs := #[.int .i64 0, .int .i64 0, .slice none 0 0]) (t := 29) ?_; intro Ac hg w4 hbox hb; have A3 := Z.m (hbox); have Ae := gW (w := w) HB hg; have AN := Ae; have A6 := neL A0 hg; have A7 := neG A0 hg; replace A0 := kB A0 hb; replace HB := bB HB hb; clear hb hbox hg) | ((with_reducible refine gq (N := 3) rfl ?_); refine be (N := 3) (cs := #[.int .i64 0, .int .i64 0, .slice none 0 0]) (t := 29) ?_; intro Aj hg w5 hbox hb; have A1 := Z.m (hbox); have Af := gW (w := w) HB hg; have AO := Af; have A5 := neL A0 hg; have A8 := neG A0 hg; have A4 := neL A3 hg; have A9 := neG A3 hg; replace A0 := kB A0 hb; replace A3 := kB A3 hb; replace HB := bB HB hb; clear hb hbox hg; have AQ := A6.o; have AT := A7.o; have AR := A5.o; have AU := A8.o; have AF := bc0 A0; have AG := bc1 A0; have AH := bc2 A0; have AI := qz A0.o 0; have AJ := qz A0.o 1; have AK := qz A0.o 2; have AS := A9.o; have AV := A4.o; have Ak := bc0 A1; have Al := bc1 A1; have Am := bc2 A1; have At := qz A1.o 0; have Au := qz A1.o 1; have Av := qz A1.o 2) | ((with_reducible refine gc (f := 54) rfl ?_); refine gA (some 12) _ #[.slice A0_2 l0_2.length c0_2] ?_ Try.func54; (with_reducible refine (laws_toCellS.calls k _ _ l0_2 Aa _ ?side1 ?side2 A2.o).mono ?_); (case side1 => exact Kd.C_below Ah.o (vB HB)); (case side2 => exact Ag.o); rintro e B0 ⟨AY, rfl, AP, hb⟩; refine ⟨_, rfl, ?_⟩; have Ab := Z.m (Kd.R_lower AP (below_size (vB HB))); replace A0 := Z.m (qb (g := Ai) (o := .cells #[.int .i64 a0_0, .int .i64 a0_1, .slice A0_2 l0_2.length c0_2] 24 (0, 0)) (by refine bK ?_; (iterate 2 refine qF ?_ A5); exact A0.o) hb); replace A3 := Z.m (qb (g := Ac) (o := .cells #[.int .i64 0, .int .i64 0, .slice none 0 0] 29 (0, 0)) (by refine bK ?_; (iterate 2 refine qF ?_ A4); exact A3.o) hb); replace A1 := Z.m (qb (g := Aj) (o := .cells #[.int .i64 a0_0, .int .i64 a0_1, .slice none 0 0] 29 (0, 0)) (by refine bK ?_; refine qp (cs := #[iV a0_0, iV 0, .slice none 0 0]) ?_ 1 _ rfl; refine bK ?_; refine qp (cs := #[iV 0, iV 0, .slice none 0 0]) ?_ 0 _ rfl; refine bK ?_; exact A1.o) hb); replace HB := bB HB hb; (try clear hb); (try clear AZ); (try clear hk); (try clear hi); (try clear AP); obtain ⟨AC, AD, AE⟩ := Kd.R_slice Ab.o; subst AE; have An := bc0 A1; have Ao := bc1 A1; have Ap := bc2 A1; have Aw := qz A1.o 0; have Ax := qz A1.o 1; have Ay := qz A1.o 2; have Aq := bc0 A3; have Ar := bc1 A3; have As := bc2 A3; have Az := qz A3.o 0; have AA := qz A3.o 1; have AB := qz A3.o 2))
 refine bodyPost_ret (results_cell_row rfl _ _ Ac 29 #[.int .i64 a0_0, .int .i64 a0_1, .slice AC Aa.length AD] (0, 0) _ rfl (by refine bK ?_; apply st3; refine bK ?_; refine qF ?_ A4; exact A3.o) Try.underlying29 rfl (by kernel_rfl)) rfl ?_
 exact ⟨_, by first | rfl | (simp [eN, eS] <;> rfl) | (simp [*, eN, eS] <;> rfl), by refine rK ?_; exact Kd.Rm (rf (rf (rf (rf1 (Kd.Ry (Kd.Ry Ab.o A1.o (by decide)) A3.o (by decide)))))) (fun _ hk => trivial), vB HB⟩

/-! ### impl_IsCell: function 70 -/
def impl_IsCell.f (a0_0 : Int) (a0_1 : Int) : Option (Bool) := if a0_0 < 0 then (some false) else (if a0_0 > 7 then (some false) else (if a0_1 < 0 then (some false) else (if a0_1 > 1 then (some false) else (if a0_1 = 0 then (some true) else (if a0_0 = 3 then (some true) else (some (a0_0 == 6)))))))
set_option maxHeartbeats 8000000 in
set_option maxRecDepth 100000 in
theorem impl_IsCell.calls (a0_0 : Int) (a0_1 : Int) (r : Bool) (w : World) (h : impl_IsCell.f a0_0 a0_1 = some r) :
 Calls Try.prog 70 #[.agg #[.int .i64 a0_0, .int .i64 a0_1]] w fun e w' => e = .returned (.bool r) ∧ Below w.heap.size w w' := by
 have AE := Try.underlying34
 have HB := Z.m (Below.refl w.heap.size w)
 have H : (if a0_0 < 0 then (some false) else (if a0_0 > 7 then (some false) else (if a0_1 < 0 then (some false) else (if a0_1 > 1 then (some false) else (if a0_1 = 0 then (some true) else (if a0_0 = 3 then (some true) else (some (a0_0 == 6)))))))) = some r := h
 clear h
 by_cases c2 : a0_0 < 0
 ·rw [if_pos c2] at H
  have At := decide_eq_true c2
  clear c2
  obtain rfl := Option.some.inj H
  go_enter Try.func70, Try.ntmps70
  go_wp2_with (first | ((with_reducible refine gq (N := 1) rfl ?_); refine be (N := 1) (cs := #[.int .i64 a0_0, .int .i64 a0_1]) (t := 34) ?_; intro A3 hg w3 hbox hb; have A0 := Z.m (hbox); have A1 := gW (w := w) HB hg; have A2 := A1; replace HB := bB HB hb; clear hb hbox hg; have Aw := bc0 A0; have Ax := bc1 A0; have AA := qz A0.o 0; have AB := qz A0.o 1))
  go_ret
  exact ⟨by first | rfl | (simp [eN, eS] <;> rfl) | (simp [*, eN, eS] <;> rfl), vB HB⟩
 ·rw [if_neg c2] at H
  have At := decide_eq_false c2
  clear c2
  by_cases c5 : a0_0 > 7
  ·rw [if_pos c5] at H
   have Au := decide_eq_true c5
   clear c5
   obtain rfl := Option.some.inj H
   go_enter Try.func70, Try.ntmps70
   go_wp2_with (first | ((with_reducible refine gq (N := 1) rfl ?_); refine be (N := 1) (cs := #[.int .i64 a0_0, .int .i64 a0_1]) (t := 34) ?_; intro A3 hg w6 hbox hb; have A0 := Z.m (hbox); have A1 := gW (w := w) HB hg; have A2 := A1; replace HB := bB HB hb; clear hb hbox hg; have Ay := bc0 A0; have Az := bc1 A0; have AC := qz A0.o 0; have AD := qz A0.o 1))
   go_ret
   exact ⟨by first | rfl | (simp [eN, eS] <;> rfl) | (simp [*, eN, eS] <;> rfl), vB HB⟩
  ·rw [if_neg c5] at H
   have Au := decide_eq_false c5
   clear c5
   by_cases c8 : a0_1 < 0
   ·rw [if_pos c8] at H
    have Av := decide_eq_true c8
    clear c8
    obtain rfl := Option.some.inj H
    go_enter Try.func70, Try.ntmps70
    go_wp2_with (first | ((with_reducible refine gq (N := 1) rfl ?_); refine be (N := 1) (cs := #[.int .i64 a0_0, .int .i64 a0_1]) (t := 34) ?_; intro A3 hg w9 hbox hb; have A0 := Z.m (hbox); have A1 := gW (w := w) HB hg; have A2 := A1; replace HB := bB HB hb; clear hb hbox hg; have A9 := bc0 A0; have Aa := bc1 A0; have Aj := qz A0.o 0; have Ak := qz A0.o 1))
    go_ret
    exact ⟨by first | rfl | (simp [eN, eS] <;> rfl) | (simp [*, eN, eS] <;> rfl), vB HB⟩
   ·rw [if_neg c8] at H
    have Av := decide_eq_false c8
    clear c8
    by_cases c11 : a0_1 > 1
    ·rw [if_pos c11] at H
     have A4 := decide_eq_true c11
     clear c11
     obtain rfl := Option.some.inj H
     go_enter Try.func70, Try.ntmps70
     go_wp2_with (first | ((with_reducible refine gq (N := 1) rfl ?_); refine be (N := 1) (cs := #[.int .i64 a0_0, .int .i64 a0_1]) (t := 34) ?_; intro A3 hg AF hbox hb; have A0 := Z.m (hbox); have A1 := gW (w := w) HB hg; have A2 := A1; replace HB := bB HB hb; clear hb hbox hg; have Ab := bc0 A0; have Ac := bc1 A0; have Al := qz A0.o 0; have Am := qz A0.o 1))
     go_ret
     exact ⟨by first | rfl | (simp [eN, eS] <;> rfl) | (simp [*, eN, eS] <;> rfl), vB HB⟩
    ·rw [if_neg c11] at H
     have A4 := decide_eq_false c11
     clear c11
     by_cases c14 : a0_1 = 0
     ·rw [if_pos c14] at H
      have A5 := beq_iff_eq.mpr c14
      have A6 := bne_eq_false_iff_eq.mpr c14
      clear c14
      obtain rfl := Option.some.inj H
      go_enter Try.func70, Try.ntmps70
      go_wp2_with (first | ((with_reducible refine gq (N := 1) rfl ?_); refine be (N := 1) (cs := #[.int .i64 a0_0, .int .i64 a0_1]) (t := 34) ?_; intro A3 hg AG hbox hb; have A0 := Z.m (hbox); have A1 := gW (w := w) HB hg; have A2 := A1; replace HB := bB HB hb; clear hb hbox hg; have Ad := bc0 A0; have Ae := bc1 A0; have An := qz A0.o 0; have Ao := qz A0.o 1))
      go_ret
      exact ⟨by first | rfl | (simp [eN, eS] <;> rfl) | (simp [*, eN, eS] <;> rfl), vB HB⟩
     ·rw [if_neg c14] at H
      have A5 := beq_eq_false_iff_ne.mpr c14
      have A6 := bne_iff_ne.mpr c14
      by_cases c17 : a0_0 = 3
      ·rw [if_pos c17] at H
       have A7 := beq_iff_eq.mpr c17
       have A8 := bne_eq_false_iff_eq.mpr c17
       clear c17
       obtain rfl := Option.some.inj H
       go_enter Try.func70, Try.ntmps70
       go_wp2_with (first | ((with_reducible refine gq (N := 1) rfl ?_); refine be (N := 1) (cs := #[.int .i64 a0_0, .int .i64 a0_1]) (t := 34) ?_; intro A3 hg AH hbox hb; have A0 := Z.m (hbox); have A1 := gW (w := w) HB hg; have A2 := A1; replace HB := bB HB hb; clear hb hbox hg; have Af := bc0 A0; have Ag := bc1 A0; have Ap := qz A0.o 0; have Aq := qz A0.o 1))
       go_ret
       exact ⟨by first | rfl | (simp [eN, eS] <;> rfl) | (simp [*, eN, eS] <;> rfl), vB HB⟩
      ·rw [if_neg c17] at H
       have A7 := beq_eq_false_iff_ne.mpr c17
       have A8 := bne_iff_ne.mpr c17
       obtain rfl := Option.some.inj H
       go_enter Try.func70, Try.ntmps70
       go_wp2_with (first | ((with_reducible refine gq (N := 1) rfl ?_); refine be (N := 1) (cs := #[.int .i64 a0_0, .int .i64 a0_1]) (t := 34) ?_; intro A3 hg AI hbox hb; have A0 := Z.m (hbox); have A1 := gW (w := w) HB hg; have A2 := A1; replace HB := bB HB hb; clear hb hbox hg; have Ah := bc0 A0; have Ai := bc1 A0; have Ar := qz A0.o 0; have As := qz A0.o 1))
       go_ret
       exact ⟨by first | rfl | (simp [eN, eS] <;> rfl) | (simp [*, eN, eS] <;> rfl), vB HB⟩

/-! ### impl_validCells: function 55 -/
def impl_validCells.l0 : Nat → List (S34) → Int → Int → Option (Bool)
 | 0, _, _, _ => none
 | k + 1, x8, x9, x10 => if x10 < x9 then (if 0 ≤ x10 then (if x10 < (x8.length : Int) then ((impl_IsCell.f ((rd_T34 x8 x10).f0) ((rd_T34 x8 x10).f1)).bind fun t134 => (if t134 = true then (impl_validCells.l0 k x8 x9 (wrap64 (x10 + 1))) else (some false))) else (none)) else (none)) else (some true)
def impl_validCells.f (k : Nat) (l0 : List (S34)) : Option (Bool) := if (l0.length : Int) > 90 then (some false) else (impl_validCells.l0 k l0 (l0.length : Int) 0)
set_option maxHeartbeats 8000000 in
set_option maxRecDepth 100000 in
theorem impl_validCells.calls (k : Nat) (A0 : Option Addr) (c0 : Nat) (l0 : List (S34)) (r : Bool) (w : World) (hr0 : Kd.C k34 w A0 l0.length l0) (hc0 : l0.length ≤ c0) (h : impl_validCells.f k l0 = some r) :
 Calls Try.prog 55 #[.slice A0 l0.length c0] w fun e w' => e = .returned (.bool r) ∧ Below w.heap.size w w' := by
 have As := Try.underlying34
 have Ao := Z.m hr0
 have At := Z.m hc0
 clear hr0 hc0
 have HB := Z.m (Below.refl w.heap.size w)
 have H : (if (l0.length : Int) > 90 then (some false) else (impl_validCells.l0 k l0 (l0.length : Int) 0)) = some r := h
 clear h
 by_cases c2 : (l0.length : Int) > 90
 ·rw [if_pos c2] at H
  have Aa := decide_eq_true c2
  have Ab : decide (90 < l0.length) = true := decide_eq_true (by omega)
  clear c2
  obtain rfl := Option.some.inj H
  go_enter Try.func55, Try.ntmps55
  go_wp2
  go_ret
  exact ⟨by first | rfl | (simp [eN, eS] <;> rfl) | (simp [*, eN, eS] <;> rfl), vB HB⟩
 ·rw [if_neg c2] at H
  have Aa := decide_eq_false c2
  have Ab : decide (90 < l0.length) = false := decide_eq_false (by omega)
  clear c2
  have H' := Z.m H
  clear H
  go_enter Try.func55, Try.ntmps55
  go_wp2
  go_loopg [10] k (fun kq v10 w' => ∃ (A1 : Int), v10 = .int .i64 A1 ∧ Z (impl_validCells.l0 kq l0 (l0.length : Int) A1 = some r) ∧ Z (kq ≤ k) ∧ Z (Below w.heap.size w w'))
  case atStart => exact ⟨(0), (by first | rfl | (simp; done) | (simp [*]; done)), H', ⟨Nat.le_refl _⟩, ⟨vB HB⟩⟩
  case round =>
   clear H'
   (try clear Aa); (try clear Ab)
   obtain ⟨A1, rfl, HA, An, HB⟩ := hrel
   cases gk with
   | zero => exact absurd HA.o (by simp [impl_validCells.l0])
   | succ k1 =>
    have H := HA.o
    clear HA
    simp only [impl_validCells.l0] at H
    by_cases c3 : A1 < (l0.length : Int)
    ·rw [if_pos c3] at H
     have Ah := decide_eq_true c3
     clear c3
     by_cases c4 : 0 ≤ A1
     ·rw [if_pos c4] at H
      have Ap := decide_eq_true c4
      clear c4
      by_cases c5 : A1 < (l0.length : Int)
      ·rw [if_pos c5] at H
       have Aq := decide_eq_true c5
       clear c5
       replace H := Option.bind_eq_some_iff.mp H
       obtain ⟨Ac, Am, H⟩ := H
       replace H : (if Ac = true then (impl_validCells.l0 k1 l0 (l0.length : Int) (wrap64 (A1 + 1))) else (some false)) = some r := H
       have A6 := Z.m Am
       clear Am
       by_cases c7 : Ac = true
       ·subst c7
        have H1 : (impl_validCells.l0 k1 l0 (l0.length : Int) (wrap64 (A1 + 1))) = some r := by rw [if_pos rfl] at H; exact H
        clear H
        have H := H1
        clear H1
        have H' := Z.m H
        clear H
        have p132 : 0 ≤ (A1 : Int) := ofD
        have q132 : A1 < (l0.length : Int) := ofD
        obtain ⟨A9, e132, A3, A4⟩ := at_T34 Ao.o A1 p132 q132
        cases e132
        replace A3 := (HB.o.cell (World.block_lt_of_cell? w _ A3)).trans A3
        replace A4 := (HB.o.cell (World.block_lt_of_cell? w _ A4)).trans A4
        replace p132 := eq_true p132
        replace q132 := eq_true q132
        go_wp2_with (first | ((with_reducible refine gq (N := 4) rfl ?_); refine be (N := 4) (cs := #[.int .i64 0, .int .i64 0]) (t := 34) ?_; intro A7 hg w8 hbox hb; have A2 := Z.m (hbox); have A5 := gW (w := w) HB hg; have A8 := A5; replace HB := bB HB hb; clear hb hbox hg; have Ai := bc0 A2; have Aj := bc1 A2; have Ak := qz A2.o 0; have Al := qz A2.o 1) | ((with_reducible refine gc (f := 70) rfl ?_); refine gA (some 15) _ #[.agg #[.int .i64 ((rd_T34 l0 A1).f0), .int .i64 ((rd_T34 l0 A1).f1)]] ?_ Try.func70; (with_reducible refine (impl_IsCell.calls ((rd_T34 l0 A1).f0) ((rd_T34 l0 A1).f1) true _ A6.o).mono ?_); rintro e Au ⟨rfl, hb⟩; refine ⟨_, rfl, ?_⟩; replace A2 := Z.m (qb (g := A7) (o := .cells #[.int .i64 ((rd_T34 l0 A1).f0), .int .i64 ((rd_T34 l0 A1).f1)] 34 (0, 0)) (by refine bK ?_; refine qp (cs := #[iV ((rd_T34 l0 A1).f0), iV 0]) ?_ 1 _ rfl; refine bK ?_; refine qp (cs := #[iV 0, iV 0]) ?_ 0 _ rfl; refine bK ?_; exact A2.o) hb); replace HB := bB HB hb; (try clear hb); (try clear Ar); (try clear hk); (try clear hi)))
        go_roundg k1
        case measure => have := An.o; omega
        case rel => exact ⟨(wrap64 (A1 + 1)), (by first | rfl | (simp; done) | (simp [*]; done)), H', ⟨by have := An.o; omega⟩, ⟨vB HB⟩⟩
       ·replace c7 := Bool.eq_false_iff.mpr c7
        subst c7
        have H1 : (some false) = some r := by rw [if_neg (show ¬ (false = true) by decide)] at H; exact H
        clear H
        have H := H1
        clear H1
        obtain rfl := Option.some.inj H
        have p132 : 0 ≤ (A1 : Int) := ofD
        have q132 : A1 < (l0.length : Int) := ofD
        obtain ⟨A9, e132, A3, A4⟩ := at_T34 Ao.o A1 p132 q132
        cases e132
        replace A3 := (HB.o.cell (World.block_lt_of_cell? w _ A3)).trans A3
        replace A4 := (HB.o.cell (World.block_lt_of_cell? w _ A4)).trans A4
        replace p132 := eq_true p132
        replace q132 := eq_true q132
        go_wp2_with (first | ((with_reducible refine gq (N := 4) rfl ?_); refine be (N := 4) (cs := #[.int .i64 0, .int .i64 0]) (t := 34) ?_; intro A7 hg Av hbox hb; have A2 := Z.m (hbox); have A5 := gW (w := w) HB hg; have A8 := A5; replace HB := bB HB hb; clear hb hbox hg; have Ad := bc0 A2; have Ae := bc1 A2; have Af := qz A2.o 0; have Ag := qz A2.o 1) | ((with_reducible refine gc (f := 70) rfl ?_); refine gA (some 15) _ #[.agg #[.int .i64 ((rd_T34 l0 A1).f0), .int .i64 ((rd_T34 l0 A1).f1)]] ?_ Try.func70; (with_reducible refine (impl_IsCell.calls ((rd_T34 l0 A1).f0) ((rd_T34 l0 A1).f1) false _ A6.o).mono ?_); rintro e Aw ⟨rfl, hb⟩; refine ⟨_, rfl, ?_⟩; replace A2 := Z.m (qb (g := A7) (o := .cells #[.int .i64 ((rd_T34 l0 A1).f0), .int .i64 ((rd_T34 l0 A1).f1)] 34 (0, 0)) (by refine bK ?_; refine qp (cs := #[iV ((rd_T34 l0 A1).f0), iV 0]) ?_ 1 _ rfl; refine bK ?_; refine qp (cs := #[iV 0, iV 0]) ?_ 0 _ rfl; refine bK ?_; exact A2.o) hb); replace HB := bB HB hb; (try clear hb); (try clear Ar); (try clear hk); (try clear hi)))
        go_ret
        exact ⟨by first | rfl | (simp [eN, eS] <;> rfl) | (simp [*, eN, eS] <;> rfl), vB HB⟩
      ·rw [if_neg c5] at H
       exact absurd H (by simp)
     ·rw [if_neg c4] at H
      exact absurd H (by simp)
    ·rw [if_neg c3] at H
     have Ah := decide_eq_false c3
     clear c3
     obtain rfl := Option.some.inj H
     go_wp2
     go_ret
     exact ⟨by first | rfl | (simp [eN, eS] <;> rfl) | (simp [*, eN, eS] <;> rfl), vB HB⟩

end Go.Proofs.Yteodcegmkbcjjaa.PAll
