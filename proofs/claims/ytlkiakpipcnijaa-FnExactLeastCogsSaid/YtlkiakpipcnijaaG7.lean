/- Began as a text that print.sh wrote (of the functions named below); turned and shortened by this session. -/
import Derived.Test.YtlkiakpipcnijaaG0
namespace Go.Proofs.Ytlkiakpipcnijaa.PAll
open Go.RowKit Go.Proofs.YtlkiakpipcnijaaW.PrintWords Go.Proofs.YtlkiakpipcnijaaW.PrintLast Go.Proofs.YtlkiakpipcnijaaW.PrintMore
attribute [local go_sem] max2_int min2_int max_two min_two max_three min_three max_four min_four   -- for this text's walks alone
set_option linter.unusedVariables false
set_option linter.unusedSimpArgs false

/-! ### spec_l1In: function 77 -/
def spec_l1In.f (a0 : Int) (a1 : Int) (a2 : Int) : Option (Bool) := if a0 ≥ a1 then (some (decide (a0 ≤ a2))) else (some false)
set_option maxHeartbeats 8000000 in
set_option maxRecDepth 100000 in
theorem spec_l1In.calls (a0 : Int) (a1 : Int) (a2 : Int) (r : Bool) (w : World) (h : spec_l1In.f a0 a1 a2 = some r) :
 Calls Try.prog 77 #[.int .i64 a0, .int .i64 a1, .int .i64 a2] w fun e w' => e = .returned (.bool r) ∧ Drawn0 w w' := by
 have H : (if a0 ≥ a1 then (some (decide (a0 ≤ a2))) else (some false)) = some r := h
 clear h
 by_cases c4 : a0 ≥ a1
 ·rw [if_pos c4] at H
  have A0 := decide_eq_true c4
  clear c4
  obtain rfl := Option.some.inj H
  go_enter Try.func77, Try.ntmps77
  go_wp2
  go_ret
  exact ⟨by first | rfl | (simp; done) | (simp [*]; done), by repeat (first | exact Drawn0.refl _ | apply Drawn0.step)⟩
 ·rw [if_neg c4] at H
  have A0 := decide_eq_false c4
  clear c4
  obtain rfl := Option.some.inj H
  go_enter Try.func77, Try.ntmps77
  go_wp2
  go_ret
  exact ⟨by first | rfl | (simp; done) | (simp [*]; done), by repeat (first | exact Drawn0.refl _ | apply Drawn0.step)⟩

/-! ### spec_paTurning: function 89 -/
def spec_paTurning.f (a0_0 : Int) (a0_1 : Int) : Option (Bool) := if a0_0 = 3 then (some true) else (some (a0_0 == 6))
set_option maxHeartbeats 8000000 in
set_option maxRecDepth 100000 in
theorem spec_paTurning.calls (a0_0 : Int) (a0_1 : Int) (r : Bool) (w : World) (h : spec_paTurning.f a0_0 a0_1 = some r) :
 Calls Try.prog 89 #[.agg #[.int .i64 a0_0, .int .i64 a0_1]] w fun e w' => e = .returned (.bool r) ∧ Below w.heap.size w w' := by
 have Ae := Try.underlying71
 have HB := Z.m (Below.refl w.heap.size w)
 have H : (if a0_0 = 3 then (some true) else (some (a0_0 == 6))) = some r := h
 clear h
 by_cases c2 : a0_0 = 3
 ·rw [if_pos c2] at H
  have A4 := beq_iff_eq.mpr c2
  have A5 := bne_eq_false_iff_eq.mpr c2
  clear c2
  obtain rfl := Option.some.inj H
  go_enter Try.func89, Try.ntmps89
  go_wp2_with (first | ((with_reducible refine gq (N := 1) rfl ?_); refine be (N := 1) (cs := #[.int .i64 a0_0, .int .i64 a0_1]) (t := 71) ?_; intro A3 hg w3 hbox hb; have A0 := Z.m (hbox); have A1 := gW (w := w) HB hg; have A2 := A1; replace HB := bB HB hb; clear hb hbox hg; have A6 := bc0 A0; have A7 := bc1 A0; have Aa := qz A0.o 0; have Ab := qz A0.o 1))
  go_ret
  exact ⟨by first | rfl | (simp [eN, eS] <;> rfl) | (simp [*, eN, eS] <;> rfl), vB HB⟩
 ·rw [if_neg c2] at H
  have A4 := beq_eq_false_iff_ne.mpr c2
  have A5 := bne_iff_ne.mpr c2
  obtain rfl := Option.some.inj H
  go_enter Try.func89, Try.ntmps89
  go_wp2_with (first | ((with_reducible refine gq (N := 1) rfl ?_); refine be (N := 1) (cs := #[.int .i64 a0_0, .int .i64 a0_1]) (t := 71) ?_; intro A3 hg w5 hbox hb; have A0 := Z.m (hbox); have A1 := gW (w := w) HB hg; have A2 := A1; replace HB := bB HB hb; clear hb hbox hg; have A8 := bc0 A0; have A9 := bc1 A0; have Ac := qz A0.o 0; have Ad := qz A0.o 1))
  go_ret
  exact ⟨by first | rfl | (simp [eN, eS] <;> rfl) | (simp [*, eN, eS] <;> rfl), vB HB⟩

/-! ### spec_paGood: function 83 -/
def spec_paGood.f (a0_0 : Int) (a0_1 : Int) : Option (Bool) := (spec_l1In.f a0_0 0 7).bind fun t180 => (if t180 = true then (if a0_1 = 0 then (some true) else (if a0_1 = 1 then ((spec_paTurning.f a0_0 a0_1).bind fun t181 => (some t181)) else (some false))) else (some false))
set_option maxHeartbeats 8000000 in
set_option maxRecDepth 100000 in
theorem spec_paGood.calls (a0_0 : Int) (a0_1 : Int) (r : Bool) (w : World) (h : spec_paGood.f a0_0 a0_1 = some r) :
 Calls Try.prog 83 #[.agg #[.int .i64 a0_0, .int .i64 a0_1]] w fun e w' => e = .returned (.bool r) ∧ Below w.heap.size w w' := by
 have Au := Try.underlying71
 have HB := Z.m (Below.refl w.heap.size w)
 have H : ((spec_l1In.f a0_0 0 7).bind fun A6 => (if A6 = true then (if a0_1 = 0 then (some true) else (if a0_1 = 1 then ((spec_paTurning.f a0_0 a0_1).bind fun A3 => (some A3)) else (some false))) else (some false))) = some r := h
 clear h
 replace H := Option.bind_eq_some_iff.mp H
 obtain ⟨A6, As, H⟩ := H
 replace H : (if A6 = true then (if a0_1 = 0 then (some true) else (if a0_1 = 1 then ((spec_paTurning.f a0_0 a0_1).bind fun A3 => (some A3)) else (some false))) else (some false)) = some r := H
 have A2 := Z.m As
 clear As
 by_cases c3 : A6 = true
 ·subst c3
  have H1 : (if a0_1 = 0 then (some true) else (if a0_1 = 1 then ((spec_paTurning.f a0_0 a0_1).bind fun A3 => (some A3)) else (some false))) = some r := by rw [if_pos rfl] at H; exact H
  clear H
  have H := H1
  clear H1
  by_cases c4 : a0_1 = 0
  ·rw [if_pos c4] at H
   have Ak := beq_iff_eq.mpr c4
   have Al := bne_eq_false_iff_eq.mpr c4
   clear c4
   obtain rfl := Option.some.inj H
   go_enter Try.func83, Try.ntmps83
   go_wp2_with (first | ((with_reducible refine gq (N := 1) rfl ?_); refine be (N := 1) (cs := #[.int .i64 a0_0, .int .i64 a0_1]) (t := 71) ?_; intro A5 hg w5 hbox hb; have A0 := Z.m (hbox); have A1 := gW (w := w) HB hg; have A4 := A1; replace HB := bB HB hb; clear hb hbox hg; have Ao := bc0 A0; have Ap := bc1 A0; have Aq := qz A0.o 0; have Ar := qz A0.o 1) | ((with_reducible refine gc (f := 77) rfl ?_); refine gA (some 5) _ #[.int .i64 a0_0, .int .i64 0, .int .i64 7] ?_ Try.func77; (with_reducible refine (spec_l1In.calls a0_0 0 7 true _ A2.o).mono ?_); rintro e w' ⟨rfl, ⟨nd, rfl⟩⟩; refine ⟨_, rfl, ?_⟩))
   go_ret
   exact ⟨by first | rfl | (simp [eN, eS] <;> rfl) | (simp [*, eN, eS] <;> rfl), vB HB⟩
  ·rw [if_neg c4] at H
   have Ak := beq_eq_false_iff_ne.mpr c4
   have Al := bne_iff_ne.mpr c4
   by_cases c7 : a0_1 = 1
   ·rw [if_pos c7] at H
    have Am := beq_iff_eq.mpr c7
    have An := bne_eq_false_iff_eq.mpr c7
    clear c7
    replace H := Option.bind_eq_some_iff.mp H
    obtain ⟨A3, At, H⟩ := H
    replace H : (some A3) = some r := H
    have A8 := Z.m At
    clear At
    obtain rfl := Option.some.inj H
    go_enter Try.func83, Try.ntmps83
    go_wp2_with (first | ((with_reducible refine gq (N := 1) rfl ?_); refine be (N := 1) (cs := #[.int .i64 a0_0, .int .i64 a0_1]) (t := 71) ?_; intro A5 hg w9 hbox hb; have A0 := Z.m (hbox); have A1 := gW (w := w) HB hg; have A4 := A1; replace HB := bB HB hb; clear hb hbox hg; have A7 := bc0 A0; have A9 := bc1 A0; have Ae := qz A0.o 0; have Af := qz A0.o 1) | ((with_reducible refine gc (f := 77) rfl ?_); refine gA (some 5) _ #[.int .i64 a0_0, .int .i64 0, .int .i64 7] ?_ Try.func77; (with_reducible refine (spec_l1In.calls a0_0 0 7 true _ A2.o).mono ?_); rintro e w' ⟨rfl, ⟨nd, rfl⟩⟩; refine ⟨_, rfl, ?_⟩) | (go_at_call 89; (with_reducible refine (spec_paTurning.calls a0_0 a0_1 A3 _ A8.o).mono ?_); rintro e Aw ⟨rfl, hb⟩; replace A0 := kB A0 hb; replace HB := bB HB hb; (try clear hb); (try clear Av); (try clear hk); (try clear hi)))
    go_ret
    exact ⟨by first | rfl | (simp [eN, eS] <;> rfl) | (simp [*, eN, eS] <;> rfl), vB HB⟩
   ·rw [if_neg c7] at H
    have Am := beq_eq_false_iff_ne.mpr c7
    have An := bne_iff_ne.mpr c7
    obtain rfl := Option.some.inj H
    go_enter Try.func83, Try.ntmps83
    go_wp2_with (first | ((with_reducible refine gq (N := 1) rfl ?_); refine be (N := 1) (cs := #[.int .i64 a0_0, .int .i64 a0_1]) (t := 71) ?_; intro A5 hg Ax hbox hb; have A0 := Z.m (hbox); have A1 := gW (w := w) HB hg; have A4 := A1; replace HB := bB HB hb; clear hb hbox hg; have Aa := bc0 A0; have Ab := bc1 A0; have Ag := qz A0.o 0; have Ah := qz A0.o 1) | ((with_reducible refine gc (f := 77) rfl ?_); refine gA (some 5) _ #[.int .i64 a0_0, .int .i64 0, .int .i64 7] ?_ Try.func77; (with_reducible refine (spec_l1In.calls a0_0 0 7 true _ A2.o).mono ?_); rintro e w' ⟨rfl, ⟨nd, rfl⟩⟩; refine ⟨_, rfl, ?_⟩))
    go_ret
    exact ⟨by first | rfl | (simp [eN, eS] <;> rfl) | (simp [*, eN, eS] <;> rfl), vB HB⟩
 ·replace c3 := Bool.eq_false_iff.mpr c3
  subst c3
  have H1 : (some false) = some r := by rw [if_neg (show ¬ (false = true) by decide)] at H; exact H
  clear H
  have H := H1
  clear H1
  obtain rfl := Option.some.inj H
  go_enter Try.func83, Try.ntmps83
  go_wp2_with (first | ((with_reducible refine gq (N := 1) rfl ?_); refine be (N := 1) (cs := #[.int .i64 a0_0, .int .i64 a0_1]) (t := 71) ?_; intro A5 hg Ay hbox hb; have A0 := Z.m (hbox); have A1 := gW (w := w) HB hg; have A4 := A1; replace HB := bB HB hb; clear hb hbox hg; have Ac := bc0 A0; have Ad := bc1 A0; have Ai := qz A0.o 0; have Aj := qz A0.o 1) | ((with_reducible refine gc (f := 77) rfl ?_); refine gA (some 5) _ #[.int .i64 a0_0, .int .i64 0, .int .i64 7] ?_ Try.func77; (with_reducible refine (spec_l1In.calls a0_0 0 7 false _ A2.o).mono ?_); rintro e w' ⟨rfl, ⟨nd, rfl⟩⟩; refine ⟨_, rfl, ?_⟩))
  go_ret
  exact ⟨by first | rfl | (simp [eN, eS] <;> rfl) | (simp [*, eN, eS] <;> rfl), vB HB⟩

/-! ### spec_boGood: function 59 -/
mutual
def spec_boGood.j0 : Nat → Bool → Int → Int → List (S71) → Option (Bool)
 | 0, _, _, _, _ => none
 | k + 1, x25, x183000, x183001, x183002 => if x25 = true then (some false) else (spec_boGood.l0 k x183002 (x183002.length : Int) 0)
def spec_boGood.l0 : Nat → List (S71) → Int → Int → Option (Bool)
 | 0, _, _, _ => none
 | k + 1, x27, x28, x29 => if x29 < x28 then (if 0 ≤ x29 then (if x29 < (x27.length : Int) then ((spec_paGood.f ((rd_T71 x27 x29).f0) ((rd_T71 x27 x29).f1)).bind fun t187 => (if t187 = true then (spec_boGood.l0 k x27 x28 (wrap64 (x29 + 1))) else (some false))) else (none)) else (none)) else (some true)
end
def spec_boGood.f (k : Nat) (a0_0 : Int) (a0_1 : Int) (l0_2 : List (S71)) : Option (Bool) := (spec_l1In.f a0_0 1 10).bind fun t183 => (if t183 = true then ((spec_l1In.f a0_1 1 9).bind fun t184 => (if t184 = true then (spec_boGood.j0 k ((l0_2.length : Int) != (wrap64 (a0_0 * a0_1))) a0_0 a0_1 l0_2) else (spec_boGood.j0 k true a0_0 a0_1 l0_2))) else (spec_boGood.j0 k true a0_0 a0_1 l0_2))
set_option maxHeartbeats 8000000 in
set_option maxRecDepth 100000 in
theorem spec_boGood.calls (k : Nat) (a0_0 : Int) (a0_1 : Int) (A0_2 : Option Addr) (c0_2 : Nat) (l0_2 : List (S71)) (r : Bool) (w : World) (hr0_2 : Kd.C k71 w A0_2 l0_2.length l0_2) (hc0_2 : l0_2.length ≤ c0_2) (h : spec_boGood.f k a0_0 a0_1 l0_2 = some r) :
 Calls Try.prog 59 #[.agg #[.int .i64 a0_0, .int .i64 a0_1, .slice A0_2 l0_2.length c0_2]] w fun e w' => e = .returned (.bool r) ∧ Below w.heap.size w w' := by
 have Be := Try.underlying30
 have Bf := Try.underlying71
 have Am := Z.m hr0_2
 have AX := Z.m hc0_2
 clear hr0_2 hc0_2
 have HB := Z.m (Below.refl w.heap.size w)
 have H : ((spec_l1In.f a0_0 1 10).bind fun Al => (if Al = true then ((spec_l1In.f a0_1 1 9).bind fun A9 => (if A9 = true then (spec_boGood.j0 k ((l0_2.length : Int) != (wrap64 (a0_0 * a0_1))) a0_0 a0_1 l0_2) else (spec_boGood.j0 k true a0_0 a0_1 l0_2))) else (spec_boGood.j0 k true a0_0 a0_1 l0_2))) = some r := h
 clear h
 have AG := Z.m H
 clear H
 go_enter Try.func59, Try.ntmps59
 go_upto_region 1 with (first | ((with_reducible refine gq (N := 1) rfl ?_); (try (refine gate_guard (by rfl) ?_; dsimp only)); refine be (N := 1) (cs := #[.int .i64 a0_0, .int .i64 a0_1, .slice A0_2 l0_2.length c0_2]) (t := 30) ?_; intro Aa hg w3 hbox hb; have A0 := Z.m (hbox); have Ap := gW (w := w) HB hg; have AW := Ap; replace HB := bB HB hb; clear hb hbox hg))
 (try simp only [Act.put, q1, q2, q3])
 go_cut [25] (fun v25 wc => ∃ (kq : Nat) (Ab : Bool), v25 = .bool Ab ∧ Z (spec_boGood.j0 kq Ab a0_0 a0_1 l0_2 = some r) ∧ Z (kq ≤ k) ∧ Z (wc.heap[Aa]? = some (.cells #[.int .i64 a0_0, .int .i64 a0_1, (.slice A0_2 l0_2.length c0_2)] 30 (0, 0))) ∧ Z (Below w.heap.size w wc))
 case first =>
  have H := AG.o
  clear AG
  replace H := Option.bind_eq_some_iff.mp H
  obtain ⟨Al, AU, H⟩ := H
  replace H : (if Al = true then ((spec_l1In.f a0_1 1 9).bind fun A9 => (if A9 = true then (spec_boGood.j0 k ((l0_2.length : Int) != (wrap64 (a0_0 * a0_1))) a0_0 a0_1 l0_2) else (spec_boGood.j0 k true a0_0 a0_1 l0_2))) else (spec_boGood.j0 k true a0_0 a0_1 l0_2)) = some r := H
  have A4 := Z.m AU
  clear AU
  by_cases c5 : Al = true
  ·subst c5
   have H1 : ((spec_l1In.f a0_1 1 9).bind fun A9 => (if A9 = true then (spec_boGood.j0 k ((l0_2.length : Int) != (wrap64 (a0_0 * a0_1))) a0_0 a0_1 l0_2) else (spec_boGood.j0 k true a0_0 a0_1 l0_2))) = some r := by rw [if_pos rfl] at H; exact H
   clear H
   have H := H1
   clear H1
   replace H := Option.bind_eq_some_iff.mp H
   obtain ⟨A9, AV, H⟩ := H
   replace H : (if A9 = true then (spec_boGood.j0 k ((l0_2.length : Int) != (wrap64 (a0_0 * a0_1))) a0_0 a0_1 l0_2) else (spec_boGood.j0 k true a0_0 a0_1 l0_2)) = some r := H
   have A6 := Z.m AV
   clear AV
   by_cases c7 : A9 = true
   ·subst c7
    have H1 : (spec_boGood.j0 k ((l0_2.length : Int) != (wrap64 (a0_0 * a0_1))) a0_0 a0_1 l0_2) = some r := by rw [if_pos rfl] at H; exact H
    clear H
    have H := H1
    clear H1
    have H' := Z.m H
    clear H
    have AH := bc0 A0
    have AI := bc1 A0
    have AJ := bc2 A0
    have AN := qz A0.o 0
    have AO := qz A0.o 1
    have AP := qz A0.o 2
    go_wp2_with (first | ((with_reducible refine gc (f := 77) rfl ?_); refine gA (some 7) _ #[.int .i64 a0_0, .int .i64 1, .int .i64 10] ?_ Try.func77; (with_reducible refine (spec_l1In.calls a0_0 1 10 true _ A4.o).mono ?_); rintro e w' ⟨rfl, ⟨nd, rfl⟩⟩; refine ⟨_, rfl, ?_⟩) | (go_at_call 77; (with_reducible refine (spec_l1In.calls a0_1 1 9 true _ A6.o).mono ?_); rintro e w' ⟨rfl, ⟨nd, rfl⟩⟩))
    go_meet
    case rel => exact ⟨_, (((l0_2.length : Int) != (wrap64 (a0_0 * a0_1)))), (by first | rfl | (simp; done) | (simp [*]; done)), H', ⟨by first | omega | exact Nat.le_refl _⟩, ⟨vK A0⟩, ⟨vB HB⟩⟩
   ·replace c7 := Bool.eq_false_iff.mpr c7
    subst c7
    have H1 : (spec_boGood.j0 k true a0_0 a0_1 l0_2) = some r := by rw [if_neg (show ¬ (false = true) by decide)] at H; exact H
    clear H
    have H := H1
    clear H1
    have H' := Z.m H
    clear H
    have AK := bc0 A0
    have AL := bc1 A0
    have AM := bc2 A0
    have AQ := qz A0.o 0
    have AR := qz A0.o 1
    have AS := qz A0.o 2
    go_wp2_with (first | ((with_reducible refine gc (f := 77) rfl ?_); refine gA (some 7) _ #[.int .i64 a0_0, .int .i64 1, .int .i64 10] ?_ Try.func77; (with_reducible refine (spec_l1In.calls a0_0 1 10 true _ A4.o).mono ?_); rintro e w' ⟨rfl, ⟨nd, rfl⟩⟩; refine ⟨_, rfl, ?_⟩) | (go_at_call 77; (with_reducible refine (spec_l1In.calls a0_1 1 9 false _ A6.o).mono ?_); rintro e w' ⟨rfl, ⟨nd, rfl⟩⟩))
    go_meet
    case rel => exact ⟨_, (true), (by first | rfl | (simp; done) | (simp [*]; done)), H', ⟨by first | omega | exact Nat.le_refl _⟩, ⟨vK A0⟩, ⟨vB HB⟩⟩
  ·replace c5 := Bool.eq_false_iff.mpr c5
   subst c5
   have H1 : (spec_boGood.j0 k true a0_0 a0_1 l0_2) = some r := by rw [if_neg (show ¬ (false = true) by decide)] at H; exact H
   clear H
   have H := H1
   clear H1
   have H' := Z.m H
   clear H
   have As := bc0 A0
   have At := bc1 A0
   have Au := bc2 A0
   have Az := qz A0.o 0
   have AA := qz A0.o 1
   have AB := qz A0.o 2
   go_wp2_with (first | ((with_reducible refine gc (f := 77) rfl ?_); refine gA (some 7) _ #[.int .i64 a0_0, .int .i64 1, .int .i64 10] ?_ Try.func77; (with_reducible refine (spec_l1In.calls a0_0 1 10 false _ A4.o).mono ?_); rintro e w' ⟨rfl, ⟨nd, rfl⟩⟩; refine ⟨_, rfl, ?_⟩))
   go_meet
   case rel => exact ⟨_, (true), (by first | rfl | (simp; done) | (simp [*]; done)), H', ⟨by first | omega | exact Nat.le_refl _⟩, ⟨vK A0⟩, ⟨vB HB⟩⟩
 case rest =>
  clear AG
  obtain ⟨kq, Ab, rfl, HA, AY, A0, HB⟩ := hcut
  cases kq with
  | zero => exact absurd HA.o (by simp [spec_boGood.j0])
  | succ kj1 =>
   have H := HA.o
   clear HA
   simp only [spec_boGood.j0] at H
   by_cases c11 : Ab = true
   ·subst c11
    have H1 : (some false) = some r := by rw [if_pos rfl] at H; exact H
    clear H
    have H := H1
    clear H1
    obtain rfl := Option.some.inj H
    go_wp2
    go_ret
    exact ⟨by first | rfl | (simp [eN, eS] <;> rfl) | (simp [*, eN, eS] <;> rfl), vB HB⟩
   ·replace c11 := Bool.eq_false_iff.mpr c11
    subst c11
    have H1 : (spec_boGood.l0 kj1 l0_2 (l0_2.length : Int) 0) = some r := by rw [if_neg (show ¬ (false = true) by decide)] at H; exact H
    clear H
    have H := H1
    clear H1
    have H' := Z.m H
    clear H
    have Af := bc0 A0
    have Ag := bc1 A0
    have Ah := bc2 A0
    have Ai := qz A0.o 0
    have Aj := qz A0.o 1
    have Ak := qz A0.o 2
    go_wp2
    go_loopg [29] kj1 (fun kq v29 w' => ∃ (A1 : Int), v29 = .int .i64 A1 ∧ Z (spec_boGood.l0 kq l0_2 (l0_2.length : Int) A1 = some r) ∧ Z (kq ≤ kj1) ∧ Z (w'.heap[Aa]? = some (.cells #[.int .i64 a0_0, .int .i64 a0_1, (.slice A0_2 l0_2.length c0_2)] 30 (0, 0))) ∧ Z (Below w.heap.size w w'))
    case atStart => exact ⟨(0), (by first | rfl | (simp; done) | (simp [*]; done)), H', ⟨Nat.le_refl _⟩, ⟨vK A0⟩, ⟨vB HB⟩⟩
    case round =>
     clear H'
     (try clear c11)
     (try clear Af); (try clear Ag); (try clear Ah); (try clear Ai); (try clear Aj); (try clear Ak)
     obtain ⟨A1, rfl, HA, AZ, A0, HB⟩ := hrel
     cases gk with
     | zero => exact absurd HA.o (by simp [spec_boGood.l0])
     | succ k2 =>
      have H := HA.o
      clear HA
      simp only [spec_boGood.l0] at H
      by_cases c13 : A1 < (l0_2.length : Int)
      ·rw [if_pos c13] at H
       have Aq := decide_eq_true c13
       clear c13
       by_cases c14 : 0 ≤ A1
       ·rw [if_pos c14] at H
        have B0 := decide_eq_true c14
        clear c14
        by_cases c15 : A1 < (l0_2.length : Int)
        ·rw [if_pos c15] at H
         have B2 := decide_eq_true c15
         clear c15
         replace H := Option.bind_eq_some_iff.mp H
         obtain ⟨Ar, An, H⟩ := H
         replace H : (if Ar = true then (spec_boGood.l0 k2 l0_2 (l0_2.length : Int) (wrap64 (A1 + 1))) else (some false)) = some r := H
         have AT := Z.m An
         clear An
         by_cases c17 : Ar = true
         ·subst c17
          have H1 : (spec_boGood.l0 k2 l0_2 (l0_2.length : Int) (wrap64 (A1 + 1))) = some r := by rw [if_pos rfl] at H; exact H
          clear H
          have H := H1
          clear H1
          have H' := Z.m H
          clear H
          have p185 : 0 ≤ (A1 : Int) := ofD
          have q185 : A1 < (l0_2.length : Int) := ofD
          obtain ⟨Ad, e185, A5, A7⟩ := at_T71 Am.o A1 p185 q185
          cases e185
          replace A5 := (HB.o.cell (World.block_lt_of_cell? w _ A5)).trans A5
          replace A7 := (HB.o.cell (World.block_lt_of_cell? w _ A7)).trans A7
          replace p185 := eq_true p185
          replace q185 := eq_true q185
          go_wp2_with (first | ((with_reducible refine gq (N := 4) rfl ?_); (try (refine gate_guard (by rfl) ?_; dsimp only)); refine be (N := 4) (cs := #[.int .i64 0, .int .i64 0]) (t := 71) ?_; intro Ae hg Bg hbox hb; have A2 := Z.m (hbox); have Ac := gW (w := w) HB hg; have Ao := Ac; have A3 := neL A0 hg; have A8 := neG A0 hg; replace A0 := kB A0 hb; replace HB := bB HB hb; clear hb hbox hg; have B7 := A8.o; have Bb := A3.o; have Av := bc0 A2; have Aw := bc1 A2; have AC := qz A2.o 0; have AD := qz A2.o 1) | ((with_reducible refine gc (f := 83) rfl ?_); refine gA (some 34) _ #[.agg #[.int .i64 ((rd_T71 l0_2 A1).f0), .int .i64 ((rd_T71 l0_2 A1).f1)]] ?_ Try.func83; (with_reducible refine (spec_paGood.calls ((rd_T71 l0_2 A1).f0) ((rd_T71 l0_2 A1).f1) true _ AT.o).mono ?_); rintro e Bh ⟨rfl, hb⟩; refine ⟨_, rfl, ?_⟩; replace A0 := Z.m (qb (g := Aa) (o := .cells #[.int .i64 a0_0, .int .i64 a0_1, .slice (some Ad) l0_2.length c0_2] 30 (0, 0)) (by refine bK ?_; (iterate 2 refine qF ?_ A3); exact A0.o) hb); replace A2 := Z.m (qb (g := Ae) (o := .cells #[.int .i64 ((rd_T71 l0_2 A1).f0), .int .i64 ((rd_T71 l0_2 A1).f1)] 71 (0, 0)) (by refine bK ?_; refine qp (cs := #[iV ((rd_T71 l0_2 A1).f0), iV 0]) ?_ 1 _ rfl; refine bK ?_; refine qp (cs := #[iV 0, iV 0]) ?_ 0 _ rfl; refine bK ?_; exact A2.o) hb); replace HB := bB HB hb; (try clear hb); (try clear Bd); (try clear hk); (try clear hi)))
          go_roundg k2
          case measure => have := AY.o; have := AZ.o; omega
          case rel => exact ⟨(wrap64 (A1 + 1)), (by first | rfl | (simp; done) | (simp [*]; done)), H', ⟨by have := AY.o; have := AZ.o; omega⟩, ⟨vK A0⟩, ⟨vB HB⟩⟩
         ·replace c17 := Bool.eq_false_iff.mpr c17
          subst c17
          have H1 : (some false) = some r := by rw [if_neg (show ¬ (false = true) by decide)] at H; exact H
          clear H
          have H := H1
          clear H1
          obtain rfl := Option.some.inj H
          have p185 : 0 ≤ (A1 : Int) := ofD
          have q185 : A1 < (l0_2.length : Int) := ofD
          obtain ⟨Ad, e185, A5, A7⟩ := at_T71 Am.o A1 p185 q185
          cases e185
          replace A5 := (HB.o.cell (World.block_lt_of_cell? w _ A5)).trans A5
          replace A7 := (HB.o.cell (World.block_lt_of_cell? w _ A7)).trans A7
          replace p185 := eq_true p185
          replace q185 := eq_true q185
          go_wp2_with (first | ((with_reducible refine gq (N := 4) rfl ?_); (try (refine gate_guard (by rfl) ?_; dsimp only)); refine be (N := 4) (cs := #[.int .i64 0, .int .i64 0]) (t := 71) ?_; intro Ae hg Bi hbox hb; have A2 := Z.m (hbox); have Ac := gW (w := w) HB hg; have Ao := Ac; have A3 := neL A0 hg; have A8 := neG A0 hg; replace A0 := kB A0 hb; replace HB := bB HB hb; clear hb hbox hg; have Ba := A8.o; have Bc := A3.o; have Ax := bc0 A2; have Ay := bc1 A2; have AE := qz A2.o 0; have AF := qz A2.o 1) | ((with_reducible refine gc (f := 83) rfl ?_); refine gA (some 34) _ #[.agg #[.int .i64 ((rd_T71 l0_2 A1).f0), .int .i64 ((rd_T71 l0_2 A1).f1)]] ?_ Try.func83; (with_reducible refine (spec_paGood.calls ((rd_T71 l0_2 A1).f0) ((rd_T71 l0_2 A1).f1) false _ AT.o).mono ?_); rintro e Bj ⟨rfl, hb⟩; refine ⟨_, rfl, ?_⟩; replace A0 := Z.m (qb (g := Aa) (o := .cells #[.int .i64 a0_0, .int .i64 a0_1, .slice (some Ad) l0_2.length c0_2] 30 (0, 0)) (by refine bK ?_; (iterate 2 refine qF ?_ A3); exact A0.o) hb); replace A2 := Z.m (qb (g := Ae) (o := .cells #[.int .i64 ((rd_T71 l0_2 A1).f0), .int .i64 ((rd_T71 l0_2 A1).f1)] 71 (0, 0)) (by refine bK ?_; refine qp (cs := #[iV ((rd_T71 l0_2 A1).f0), iV 0]) ?_ 1 _ rfl; refine bK ?_; refine qp (cs := #[iV 0, iV 0]) ?_ 0 _ rfl; refine bK ?_; exact A2.o) hb); replace HB := bB HB hb; (try clear hb); (try clear Bd); (try clear hk); (try clear hi)))
          go_ret
          exact ⟨by first | rfl | (simp [eN, eS] <;> rfl) | (simp [*, eN, eS] <;> rfl), vB HB⟩
        ·rw [if_neg c15] at H
         exact absurd H (by simp)
       ·rw [if_neg c14] at H
        exact absurd H (by simp)
      ·rw [if_neg c13] at H
       have Aq := decide_eq_false c13
       clear c13
       obtain rfl := Option.some.inj H
       go_wp2
       go_ret
       exact ⟨by first | rfl | (simp [eN, eS] <;> rfl) | (simp [*, eN, eS] <;> rfl), vB HB⟩

end Go.Proofs.Ytlkiakpipcnijaa.PAll
