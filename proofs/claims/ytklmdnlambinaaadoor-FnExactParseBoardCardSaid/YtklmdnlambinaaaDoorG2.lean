/- Began as a text that print.sh wrote (of the functions named below); turned and shortened by this session. -/
import Derived.Test.YtklmdnlambinaaaDoorG0
import Derived.Test.YtklmdnlambinaaaDoorG1
namespace Go.Proofs.YtklmdnlambinaaaDoor.PAll
open Go.RowKit Go.Proofs.YtklmdnlambinaaaDoorW.PrintWords Go.Proofs.YtklmdnlambinaaaDoorW.PrintLast Go.Proofs.YtklmdnlambinaaaDoorW.PrintMore
attribute [local go_sem] max2_int min2_int max_two min_two max_three min_three max_four min_four   -- for this text's walks alone
set_option linter.unusedVariables false
set_option linter.unusedSimpArgs false

/-! ### spec_paGood: function 47 -/
def spec_paGood.f (a0_0 : Int) (a0_1 : Int) : Option (Bool) := (spec_l1In.f a0_0 0 7).bind fun t146 => (if t146 = true then (if a0_1 = 0 then (some true) else (if a0_1 = 1 then ((spec_paTurning.f a0_0 a0_1).bind fun t147 => (some t147)) else (some false))) else (some false))
set_option maxHeartbeats 8000000 in
set_option maxRecDepth 100000 in
theorem spec_paGood.calls (a0_0 : Int) (a0_1 : Int) (r : Bool) (w : World) (h : spec_paGood.f a0_0 a0_1 = some r) :
 Calls Tryd.prog 47 #[.agg #[.int .i64 a0_0, .int .i64 a0_1]] w fun e w' => e = .returned (.bool r) ∧ Below w.heap.size w w' := by
 have Au := Tryd.underlying62
 have HB := Z.m (Below.refl w.heap.size w)
 have H : ((spec_l1In.f a0_0 0 7).bind fun A6 => (if A6 = true then (if a0_1 = 0 then (some true) else (if a0_1 = 1 then ((spec_paTurning.f a0_0 a0_1).bind fun A3 => (some A3)) else (some false))) else (some false))) = some r := h
 clear h
 replace H := Option.bind_eq_some_iff.mp H
 obtain ⟨A6, As, H⟩ := H
 replace H : (if A6 = true then (if a0_1 = 0 then (some true) else (if a0_1 = 1 then ((spec_paTurning.f a0_0 a0_1).bind fun A3 => (some A3)) else (some false))) else (some false)) = some r := H
 have A2 := Z.m As
 clear As
 by_cases c3 : A6 = true
 ·subst c3
  have H1 : (if a0_1 = 0 then (some true) else (if a0_1 = 1 then ((spec_paTurning.f a0_0 a0_1).bind fun A3 => (some A3)) else (some false))) = some r := by rw [if_pos rfl] at H; exact H
  clear H
  have H := H1
  clear H1
  by_cases c4 : a0_1 = 0
  ·rw [if_pos c4] at H
   have Ak := beq_iff_eq.mpr c4
   have Al := bne_eq_false_iff_eq.mpr c4
   clear c4
   obtain rfl := Option.some.inj H
   go_enter Tryd.func47, Tryd.ntmps47
   go_wp2_with (first | ((with_reducible refine gq (N := 1) rfl ?_); refine be (N := 1) (cs := #[.int .i64 a0_0, .int .i64 a0_1]) (t := 62) ?_; intro A5 hg w5 hbox hb; have A0 := Z.m (hbox); have A1 := gW (w := w) HB hg; have A4 := A1; replace HB := bB HB hb; clear hb hbox hg; have Ao := bc0 A0; have Ap := bc1 A0; have Aq := qz A0.o 0; have Ar := qz A0.o 1) | ((with_reducible refine gc (f := 38) rfl ?_); refine gA (some 5) _ #[.int .i64 a0_0, .int .i64 0, .int .i64 7] ?_ Tryd.func38; (with_reducible refine (spec_l1In.calls a0_0 0 7 true _ A2.o).mono ?_); rintro e w' ⟨rfl, ⟨nd, rfl⟩⟩; refine ⟨_, rfl, ?_⟩))
   go_ret
   exact ⟨by first | rfl | (simp [eN, eS] <;> rfl) | (simp [*, eN, eS] <;> rfl), vB HB⟩
  ·rw [if_neg c4] at H
   have Ak := beq_eq_false_iff_ne.mpr c4
   have Al := bne_iff_ne.mpr c4
   by_cases c7 : a0_1 = 1
   ·rw [if_pos c7] at H
    have Am := beq_iff_eq.mpr c7
    have An := bne_eq_false_iff_eq.mpr c7
    clear c7
    replace H := Option.bind_eq_some_iff.mp H
    obtain ⟨A3, At, H⟩ := H
    replace H : (some A3) = some r := H
    have A8 := Z.m At
    clear At
    obtain rfl := Option.some.inj H
    go_enter Tryd.func47, Tryd.ntmps47
    go_wp2_with (first | ((with_reducible refine gq (N := 1) rfl ?_); refine be (N := 1) (cs := #[.int .i64 a0_0, .int .i64 a0_1]) (t := 62) ?_; intro A5 hg w9 hbox hb; have A0 := Z.m (hbox); have A1 := gW (w := w) HB hg; have A4 := A1; replace HB := bB HB hb; clear hb hbox hg; have A7 := bc0 A0; have A9 := bc1 A0; have Ae := qz A0.o 0; have Af := qz A0.o 1) | ((with_reducible refine gc (f := 38) rfl ?_); refine gA (some 5) _ #[.int .i64 a0_0, .int .i64 0, .int .i64 7] ?_ Tryd.func38; (with_reducible refine (spec_l1In.calls a0_0 0 7 true _ A2.o).mono ?_); rintro e w' ⟨rfl, ⟨nd, rfl⟩⟩; refine ⟨_, rfl, ?_⟩) | (go_at_call 56; (with_reducible refine (spec_paTurning.calls a0_0 a0_1 A3 _ A8.o).mono ?_); rintro e Aw ⟨rfl, hb⟩; replace A0 := kB A0 hb; replace HB := bB HB hb; (try clear hb); (try clear Av); (try clear hk); (try clear hi)))
    go_ret
    exact ⟨by first | rfl | (simp [eN, eS] <;> rfl) | (simp [*, eN, eS] <;> rfl), vB HB⟩
   ·rw [if_neg c7] at H
    have Am := beq_eq_false_iff_ne.mpr c7
    have An := bne_iff_ne.mpr c7
    obtain rfl := Option.some.inj H
    go_enter Tryd.func47, Tryd.ntmps47
    go_wp2_with (first | ((with_reducible refine gq (N := 1) rfl ?_); refine be (N := 1) (cs := #[.int .i64 a0_0, .int .i64 a0_1]) (t := 62) ?_; intro A5 hg Ax hbox hb; have A0 := Z.m (hbox); have A1 := gW (w := w) HB hg; have A4 := A1; replace HB := bB HB hb; clear hb hbox hg; have Aa := bc0 A0; have Ab := bc1 A0; have Ag := qz A0.o 0; have Ah := qz A0.o 1) | ((with_reducible refine gc (f := 38) rfl ?_); refine gA (some 5) _ #[.int .i64 a0_0, .int .i64 0, .int .i64 7] ?_ Tryd.func38; (with_reducible refine (spec_l1In.calls a0_0 0 7 true _ A2.o).mono ?_); rintro e w' ⟨rfl, ⟨nd, rfl⟩⟩; refine ⟨_, rfl, ?_⟩))
    go_ret
    exact ⟨by first | rfl | (simp [eN, eS] <;> rfl) | (simp [*, eN, eS] <;> rfl), vB HB⟩
 ·replace c3 := Bool.eq_false_iff.mpr c3
  subst c3
  have H1 : (some false) = some r := by rw [if_neg (show ¬ (false = true) by decide)] at H; exact H
  clear H
  have H := H1
  clear H1
  obtain rfl := Option.some.inj H
  go_enter Tryd.func47, Tryd.ntmps47
  go_wp2_with (first | ((with_reducible refine gq (N := 1) rfl ?_); refine be (N := 1) (cs := #[.int .i64 a0_0, .int .i64 a0_1]) (t := 62) ?_; intro A5 hg Ay hbox hb; have A0 := Z.m (hbox); have A1 := gW (w := w) HB hg; have A4 := A1; replace HB := bB HB hb; clear hb hbox hg; have Ac := bc0 A0; have Ad := bc1 A0; have Ai := qz A0.o 0; have Aj := qz A0.o 1) | ((with_reducible refine gc (f := 38) rfl ?_); refine gA (some 5) _ #[.int .i64 a0_0, .int .i64 0, .int .i64 7] ?_ Tryd.func38; (with_reducible refine (spec_l1In.calls a0_0 0 7 false _ A2.o).mono ?_); rintro e w' ⟨rfl, ⟨nd, rfl⟩⟩; refine ⟨_, rfl, ?_⟩))
  go_ret
  exact ⟨by first | rfl | (simp [eN, eS] <;> rfl) | (simp [*, eN, eS] <;> rfl), vB HB⟩

/-! ### spec_boGood: function 31 -/
mutual
def spec_boGood.j0 : Nat → Bool → Int → Int → List (S62) → Option (Bool)
 | 0, _, _, _, _ => none
 | k + 1, x25, x149000, x149001, x149002 => if x25 = true then (some false) else (spec_boGood.l0 k x149002 (x149002.length : Int) 0)
def spec_boGood.l0 : Nat → List (S62) → Int → Int → Option (Bool)
 | 0, _, _, _ => none
 | k + 1, x27, x28, x29 => if x29 < x28 then (if 0 ≤ x29 then (if x29 < (x27.length : Int) then ((spec_paGood.f ((rd_T62 x27 x29).f0) ((rd_T62 x27 x29).f1)).bind fun t153 => (if t153 = true then (spec_boGood.l0 k x27 x28 (wrap64 (x29 + 1))) else (some false))) else (none)) else (none)) else (some true)
end
def spec_boGood.f (k : Nat) (a0_0 : Int) (a0_1 : Int) (l0_2 : List (S62)) : Option (Bool) := (spec_l1In.f a0_0 1 10).bind fun t149 => (if t149 = true then ((spec_l1In.f a0_1 1 9).bind fun t150 => (if t150 = true then (spec_boGood.j0 k ((l0_2.length : Int) != (wrap64 (a0_0 * a0_1))) a0_0 a0_1 l0_2) else (spec_boGood.j0 k true a0_0 a0_1 l0_2))) else (spec_boGood.j0 k true a0_0 a0_1 l0_2))
set_option maxHeartbeats 8000000 in
set_option maxRecDepth 100000 in
theorem spec_boGood.calls (k : Nat) (a0_0 : Int) (a0_1 : Int) (A0_2 : Option Addr) (c0_2 : Nat) (l0_2 : List (S62)) (r : Bool) (w : World) (hr0_2 : Kd.C k62 w A0_2 l0_2.length l0_2) (hc0_2 : l0_2.length ≤ c0_2) (h : spec_boGood.f k a0_0 a0_1 l0_2 = some r) :
 Calls Tryd.prog 31 #[.agg #[.int .i64 a0_0, .int .i64 a0_1, .slice A0_2 l0_2.length c0_2]] w fun e w' => e = .returned (.bool r) ∧ Below w.heap.size w w' := by
 have B8 := Tryd.underlying24
 have B9 := Tryd.underlying62
 have Am := Z.m hr0_2
 have AX := Z.m hc0_2
 clear hr0_2 hc0_2
 have HB := Z.m (Below.refl w.heap.size w)
 have H : ((spec_l1In.f a0_0 1 10).bind fun Al => (if Al = true then ((spec_l1In.f a0_1 1 9).bind fun A9 => (if A9 = true then (spec_boGood.j0 k ((l0_2.length : Int) != (wrap64 (a0_0 * a0_1))) a0_0 a0_1 l0_2) else (spec_boGood.j0 k true a0_0 a0_1 l0_2))) else (spec_boGood.j0 k true a0_0 a0_1 l0_2))) = some r := h
 clear h
 have AG := Z.m H
 clear H
 go_enter Tryd.func31, Tryd.ntmps31
 go_upto_region 1 with (first | ((with_reducible refine gq (N := 1) rfl ?_); (try (refine gate_guard (by rfl) ?_; dsimp only)); refine be (N := 1) (cs := #[.int .i64 a0_0, .int .i64 a0_1, .slice A0_2 l0_2.length c0_2]) (t := 24) ?_; intro Aa hg w3 hbox hb; have A0 := Z.m (hbox); have Ap := gW (w := w) HB hg; have AW := Ap; replace HB := bB HB hb; clear hb hbox hg))
 (try simp only [Act.put, q1, q2, q3])
 go_cut [25] (fun v25 wc => ∃ (kq : Nat) (Ab : Bool), v25 = .bool Ab ∧ Z (spec_boGood.j0 kq Ab a0_0 a0_1 l0_2 = some r) ∧ Z (kq ≤ k) ∧ Z (wc.heap[Aa]? = some (.cells #[.int .i64 a0_0, .int .i64 a0_1, (.slice A0_2 l0_2.length c0_2)] 24 (0, 0))) ∧ Z (Below w.heap.size w wc))
 case first =>
  have H := AG.o
  clear AG
  replace H := Option.bind_eq_some_iff.mp H
  obtain ⟨Al, AU, H⟩ := H
  replace H : (if Al = true then ((spec_l1In.f a0_1 1 9).bind fun A9 => (if A9 = true then (spec_boGood.j0 k ((l0_2.length : Int) != (wrap64 (a0_0 * a0_1))) a0_0 a0_1 l0_2) else (spec_boGood.j0 k true a0_0 a0_1 l0_2))) else (spec_boGood.j0 k true a0_0 a0_1 l0_2)) = some r := H
  have A4 := Z.m AU
  clear AU
  by_cases c5 : Al = true
  ·subst c5
   have H1 : ((spec_l1In.f a0_1 1 9).bind fun A9 => (if A9 = true then (spec_boGood.j0 k ((l0_2.length : Int) != (wrap64 (a0_0 * a0_1))) a0_0 a0_1 l0_2) else (spec_boGood.j0 k true a0_0 a0_1 l0_2))) = some r := by rw [if_pos rfl] at H; exact H
   clear H
   have H := H1
   clear H1
   replace H := Option.bind_eq_some_iff.mp H
   obtain ⟨A9, AV, H⟩ := H
   replace H : (if A9 = true then (spec_boGood.j0 k ((l0_2.length : Int) != (wrap64 (a0_0 * a0_1))) a0_0 a0_1 l0_2) else (spec_boGood.j0 k true a0_0 a0_1 l0_2)) = some r := H
   have A6 := Z.m AV
   clear AV
   by_cases c7 : A9 = true
   ·subst c7
    have H1 : (spec_boGood.j0 k ((l0_2.length : Int) != (wrap64 (a0_0 * a0_1))) a0_0 a0_1 l0_2) = some r := by rw [if_pos rfl] at H; exact H
    clear H
    have H := H1
    clear H1
    have H' := Z.m H
    clear H
    have AH := bc0 A0
    have AI := bc1 A0
    have AJ := bc2 A0
    have AN := qz A0.o 0
    have AO := qz A0.o 1
    have AP := qz A0.o 2
    go_wp2_with (first | ((with_reducible refine gc (f := 38) rfl ?_); refine gA (some 7) _ #[.int .i64 a0_0, .int .i64 1, .int .i64 10] ?_ Tryd.func38; (with_reducible refine (spec_l1In.calls a0_0 1 10 true _ A4.o).mono ?_); rintro e w' ⟨rfl, ⟨nd, rfl⟩⟩; refine ⟨_, rfl, ?_⟩) | (go_at_call 38; (with_reducible refine (spec_l1In.calls a0_1 1 9 true _ A6.o).mono ?_); rintro e w' ⟨rfl, ⟨nd, rfl⟩⟩))
    go_meet
    case rel => exact ⟨_, (((l0_2.length : Int) != (wrap64 (a0_0 * a0_1)))), (by first | rfl | (simp; done) | (simp [*]; done)), H', ⟨by first | omega | exact Nat.le_refl _⟩, ⟨vK A0⟩, ⟨vB HB⟩⟩
   ·replace c7 := Bool.eq_false_iff.mpr c7
    subst c7
    have H1 : (spec_boGood.j0 k true a0_0 a0_1 l0_2) = some r := by rw [if_neg (show ¬ (false = true) by decide)] at H; exact H
    clear H
    have H := H1
    clear H1
    have H' := Z.m H
    clear H
    have AK := bc0 A0
    have AL := bc1 A0
    have AM := bc2 A0
    have AQ := qz A0.o 0
    have AR := qz A0.o 1
    have AS := qz A0.o 2
    go_wp2_with (first | ((with_reducible refine gc (f := 38) rfl ?_); refine gA (some 7) _ #[.int .i64 a0_0, .int .i64 1, .int .i64 10] ?_ Tryd.func38; (with_reducible refine (spec_l1In.calls a0_0 1 10 true _ A4.o).mono ?_); rintro e w' ⟨rfl, ⟨nd, rfl⟩⟩; refine ⟨_, rfl, ?_⟩) | (go_at_call 38; (with_reducible refine (spec_l1In.calls a0_1 1 9 false _ A6.o).mono ?_); rintro e w' ⟨rfl, ⟨nd, rfl⟩⟩))
    go_meet
    case rel => exact ⟨_, (true), (by first | rfl | (simp; done) | (simp [*]; done)), H', ⟨by first | omega | exact Nat.le_refl _⟩, ⟨vK A0⟩, ⟨vB HB⟩⟩
  ·replace c5 := Bool.eq_false_iff.mpr c5
   subst c5
   have H1 : (spec_boGood.j0 k true a0_0 a0_1 l0_2) = some r := by rw [if_neg (show ¬ (false = true) by decide)] at H; exact H
   clear H
   have H := H1
   clear H1
   have H' := Z.m H
   clear H
   have As := bc0 A0
   have At := bc1 A0
   have Au := bc2 A0
   have Az := qz A0.o 0
   have AA := qz A0.o 1
   have AB := qz A0.o 2
   go_wp2_with (first | ((with_reducible refine gc (f := 38) rfl ?_); refine gA (some 7) _ #[.int .i64 a0_0, .int .i64 1, .int .i64 10] ?_ Tryd.func38; (with_reducible refine (spec_l1In.calls a0_0 1 10 false _ A4.o).mono ?_); rintro e w' ⟨rfl, ⟨nd, rfl⟩⟩; refine ⟨_, rfl, ?_⟩))
   go_meet
   case rel => exact ⟨_, (true), (by first | rfl | (simp; done) | (simp [*]; done)), H', ⟨by first | omega | exact Nat.le_refl _⟩, ⟨vK A0⟩, ⟨vB HB⟩⟩
 case rest =>
  clear AG
  obtain ⟨kq, Ab, rfl, HA, AY, A0, HB⟩ := hcut
  cases kq with
  | zero => exact absurd HA.o (by simp [spec_boGood.j0])
  | succ kj1 =>
   have H := HA.o
   clear HA
   simp only [spec_boGood.j0] at H
   by_cases c11 : Ab = true
   ·subst c11
    have H1 : (some false) = some r := by rw [if_pos rfl] at H; exact H
    clear H
    have H := H1
    clear H1
    obtain rfl := Option.some.inj H
    go_wp2
    go_ret
    exact ⟨by first | rfl | (simp [eN, eS] <;> rfl) | (simp [*, eN, eS] <;> rfl), vB HB⟩
   ·replace c11 := Bool.eq_false_iff.mpr c11
    subst c11
    have H1 : (spec_boGood.l0 kj1 l0_2 (l0_2.length : Int) 0) = some r := by rw [if_neg (show ¬ (false = true) by decide)] at H; exact H
    clear H
    have H := H1
    clear H1
    have H' := Z.m H
    clear H
    have Af := bc0 A0
    have Ag := bc1 A0
    have Ah := bc2 A0
    have Ai := qz A0.o 0
    have Aj := qz A0.o 1
    have Ak := qz A0.o 2
    go_wp2
    go_loopg [29] kj1 (fun kq v29 w' => ∃ (A1 : Int), v29 = .int .i64 A1 ∧ Z (spec_boGood.l0 kq l0_2 (l0_2.length : Int) A1 = some r) ∧ Z (kq ≤ kj1) ∧ Z (w'.heap[Aa]? = some (.cells #[.int .i64 a0_0, .int .i64 a0_1, (.slice A0_2 l0_2.length c0_2)] 24 (0, 0))) ∧ Z (Below w.heap.size w w'))
    case atStart => exact ⟨(0), (by first | rfl | (simp; done) | (simp [*]; done)), H', ⟨Nat.le_refl _⟩, ⟨vK A0⟩, ⟨vB HB⟩⟩
    case round =>
     clear H'
     (try clear c11)
     (try clear Af); (try clear Ag); (try clear Ah); (try clear Ai); (try clear Aj); (try clear Ak)
     obtain ⟨A1, rfl, HA, AZ, A0, HB⟩ := hrel
     cases gk with
     | zero => exact absurd HA.o (by simp [spec_boGood.l0])
     | succ k2 =>
      have H := HA.o
      clear HA
      simp only [spec_boGood.l0] at H
      by_cases c13 : A1 < (l0_2.length : Int)
      ·rw [if_pos c13] at H
       have Aq := decide_eq_true c13
       clear c13
       by_cases c14 : 0 ≤ A1
       ·rw [if_pos c14] at H
        have B0 := decide_eq_true c14
        clear c14
        by_cases c15 : A1 < (l0_2.length : Int)
        ·rw [if_pos c15] at H
         have B1 := decide_eq_true c15
         clear c15
         replace H := Option.bind_eq_some_iff.mp H
         obtain ⟨Ar, An, H⟩ := H
         replace H : (if Ar = true then (spec_boGood.l0 k2 l0_2 (l0_2.length : Int) (wrap64 (A1 + 1))) else (some false)) = some r := H
         have AT := Z.m An
         clear An
         by_cases c17 : Ar = true
         ·subst c17
          have H1 : (spec_boGood.l0 k2 l0_2 (l0_2.length : Int) (wrap64 (A1 + 1))) = some r := by rw [if_pos rfl] at H; exact H
          clear H
          have H := H1
          clear H1
          have H' := Z.m H
          clear H
          have p151 : 0 ≤ (A1 : Int) := ofD
          have q151 : A1 < (l0_2.length : Int) := ofD
          obtain ⟨Ad, e151, A5, A7⟩ := at_T62 Am.o A1 p151 q151
          cases e151
          replace A5 := (HB.o.cell (World.block_lt_of_cell? w _ A5)).trans A5
          replace A7 := (HB.o.cell (World.block_lt_of_cell? w _ A7)).trans A7
          replace p151 := eq_true p151
          replace q151 := eq_true q151
          go_wp2_with (first | ((with_reducible refine gq (N := 4) rfl ?_); (try (refine gate_guard (by rfl) ?_; dsimp only)); refine be (N := 4) (cs := #[.int .i64 0, .int .i64 0]) (t := 62) ?_; intro Ae hg Ba hbox hb; have A2 := Z.m (hbox); have Ac := gW (w := w) HB hg; have Ao := Ac; have A3 := neL A0 hg; have A8 := neG A0 hg; replace A0 := kB A0 hb; replace HB := bB HB hb; clear hb hbox hg; have B2 := A8.o; have B4 := A3.o; have Av := bc0 A2; have Aw := bc1 A2; have AC := qz A2.o 0; have AD := qz A2.o 1) | ((with_reducible refine gc (f := 47) rfl ?_); refine gA (some 34) _ #[.agg #[.int .i64 ((rd_T62 l0_2 A1).f0), .int .i64 ((rd_T62 l0_2 A1).f1)]] ?_ Tryd.func47; (with_reducible refine (spec_paGood.calls ((rd_T62 l0_2 A1).f0) ((rd_T62 l0_2 A1).f1) true _ AT.o).mono ?_); rintro e Bb ⟨rfl, hb⟩; refine ⟨_, rfl, ?_⟩; replace A0 := Z.m (qb (g := Aa) (o := .cells #[.int .i64 a0_0, .int .i64 a0_1, .slice (some Ad) l0_2.length c0_2] 24 (0, 0)) (by refine bK ?_; (iterate 2 refine qF ?_ A3); exact A0.o) hb); replace A2 := Z.m (qb (g := Ae) (o := .cells #[.int .i64 ((rd_T62 l0_2 A1).f0), .int .i64 ((rd_T62 l0_2 A1).f1)] 62 (0, 0)) (by refine bK ?_; refine qp (cs := #[iV ((rd_T62 l0_2 A1).f0), iV 0]) ?_ 1 _ rfl; refine bK ?_; refine qp (cs := #[iV 0, iV 0]) ?_ 0 _ rfl; refine bK ?_; exact A2.o) hb); replace HB := bB HB hb; (try clear hb); (try clear B7); (try clear hk); (try clear hi)))
          go_roundg k2
          case measure => have := AY.o; have := AZ.o; omega
          case rel => exact ⟨(wrap64 (A1 + 1)), (by first | rfl | (simp; done) | (simp [*]; done)), H', ⟨by have := AY.o; have := AZ.o; omega⟩, ⟨vK A0⟩, ⟨vB HB⟩⟩
         ·replace c17 := Bool.eq_false_iff.mpr c17
          subst c17
          have H1 : (some false) = some r := by rw [if_neg (show ¬ (false = true) by decide)] at H; exact H
          clear H
          have H := H1
          clear H1
          obtain rfl := Option.some.inj H
          have p151 : 0 ≤ (A1 : Int) := ofD
          have q151 : A1 < (l0_2.length : Int) := ofD
          obtain ⟨Ad, e151, A5, A7⟩ := at_T62 Am.o A1 p151 q151
          cases e151
          replace A5 := (HB.o.cell (World.block_lt_of_cell? w _ A5)).trans A5
          replace A7 := (HB.o.cell (World.block_lt_of_cell? w _ A7)).trans A7
          replace p151 := eq_true p151
          replace q151 := eq_true q151
          go_wp2_with (first | ((with_reducible refine gq (N := 4) rfl ?_); (try (refine gate_guard (by rfl) ?_; dsimp only)); refine be (N := 4) (cs := #[.int .i64 0, .int .i64 0]) (t := 62) ?_; intro Ae hg Bc hbox hb; have A2 := Z.m (hbox); have Ac := gW (w := w) HB hg; have Ao := Ac; have A3 := neL A0 hg; have A8 := neG A0 hg; replace A0 := kB A0 hb; replace HB := bB HB hb; clear hb hbox hg; have B3 := A8.o; have B5 := A3.o; have Ax := bc0 A2; have Ay := bc1 A2; have AE := qz A2.o 0; have AF := qz A2.o 1) | ((with_reducible refine gc (f := 47) rfl ?_); refine gA (some 34) _ #[.agg #[.int .i64 ((rd_T62 l0_2 A1).f0), .int .i64 ((rd_T62 l0_2 A1).f1)]] ?_ Tryd.func47; (with_reducible refine (spec_paGood.calls ((rd_T62 l0_2 A1).f0) ((rd_T62 l0_2 A1).f1) false _ AT.o).mono ?_); rintro e Bd ⟨rfl, hb⟩; refine ⟨_, rfl, ?_⟩; replace A0 := Z.m (qb (g := Aa) (o := .cells #[.int .i64 a0_0, .int .i64 a0_1, .slice (some Ad) l0_2.length c0_2] 24 (0, 0)) (by refine bK ?_; (iterate 2 refine qF ?_ A3); exact A0.o) hb); replace A2 := Z.m (qb (g := Ae) (o := .cells #[.int .i64 ((rd_T62 l0_2 A1).f0), .int .i64 ((rd_T62 l0_2 A1).f1)] 62 (0, 0)) (by refine bK ?_; refine qp (cs := #[iV ((rd_T62 l0_2 A1).f0), iV 0]) ?_ 1 _ rfl; refine bK ?_; refine qp (cs := #[iV 0, iV 0]) ?_ 0 _ rfl; refine bK ?_; exact A2.o) hb); replace HB := bB HB hb; (try clear hb); (try clear B7); (try clear hk); (try clear hi)))
          go_ret
          exact ⟨by first | rfl | (simp [eN, eS] <;> rfl) | (simp [*, eN, eS] <;> rfl), vB HB⟩
        ·rw [if_neg c15] at H
         exact absurd H (by simp)
       ·rw [if_neg c14] at H
        exact absurd H (by simp)
      ·rw [if_neg c13] at H
       have Aq := decide_eq_false c13
       clear c13
       obtain rfl := Option.some.inj H
       go_wp2
       go_ret
       exact ⟨by first | rfl | (simp [eN, eS] <;> rfl) | (simp [*, eN, eS] <;> rfl), vB HB⟩

/-! ### spec_boParse: function 15 -/
mutual
def spec_boParse.j0 : Nat → ByteArray → List ByteArray → Bool → Option (Int × Int × (List (S62)) × Bool)
 | 0, _, _, _ => none
 | k + 1, x0, x4, x21 => if x21 = true then (some (0, 0, ([] : List (S62)), false)) else (if 0 < (x4.length : Int) then (if 0 ≤ (wrap64 ((x4.length : Int) - 1)) then (if (wrap64 ((x4.length : Int) - 1)) ≤ (x4.length : Int) then ((some (x4.take ((wrap64 ((x4.length : Int) - 1)) : Int).toNat : List ByteArray)).bind fun y161 => (spec_boParse.l0 k x0 y161 (y161.length : Int) 0 (wrap64 ((x4.length : Int) - 1)) ((rdOf ByteArray.empty x4 0).size : Int) ([] : List (S62)))) else (none)) else (none)) else (none))
def spec_boParse.l0 : Nat → ByteArray → List ByteArray → Int → Int → Int → Int → List (S62) → Option (Int × Int × (List (S62)) × Bool)
 | 0, _, _, _, _, _, _, _ => none
 | k + 1, x0, x35, x36, x37, x161000, x161001, x161002 => if x37 < x36 then (if 0 ≤ x37 then (if x37 < (x35.length : Int) then ((spec_paCells.f k (rdOf ByteArray.empty x35 x37)).bind fun bt166 => (if bt166.2 = true then (if ((rdOf ByteArray.empty x35 x37).size : Int) = x161001 then (if x161002.length + bt166.1.length < 8796093022208 then (spec_boParse.l0 k x0 x35 x36 (wrap64 (x37 + 1)) x161000 x161001 (x161002 ++ bt166.1)) else (none)) else (some (0, 0, ([] : List (S62)), false))) else (some (0, 0, ([] : List (S62)), false)))) else (none)) else (none)) else ((spec_boGood.f k x161000 x161001 x161002).bind fun t173 => (if t173 = true then ((spec_boText.f k x161000 x161001 x161002).bind fun t174 => (if t174.toList = x0.toList then (some (x161000, x161001, x161002, true)) else (some (0, 0, ([] : List (S62)), false)))) else (some (0, 0, ([] : List (S62)), false))))
end
def spec_boParse.f (k : Nat) (a0 : ByteArray) : Option (Int × Int × (List (S62)) × Bool) := (spec_l1Split.f k a0 10).bind fun t155 => (if (t155.length : Int) > 11 then (spec_boParse.j0 k a0 t155 true) else (if 0 < (t155.length : Int) then (spec_boParse.j0 k a0 t155 (decide (((rdOf ByteArray.empty t155 0).size : Int) > 9))) else (none)))
set_option maxHeartbeats 8000000 in
set_option maxRecDepth 100000 in
theorem spec_boParse.calls (k : Nat) (a0 : ByteArray) (r1 : Int) (r2 : Int) (r3 : List (S62)) (r4 : Bool) (w : World) (h : spec_boParse.f k a0 = some (r1, r2, r3, r4)) :
 Calls Tryd.prog 15 #[.string a0] w fun e w' => ∃ v2_ : Value, e = .returned (.tuple #[.agg #[.int .i64 r1, .int .i64 r2, v2_], .bool r4]) ∧ Kd.R k62 62 w' w.heap.size (fun _ => True) v2_ r3 ∧ Below w.heap.size w w' := by
 have Dr := Tryd.underlying24
 have HB := Z.m (Below.refl w.heap.size w)
 have H : ((spec_l1Split.f k a0 10).bind fun A5 => (if (A5.length : Int) > 11 then (spec_boParse.j0 k a0 A5 true) else (if 0 < (A5.length : Int) then (spec_boParse.j0 k a0 A5 (decide (((rdOf ByteArray.empty A5 0).size : Int) > 9))) else (none)))) = some (r1, r2, r3, r4) := h
 clear h
 replace H := Option.bind_eq_some_iff.mp H
 obtain ⟨A5, CX, H⟩ := H
 replace H : (if (A5.length : Int) > 11 then (spec_boParse.j0 k a0 A5 true) else (if 0 < (A5.length : Int) then (spec_boParse.j0 k a0 A5 (decide (((rdOf ByteArray.empty A5 0).size : Int) > 9))) else (none))) = some (r1, r2, r3, r4) := H
 have A2 := Z.m CX
 clear CX
 have CK := Z.m H
 clear H
 go_enter Tryd.func15, Tryd.ntmps15
 go_upto_region 2 with (first | ((with_reducible refine gq (N := 2) rfl ?_); (try (refine gate_guard (by rfl) ?_; dsimp only)); refine be (N := 2) (cs := #[.int .i64 0, .int .i64 0, .slice none 0 0]) (t := 24) ?_; intro Ae hg w4 hbox hb; have A3 := Z.m (hbox); have AO := gW (w := w) HB hg; have CZ := AO; replace HB := bB HB hb; clear hb hbox hg) | ((with_reducible refine gc (f := 29) rfl ?_); refine gA (some 11) _ #[.string a0, .int .u8 10] ?_ Tryd.func29; (with_reducible refine (spec_l1Split.calls k a0 10 A5 _ A2.o).mono ?_); rintro e w5 ⟨CW, rfl, As, hb⟩; refine ⟨_, rfl, ?_⟩; have Am := Z.m (Kd.R_lower As (below_size (vB HB))); replace A3 := kB A3 hb; replace HB := bB HB hb; (try clear hb); (try clear AF); (try clear hk); (try clear hi); (try clear As)))
 (try simp only [Act.put, q1, q2, q3])
 go_cut [21] (fun v21 wc => ∃ (kq : Nat) (Av : Bool), v21 = .bool Av ∧ Z (spec_boParse.j0 kq a0 A5 Av = some (r1, r2, r3, r4)) ∧ Z (kq ≤ k) ∧ Z (Kd.R Kd.string 9 wc w.heap.size (fun _ => True) CW A5) ∧ Z (wc.heap[Ae]? = some (.cells #[.int .i64 0, .int .i64 0, (.slice none 0 0)] 24 (0, 0))) ∧ Z (Below w.heap.size w wc))
 case first =>
  have H := CK.o
  clear CK
  by_cases c6 : (A5.length : Int) > 11
  ·rw [if_pos c6] at H
   have Aw := decide_eq_true c6
   have CL : decide (11 < A5.length) = true := decide_eq_true (by omega)
   clear c6
   (first | rw [Aw] | (simp only [i64_w, i32_w]; rw [Aw]) | skip)
   have H' := Z.m H
   clear H
   obtain ⟨Du, Dw, Dp⟩ := Kd.R_slice Am.o
   subst Dp
   go_wp2
   go_meet
   case rel => exact ⟨_, (true), (by first | rfl | (simp; done) | (simp [*]; done)), H', ⟨by first | omega | exact Nat.le_refl _⟩, ⟨vR Am⟩, ⟨vK A3⟩, ⟨vB HB⟩⟩
  ·rw [if_neg c6] at H
   have Aw := decide_eq_false c6
   have CL : decide (11 < A5.length) = false := decide_eq_false (by omega)
   clear c6
   (first | rw [Aw] | (simp only [i64_w, i32_w]; rw [Aw]) | skip)
   by_cases c8 : 0 < (A5.length : Int)
   ·rw [if_pos c8] at H
    have Dn := decide_eq_true c8
    have Do : decide (0 < A5.length) = true := decide_eq_true (by omega)
    clear c8
    have H' := Z.m H
    clear H
    obtain ⟨Dv, Dx, Dq⟩ := Kd.R_slice Am.o
    subst Dq
    have p158 : 0 ≤ (0 : Int) := (by omega)
    have q158 : 0 < (A5.length : Int) := ofD
    obtain ⟨D5, e158, At⟩ := Kd.at_string (Kd.RrZ Am.o).2.2 0 p158 q158
    cases e158
    have qi158 : (0 < A5.length) = True := eq_true (by omega)
    (try rw [show ((0 : Int)).toNat = 0 from rfl] at At)
    (try rw [Addr.add_zero'] at At)
    replace p158 := eq_true p158
    replace q158 := eq_true q158
    go_wp2
    go_meet
    case rel => exact ⟨_, (decide (((rdOf ByteArray.empty A5 0).size : Int) > 9)), (by first | rfl | (simp; done) | (simp [*]; done)), H', ⟨by first | omega | exact Nat.le_refl _⟩, ⟨vR Am⟩, ⟨vK A3⟩, ⟨vB HB⟩⟩
   ·rw [if_neg c8] at H
    exact absurd H (by simp)
 case rest =>
  clear CK
  obtain ⟨kq, Av, rfl, HA, D2, Ak, A3, HB⟩ := hcut
  cases kq with
  | zero => exact absurd HA.o (by simp [spec_boParse.j0])
  | succ kj2 =>
   have H := HA.o
   clear HA
   simp only [spec_boParse.j0] at H
   by_cases c10 : Av = true
   ·subst c10
    have H1 : (some (0, 0, ([] : List (S62)), false)) = some (r1, r2, r3, r4) := by rw [if_pos rfl] at H; exact H
    clear H
    have H := H1
    clear H1
    simp only [Option.some.injEq, Prod.mk.injEq] at H
    obtain ⟨rfl, rfl, rfl, rfl⟩ := H
    have B9 := bc0 A3
    have Ba := bc1 A3
    have Bb := bc2 A3
    have BS := qz A3.o 0
    have BT := qz A3.o 1
    have BU := qz A3.o 2
    go_wp2
    refine bodyPost_ret (results_ct rfl _ _ Ae 24 #[.int .i64 0, .int .i64 0, .slice none 0 0] (0, 0) _ rfl (by refine bK ?_; apply st3; refine bK ?_; exact A3.o) Tryd.underlying24 rfl (by kernel_rfl)) rfl ?_
    exact ⟨_, by first | rfl | (simp [eN, eS] <;> rfl) | (simp [*, eN, eS] <;> rfl), by first | exact Kd.R_nil _ _ _ _ _ | exact Kd.N_nil _ _ _ _ _ | exact Kd.V_nil _ _ _ _ _ | exact Kd.Q_nil _ _ _ _ _ | exact Kd.S_nil _ _ _ _ _, vB HB⟩
   ·replace c10 := Bool.eq_false_iff.mpr c10
    subst c10
    have H1 : (if 0 < (A5.length : Int) then (if 0 ≤ (wrap64 ((A5.length : Int) - 1)) then (if (wrap64 ((A5.length : Int) - 1)) ≤ (A5.length : Int) then ((some (A5.take ((wrap64 ((A5.length : Int) - 1)) : Int).toNat : List ByteArray)).bind fun A9 => (spec_boParse.l0 kj2 a0 A9 (A9.length : Int) 0 (wrap64 ((A5.length : Int) - 1)) ((rdOf ByteArray.empty A5 0).size : Int) ([] : List (S62)))) else (none)) else (none)) else (none)) = some (r1, r2, r3, r4) := by rw [if_neg (show ¬ (false = true) by decide)] at H; exact H
    clear H
    have H := H1
    clear H1
    by_cases c12 : 0 < (A5.length : Int)
    ·rw [if_pos c12] at H
     have AS := decide_eq_true c12
     have AT : decide (0 < A5.length) = true := decide_eq_true (by omega)
     clear c12
     obtain ⟨A7, Ab⟩ : ∃ j_ : Int, (wrap64 ((A5.length : Int) - 1)) = j_ := ⟨_, rfl⟩
     replace H : (if 0 ≤ (A7) then (if (A7) ≤ (A5.length : Int) then ((some (A5.take ((A7) : Int).toNat : List ByteArray)).bind fun A9 => (spec_boParse.l0 kj2 a0 A9 (A9.length : Int) 0 A7 ((rdOf ByteArray.empty A5 0).size : Int) ([] : List (S62)))) else (none)) else (none)) = some (r1, r2, r3, r4) := by first | (rw [Ab] at H; exact H) | (simp only [Ab] at H ⊢; exact H)
     have hji13w : (IntKind.i64.wrap ((A5.length : Int) - 1)) = A7 := (i64_w _).trans Ab
     by_cases c14 : 0 ≤ (A7)
     ·rw [if_pos c14] at H
      have AU := eq_true c14
      have AV := decide_eq_true c14
      clear c14
      by_cases c15 : (A7) ≤ (A5.length : Int)
      ·rw [if_pos c15] at H
       have AW := eq_true c15
       have AX := decide_eq_true c15
       clear c15
       obtain ⟨A9, Ap⟩ : ∃ y_ : List ByteArray, y_ = (A5.take ((A7) : Int).toNat) := ⟨_, rfl⟩
       replace H : (spec_boParse.l0 kj2 a0 A9 (A9.length : Int) 0 A7 ((rdOf ByteArray.empty A5 0).size : Int) ([] : List (S62))) = some (r1, r2, r3, r4) := by first | (rw [Ap]; with_reducible exact H) | (have H2_ := (Option.bind_some _ _).symm.trans H; rw [Ap]; with_reducible exact H2_) | (have H2_ := (Option.bind_some _ _).symm.trans H; with_reducible exact H2_) | with_reducible exact H | (rw [Ap]; exact H) | exact H
       have An := Z.m Ap
       clear Ap
       have H' := Z.m H
       clear H
       obtain ⟨Dm, Ax, CQ⟩ := Kd.R_slice Ak.o
       subst CQ
       have p159 : 0 ≤ (0 : Int) := (by omega)
       have q159 : 0 < (A5.length : Int) := ofD
       obtain ⟨Ah, e159, Al⟩ := Kd.at_string (Kd.RrZ Ak.o).2.2 0 p159 q159
       cases e159
       have qi159 : (0 < A5.length) = True := eq_true (by omega)
       (try rw [show ((0 : Int)).toNat = 0 from rfl] at Al)
       (try rw [Addr.add_zero'] at Al)
       replace p159 := eq_true p159
       replace q159 := eq_true q159
       go_wp2_with (first | ((with_reducible refine gq (N := 5) rfl ?_); (try (refine gate_guard (by rfl) ?_; dsimp only)); refine be (N := 5) (cs := #[.int .i64 0, .int .i64 0, .slice none 0 0]) (t := 24) ?_; intro Aj hg Dt hbox hb; have A1 := Z.m (hbox); have AP := gW (w := w) HB hg; have D0 := AP; have A8 := neL A3 hg; have Aa := neG A3 hg; replace Ak := Z.m (Kd.Rb (vR Ak) hb); replace A3 := kB A3 hb; replace HB := bB HB hb; clear hb hbox hg; have D8 := Aa.o; have Df := A8.o; have Ay := bc0 A1; have Az := bc1 A1; have AA := bc2 A1; have AB := qz A1.o 0; have AC := qz A1.o 1; have AD := qz A1.o 2) | ((with_reducible refine gt (t := 24) (p := 5) rfl ?_); refine store_event (t := 24) (p := 5) (v := ?vo_w20) (w1 := (((Dt.setCell ⟨Aj, 0, none⟩ (.int .i64 A7)).setCell ⟨Aj, 1, none⟩ (.int .i64 ((rdOf ByteArray.empty A5 0).size : Int))).setCell ⟨Aj, 2, none⟩ (.slice none 0 0))) ?hg ?ho ?hn ?hr ?_; (case ho => rfl); (case hg => rfl); (case hn => rfl); (case hr => first | (go_simp; done) | (go_simp; rfl)); intro CD hw; replace Ak : Z (Kd.R Kd.string 9 CD w.heap.size (fun _ => True) (.slice (some Ah) A5.length Ax) A5) := ⟨(by rw [hw]; exact (by refine rK ?_; exact Kd.Rm (rf (rf (rf (Kd.Ry Ak.o A1.o (by decide))))) (fun _ hk => trivial)))⟩; replace A3 : Z (CD.heap[Ae]? = some (.cells #[.int .i64 0, .int .i64 0, .slice none 0 0] 24 (0, 0))) := ⟨(by rw [hw]; exact (by refine bK ?_; (iterate 3 refine qF ?_ A8); exact A3.o))⟩; replace A1 : Z (CD.heap[Aj]? = some (.cells #[.int .i64 A7, .int .i64 ((rdOf ByteArray.empty A5 0).size : Int), .slice none 0 0] 24 (0, 0))) := ⟨(by rw [hw]; exact (by refine bK ?_; apply st3; refine bK ?_; exact A1.o))⟩; replace HB : Z (Below w.heap.size w CD) := ⟨(by rw [hw]; exact (vB HB))⟩; clear hw; have q21 : ((A7) : Int) ≤ ((A5.length : Int) : Int) := ofD; obtain ⟨i021, hi021, _, hsz21, _⟩ := info_parts info9; have hroom21 : A5.length ≤ Ax := (Kd.RrZ Ak.o).2.1; have hC21 : Kd.C Kd.string _ (some Ah) A5.length A5 := (Kd.RrZ Ak.o).2.2; have hcut21 := cut_to (P := Tryd.prog) 43 9 .i64 Tryd.underlying43 hi021 (some Ah) A5.length Ax (A7) (ofD) q21 hroom21; have AH := Kd.C_take (m := ((A7) : Int).toNat) hC21 (by omega); have AI : A9.length = ((A7) : Int).toNat := (by rw [An.o, List.length_take]; omega); rw [← An.o] at AH; rw [← AI] at hcut21; have D4 := Z.m AH; have D1 := Z.m (show A9.length ≤ Ax from by omega); clear AH hC21 hroom21 hi021 hsz21; have KY21 := Z.m AI; clear AI; have KL21 := Z.m (show ((A7) : Int).toNat ≤ A5.length from by omega); replace q21 := eq_true q21))
       go_loopg [37] kj2 (fun kq v37 w' => ∃ (A6 : Int) (Ac : Int) (Ad : Int) (A4 : List (S62)) (u161002 : Value), v37 = .int .i64 A6 ∧ Z (spec_boParse.l0 kq a0 A9 (A9.length : Int) A6 A7 ((rdOf ByteArray.empty A5 0).size : Int) A4 = some (r1, r2, r3, r4)) ∧ Z (kq ≤ kj2) ∧ Z (Kd.R Kd.string 9 w' w.heap.size (fun _ => True) (.slice (some Ah) A5.length Ax) A5) ∧ Z (Kd.R k62 62 w' w.heap.size (fun _ => True) u161002 A4) ∧ Z (w'.heap[Ae]? = some (.cells #[.int .i64 Ac, .int .i64 Ad, (.slice none 0 0)] 24 (0, 0))) ∧ Z (w'.heap[Aj]? = some (.cells #[.int .i64 A7, .int .i64 ((rdOf ByteArray.empty A5 0).size : Int), u161002] 24 (0, 0))) ∧ Z (Below w.heap.size w w'))
       case atStart => exact ⟨(0), (0), (0), (([] : List (S62))), (.slice none 0 0), (by first | rfl | (simp; done) | (simp [*]; done)), H', ⟨Nat.le_refl _⟩, ⟨vR Ak⟩, ⟨by first | exact Kd.R_nil _ _ _ _ _ | exact Kd.N_nil _ _ _ _ _ | exact Kd.V_nil _ _ _ _ _ | exact Kd.Q_nil _ _ _ _ _ | exact Kd.S_nil _ _ _ _ _⟩, ⟨vK A3⟩, ⟨vK A1⟩, ⟨vB HB⟩⟩
       case round =>
        clear H'
        (try clear c10); (try clear AS); (try clear AT); (try clear AU); (try clear AV); (try clear AW); (try clear AX); (try clear q21)
        (try clear Ay); (try clear Az); (try clear AA); (try clear AB); (try clear AC); (try clear AD); (try clear Al); (try clear p159); (try clear q159)
        obtain ⟨A6, Ac, Ad, A4, u161002, rfl, HA, D3, Af, A0, A3, A1, HB⟩ := hrel
        cases gk with
        | zero => exact absurd HA.o (by simp [spec_boParse.l0])
        | succ k2 =>
         have H := HA.o
         clear HA
         simp only [spec_boParse.l0] at H
         by_cases c22 : A6 < (A9.length : Int)
         ·rw [if_pos c22] at H
          have AY := decide_eq_true c22
          clear c22
          by_cases c23 : 0 ≤ A6
          ·rw [if_pos c23] at H
           have D6 := decide_eq_true c23
           clear c23
           by_cases c24 : A6 < (A9.length : Int)
           ·rw [if_pos c24] at H
            have D7 := decide_eq_true c24
            clear c24
            replace H := Option.bind_eq_some_iff.mp H
            obtain ⟨⟨Ai, B5⟩, AK, H⟩ := H
            replace H : (if B5 = true then (if ((rdOf ByteArray.empty A9 A6).size : Int) = ((rdOf ByteArray.empty A5 0).size : Int) then (if A4.length + Ai.length < 8796093022208 then (spec_boParse.l0 k2 a0 A9 (A9.length : Int) (wrap64 (A6 + 1)) A7 ((rdOf ByteArray.empty A5 0).size : Int) (A4 ++ Ai)) else (none)) else (some (0, 0, ([] : List (S62)), false))) else (some (0, 0, ([] : List (S62)), false))) = some (r1, r2, r3, r4) := H
            have CE := Z.m AK
            clear AK
            by_cases c26 : B5 = true
            ·subst c26
             have H1 : (if ((rdOf ByteArray.empty A9 A6).size : Int) = ((rdOf ByteArray.empty A5 0).size : Int) then (if A4.length + Ai.length < 8796093022208 then (spec_boParse.l0 k2 a0 A9 (A9.length : Int) (wrap64 (A6 + 1)) A7 ((rdOf ByteArray.empty A5 0).size : Int) (A4 ++ Ai)) else (none)) else (some (0, 0, ([] : List (S62)), false))) = some (r1, r2, r3, r4) := by rw [if_pos rfl] at H; exact H
             clear H
             have H := H1
             clear H1
             by_cases c27 : ((rdOf ByteArray.empty A9 A6).size : Int) = ((rdOf ByteArray.empty A5 0).size : Int)
             ·rw [if_pos c27] at H
              have AZ := beq_iff_eq.mpr c27
              have B0 := bne_eq_false_iff_eq.mpr c27
              have B1 : ((rdOf ByteArray.empty A9 A6).size == (rdOf ByteArray.empty A5 0).size) = true := by first | simpa using c27 | (simp at c27 ⊢; omega)
              clear c27
              by_cases c28 : A4.length + Ai.length < 8796093022208
              ·rw [if_pos c28] at H
               have AQ := Z.m c28
               clear c28
               obtain ⟨AJ, Aq⟩ : ∃ y_ : List (S62), y_ = (A4 ++ Ai) := ⟨_, rfl⟩
               replace H : (spec_boParse.l0 k2 a0 A9 (A9.length : Int) (wrap64 (A6 + 1)) A7 ((rdOf ByteArray.empty A5 0).size : Int) AJ) = some (r1, r2, r3, r4) := by first | (rw [Aq]; with_reducible exact H) | (have H2_ := (Option.bind_some _ _).symm.trans H; rw [Aq]; with_reducible exact H2_) | (have H2_ := (Option.bind_some _ _).symm.trans H; with_reducible exact H2_) | with_reducible exact H | (rw [Aq]; exact H) | exact H
               have AR := Z.m Aq
               clear Aq
               have H' := Z.m H
               clear H
               have p165 : 0 ≤ (A6 : Int) := ofD
               have q165 : A6 < (A9.length : Int) := ofD
               have AG := Kd.C_take (m := ((A7) : Int).toNat) (Kd.RrZ Af.o).2.2 KL21.o
               rw [← An.o] at AG
               obtain ⟨Ao, e165, Au⟩ := Kd.at_string AG A6 p165 q165
               obtain rfl : Ah = Ao := (by injection e165)
               replace p165 := eq_true p165
               replace q165 := eq_true q165
               go_wp2_with (first | ((with_reducible refine gc (f := 30) rfl ?_); refine gA (some 43) _ #[.string (rdOf ByteArray.empty A9 A6)] ?_ Tryd.func30; (with_reducible refine (spec_paCells.calls k2 (rdOf ByteArray.empty A9 A6) Ai true _ CE.o).mono ?_); rintro e Dy ⟨B8, rfl, As, hb⟩; refine ⟨_, rfl, ?_⟩; have Ag := Z.m (Kd.R_lower (Kd.R_new' As (Kd.R_lt (vR A0))) (below_size (vB HB))); replace A0 := Z.m (Kd.R_elder' (vR A0) (Kd.R_base As) hb); replace A3 := kB A3 hb; replace A1 := kB A1 hb; replace HB := bB HB hb; replace Af := Z.m (Kd.Rb (vR Af) hb); (try clear hb); (try clear AF); (try clear hk); (try clear hi); (try clear As); have D9 := Aa.o; have Dg := A8.o; have Bc := bc0 A1; have Bd := bc1 A1; have Be := bc2 A1; have BV := qz A1.o 0; have BW := qz A1.o 1; have BX := qz A1.o 2; obtain ⟨CG, CM, CR⟩ := Kd.R_slice Ag.o; subst CR) | ((with_reducible refine gu (b := .append) (xs := #[.tmp 57, .tmp 58]) rfl ?_); (try (refine gate_guard (by rfl) ?_; dsimp only)); at_builtin; refine Kd.R_append_rows k62 (w0 := w) w.heap.size rfl (.tmp 57) (.tmp 58) 22 62 (.agg #[(.int .i64 0), (.int .i64 0)]) 16 rfl Tryd.underlying22 info62 rfl (by decide) (by omega) u161002 A4 Ai _ _ _ (fun k_ => some k_ ≠ (.slice CG Ai.length CM : Value).ownBlock) (fun _ => False) rfl rfl ?aO ?aR (fun _ _ h => h) (fun _ h => h.elim) ?aF ?aB ?aS ?aL ?_; (case aR => repeat (first | exact (Kd.RrZ Ag.o).2.2 | (with_reducible refine Kd.C_alloc ?_ _) | (with_reducible refine Kd.C_drewN ?_ _) | (with_reducible refine Kd.C_drew ?_))); (case aB => exact (vB HB)); (case aF => exact (fun k_ hk => Kd.fresh' (Kd.R_lt (vR Ag)) k_ hk)); (case aO => exact (by refine rK ?_; exact Kd.Rm A0.o (fun _ hk => hk.2))); (case aS => exact (below_size (vB HB))); (case aL => have := AQ.o; omega); intro Ds Dz ho hb hg hat; rw [← AR.o] at ho; have AE := Z.m (ho); replace A3 := Z.m (qg (g := Ae) (o := .cells #[.int .i64 Ac, .int .i64 Ad, .slice none 0 0] 24 (0, 0)) (vK A3) hg (Kd.R_ne A0.o A3.o (by decide))); replace A1 := Z.m (qg (g := Aj) (o := .cells #[.int .i64 A7, .int .i64 ((rdOf ByteArray.empty A5 0).size : Int), u161002] 24 (0, 0)) (vK A1) hg (Kd.R_ne A0.o A1.o (by decide))); replace Ag := Z.m (Kd.R_after (ok := (fun _ => True)) (vR Ag) hg hat); replace HB := Z.m (hb); replace Af := Z.m (Kd.Ro (vR Af) (Kd.Rt (vR A0)) (by decide) hg); clear A0; clear ho hb hg hat; obtain ⟨CH, CN, CS⟩ := Kd.R_slice AE.o; subst CS; have Bf := bc0 A1; have Bg := bc1 A1; have Bh := bc2 A1; have BY := qz A1.o 0; have BZ := qz A1.o 1; have C0 := qz A1.o 2))
               go_roundg k2
               case measure => have := D2.o; have := D3.o; omega
               case rel => exact ⟨(wrap64 (A6 + 1)), (Ac), (Ad), (AJ), (.slice CH AJ.length CN), (by first | rfl | (simp; done) | (simp [*]; done)), H', ⟨by have := D2.o; have := D3.o; omega⟩, ⟨by refine rK ?_; exact Kd.Rm (rf (Kd.Ry Af.o A1.o (by decide))) (fun _ hk => trivial)⟩, ⟨by refine rK ?_; exact Kd.Rm (rf (Kd.Ry AE.o A1.o (by decide))) (fun _ hk => trivial)⟩, ⟨by refine bK ?_; refine qF ?_ A8; exact A3.o⟩, ⟨by refine bK ?_; refine qp (cs := #[iV A7, iV ((rdOf ByteArray.empty A5 0).size : Int), u161002]) ?_ 2 _ rfl; refine bK ?_; exact A1.o⟩, ⟨vB HB⟩⟩
              ·rw [if_neg c28] at H
               exact absurd H (by simp)
             ·rw [if_neg c27] at H
              have AZ := beq_eq_false_iff_ne.mpr c27
              have B0 := bne_iff_ne.mpr c27
              have B1 : ((rdOf ByteArray.empty A9 A6).size == (rdOf ByteArray.empty A5 0).size) = false := by first | simpa using c27 | (simp at c27 ⊢; omega)
              simp only [Option.some.injEq, Prod.mk.injEq] at H
              obtain ⟨rfl, rfl, rfl, rfl⟩ := H
              have p165 : 0 ≤ (A6 : Int) := ofD
              have q165 : A6 < (A9.length : Int) := ofD
              have AG := Kd.C_take (m := ((A7) : Int).toNat) (Kd.RrZ Af.o).2.2 KL21.o
              rw [← An.o] at AG
              obtain ⟨Ao, e165, Au⟩ := Kd.at_string AG A6 p165 q165
              obtain rfl : Ah = Ao := (by injection e165)
              replace p165 := eq_true p165
              replace q165 := eq_true q165
              go_wp2_with (first | ((with_reducible refine gc (f := 30) rfl ?_); refine gA (some 43) _ #[.string (rdOf ByteArray.empty A9 A6)] ?_ Tryd.func30; (with_reducible refine (spec_paCells.calls k2 (rdOf ByteArray.empty A9 A6) Ai true _ CE.o).mono ?_); rintro e DA ⟨B8, rfl, As, hb⟩; refine ⟨_, rfl, ?_⟩; have Ag := Z.m (Kd.R_lower (Kd.R_new' As (Kd.R_lt (vR A0))) (below_size (vB HB))); replace A0 := Z.m (Kd.R_elder' (vR A0) (Kd.R_base As) hb); replace A3 := kB A3 hb; replace A1 := kB A1 hb; replace HB := bB HB hb; (try clear hb); (try clear AF); (try clear hk); (try clear hi); (try clear As); have Da := Aa.o; have Dh := A8.o; have Bi := bc0 A1; have Bj := bc1 A1; have Bk := bc2 A1; have C1 := qz A1.o 0; have C2 := qz A1.o 1; have C3 := qz A1.o 2; have Bl := bc0 A3; have Bm := bc1 A3; have Bn := bc2 A3; have C4 := qz A3.o 0; have C5 := qz A3.o 1; have C6 := qz A3.o 2))
              refine bodyPost_ret (results_ct rfl _ _ Ae 24 #[.int .i64 0, .int .i64 0, .slice none 0 0] (0, 0) _ rfl (by refine bK ?_; apply st3; refine bK ?_; exact A3.o) Tryd.underlying24 rfl (by kernel_rfl)) rfl ?_
              exact ⟨_, by first | rfl | (simp [eN, eS] <;> rfl) | (simp only [← Ab]; first | rfl | (simp [eN, eS] <;> rfl)) | (simp [*, eN, eS] <;> rfl), by first | exact Kd.R_nil _ _ _ _ _ | exact Kd.N_nil _ _ _ _ _ | exact Kd.V_nil _ _ _ _ _ | exact Kd.Q_nil _ _ _ _ _ | exact Kd.S_nil _ _ _ _ _, vB HB⟩
            ·replace c26 := Bool.eq_false_iff.mpr c26
             subst c26
             have H1 : (some (0, 0, ([] : List (S62)), false)) = some (r1, r2, r3, r4) := by rw [if_neg (show ¬ (false = true) by decide)] at H; exact H
             clear H
             have H := H1
             clear H1
             simp only [Option.some.injEq, Prod.mk.injEq] at H
             obtain ⟨rfl, rfl, rfl, rfl⟩ := H
             have p165 : 0 ≤ (A6 : Int) := ofD
             have q165 : A6 < (A9.length : Int) := ofD
             have AG := Kd.C_take (m := ((A7) : Int).toNat) (Kd.RrZ Af.o).2.2 KL21.o
             rw [← An.o] at AG
             obtain ⟨Ao, e165, Au⟩ := Kd.at_string AG A6 p165 q165
             obtain rfl : Ah = Ao := (by injection e165)
             replace p165 := eq_true p165
             replace q165 := eq_true q165
             go_wp2_with (first | ((with_reducible refine gc (f := 30) rfl ?_); refine gA (some 43) _ #[.string (rdOf ByteArray.empty A9 A6)] ?_ Tryd.func30; (with_reducible refine (spec_paCells.calls k2 (rdOf ByteArray.empty A9 A6) Ai false _ CE.o).mono ?_); rintro e DB ⟨B8, rfl, As, hb⟩; refine ⟨_, rfl, ?_⟩; have Ag := Z.m (Kd.R_lower (Kd.R_new' As (Kd.R_lt (vR A0))) (below_size (vB HB))); replace A0 := Z.m (Kd.R_elder' (vR A0) (Kd.R_base As) hb); replace A3 := kB A3 hb; replace A1 := kB A1 hb; replace HB := bB HB hb; (try clear hb); (try clear AF); (try clear hk); (try clear hi); (try clear As); have Db := A8.o; have Di := Aa.o; have Bo := bc0 A3; have Bp := bc1 A3; have Bq := bc2 A3; have C7 := qz A3.o 0; have C8 := qz A3.o 1; have C9 := qz A3.o 2))
             refine bodyPost_ret (results_ct rfl _ _ Ae 24 #[.int .i64 0, .int .i64 0, .slice none 0 0] (0, 0) _ rfl (by refine bK ?_; apply st3; refine bK ?_; exact A3.o) Tryd.underlying24 rfl (by kernel_rfl)) rfl ?_
             exact ⟨_, by first | rfl | (simp [eN, eS] <;> rfl) | (simp only [← Ab]; first | rfl | (simp [eN, eS] <;> rfl)) | (simp [*, eN, eS] <;> rfl), by first | exact Kd.R_nil _ _ _ _ _ | exact Kd.N_nil _ _ _ _ _ | exact Kd.V_nil _ _ _ _ _ | exact Kd.Q_nil _ _ _ _ _ | exact Kd.S_nil _ _ _ _ _, vB HB⟩
           ·rw [if_neg c24] at H
            exact absurd H (by simp)
          ·rw [if_neg c23] at H
           exact absurd H (by simp)
         ·rw [if_neg c22] at H
          have AY := decide_eq_false c22
          clear c22
          replace H := Option.bind_eq_some_iff.mp H
          obtain ⟨B7, AL, H⟩ := H
          replace H : (if B7 = true then ((spec_boText.f k2 A7 ((rdOf ByteArray.empty A5 0).size : Int) A4).bind fun Ar => (if Ar.toList = a0.toList then (some (A7, ((rdOf ByteArray.empty A5 0).size : Int), A4, true)) else (some (0, 0, ([] : List (S62)), false)))) else (some (0, 0, ([] : List (S62)), false))) = some (r1, r2, r3, r4) := H
          have CF := Z.m AL
          clear AL
          by_cases c44 : B7 = true
          ·subst c44
           have H1 : ((spec_boText.f k2 A7 ((rdOf ByteArray.empty A5 0).size : Int) A4).bind fun Ar => (if Ar.toList = a0.toList then (some (A7, ((rdOf ByteArray.empty A5 0).size : Int), A4, true)) else (some (0, 0, ([] : List (S62)), false)))) = some (r1, r2, r3, r4) := by rw [if_pos rfl] at H; exact H
           clear H
           have H := H1
           clear H1
           replace H := Option.bind_eq_some_iff.mp H
           obtain ⟨Ar, AM, H⟩ := H
           replace H : (if Ar.toList = a0.toList then (some (A7, ((rdOf ByteArray.empty A5 0).size : Int), A4, true)) else (some (0, 0, ([] : List (S62)), false))) = some (r1, r2, r3, r4) := H
           have CY := Z.m AM
           clear AM
           by_cases c46 : Ar.toList = a0.toList
           ·rw [if_pos c46] at H
            have B2 := beq_iff_eq.mpr c46
            have B3 := bne_eq_false_iff_eq.mpr c46
            clear c46
            simp only [Option.some.injEq, Prod.mk.injEq] at H
            obtain ⟨rfl, rfl, rfl, rfl⟩ := H
            have Dc := Aa.o
            have Dj := A8.o
            have Br := bc0 A1
            have Bs := bc1 A1
            have Bt := bc2 A1
            have Ca := qz A1.o 0
            have Cb := qz A1.o 1
            have Cd := qz A1.o 2
            obtain ⟨AN, B4, CT⟩ := Kd.R_slice A0.o
            subst CT
            go_wp2_with (first | ((with_reducible refine gc (f := 31) rfl ?_); refine goesL_ (some 63) rfl rfl Tryd.func31 (by kernel_rfl) rfl #[.agg #[.int .i64 A7, .int .i64 ((rdOf ByteArray.empty A5 0).size : Int), .slice AN A4.length B4]] rfl (by (try simp only [List.map_toArray, List.map_cons, List.map_nil]); first | done | (simp only [Ab]; rfl) | rfl | (simp only [List.length_drop, List.length_take]; rfl)) ?_; (with_reducible refine (spec_boGood.calls k2 A7 ((rdOf ByteArray.empty A5 0).size : Int) _ _ A4 true _ ?side1 ?side2 CF.o).mono ?_); (case side1 => repeat (first | exact (Kd.RrZ A0.o).2.2 | (with_reducible refine Kd.C_alloc ?_ _) | (with_reducible refine Kd.C_drewN ?_ _) | (with_reducible refine Kd.C_drew ?_))); (case side2 => exact (Kd.RrZ A0.o).2.1); rintro e DC ⟨rfl, hb⟩; refine ⟨_, rfl, ?_⟩; replace A0 := Z.m (Kd.Rb (vR A0) hb); replace A3 := kB A3 hb; replace A1 := kB A1 hb; replace HB := bB HB hb; (try clear hb); (try clear AF); (try clear hk); (try clear hi); have Bu := bc0 A1; have Bv := bc1 A1; have Bw := bc2 A1; have Ce := qz A1.o 0; have Cf := qz A1.o 1; have Cg := qz A1.o 2) | (go_at_call 24; (with_reducible refine (spec_boText.calls k2 A7 ((rdOf ByteArray.empty A5 0).size : Int) _ _ A4 Ar _ ?side1 ?side2 CY.o).mono ?_); (case side1 => repeat (first | exact (Kd.RrZ A0.o).2.2 | (with_reducible refine Kd.C_alloc ?_ _) | (with_reducible refine Kd.C_drewN ?_ _) | (with_reducible refine Kd.C_drew ?_))); (case side2 => exact (Kd.RrZ A0.o).2.1); rintro e DD ⟨rfl, hb⟩; replace A0 := Z.m (Kd.Rb (vR A0) hb); replace A3 := kB A3 hb; replace A1 := kB A1 hb; replace HB := bB HB hb; (try clear hb); (try clear AF); (try clear hk); (try clear hi); have Bx := bc0 A1; have By := bc1 A1; have Bz := bc2 A1; have Ch := qz A1.o 0; have Ci := qz A1.o 1; have Cj := qz A1.o 2; have BA := bc0 A3; have BB := bc1 A3; have BC := bc2 A3; have Cl := qz A3.o 0; have Cm := qz A3.o 1; have Cn := qz A3.o 2))
            refine bodyPost_ret (results_ct rfl _ _ Ae 24 #[.int .i64 A7, .int .i64 ((rdOf ByteArray.empty A5 0).size : Int), .slice AN A4.length B4] (0, 0) _ rfl (by refine bK ?_; apply st3; refine bK ?_; exact A3.o) Tryd.underlying24 rfl (by kernel_rfl)) rfl ?_
            exact ⟨_, by first | rfl | (simp [eN, eS] <;> rfl) | (simp only [← Ab]; first | rfl | (simp [eN, eS] <;> rfl)) | (simp [*, eN, eS] <;> rfl), by refine rK ?_; exact Kd.Rm (rf (rf (rf (Kd.Ry A0.o A3.o (by decide))))) (fun _ hk => trivial), vB HB⟩
           ·rw [if_neg c46] at H
            have B2 := beq_eq_false_iff_ne.mpr c46
            have B3 := bne_iff_ne.mpr c46
            simp only [Option.some.injEq, Prod.mk.injEq] at H
            obtain ⟨rfl, rfl, rfl, rfl⟩ := H
            have Dd := Aa.o
            have Dk := A8.o
            have BD := bc0 A1
            have BE := bc1 A1
            have BF := bc2 A1
            have Co := qz A1.o 0
            have Cp := qz A1.o 1
            have Cq := qz A1.o 2
            obtain ⟨CI, CO, CU⟩ := Kd.R_slice A0.o
            subst CU
            go_wp2_with (first | ((with_reducible refine gc (f := 31) rfl ?_); refine goesL_ (some 63) rfl rfl Tryd.func31 (by kernel_rfl) rfl #[.agg #[.int .i64 A7, .int .i64 ((rdOf ByteArray.empty A5 0).size : Int), .slice CI A4.length CO]] rfl (by (try simp only [List.map_toArray, List.map_cons, List.map_nil]); first | done | (simp only [Ab]; rfl) | rfl | (simp only [List.length_drop, List.length_take]; rfl)) ?_; (with_reducible refine (spec_boGood.calls k2 A7 ((rdOf ByteArray.empty A5 0).size : Int) _ _ A4 true _ ?side1 ?side2 CF.o).mono ?_); (case side1 => repeat (first | exact (Kd.RrZ A0.o).2.2 | (with_reducible refine Kd.C_alloc ?_ _) | (with_reducible refine Kd.C_drewN ?_ _) | (with_reducible refine Kd.C_drew ?_))); (case side2 => exact (Kd.RrZ A0.o).2.1); rintro e DE ⟨rfl, hb⟩; refine ⟨_, rfl, ?_⟩; replace A0 := Z.m (Kd.Rb (vR A0) hb); replace A3 := kB A3 hb; replace A1 := kB A1 hb; replace HB := bB HB hb; (try clear hb); (try clear AF); (try clear hk); (try clear hi); have BG := bc0 A1; have BH := bc1 A1; have BI := bc2 A1; have Cr := qz A1.o 0; have Cs := qz A1.o 1; have Ct := qz A1.o 2) | (go_at_call 24; (with_reducible refine (spec_boText.calls k2 A7 ((rdOf ByteArray.empty A5 0).size : Int) _ _ A4 Ar _ ?side1 ?side2 CY.o).mono ?_); (case side1 => repeat (first | exact (Kd.RrZ A0.o).2.2 | (with_reducible refine Kd.C_alloc ?_ _) | (with_reducible refine Kd.C_drewN ?_ _) | (with_reducible refine Kd.C_drew ?_))); (case side2 => exact (Kd.RrZ A0.o).2.1); rintro e DF ⟨rfl, hb⟩; replace A0 := Z.m (Kd.Rb (vR A0) hb); replace A3 := kB A3 hb; replace A1 := kB A1 hb; replace HB := bB HB hb; (try clear hb); (try clear AF); (try clear hk); (try clear hi); have BJ := bc0 A3; have BK := bc1 A3; have BL := bc2 A3; have Cu := qz A3.o 0; have Cv := qz A3.o 1; have Cw := qz A3.o 2))
            refine bodyPost_ret (results_ct rfl _ _ Ae 24 #[.int .i64 0, .int .i64 0, .slice none 0 0] (0, 0) _ rfl (by refine bK ?_; apply st3; refine bK ?_; exact A3.o) Tryd.underlying24 rfl (by kernel_rfl)) rfl ?_
            exact ⟨_, by first | rfl | (simp [eN, eS] <;> rfl) | (simp only [← Ab]; first | rfl | (simp [eN, eS] <;> rfl)) | (simp [*, eN, eS] <;> rfl), by first | exact Kd.R_nil _ _ _ _ _ | exact Kd.N_nil _ _ _ _ _ | exact Kd.V_nil _ _ _ _ _ | exact Kd.Q_nil _ _ _ _ _ | exact Kd.S_nil _ _ _ _ _, vB HB⟩
          ·replace c44 := Bool.eq_false_iff.mpr c44
           subst c44
           have H1 : (some (0, 0, ([] : List (S62)), false)) = some (r1, r2, r3, r4) := by rw [if_neg (show ¬ (false = true) by decide)] at H; exact H
           clear H
           have H := H1
           clear H1
           simp only [Option.some.injEq, Prod.mk.injEq] at H
           obtain ⟨rfl, rfl, rfl, rfl⟩ := H
           have De := Aa.o
           have Dl := A8.o
           have BM := bc0 A1
           have BN := bc1 A1
           have BO := bc2 A1
           have Cx := qz A1.o 0
           have Cy := qz A1.o 1
           have Cz := qz A1.o 2
           obtain ⟨CJ, CP, CV⟩ := Kd.R_slice A0.o
           subst CV
           go_wp2_with (first | ((with_reducible refine gc (f := 31) rfl ?_); refine goesL_ (some 63) rfl rfl Tryd.func31 (by kernel_rfl) rfl #[.agg #[.int .i64 A7, .int .i64 ((rdOf ByteArray.empty A5 0).size : Int), .slice CJ A4.length CP]] rfl (by (try simp only [List.map_toArray, List.map_cons, List.map_nil]); first | done | (simp only [Ab]; rfl) | rfl | (simp only [List.length_drop, List.length_take]; rfl)) ?_; (with_reducible refine (spec_boGood.calls k2 A7 ((rdOf ByteArray.empty A5 0).size : Int) _ _ A4 false _ ?side1 ?side2 CF.o).mono ?_); (case side1 => repeat (first | exact (Kd.RrZ A0.o).2.2 | (with_reducible refine Kd.C_alloc ?_ _) | (with_reducible refine Kd.C_drewN ?_ _) | (with_reducible refine Kd.C_drew ?_))); (case side2 => exact (Kd.RrZ A0.o).2.1); rintro e DG ⟨rfl, hb⟩; refine ⟨_, rfl, ?_⟩; replace A0 := Z.m (Kd.Rb (vR A0) hb); replace A3 := kB A3 hb; replace A1 := kB A1 hb; replace HB := bB HB hb; (try clear hb); (try clear AF); (try clear hk); (try clear hi); have BP := bc0 A3; have BQ := bc1 A3; have BR := bc2 A3; have CA := qz A3.o 0; have CB := qz A3.o 1; have CC := qz A3.o 2))
           refine bodyPost_ret (results_ct rfl _ _ Ae 24 #[.int .i64 0, .int .i64 0, .slice none 0 0] (0, 0) _ rfl (by refine bK ?_; apply st3; refine bK ?_; exact A3.o) Tryd.underlying24 rfl (by kernel_rfl)) rfl ?_
           exact ⟨_, by first | rfl | (simp [eN, eS] <;> rfl) | (simp only [← Ab]; first | rfl | (simp [eN, eS] <;> rfl)) | (simp [*, eN, eS] <;> rfl), by first | exact Kd.R_nil _ _ _ _ _ | exact Kd.N_nil _ _ _ _ _ | exact Kd.V_nil _ _ _ _ _ | exact Kd.Q_nil _ _ _ _ _ | exact Kd.S_nil _ _ _ _ _, vB HB⟩
      ·rw [if_neg c15] at H
       exact absurd H (by simp)
     ·rw [if_neg c14] at H
      exact absurd H (by simp)
    ·rw [if_neg c12] at H
     exact absurd H (by simp)

/-! ### spec_ParseBoard: function 5 -/
def spec_ParseBoard.f (k : Nat) (a0 : ByteArray) : Option (Int × Int × (List (S62)) × Bool) := (spec_boParse.f k a0).bind fun bt176 => (some (bt176.1, bt176.2.1, bt176.2.2.1, bt176.2.2.2))
set_option maxHeartbeats 8000000 in
set_option maxRecDepth 100000 in
theorem spec_ParseBoard.calls (k : Nat) (a0 : ByteArray) (r1 : Int) (r2 : Int) (r3 : List (S62)) (r4 : Bool) (w : World) (h : spec_ParseBoard.f k a0 = some (r1, r2, r3, r4)) :
 Calls Tryd.prog 5 #[.string a0] w fun e w' => ∃ v2_ : Value, e = .returned (.tuple #[.agg #[.int .i64 r1, .int .i64 r2, v2_], .bool r4]) ∧ Kd.R k62 62 w' w.heap.size (fun _ => True) v2_ r3 ∧ Below w.heap.size w w' := by
 have Al := Tryd.underlying24
 have HB := Z.m (Below.refl w.heap.size w)
 have H : ((spec_boParse.f k a0).bind fun bt176 => (some (bt176.1, bt176.2.1, bt176.2.2.1, bt176.2.2.2))) = some (r1, r2, r3, r4) := h
 clear h
 replace H := Option.bind_eq_some_iff.mp H
 obtain ⟨⟨A3, A4, A5, A8⟩, Af, H⟩ := H
 replace H : (some (A3, A4, A5, A8)) = some (r1, r2, r3, r4) := H
 have A2 := Z.m Af
 clear Af
 simp only [Option.some.injEq, Prod.mk.injEq] at H
 obtain ⟨rfl, rfl, rfl, rfl⟩ := H
 go_enter Tryd.func5, Tryd.ntmps5
 go_wp2_with (first | ((with_reducible refine gq (N := 2) rfl ?_); refine be (N := 2) (cs := #[.int .i64 0, .int .i64 0, .slice none 0 0]) (t := 24) ?_; intro A7 hg w3 hbox hb; have A0 := Z.m (hbox); have A6 := gW (w := w) HB hg; have Ag := A6; replace HB := bB HB hb; clear hb hbox hg) | ((with_reducible refine gc (f := 15) rfl ?_); refine gA (some 5) _ #[.string a0] ?_ Tryd.func15; (with_reducible refine (spec_boParse.calls k a0 A3 A4 A5 A8 _ A2.o).mono ?_); rintro e w4 ⟨Am, rfl, Ah, hb⟩; refine ⟨_, rfl, ?_⟩; have A1 := Z.m (Kd.R_lower Ah (below_size (vB HB))); replace A0 := kB A0 hb; replace HB := bB HB hb; (try clear hb); (try clear An); (try clear hk); (try clear hi); (try clear Ah); have A9 := bc0 A0; have Aa := bc1 A0; have Ab := bc2 A0; have Ac := qz A0.o 0; have Ad := qz A0.o 1; have Ae := qz A0.o 2; obtain ⟨Ai, Aj, Ak⟩ := Kd.R_slice A1.o; subst Ak))
 refine bodyPost_ret (results_ct rfl _ _ A7 24 #[.int .i64 A3, .int .i64 A4, .slice Ai A5.length Aj] (0, 0) _ rfl (by refine bK ?_; apply st3; refine bK ?_; exact A0.o) Tryd.underlying24 rfl (by kernel_rfl)) rfl ?_
 exact ⟨_, by first | rfl | (simp [eN, eS] <;> rfl) | (simp [*, eN, eS] <;> rfl), by refine rK ?_; exact Kd.Rm (rf (rf (rf (Kd.Ry A1.o A0.o (by decide))))) (fun _ hk => trivial), vB HB⟩

end Go.Proofs.YtklmdnlambinaaaDoor.PAll
