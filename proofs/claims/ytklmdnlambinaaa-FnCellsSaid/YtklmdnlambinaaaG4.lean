/- Began as a text that print.sh wrote (of the functions named below); turned and shortened by this session. -/
import Derived.Test.YtklmdnlambinaaaG0
import Derived.Test.YtklmdnlambinaaaG1
namespace Go.Proofs.Ytklmdnlambinaaa.PAll
open Go.RowKit Go.Proofs.YtklmdnlambinaaaW.PrintWords Go.Proofs.YtklmdnlambinaaaW.PrintLast Go.Proofs.YtklmdnlambinaaaW.PrintMore
attribute [local go_sem] max2_int min2_int max_two min_two max_three min_three max_four min_four   -- for this text's walks alone
set_option linter.unusedVariables false
set_option linter.unusedSimpArgs false

/-! ### impl_IsCell: function 13 -/
def impl_IsCell.f (a0_0 : Int) (a0_1 : Int) : Option (Bool) := if a0_0 < 0 then (some false) else (if a0_0 > 7 then (some false) else (if a0_1 < 0 then (some false) else (if a0_1 > 1 then (some false) else (if a0_1 = 0 then (some true) else (if a0_0 = 3 then (some true) else (some (a0_0 == 6)))))))
set_option maxHeartbeats 8000000 in
set_option maxRecDepth 100000 in
theorem impl_IsCell.calls (a0_0 : Int) (a0_1 : Int) (r : Bool) (w : World) (h : impl_IsCell.f a0_0 a0_1 = some r) :
 Calls Try.prog 13 #[.agg #[.int .i64 a0_0, .int .i64 a0_1]] w fun e w' => e = .returned (.bool r) ∧ Below w.heap.size w w' := by
 have AE := Try.underlying25
 have HB := Z.m (Below.refl w.heap.size w)
 have H : (if a0_0 < 0 then (some false) else (if a0_0 > 7 then (some false) else (if a0_1 < 0 then (some false) else (if a0_1 > 1 then (some false) else (if a0_1 = 0 then (some true) else (if a0_0 = 3 then (some true) else (some (a0_0 == 6)))))))) = some r := h
 clear h
 by_cases c2 : a0_0 < 0
 ·rw [if_pos c2] at H
  have At := decide_eq_true c2
  clear c2
  obtain rfl := Option.some.inj H
  go_enter Try.func13, Try.ntmps13
  go_wp2_with (first | ((with_reducible refine gq (N := 1) rfl ?_); refine be (N := 1) (cs := #[.int .i64 a0_0, .int .i64 a0_1]) (t := 25) ?_; intro A3 hg w3 hbox hb; have A0 := Z.m (hbox); have A1 := gW (w := w) HB hg; have A2 := A1; replace HB := bB HB hb; clear hb hbox hg; have Aw := bc0 A0; have Ax := bc1 A0; have AA := qz A0.o 0; have AB := qz A0.o 1))
  go_ret
  exact ⟨by first | rfl | (simp [eN, eS] <;> rfl) | (simp [*, eN, eS] <;> rfl), vB HB⟩
 ·rw [if_neg c2] at H
  have At := decide_eq_false c2
  clear c2
  by_cases c5 : a0_0 > 7
  ·rw [if_pos c5] at H
   have Au := decide_eq_true c5
   clear c5
   obtain rfl := Option.some.inj H
   go_enter Try.func13, Try.ntmps13
   go_wp2_with (first | ((with_reducible refine gq (N := 1) rfl ?_); refine be (N := 1) (cs := #[.int .i64 a0_0, .int .i64 a0_1]) (t := 25) ?_; intro A3 hg w6 hbox hb; have A0 := Z.m (hbox); have A1 := gW (w := w) HB hg; have A2 := A1; replace HB := bB HB hb; clear hb hbox hg; have Ay := bc0 A0; have Az := bc1 A0; have AC := qz A0.o 0; have AD := qz A0.o 1))
   go_ret
   exact ⟨by first | rfl | (simp [eN, eS] <;> rfl) | (simp [*, eN, eS] <;> rfl), vB HB⟩
  ·rw [if_neg c5] at H
   have Au := decide_eq_false c5
   clear c5
   by_cases c8 : a0_1 < 0
   ·rw [if_pos c8] at H
    have Av := decide_eq_true c8
    clear c8
    obtain rfl := Option.some.inj H
    go_enter Try.func13, Try.ntmps13
    go_wp2_with (first | ((with_reducible refine gq (N := 1) rfl ?_); refine be (N := 1) (cs := #[.int .i64 a0_0, .int .i64 a0_1]) (t := 25) ?_; intro A3 hg w9 hbox hb; have A0 := Z.m (hbox); have A1 := gW (w := w) HB hg; have A2 := A1; replace HB := bB HB hb; clear hb hbox hg; have A9 := bc0 A0; have Aa := bc1 A0; have Aj := qz A0.o 0; have Ak := qz A0.o 1))
    go_ret
    exact ⟨by first | rfl | (simp [eN, eS] <;> rfl) | (simp [*, eN, eS] <;> rfl), vB HB⟩
   ·rw [if_neg c8] at H
    have Av := decide_eq_false c8
    clear c8
    by_cases c11 : a0_1 > 1
    ·rw [if_pos c11] at H
     have A4 := decide_eq_true c11
     clear c11
     obtain rfl := Option.some.inj H
     go_enter Try.func13, Try.ntmps13
     go_wp2_with (first | ((with_reducible refine gq (N := 1) rfl ?_); refine be (N := 1) (cs := #[.int .i64 a0_0, .int .i64 a0_1]) (t := 25) ?_; intro A3 hg AF hbox hb; have A0 := Z.m (hbox); have A1 := gW (w := w) HB hg; have A2 := A1; replace HB := bB HB hb; clear hb hbox hg; have Ab := bc0 A0; have Ac := bc1 A0; have Al := qz A0.o 0; have Am := qz A0.o 1))
     go_ret
     exact ⟨by first | rfl | (simp [eN, eS] <;> rfl) | (simp [*, eN, eS] <;> rfl), vB HB⟩
    ·rw [if_neg c11] at H
     have A4 := decide_eq_false c11
     clear c11
     by_cases c14 : a0_1 = 0
     ·rw [if_pos c14] at H
      have A5 := beq_iff_eq.mpr c14
      have A6 := bne_eq_false_iff_eq.mpr c14
      clear c14
      obtain rfl := Option.some.inj H
      go_enter Try.func13, Try.ntmps13
      go_wp2_with (first | ((with_reducible refine gq (N := 1) rfl ?_); refine be (N := 1) (cs := #[.int .i64 a0_0, .int .i64 a0_1]) (t := 25) ?_; intro A3 hg AG hbox hb; have A0 := Z.m (hbox); have A1 := gW (w := w) HB hg; have A2 := A1; replace HB := bB HB hb; clear hb hbox hg; have Ad := bc0 A0; have Ae := bc1 A0; have An := qz A0.o 0; have Ao := qz A0.o 1))
      go_ret
      exact ⟨by first | rfl | (simp [eN, eS] <;> rfl) | (simp [*, eN, eS] <;> rfl), vB HB⟩
     ·rw [if_neg c14] at H
      have A5 := beq_eq_false_iff_ne.mpr c14
      have A6 := bne_iff_ne.mpr c14
      by_cases c17 : a0_0 = 3
      ·rw [if_pos c17] at H
       have A7 := beq_iff_eq.mpr c17
       have A8 := bne_eq_false_iff_eq.mpr c17
       clear c17
       obtain rfl := Option.some.inj H
       go_enter Try.func13, Try.ntmps13
       go_wp2_with (first | ((with_reducible refine gq (N := 1) rfl ?_); refine be (N := 1) (cs := #[.int .i64 a0_0, .int .i64 a0_1]) (t := 25) ?_; intro A3 hg AH hbox hb; have A0 := Z.m (hbox); have A1 := gW (w := w) HB hg; have A2 := A1; replace HB := bB HB hb; clear hb hbox hg; have Af := bc0 A0; have Ag := bc1 A0; have Ap := qz A0.o 0; have Aq := qz A0.o 1))
       go_ret
       exact ⟨by first | rfl | (simp [eN, eS] <;> rfl) | (simp [*, eN, eS] <;> rfl), vB HB⟩
      ·rw [if_neg c17] at H
       have A7 := beq_eq_false_iff_ne.mpr c17
       have A8 := bne_iff_ne.mpr c17
       obtain rfl := Option.some.inj H
       go_enter Try.func13, Try.ntmps13
       go_wp2_with (first | ((with_reducible refine gq (N := 1) rfl ?_); refine be (N := 1) (cs := #[.int .i64 a0_0, .int .i64 a0_1]) (t := 25) ?_; intro A3 hg AI hbox hb; have A0 := Z.m (hbox); have A1 := gW (w := w) HB hg; have A2 := A1; replace HB := bB HB hb; clear hb hbox hg; have Ah := bc0 A0; have Ai := bc1 A0; have Ar := qz A0.o 0; have As := qz A0.o 1))
       go_ret
       exact ⟨by first | rfl | (simp [eN, eS] <;> rfl) | (simp [*, eN, eS] <;> rfl), vB HB⟩

/-! ### impl_CellLetter: function 7 -/
def impl_CellLetter.f (a0_0 : Int) (a0_1 : Int) : Option (ByteArray × Bool) := (impl_IsCell.f a0_0 a0_1).bind fun t165 => (if t165 = true then (if a0_1 = 1 then (if 0 ≤ a0_0 then (if a0_0 ≤ (wrap64 (a0_0 + 1)) then (if (wrap64 (a0_0 + 1)) ≤ 8 then (some ((⟨#[46, 108, 114, 70, 120, 111, 71, 99]⟩ : ByteArray).extract (a0_0 : Int).toNat ((wrap64 (a0_0 + 1)) : Int).toNat, true)) else (none)) else (none)) else (none)) else (if 0 ≤ a0_0 then (if a0_0 ≤ (wrap64 (a0_0 + 1)) then (if (wrap64 (a0_0 + 1)) ≤ 8 then (some ((⟨#[46, 108, 114, 102, 120, 111, 103, 99]⟩ : ByteArray).extract (a0_0 : Int).toNat ((wrap64 (a0_0 + 1)) : Int).toNat, true)) else (none)) else (none)) else (none))) else (some ((⟨#[]⟩ : ByteArray), false)))
set_option maxHeartbeats 8000000 in
set_option maxRecDepth 100000 in
theorem impl_CellLetter.calls (a0_0 : Int) (a0_1 : Int) (r1 : ByteArray) (r2 : Bool) (w : World) (h : impl_CellLetter.f a0_0 a0_1 = some (r1, r2)) :
 Calls Try.prog 7 #[.agg #[.int .i64 a0_0, .int .i64 a0_1]] w fun e w' => e = .returned (.tuple #[.string r1, .bool r2]) ∧ Below w.heap.size w w' := by
 have AG := Try.underlying25
 have HB := Z.m (Below.refl w.heap.size w)
 have H : ((impl_IsCell.f a0_0 a0_1).bind fun A3 => (if A3 = true then (if a0_1 = 1 then (if 0 ≤ a0_0 then (if a0_0 ≤ (wrap64 (a0_0 + 1)) then (if (wrap64 (a0_0 + 1)) ≤ 8 then (some ((⟨#[46, 108, 114, 70, 120, 111, 71, 99]⟩ : ByteArray).extract (a0_0 : Int).toNat ((wrap64 (a0_0 + 1)) : Int).toNat, true)) else (none)) else (none)) else (none)) else (if 0 ≤ a0_0 then (if a0_0 ≤ (wrap64 (a0_0 + 1)) then (if (wrap64 (a0_0 + 1)) ≤ 8 then (some ((⟨#[46, 108, 114, 102, 120, 111, 103, 99]⟩ : ByteArray).extract (a0_0 : Int).toNat ((wrap64 (a0_0 + 1)) : Int).toNat, true)) else (none)) else (none)) else (none))) else (some ((⟨#[]⟩ : ByteArray), false)))) = some (r1, r2) := h
 clear h
 replace H := Option.bind_eq_some_iff.mp H
 obtain ⟨A3, As, H⟩ := H
 replace H : (if A3 = true then (if a0_1 = 1 then (if 0 ≤ a0_0 then (if a0_0 ≤ (wrap64 (a0_0 + 1)) then (if (wrap64 (a0_0 + 1)) ≤ 8 then (some ((⟨#[46, 108, 114, 70, 120, 111, 71, 99]⟩ : ByteArray).extract (a0_0 : Int).toNat ((wrap64 (a0_0 + 1)) : Int).toNat, true)) else (none)) else (none)) else (none)) else (if 0 ≤ a0_0 then (if a0_0 ≤ (wrap64 (a0_0 + 1)) then (if (wrap64 (a0_0 + 1)) ≤ 8 then (some ((⟨#[46, 108, 114, 102, 120, 111, 103, 99]⟩ : ByteArray).extract (a0_0 : Int).toNat ((wrap64 (a0_0 + 1)) : Int).toNat, true)) else (none)) else (none)) else (none))) else (some ((⟨#[]⟩ : ByteArray), false))) = some (r1, r2) := H
 have A2 := Z.m As
 clear As
 by_cases c3 : A3 = true
 ·subst c3
  have H1 : (if a0_1 = 1 then (if 0 ≤ a0_0 then (if a0_0 ≤ (wrap64 (a0_0 + 1)) then (if (wrap64 (a0_0 + 1)) ≤ 8 then (some ((⟨#[46, 108, 114, 70, 120, 111, 71, 99]⟩ : ByteArray).extract (a0_0 : Int).toNat ((wrap64 (a0_0 + 1)) : Int).toNat, true)) else (none)) else (none)) else (none)) else (if 0 ≤ a0_0 then (if a0_0 ≤ (wrap64 (a0_0 + 1)) then (if (wrap64 (a0_0 + 1)) ≤ 8 then (some ((⟨#[46, 108, 114, 102, 120, 111, 103, 99]⟩ : ByteArray).extract (a0_0 : Int).toNat ((wrap64 (a0_0 + 1)) : Int).toNat, true)) else (none)) else (none)) else (none))) = some (r1, r2) := by rw [if_pos rfl] at H; exact H
  clear H
  have H := H1
  clear H1
  by_cases c4 : a0_1 = 1
  ·rw [if_pos c4] at H
   have Am := beq_iff_eq.mpr c4
   have An := bne_eq_false_iff_eq.mpr c4
   clear c4
   by_cases c5 : 0 ≤ a0_0
   ·rw [if_pos c5] at H
    have AA := eq_true c5
    have AB := decide_eq_true c5
    clear c5
    by_cases c6 : a0_0 ≤ (wrap64 (a0_0 + 1))
    ·rw [if_pos c6] at H
     have AC := eq_true c6
     have AD := decide_eq_true c6
     by_cases c7 : (wrap64 (a0_0 + 1)) ≤ 8
     ·rw [if_pos c7] at H
      have AE := eq_true c7
      have AF := decide_eq_true c7
      simp only [Option.some.injEq, Prod.mk.injEq] at H
      obtain ⟨rfl, rfl⟩ := H
      go_enter Try.func7, Try.ntmps7
      go_wp2_with (first | ((with_reducible refine gq (N := 1) rfl ?_); refine be (N := 1) (cs := #[.int .i64 a0_0, .int .i64 a0_1]) (t := 25) ?_; intro A5 hg w8 hbox hb; have A0 := Z.m (hbox); have A1 := gW (w := w) HB hg; have A4 := A1; replace HB := bB HB hb; clear hb hbox hg; have Ao := bc0 A0; have Ap := bc1 A0; have Aq := qz A0.o 0; have Ar := qz A0.o 1) | ((with_reducible refine gc (f := 13) rfl ?_); refine gA (some 6) _ #[.agg #[.int .i64 a0_0, .int .i64 a0_1]] ?_ Try.func13; (with_reducible refine (impl_IsCell.calls a0_0 a0_1 true _ A2.o).mono ?_); rintro e AH ⟨rfl, hb⟩; refine ⟨_, rfl, ?_⟩; replace A0 := kB A0 hb; replace HB := bB HB hb; (try clear hb); (try clear Az); (try clear hk); (try clear hi); have A6 := bc0 A0; have A7 := bc1 A0; have Ae := qz A0.o 0; have Af := qz A0.o 1))
      go_ret2
      exact ⟨by first | rfl | (simp [eN, eS] <;> rfl) | (simp [*, eN, eS] <;> rfl), vB HB⟩
     ·rw [if_neg c7] at H
      exact absurd H (by simp)
    ·rw [if_neg c6] at H
     exact absurd H (by simp)
   ·rw [if_neg c5] at H
    exact absurd H (by simp)
  ·rw [if_neg c4] at H
   have Am := beq_eq_false_iff_ne.mpr c4
   have An := bne_iff_ne.mpr c4
   by_cases c12 : 0 ≤ a0_0
   ·rw [if_pos c12] at H
    have At := eq_true c12
    have Au := decide_eq_true c12
    clear c12
    by_cases c13 : a0_0 ≤ (wrap64 (a0_0 + 1))
    ·rw [if_pos c13] at H
     have Av := eq_true c13
     have Aw := decide_eq_true c13
     by_cases c14 : (wrap64 (a0_0 + 1)) ≤ 8
     ·rw [if_pos c14] at H
      have Ax := eq_true c14
      have Ay := decide_eq_true c14
      simp only [Option.some.injEq, Prod.mk.injEq] at H
      obtain ⟨rfl, rfl⟩ := H
      go_enter Try.func7, Try.ntmps7
      go_wp2_with (first | ((with_reducible refine gq (N := 1) rfl ?_); refine be (N := 1) (cs := #[.int .i64 a0_0, .int .i64 a0_1]) (t := 25) ?_; intro A5 hg AI hbox hb; have A0 := Z.m (hbox); have A1 := gW (w := w) HB hg; have A4 := A1; replace HB := bB HB hb; clear hb hbox hg; have A8 := bc0 A0; have A9 := bc1 A0; have Ag := qz A0.o 0; have Ah := qz A0.o 1) | ((with_reducible refine gc (f := 13) rfl ?_); refine gA (some 6) _ #[.agg #[.int .i64 a0_0, .int .i64 a0_1]] ?_ Try.func13; (with_reducible refine (impl_IsCell.calls a0_0 a0_1 true _ A2.o).mono ?_); rintro e AJ ⟨rfl, hb⟩; refine ⟨_, rfl, ?_⟩; replace A0 := kB A0 hb; replace HB := bB HB hb; (try clear hb); (try clear Az); (try clear hk); (try clear hi); have Aa := bc0 A0; have Ab := bc1 A0; have Ai := qz A0.o 0; have Aj := qz A0.o 1))
      go_ret2
      exact ⟨by first | rfl | (simp [eN, eS] <;> rfl) | (simp [*, eN, eS] <;> rfl), vB HB⟩
     ·rw [if_neg c14] at H
      exact absurd H (by simp)
    ·rw [if_neg c13] at H
     exact absurd H (by simp)
   ·rw [if_neg c12] at H
    exact absurd H (by simp)
 ·replace c3 := Bool.eq_false_iff.mpr c3
  subst c3
  have H1 : (some ((⟨#[]⟩ : ByteArray), false)) = some (r1, r2) := by rw [if_neg (show ¬ (false = true) by decide)] at H; exact H
  clear H
  have H := H1
  clear H1
  simp only [Option.some.injEq, Prod.mk.injEq] at H
  obtain ⟨rfl, rfl⟩ := H
  go_enter Try.func7, Try.ntmps7
  go_wp2_with (first | ((with_reducible refine gq (N := 1) rfl ?_); refine be (N := 1) (cs := #[.int .i64 a0_0, .int .i64 a0_1]) (t := 25) ?_; intro A5 hg AK hbox hb; have A0 := Z.m (hbox); have A1 := gW (w := w) HB hg; have A4 := A1; replace HB := bB HB hb; clear hb hbox hg; have Ac := bc0 A0; have Ad := bc1 A0; have Ak := qz A0.o 0; have Al := qz A0.o 1) | ((with_reducible refine gc (f := 13) rfl ?_); refine gA (some 6) _ #[.agg #[.int .i64 a0_0, .int .i64 a0_1]] ?_ Try.func13; (with_reducible refine (impl_IsCell.calls a0_0 a0_1 false _ A2.o).mono ?_); rintro e AL ⟨rfl, hb⟩; refine ⟨_, rfl, ?_⟩; replace A0 := kB A0 hb; replace HB := bB HB hb; (try clear hb); (try clear Az); (try clear hk); (try clear hi)))
  go_ret2
  exact ⟨by first | rfl | (simp [eN, eS] <;> rfl) | (simp [*, eN, eS] <;> rfl), vB HB⟩

/-! ### spec_l1In: function 45 -/
def spec_l1In.f (a0 : Int) (a1 : Int) (a2 : Int) : Option (Bool) := if a0 ≥ a1 then (some (decide (a0 ≤ a2))) else (some false)
set_option maxHeartbeats 8000000 in
set_option maxRecDepth 100000 in
theorem spec_l1In.calls (a0 : Int) (a1 : Int) (a2 : Int) (r : Bool) (w : World) (h : spec_l1In.f a0 a1 a2 = some r) :
 Calls Try.prog 45 #[.int .i64 a0, .int .i64 a1, .int .i64 a2] w fun e w' => e = .returned (.bool r) ∧ Drawn0 w w' := by
 have H : (if a0 ≥ a1 then (some (decide (a0 ≤ a2))) else (some false)) = some r := h
 clear h
 by_cases c4 : a0 ≥ a1
 ·rw [if_pos c4] at H
  have A0 := decide_eq_true c4
  clear c4
  obtain rfl := Option.some.inj H
  go_enter Try.func45, Try.ntmps45
  go_wp2
  go_ret
  exact ⟨by first | rfl | (simp; done) | (simp [*]; done), by repeat (first | exact Drawn0.refl _ | apply Drawn0.step)⟩
 ·rw [if_neg c4] at H
  have A0 := decide_eq_false c4
  clear c4
  obtain rfl := Option.some.inj H
  go_enter Try.func45, Try.ntmps45
  go_wp2
  go_ret
  exact ⟨by first | rfl | (simp; done) | (simp [*]; done), by repeat (first | exact Drawn0.refl _ | apply Drawn0.step)⟩

/-! ### spec_paGood: function 38 -/
def spec_paGood.f (a0_0 : Int) (a0_1 : Int) : Option (Bool) := (spec_l1In.f a0_0 0 7).bind fun t167 => (if t167 = true then (if a0_1 = 0 then (some true) else (if a0_1 = 1 then ((spec_paTurning.f a0_0 a0_1).bind fun t168 => (some t168)) else (some false))) else (some false))
set_option maxHeartbeats 8000000 in
set_option maxRecDepth 100000 in
theorem spec_paGood.calls (a0_0 : Int) (a0_1 : Int) (r : Bool) (w : World) (h : spec_paGood.f a0_0 a0_1 = some r) :
 Calls Try.prog 38 #[.agg #[.int .i64 a0_0, .int .i64 a0_1]] w fun e w' => e = .returned (.bool r) ∧ Below w.heap.size w w' := by
 have Au := Try.underlying25
 have HB := Z.m (Below.refl w.heap.size w)
 have H : ((spec_l1In.f a0_0 0 7).bind fun A6 => (if A6 = true then (if a0_1 = 0 then (some true) else (if a0_1 = 1 then ((spec_paTurning.f a0_0 a0_1).bind fun A3 => (some A3)) else (some false))) else (some false))) = some r := h
 clear h
 replace H := Option.bind_eq_some_iff.mp H
 obtain ⟨A6, As, H⟩ := H
 replace H : (if A6 = true then (if a0_1 = 0 then (some true) else (if a0_1 = 1 then ((spec_paTurning.f a0_0 a0_1).bind fun A3 => (some A3)) else (some false))) else (some false)) = some r := H
 have A2 := Z.m As
 clear As
 by_cases c3 : A6 = true
 ·subst c3
  have H1 : (if a0_1 = 0 then (some true) else (if a0_1 = 1 then ((spec_paTurning.f a0_0 a0_1).bind fun A3 => (some A3)) else (some false))) = some r := by rw [if_pos rfl] at H; exact H
  clear H
  have H := H1
  clear H1
  by_cases c4 : a0_1 = 0
  ·rw [if_pos c4] at H
   have Ak := beq_iff_eq.mpr c4
   have Al := bne_eq_false_iff_eq.mpr c4
   clear c4
   obtain rfl := Option.some.inj H
   go_enter Try.func38, Try.ntmps38
   go_wp2_with (first | ((with_reducible refine gq (N := 1) rfl ?_); refine be (N := 1) (cs := #[.int .i64 a0_0, .int .i64 a0_1]) (t := 25) ?_; intro A5 hg w5 hbox hb; have A0 := Z.m (hbox); have A1 := gW (w := w) HB hg; have A4 := A1; replace HB := bB HB hb; clear hb hbox hg; have Ao := bc0 A0; have Ap := bc1 A0; have Aq := qz A0.o 0; have Ar := qz A0.o 1) | ((with_reducible refine gc (f := 45) rfl ?_); refine gA (some 5) _ #[.int .i64 a0_0, .int .i64 0, .int .i64 7] ?_ Try.func45; (with_reducible refine (spec_l1In.calls a0_0 0 7 true _ A2.o).mono ?_); rintro e w' ⟨rfl, ⟨nd, rfl⟩⟩; refine ⟨_, rfl, ?_⟩))
   go_ret
   exact ⟨by first | rfl | (simp [eN, eS] <;> rfl) | (simp [*, eN, eS] <;> rfl), vB HB⟩
  ·rw [if_neg c4] at H
   have Ak := beq_eq_false_iff_ne.mpr c4
   have Al := bne_iff_ne.mpr c4
   by_cases c7 : a0_1 = 1
   ·rw [if_pos c7] at H
    have Am := beq_iff_eq.mpr c7
    have An := bne_eq_false_iff_eq.mpr c7
    clear c7
    replace H := Option.bind_eq_some_iff.mp H
    obtain ⟨A3, At, H⟩ := H
    replace H : (some A3) = some r := H
    have A8 := Z.m At
    clear At
    obtain rfl := Option.some.inj H
    go_enter Try.func38, Try.ntmps38
    go_wp2_with (first | ((with_reducible refine gq (N := 1) rfl ?_); refine be (N := 1) (cs := #[.int .i64 a0_0, .int .i64 a0_1]) (t := 25) ?_; intro A5 hg w9 hbox hb; have A0 := Z.m (hbox); have A1 := gW (w := w) HB hg; have A4 := A1; replace HB := bB HB hb; clear hb hbox hg; have A7 := bc0 A0; have A9 := bc1 A0; have Ae := qz A0.o 0; have Af := qz A0.o 1) | ((with_reducible refine gc (f := 45) rfl ?_); refine gA (some 5) _ #[.int .i64 a0_0, .int .i64 0, .int .i64 7] ?_ Try.func45; (with_reducible refine (spec_l1In.calls a0_0 0 7 true _ A2.o).mono ?_); rintro e w' ⟨rfl, ⟨nd, rfl⟩⟩; refine ⟨_, rfl, ?_⟩) | (go_at_call 41; (with_reducible refine (spec_paTurning.calls a0_0 a0_1 A3 _ A8.o).mono ?_); rintro e Aw ⟨rfl, hb⟩; replace A0 := kB A0 hb; replace HB := bB HB hb; (try clear hb); (try clear Av); (try clear hk); (try clear hi)))
    go_ret
    exact ⟨by first | rfl | (simp [eN, eS] <;> rfl) | (simp [*, eN, eS] <;> rfl), vB HB⟩
   ·rw [if_neg c7] at H
    have Am := beq_eq_false_iff_ne.mpr c7
    have An := bne_iff_ne.mpr c7
    obtain rfl := Option.some.inj H
    go_enter Try.func38, Try.ntmps38
    go_wp2_with (first | ((with_reducible refine gq (N := 1) rfl ?_); refine be (N := 1) (cs := #[.int .i64 a0_0, .int .i64 a0_1]) (t := 25) ?_; intro A5 hg Ax hbox hb; have A0 := Z.m (hbox); have A1 := gW (w := w) HB hg; have A4 := A1; replace HB := bB HB hb; clear hb hbox hg; have Aa := bc0 A0; have Ab := bc1 A0; have Ag := qz A0.o 0; have Ah := qz A0.o 1) | ((with_reducible refine gc (f := 45) rfl ?_); refine gA (some 5) _ #[.int .i64 a0_0, .int .i64 0, .int .i64 7] ?_ Try.func45; (with_reducible refine (spec_l1In.calls a0_0 0 7 true _ A2.o).mono ?_); rintro e w' ⟨rfl, ⟨nd, rfl⟩⟩; refine ⟨_, rfl, ?_⟩))
    go_ret
    exact ⟨by first | rfl | (simp [eN, eS] <;> rfl) | (simp [*, eN, eS] <;> rfl), vB HB⟩
 ·replace c3 := Bool.eq_false_iff.mpr c3
  subst c3
  have H1 : (some false) = some r := by rw [if_neg (show ¬ (false = true) by decide)] at H; exact H
  clear H
  have H := H1
  clear H1
  obtain rfl := Option.some.inj H
  go_enter Try.func38, Try.ntmps38
  go_wp2_with (first | ((with_reducible refine gq (N := 1) rfl ?_); refine be (N := 1) (cs := #[.int .i64 a0_0, .int .i64 a0_1]) (t := 25) ?_; intro A5 hg Ay hbox hb; have A0 := Z.m (hbox); have A1 := gW (w := w) HB hg; have A4 := A1; replace HB := bB HB hb; clear hb hbox hg; have Ac := bc0 A0; have Ad := bc1 A0; have Ai := qz A0.o 0; have Aj := qz A0.o 1) | ((with_reducible refine gc (f := 45) rfl ?_); refine gA (some 5) _ #[.int .i64 a0_0, .int .i64 0, .int .i64 7] ?_ Try.func45; (with_reducible refine (spec_l1In.calls a0_0 0 7 false _ A2.o).mono ?_); rintro e w' ⟨rfl, ⟨nd, rfl⟩⟩; refine ⟨_, rfl, ?_⟩))
  go_ret
  exact ⟨by first | rfl | (simp [eN, eS] <;> rfl) | (simp [*, eN, eS] <;> rfl), vB HB⟩

/-! ### spec_paLetter: function 39 -/
def spec_paLetter.f (a0_0 : Int) (a0_1 : Int) : Option (ByteArray) := if a0_1 = 1 then (if 0 ≤ a0_0 then (if a0_0 ≤ (wrap64 (a0_0 + 1)) then (if (wrap64 (a0_0 + 1)) ≤ 8 then (some ((⟨#[46, 46, 46, 70, 46, 46, 71, 46]⟩ : ByteArray).extract (a0_0 : Int).toNat ((wrap64 (a0_0 + 1)) : Int).toNat)) else (none)) else (none)) else (none)) else (if 0 ≤ a0_0 then (if a0_0 ≤ (wrap64 (a0_0 + 1)) then (if (wrap64 (a0_0 + 1)) ≤ 8 then (some ((⟨#[46, 108, 114, 102, 120, 111, 103, 99]⟩ : ByteArray).extract (a0_0 : Int).toNat ((wrap64 (a0_0 + 1)) : Int).toNat)) else (none)) else (none)) else (none))
set_option maxHeartbeats 8000000 in
set_option maxRecDepth 100000 in
theorem spec_paLetter.calls (a0_0 : Int) (a0_1 : Int) (r : ByteArray) (w : World) (h : spec_paLetter.f a0_0 a0_1 = some r) :
 Calls Try.prog 39 #[.agg #[.int .i64 a0_0, .int .i64 a0_1]] w fun e w' => e = .returned (.string r) ∧ Below w.heap.size w w' := by
 have Aq := Try.underlying25
 have HB := Z.m (Below.refl w.heap.size w)
 have H : (if a0_1 = 1 then (if 0 ≤ a0_0 then (if a0_0 ≤ (wrap64 (a0_0 + 1)) then (if (wrap64 (a0_0 + 1)) ≤ 8 then (some ((⟨#[46, 46, 46, 70, 46, 46, 71, 46]⟩ : ByteArray).extract (a0_0 : Int).toNat ((wrap64 (a0_0 + 1)) : Int).toNat)) else (none)) else (none)) else (none)) else (if 0 ≤ a0_0 then (if a0_0 ≤ (wrap64 (a0_0 + 1)) then (if (wrap64 (a0_0 + 1)) ≤ 8 then (some ((⟨#[46, 108, 114, 102, 120, 111, 103, 99]⟩ : ByteArray).extract (a0_0 : Int).toNat ((wrap64 (a0_0 + 1)) : Int).toNat)) else (none)) else (none)) else (none))) = some r := h
 clear h
 by_cases c2 : a0_1 = 1
 ·rw [if_pos c2] at H
  have A8 := beq_iff_eq.mpr c2
  have A9 := bne_eq_false_iff_eq.mpr c2
  clear c2
  by_cases c3 : 0 ≤ a0_0
  ·rw [if_pos c3] at H
   have Ag := eq_true c3
   have Ah := decide_eq_true c3
   clear c3
   by_cases c4 : a0_0 ≤ (wrap64 (a0_0 + 1))
   ·rw [if_pos c4] at H
    have Ai := eq_true c4
    have Aj := decide_eq_true c4
    by_cases c5 : (wrap64 (a0_0 + 1)) ≤ 8
    ·rw [if_pos c5] at H
     have Ak := eq_true c5
     have Al := decide_eq_true c5
     obtain rfl := Option.some.inj H
     go_enter Try.func39, Try.ntmps39
     go_wp2_with (first | ((with_reducible refine gq (N := 1) rfl ?_); refine be (N := 1) (cs := #[.int .i64 a0_0, .int .i64 a0_1]) (t := 25) ?_; intro A3 hg w6 hbox hb; have A0 := Z.m (hbox); have A1 := gW (w := w) HB hg; have A2 := A1; replace HB := bB HB hb; clear hb hbox hg; have Aa := bc0 A0; have Ab := bc1 A0; have Ac := qz A0.o 0; have Ad := qz A0.o 1))
     go_ret
     exact ⟨by first | rfl | (simp [eN, eS] <;> rfl) | (simp [*, eN, eS] <;> rfl), vB HB⟩
    ·rw [if_neg c5] at H
     exact absurd H (by simp)
   ·rw [if_neg c4] at H
    exact absurd H (by simp)
  ·rw [if_neg c3] at H
   exact absurd H (by simp)
 ·rw [if_neg c2] at H
  have A8 := beq_eq_false_iff_ne.mpr c2
  have A9 := bne_iff_ne.mpr c2
  by_cases c8 : 0 ≤ a0_0
  ·rw [if_pos c8] at H
   have Am := eq_true c8
   have An := decide_eq_true c8
   clear c8
   by_cases c9 : a0_0 ≤ (wrap64 (a0_0 + 1))
   ·rw [if_pos c9] at H
    have Ao := eq_true c9
    have Ap := decide_eq_true c9
    by_cases c10 : (wrap64 (a0_0 + 1)) ≤ 8
    ·rw [if_pos c10] at H
     have Ae := eq_true c10
     have Af := decide_eq_true c10
     obtain rfl := Option.some.inj H
     go_enter Try.func39, Try.ntmps39
     go_wp2_with (first | ((with_reducible refine gq (N := 1) rfl ?_); refine be (N := 1) (cs := #[.int .i64 a0_0, .int .i64 a0_1]) (t := 25) ?_; intro A3 hg Ar hbox hb; have A0 := Z.m (hbox); have A1 := gW (w := w) HB hg; have A2 := A1; replace HB := bB HB hb; clear hb hbox hg; have A4 := bc0 A0; have A5 := bc1 A0; have A6 := qz A0.o 0; have A7 := qz A0.o 1))
     go_ret
     exact ⟨by first | rfl | (simp [eN, eS] <;> rfl) | (simp [*, eN, eS] <;> rfl), vB HB⟩
    ·rw [if_neg c10] at H
     exact absurd H (by simp)
   ·rw [if_neg c9] at H
    exact absurd H (by simp)
  ·rw [if_neg c8] at H
   exact absurd H (by simp)

end Go.Proofs.Ytklmdnlambinaaa.PAll
