/- Began as a text that print.sh wrote (of the functions named below); turned and shortened by this session. -/
import Derived.Test.YtklmdnlambinaaaG0
import Derived.Test.YtklmdnlambinaaaG4
namespace Go.Proofs.Ytklmdnlambinaaa.PAll
open Go.RowKit Go.Proofs.YtklmdnlambinaaaW.PrintWords Go.Proofs.YtklmdnlambinaaaW.PrintLast Go.Proofs.YtklmdnlambinaaaW.PrintMore
attribute [local go_sem] max2_int min2_int max_two min_two max_three min_three max_four min_four   -- for this text's walks alone
set_option linter.unusedVariables false
set_option linter.unusedSimpArgs false

/-! ### impl_IsTurning: function 14 -/
def impl_IsTurning.f (a0_0 : Int) (a0_1 : Int) : Option (Bool) := (impl_IsCell.f a0_0 a0_1).bind fun t190 => (if t190 = true then (if a0_0 = 3 then (some true) else (some (a0_0 == 6))) else (some false))
set_option maxHeartbeats 8000000 in
set_option maxRecDepth 100000 in
theorem impl_IsTurning.calls (a0_0 : Int) (a0_1 : Int) (r : Bool) (w : World) (h : impl_IsTurning.f a0_0 a0_1 = some r) :
 Calls Try.prog 14 #[.agg #[.int .i64 a0_0, .int .i64 a0_1]] w fun e w' => e = .returned (.bool r) ∧ Below w.heap.size w w' := by
 have Au := Try.underlying25
 have HB := Z.m (Below.refl w.heap.size w)
 have H : ((impl_IsCell.f a0_0 a0_1).bind fun A3 => (if A3 = true then (if a0_0 = 3 then (some true) else (some (a0_0 == 6))) else (some false))) = some r := h
 clear h
 replace H := Option.bind_eq_some_iff.mp H
 obtain ⟨A3, As, H⟩ := H
 replace H : (if A3 = true then (if a0_0 = 3 then (some true) else (some (a0_0 == 6))) else (some false)) = some r := H
 have A2 := Z.m As
 clear As
 by_cases c3 : A3 = true
 ·subst c3
  have H1 : (if a0_0 = 3 then (some true) else (some (a0_0 == 6))) = some r := by rw [if_pos rfl] at H; exact H
  clear H
  have H := H1
  clear H1
  by_cases c4 : a0_0 = 3
  ·rw [if_pos c4] at H
   have Ai := beq_iff_eq.mpr c4
   have Aj := bne_eq_false_iff_eq.mpr c4
   clear c4
   obtain rfl := Option.some.inj H
   go_enter Try.func14, Try.ntmps14
   go_wp2_with (first | ((with_reducible refine gq (N := 1) rfl ?_); refine be (N := 1) (cs := #[.int .i64 a0_0, .int .i64 a0_1]) (t := 25) ?_; intro A5 hg w5 hbox hb; have A0 := Z.m (hbox); have A1 := gW (w := w) HB hg; have A4 := A1; replace HB := bB HB hb; clear hb hbox hg; have Ak := bc0 A0; have Al := bc1 A0; have Ao := qz A0.o 0; have Ap := qz A0.o 1) | ((with_reducible refine gc (f := 13) rfl ?_); refine gA (some 4) _ #[.agg #[.int .i64 a0_0, .int .i64 a0_1]] ?_ Try.func13; (with_reducible refine (impl_IsCell.calls a0_0 a0_1 true _ A2.o).mono ?_); rintro e w7 ⟨rfl, hb⟩; refine ⟨_, rfl, ?_⟩; replace A0 := kB A0 hb; replace HB := bB HB hb; (try clear hb); (try clear At); (try clear hk); (try clear hi); have Am := bc0 A0; have An := bc1 A0; have Aq := qz A0.o 0; have Ar := qz A0.o 1))
   go_ret
   exact ⟨by first | rfl | (simp [eN, eS] <;> rfl) | (simp [*, eN, eS] <;> rfl), vB HB⟩
  ·rw [if_neg c4] at H
   have Ai := beq_eq_false_iff_ne.mpr c4
   have Aj := bne_iff_ne.mpr c4
   obtain rfl := Option.some.inj H
   go_enter Try.func14, Try.ntmps14
   go_wp2_with (first | ((with_reducible refine gq (N := 1) rfl ?_); refine be (N := 1) (cs := #[.int .i64 a0_0, .int .i64 a0_1]) (t := 25) ?_; intro A5 hg w9 hbox hb; have A0 := Z.m (hbox); have A1 := gW (w := w) HB hg; have A4 := A1; replace HB := bB HB hb; clear hb hbox hg; have A6 := bc0 A0; have A7 := bc1 A0; have Ac := qz A0.o 0; have Ad := qz A0.o 1) | ((with_reducible refine gc (f := 13) rfl ?_); refine gA (some 4) _ #[.agg #[.int .i64 a0_0, .int .i64 a0_1]] ?_ Try.func13; (with_reducible refine (impl_IsCell.calls a0_0 a0_1 true _ A2.o).mono ?_); rintro e Av ⟨rfl, hb⟩; refine ⟨_, rfl, ?_⟩; replace A0 := kB A0 hb; replace HB := bB HB hb; (try clear hb); (try clear At); (try clear hk); (try clear hi); have A8 := bc0 A0; have A9 := bc1 A0; have Ae := qz A0.o 0; have Af := qz A0.o 1))
   go_ret
   exact ⟨by first | rfl | (simp [eN, eS] <;> rfl) | (simp [*, eN, eS] <;> rfl), vB HB⟩
 ·replace c3 := Bool.eq_false_iff.mpr c3
  subst c3
  have H1 : (some false) = some r := by rw [if_neg (show ¬ (false = true) by decide)] at H; exact H
  clear H
  have H := H1
  clear H1
  obtain rfl := Option.some.inj H
  go_enter Try.func14, Try.ntmps14
  go_wp2_with (first | ((with_reducible refine gq (N := 1) rfl ?_); refine be (N := 1) (cs := #[.int .i64 a0_0, .int .i64 a0_1]) (t := 25) ?_; intro A5 hg Aw hbox hb; have A0 := Z.m (hbox); have A1 := gW (w := w) HB hg; have A4 := A1; replace HB := bB HB hb; clear hb hbox hg; have Aa := bc0 A0; have Ab := bc1 A0; have Ag := qz A0.o 0; have Ah := qz A0.o 1) | ((with_reducible refine gc (f := 13) rfl ?_); refine gA (some 4) _ #[.agg #[.int .i64 a0_0, .int .i64 a0_1]] ?_ Try.func13; (with_reducible refine (impl_IsCell.calls a0_0 a0_1 false _ A2.o).mono ?_); rintro e Ax ⟨rfl, hb⟩; refine ⟨_, rfl, ?_⟩; replace A0 := kB A0 hb; replace HB := bB HB hb; (try clear hb); (try clear At); (try clear hk); (try clear hi)))
  go_ret
  exact ⟨by first | rfl | (simp [eN, eS] <;> rfl) | (simp [*, eN, eS] <;> rfl), vB HB⟩

end Go.Proofs.Ytklmdnlambinaaa.PAll
