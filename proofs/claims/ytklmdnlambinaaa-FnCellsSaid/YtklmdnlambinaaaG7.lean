/- Began as a text that print.sh wrote (of the functions named below); turned and shortened by this session. -/
import Derived.Test.YtklmdnlambinaaaG0
import Derived.Test.YtklmdnlambinaaaG1
import Derived.Test.YtklmdnlambinaaaG4
import Derived.Test.YtklmdnlambinaaaG5
import Derived.Test.YtklmdnlambinaaaG6
namespace Go.Proofs.Ytklmdnlambinaaa.PAll
open Go.RowKit Go.Proofs.YtklmdnlambinaaaW.PrintWords Go.Proofs.YtklmdnlambinaaaW.PrintLast Go.Proofs.YtklmdnlambinaaaW.PrintMore
attribute [local go_sem] max2_int min2_int max_two min_two max_three min_three max_four min_four   -- for this text's walks alone
set_option linter.unusedVariables false
set_option linter.unusedSimpArgs false

/-! ### impl_TurnCell: function 11 -/
def impl_TurnCell.f (a0_0 : Int) (a0_1 : Int) : Option (Int × Int × Bool) := (impl_IsTurning.f a0_0 a0_1).bind fun t193 => (if t193 = true then (some (a0_0, wrap64 (1 - a0_1), true)) else (some (0, 0, false)))
set_option maxHeartbeats 8000000 in
set_option maxRecDepth 100000 in
theorem impl_TurnCell.calls (a0_0 : Int) (a0_1 : Int) (r1 : Int) (r2 : Int) (r3 : Bool) (w : World) (h : impl_TurnCell.f a0_0 a0_1 = some (r1, r2, r3)) :
 Calls Try.prog 11 #[.agg #[.int .i64 a0_0, .int .i64 a0_1]] w fun e w' => e = .returned (.tuple #[.agg #[.int .i64 r1, .int .i64 r2], .bool r3]) ∧ Below w.heap.size w w' := by
 have AC := Try.underlying25
 have HB := Z.m (Below.refl w.heap.size w)
 have H : ((impl_IsTurning.f a0_0 a0_1).bind fun A8 => (if A8 = true then (some (a0_0, wrap64 (1 - a0_1), true)) else (some (0, 0, false)))) = some (r1, r2, r3) := h
 clear h
 replace H := Option.bind_eq_some_iff.mp H
 obtain ⟨A8, Aw, H⟩ := H
 replace H : (if A8 = true then (some (a0_0, wrap64 (1 - a0_1), true)) else (some (0, 0, false))) = some (r1, r2, r3) := H
 have A2 := Z.m Aw
 clear Aw
 by_cases c3 : A8 = true
 ·subst c3
  have H1 : (some (a0_0, wrap64 (1 - a0_1), true)) = some (r1, r2, r3) := by rw [if_pos rfl] at H; exact H
  clear H
  have H := H1
  clear H1
  simp only [Option.some.injEq, Prod.mk.injEq] at H
  obtain ⟨rfl, rfl, rfl⟩ := H
  go_enter Try.func11, Try.ntmps11
  go_wp2_with (first | ((with_reducible refine gq (N := 1) rfl ?_); refine be (N := 1) (cs := #[.int .i64 a0_0, .int .i64 a0_1]) (t := 25) ?_; intro Ab hg w4 hbox hb; have A0 := Z.m (hbox); have A5 := gW (w := w) HB hg; have A9 := A5; replace HB := bB HB hb; clear hb hbox hg) | ((with_reducible refine gq (N := 2) rfl ?_); refine be (N := 2) (cs := #[.int .i64 0, .int .i64 0]) (t := 25) ?_; intro A7 hg w5 hbox hb; have A1 := Z.m (hbox); have A6 := gW (w := w) HB hg; have Aa := A6; have A4 := neL A0 hg; have A3 := neG A0 hg; replace A0 := kB A0 hb; replace HB := bB HB hb; clear hb hbox hg; have AA := A4.o; have AB := A3.o; have Ao := bc0 A0; have Ap := bc1 A0; have As := qz A0.o 0; have At := qz A0.o 1) | ((with_reducible refine gc (f := 14) rfl ?_); refine gA (some 5) _ #[.agg #[.int .i64 a0_0, .int .i64 a0_1]] ?_ Try.func14; (with_reducible refine (impl_IsTurning.calls a0_0 a0_1 true _ A2.o).mono ?_); rintro e w8 ⟨rfl, hb⟩; refine ⟨_, rfl, ?_⟩; replace A0 := kB A0 hb; replace A1 := kB A1 hb; replace HB := bB HB hb; (try clear hb); (try clear Az); (try clear hk); (try clear hi); have Aq := bc0 A0; have Ar := bc1 A0; have Au := qz A0.o 0; have Av := qz A0.o 1; have Ac := bc0 A1; have Ad := bc1 A1; have Ai := qz A1.o 0; have Aj := qz A1.o 1))
  refine bodyPost_ret (results_ct rfl _ _ A7 25 #[.int .i64 a0_0, .int .i64 (wrap64 (1 - a0_1))] (0, 0) _ rfl (by refine bK ?_; refine qp (cs := #[iV a0_0, iV 0]) ?_ 1 _ rfl; refine bK ?_; refine qp (cs := #[iV 0, iV 0]) ?_ 0 _ rfl; refine bK ?_; refine qF ?_ A3; exact A1.o) Try.underlying25 rfl (by kernel_rfl)) rfl ?_
  exact ⟨by first | rfl | (simp [eN, eS] <;> rfl) | (simp [*, eN, eS] <;> rfl), vB HB⟩
 ·replace c3 := Bool.eq_false_iff.mpr c3
  subst c3
  have H1 : (some (0, 0, false)) = some (r1, r2, r3) := by rw [if_neg (show ¬ (false = true) by decide)] at H; exact H
  clear H
  have H := H1
  clear H1
  simp only [Option.some.injEq, Prod.mk.injEq] at H
  obtain ⟨rfl, rfl, rfl⟩ := H
  go_enter Try.func11, Try.ntmps11
  go_wp2_with (first | ((with_reducible refine gq (N := 1) rfl ?_); refine be (N := 1) (cs := #[.int .i64 a0_0, .int .i64 a0_1]) (t := 25) ?_; intro Ab hg AD hbox hb; have A0 := Z.m (hbox); have A5 := gW (w := w) HB hg; have A9 := A5; replace HB := bB HB hb; clear hb hbox hg) | ((with_reducible refine gq (N := 2) rfl ?_); refine be (N := 2) (cs := #[.int .i64 0, .int .i64 0]) (t := 25) ?_; intro A7 hg AE hbox hb; have A1 := Z.m (hbox); have A6 := gW (w := w) HB hg; have Aa := A6; have A4 := neL A0 hg; have A3 := neG A0 hg; replace A0 := kB A0 hb; replace HB := bB HB hb; clear hb hbox hg; have Ax := A4.o; have Ay := A3.o; have Ae := bc0 A0; have Af := bc1 A0; have Ak := qz A0.o 0; have Al := qz A0.o 1) | ((with_reducible refine gc (f := 14) rfl ?_); refine gA (some 5) _ #[.agg #[.int .i64 a0_0, .int .i64 a0_1]] ?_ Try.func14; (with_reducible refine (impl_IsTurning.calls a0_0 a0_1 false _ A2.o).mono ?_); rintro e AF ⟨rfl, hb⟩; refine ⟨_, rfl, ?_⟩; replace A0 := kB A0 hb; replace A1 := kB A1 hb; replace HB := bB HB hb; (try clear hb); (try clear Az); (try clear hk); (try clear hi); have Ag := bc0 A1; have Ah := bc1 A1; have Am := qz A1.o 0; have An := qz A1.o 1))
  refine bodyPost_ret (results_ct rfl _ _ A7 25 #[.int .i64 0, .int .i64 0] (0, 0) _ rfl (by refine bK ?_; refine qp (cs := #[iV 0, iV 0]) ?_ 1 _ rfl; refine bK ?_; refine qp (cs := #[iV 0, iV 0]) ?_ 0 _ rfl; refine bK ?_; exact A1.o) Try.underlying25 rfl (by kernel_rfl)) rfl ?_
  exact ⟨by first | rfl | (simp [eN, eS] <;> rfl) | (simp [*, eN, eS] <;> rfl), vB HB⟩

/-! ### spec_TurnCell: function 12 -/
def spec_TurnCell.f (a0_0 : Int) (a0_1 : Int) : Option (Int × Int × Bool) := (spec_paGood.f a0_0 a0_1).bind fun t196 => (if t196 = true then ((spec_paTurning.f a0_0 a0_1).bind fun t197 => (if t197 = true then ((spec_paTurn.f a0_0 a0_1).bind fun bt198 => (some (bt198.1, bt198.2, true))) else (some (0, 0, false)))) else (some (0, 0, false)))
set_option maxHeartbeats 8000000 in
set_option maxRecDepth 100000 in
theorem spec_TurnCell.calls (a0_0 : Int) (a0_1 : Int) (r1 : Int) (r2 : Int) (r3 : Bool) (w : World) (h : spec_TurnCell.f a0_0 a0_1 = some (r1, r2, r3)) :
 Calls Try.prog 12 #[.agg #[.int .i64 a0_0, .int .i64 a0_1]] w fun e w' => e = .returned (.tuple #[.agg #[.int .i64 r1, .int .i64 r2], .bool r3]) ∧ Below w.heap.size w w' := by
 have B1 := Try.underlying25
 have HB := Z.m (Below.refl w.heap.size w)
 have H : ((spec_paGood.f a0_0 a0_1).bind fun Ab => (if Ab = true then ((spec_paTurning.f a0_0 a0_1).bind fun Aa => (if Aa = true then ((spec_paTurn.f a0_0 a0_1).bind fun bt198 => (some (bt198.1, bt198.2, true))) else (some (0, 0, false)))) else (some (0, 0, false)))) = some (r1, r2, r3) := h
 clear h
 replace H := Option.bind_eq_some_iff.mp H
 obtain ⟨Ab, AS, H⟩ := H
 replace H : (if Ab = true then ((spec_paTurning.f a0_0 a0_1).bind fun Aa => (if Aa = true then ((spec_paTurn.f a0_0 a0_1).bind fun bt198 => (some (bt198.1, bt198.2, true))) else (some (0, 0, false)))) else (some (0, 0, false))) = some (r1, r2, r3) := H
 have A2 := Z.m AS
 clear AS
 by_cases c3 : Ab = true
 ·subst c3
  have H1 : ((spec_paTurning.f a0_0 a0_1).bind fun Aa => (if Aa = true then ((spec_paTurn.f a0_0 a0_1).bind fun bt198 => (some (bt198.1, bt198.2, true))) else (some (0, 0, false)))) = some (r1, r2, r3) := by rw [if_pos rfl] at H; exact H
  clear H
  have H := H1
  clear H1
  replace H := Option.bind_eq_some_iff.mp H
  obtain ⟨Aa, AT, H⟩ := H
  replace H : (if Aa = true then ((spec_paTurn.f a0_0 a0_1).bind fun bt198 => (some (bt198.1, bt198.2, true))) else (some (0, 0, false))) = some (r1, r2, r3) := H
  have A4 := Z.m AT
  clear AT
  by_cases c5 : Aa = true
  ·subst c5
   have H1 : ((spec_paTurn.f a0_0 a0_1).bind fun bt198 => (some (bt198.1, bt198.2, true))) = some (r1, r2, r3) := by rw [if_pos rfl] at H; exact H
   clear H
   have H := H1
   clear H1
   replace H := Option.bind_eq_some_iff.mp H
   obtain ⟨⟨Ac, Ag⟩, AU, H⟩ := H
   replace H : (some (Ac, Ag, true)) = some (r1, r2, r3) := H
   have A6 := Z.m AU
   clear AU
   simp only [Option.some.injEq, Prod.mk.injEq] at H
   obtain ⟨rfl, rfl, rfl⟩ := H
   go_enter Try.func12, Try.ntmps12
   go_wp2_with (first | ((with_reducible refine gq (N := 1) rfl ?_); refine be (N := 1) (cs := #[.int .i64 a0_0, .int .i64 a0_1]) (t := 25) ?_; intro Af hg w7 hbox hb; have A0 := Z.m (hbox); have A7 := gW (w := w) HB hg; have Ad := A7; replace HB := bB HB hb; clear hb hbox hg) | ((with_reducible refine gq (N := 2) rfl ?_); refine be (N := 2) (cs := #[.int .i64 0, .int .i64 0]) (t := 25) ?_; intro A9 hg w8 hbox hb; have A1 := Z.m (hbox); have A8 := gW (w := w) HB hg; have Ae := A8; have A3 := neL A0 hg; have A5 := neG A0 hg; replace A0 := kB A0 hb; replace HB := bB HB hb; clear hb hbox hg; have AZ := A3.o; have B0 := A5.o; have Ai := bc0 A0; have Aj := bc1 A0; have AA := qz A0.o 0; have AB := qz A0.o 1) | ((with_reducible refine gc (f := 38) rfl ?_); refine gA (some 5) _ #[.agg #[.int .i64 a0_0, .int .i64 a0_1]] ?_ Try.func38; (with_reducible refine (spec_paGood.calls a0_0 a0_1 true _ A2.o).mono ?_); rintro e B2 ⟨rfl, hb⟩; refine ⟨_, rfl, ?_⟩; replace A0 := kB A0 hb; replace A1 := kB A1 hb; replace HB := bB HB hb; (try clear hb); (try clear Ah); (try clear hk); (try clear hi); have Ak := bc0 A0; have Al := bc1 A0; have AC := qz A0.o 0; have AD := qz A0.o 1) | (go_at_call 41; (with_reducible refine (spec_paTurning.calls a0_0 a0_1 true _ A4.o).mono ?_); rintro e B3 ⟨rfl, hb⟩; replace A0 := kB A0 hb; replace A1 := kB A1 hb; replace HB := bB HB hb; (try clear hb); (try clear Ah); (try clear hk); (try clear hi); have Am := bc0 A0; have An := bc1 A0; have AE := qz A0.o 0; have AF := qz A0.o 1) | ((with_reducible refine gc (f := 42) rfl ?_); refine gA (some 14) _ #[.agg #[.int .i64 a0_0, .int .i64 a0_1]] ?_ Try.func42; (with_reducible refine (spec_paTurn.calls a0_0 a0_1 Ac Ag _ A6.o).mono ?_); rintro e B4 ⟨rfl, hb⟩; refine ⟨_, rfl, ?_⟩; replace A0 := kB A0 hb; replace A1 := kB A1 hb; replace HB := bB HB hb; (try clear hb); (try clear Ah); (try clear hk); (try clear hi); have Ao := bc0 A1; have Ap := bc1 A1; have AG := qz A1.o 0; have AH := qz A1.o 1))
   refine bodyPost_ret (results_ct rfl _ _ A9 25 #[.int .i64 Ac, .int .i64 Ag] (0, 0) _ rfl (by refine bK ?_; refine qp (cs := #[iV Ac, iV 0]) ?_ 1 _ rfl; refine bK ?_; refine qp (cs := #[iV 0, iV 0]) ?_ 0 _ rfl; refine bK ?_; exact A1.o) Try.underlying25 rfl (by kernel_rfl)) rfl ?_
   exact ⟨by first | rfl | (simp [eN, eS] <;> rfl) | (simp [*, eN, eS] <;> rfl), vB HB⟩
  ·replace c5 := Bool.eq_false_iff.mpr c5
   subst c5
   have H1 : (some (0, 0, false)) = some (r1, r2, r3) := by rw [if_neg (show ¬ (false = true) by decide)] at H; exact H
   clear H
   have H := H1
   clear H1
   simp only [Option.some.injEq, Prod.mk.injEq] at H
   obtain ⟨rfl, rfl, rfl⟩ := H
   go_enter Try.func12, Try.ntmps12
   go_wp2_with (first | ((with_reducible refine gq (N := 1) rfl ?_); refine be (N := 1) (cs := #[.int .i64 a0_0, .int .i64 a0_1]) (t := 25) ?_; intro Af hg B5 hbox hb; have A0 := Z.m (hbox); have A7 := gW (w := w) HB hg; have Ad := A7; replace HB := bB HB hb; clear hb hbox hg) | ((with_reducible refine gq (N := 2) rfl ?_); refine be (N := 2) (cs := #[.int .i64 0, .int .i64 0]) (t := 25) ?_; intro A9 hg B6 hbox hb; have A1 := Z.m (hbox); have A8 := gW (w := w) HB hg; have Ae := A8; have A3 := neL A0 hg; have A5 := neG A0 hg; replace A0 := kB A0 hb; replace HB := bB HB hb; clear hb hbox hg; have AV := A3.o; have AX := A5.o; have Aq := bc0 A0; have Ar := bc1 A0; have AI := qz A0.o 0; have AJ := qz A0.o 1) | ((with_reducible refine gc (f := 38) rfl ?_); refine gA (some 5) _ #[.agg #[.int .i64 a0_0, .int .i64 a0_1]] ?_ Try.func38; (with_reducible refine (spec_paGood.calls a0_0 a0_1 true _ A2.o).mono ?_); rintro e B7 ⟨rfl, hb⟩; refine ⟨_, rfl, ?_⟩; replace A0 := kB A0 hb; replace A1 := kB A1 hb; replace HB := bB HB hb; (try clear hb); (try clear Ah); (try clear hk); (try clear hi); have As := bc0 A0; have At := bc1 A0; have AK := qz A0.o 0; have AL := qz A0.o 1) | (go_at_call 41; (with_reducible refine (spec_paTurning.calls a0_0 a0_1 false _ A4.o).mono ?_); rintro e B8 ⟨rfl, hb⟩; replace A0 := kB A0 hb; replace A1 := kB A1 hb; replace HB := bB HB hb; (try clear hb); (try clear Ah); (try clear hk); (try clear hi); have Au := bc0 A1; have Av := bc1 A1; have AM := qz A1.o 0; have AN := qz A1.o 1))
   refine bodyPost_ret (results_ct rfl _ _ A9 25 #[.int .i64 0, .int .i64 0] (0, 0) _ rfl (by refine bK ?_; refine qp (cs := #[iV 0, iV 0]) ?_ 1 _ rfl; refine bK ?_; refine qp (cs := #[iV 0, iV 0]) ?_ 0 _ rfl; refine bK ?_; exact A1.o) Try.underlying25 rfl (by kernel_rfl)) rfl ?_
   exact ⟨by first | rfl | (simp [eN, eS] <;> rfl) | (simp [*, eN, eS] <;> rfl), vB HB⟩
 ·replace c3 := Bool.eq_false_iff.mpr c3
  subst c3
  have H1 : (some (0, 0, false)) = some (r1, r2, r3) := by rw [if_neg (show ¬ (false = true) by decide)] at H; exact H
  clear H
  have H := H1
  clear H1
  simp only [Option.some.injEq, Prod.mk.injEq] at H
  obtain ⟨rfl, rfl, rfl⟩ := H
  go_enter Try.func12, Try.ntmps12
  go_wp2_with (first | ((with_reducible refine gq (N := 1) rfl ?_); refine be (N := 1) (cs := #[.int .i64 a0_0, .int .i64 a0_1]) (t := 25) ?_; intro Af hg B9 hbox hb; have A0 := Z.m (hbox); have A7 := gW (w := w) HB hg; have Ad := A7; replace HB := bB HB hb; clear hb hbox hg) | ((with_reducible refine gq (N := 2) rfl ?_); refine be (N := 2) (cs := #[.int .i64 0, .int .i64 0]) (t := 25) ?_; intro A9 hg Ba hbox hb; have A1 := Z.m (hbox); have A8 := gW (w := w) HB hg; have Ae := A8; have A3 := neL A0 hg; have A5 := neG A0 hg; replace A0 := kB A0 hb; replace HB := bB HB hb; clear hb hbox hg; have AW := A3.o; have AY := A5.o; have Aw := bc0 A0; have Ax := bc1 A0; have AO := qz A0.o 0; have AP := qz A0.o 1) | ((with_reducible refine gc (f := 38) rfl ?_); refine gA (some 5) _ #[.agg #[.int .i64 a0_0, .int .i64 a0_1]] ?_ Try.func38; (with_reducible refine (spec_paGood.calls a0_0 a0_1 false _ A2.o).mono ?_); rintro e Bb ⟨rfl, hb⟩; refine ⟨_, rfl, ?_⟩; replace A0 := kB A0 hb; replace A1 := kB A1 hb; replace HB := bB HB hb; (try clear hb); (try clear Ah); (try clear hk); (try clear hi); have Ay := bc0 A1; have Az := bc1 A1; have AQ := qz A1.o 0; have AR := qz A1.o 1))
  refine bodyPost_ret (results_ct rfl _ _ A9 25 #[.int .i64 0, .int .i64 0] (0, 0) _ rfl (by refine bK ?_; refine qp (cs := #[iV 0, iV 0]) ?_ 1 _ rfl; refine bK ?_; refine qp (cs := #[iV 0, iV 0]) ?_ 0 _ rfl; refine bK ?_; exact A1.o) Try.underlying25 rfl (by kernel_rfl)) rfl ?_
  exact ⟨by first | rfl | (simp [eN, eS] <;> rfl) | (simp [*, eN, eS] <;> rfl), vB HB⟩

end Go.Proofs.Ytklmdnlambinaaa.PAll
