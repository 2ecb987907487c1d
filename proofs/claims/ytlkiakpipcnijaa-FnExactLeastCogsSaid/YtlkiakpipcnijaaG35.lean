/- Began as a text that print.sh wrote (of the functions named below); turned and shortened by this session. -/
import Derived.Test.YtlkiakpipcnijaaG0
import Derived.Test.YtlkiakpipcnijaaG5
import Derived.Test.YtlkiakpipcnijaaG28
namespace Go.Proofs.Ytlkiakpipcnijaa.PAll
open Go.RowKit Go.Proofs.YtlkiakpipcnijaaW.PrintWords Go.Proofs.YtlkiakpipcnijaaW.PrintLast Go.Proofs.YtlkiakpipcnijaaW.PrintMore
attribute [local go_sem] max2_int min2_int max_two min_two max_three min_three max_four min_four   -- for this text's walks alone
set_option linter.unusedVariables false
set_option linter.unusedSimpArgs false

/-! ### spec_ggHas: function 53 -/
def spec_ggHas.f (k : Nat) (a0_0 : Int) (a0_1 : Int) (l0_2 : List (S71)) (a1 : Int) (a2 : Int) : Option (Bool) := (spec_boHas.f k a0_0 a0_1 l0_2 a1 a2).bind fun t827 => (if t827 = true then ((spec_boAt.f a0_0 a0_1 l0_2 a1 a2).bind fun bt828 => ((spec_ggGear.f bt828.1 bt828.2).bind fun t830 => (some t830))) else (some false))
set_option maxHeartbeats 8000000 in
set_option maxRecDepth 100000 in
theorem spec_ggHas.calls (k : Nat) (a0_0 : Int) (a0_1 : Int) (A0_2 : Option Addr) (c0_2 : Nat) (l0_2 : List (S71)) (a1 : Int) (a2 : Int) (r : Bool) (w : World) (hr0_2 : Kd.C k71 w A0_2 l0_2.length l0_2) (hc0_2 : l0_2.length ≤ c0_2) (h : spec_ggHas.f k a0_0 a0_1 l0_2 a1 a2 = some r) :
 Calls Try.prog 53 #[.agg #[.int .i64 a0_0, .int .i64 a0_1, .slice A0_2 l0_2.length c0_2], .int .i64 a1, .int .i64 a2] w fun e w' => e = .returned (.bool r) ∧ Below w.heap.size w w' := by
 have Az := Try.underlying30
 have A5 := Z.m hr0_2
 have A3 := Z.m hc0_2
 clear hr0_2 hc0_2
 have HB := Z.m (Below.refl w.heap.size w)
 have H : ((spec_boHas.f k a0_0 a0_1 l0_2 a1 a2).bind fun A8 => (if A8 = true then ((spec_boAt.f a0_0 a0_1 l0_2 a1 a2).bind fun bt828 => ((spec_ggGear.f bt828.1 bt828.2).bind fun A1 => (some A1))) else (some false))) = some r := h
 clear h
 replace H := Option.bind_eq_some_iff.mp H
 obtain ⟨A8, Aw, H⟩ := H
 replace H : (if A8 = true then ((spec_boAt.f a0_0 a0_1 l0_2 a1 a2).bind fun bt828 => ((spec_ggGear.f bt828.1 bt828.2).bind fun A1 => (some A1))) else (some false)) = some r := H
 have A4 := Z.m Aw
 clear Aw
 by_cases c5 : A8 = true
 ·subst c5
  have H1 : ((spec_boAt.f a0_0 a0_1 l0_2 a1 a2).bind fun bt828 => ((spec_ggGear.f bt828.1 bt828.2).bind fun A1 => (some A1))) = some r := by rw [if_pos rfl] at H; exact H
  clear H
  have H := H1
  clear H1
  replace H := Option.bind_eq_some_iff.mp H
  obtain ⟨⟨A9, Aa⟩, Ax, H⟩ := H
  replace H : ((spec_ggGear.f A9 Aa).bind fun A1 => (some A1)) = some r := H
  have A6 := Z.m Ax
  clear Ax
  replace H := Option.bind_eq_some_iff.mp H
  obtain ⟨A1, Ay, H⟩ := H
  replace H : (some A1) = some r := H
  have A7 := Z.m Ay
  clear Ay
  obtain rfl := Option.some.inj H
  go_enter Try.func53, Try.ntmps53
  go_wp2_with (first | ((with_reducible refine gq (N := 3) rfl ?_); refine be (N := 3) (cs := #[.int .i64 a0_0, .int .i64 a0_1, .slice A0_2 l0_2.length c0_2]) (t := 30) ?_; intro Ac hg w8 hbox hb; have A0 := Z.m (hbox); have A2 := gW (w := w) HB hg; have Ab := A2; replace HB := bB HB hb; clear hb hbox hg; have Aq := bc0 A0; have Ar := bc1 A0; have As := bc2 A0; have At := qz A0.o 0; have Au := qz A0.o 1; have Av := qz A0.o 2) | ((with_reducible refine gc (f := 69) rfl ?_); refine gA (some 10) _ #[.agg #[.int .i64 a0_0, .int .i64 a0_1, .slice A0_2 l0_2.length c0_2], .int .i64 a1, .int .i64 a2] ?_ Try.func69; (with_reducible refine (spec_boHas.calls k a0_0 a0_1 _ _ l0_2 a1 a2 true _ ?side1 ?side2 A4.o).mono ?_); (case side1 => repeat (first | exact (Kd.C_below A5.o HB.o) | (with_reducible refine Kd.C_alloc ?_ _) | (with_reducible refine Kd.C_drewN ?_ _) | (with_reducible refine Kd.C_drew ?_))); (case side2 => exact A3.o); rintro e AA ⟨rfl, hb⟩; refine ⟨_, rfl, ?_⟩; replace A0 := kB A0 hb; replace HB := bB HB hb; (try clear hb); (try clear Ap); (try clear hk); (try clear hi); have Ad := bc0 A0; have Ae := bc1 A0; have Af := bc2 A0; have Aj := qz A0.o 0; have Ak := qz A0.o 1; have Al := qz A0.o 2) | (go_at_call 70; (with_reducible refine (spec_boAt.calls a0_0 a0_1 _ _ l0_2 a1 a2 A9 Aa _ ?side1 ?side2 A6.o).mono ?_); (case side1 => repeat (first | exact (Kd.C_below A5.o HB.o) | (with_reducible refine Kd.C_alloc ?_ _) | (with_reducible refine Kd.C_drewN ?_ _) | (with_reducible refine Kd.C_drew ?_))); (case side2 => exact A3.o); rintro e AB ⟨rfl, hb⟩; replace A0 := kB A0 hb; replace HB := bB HB hb; (try clear hb); (try clear Ap); (try clear hk); (try clear hi)) | (go_at_call 64; (with_reducible refine (spec_ggGear.calls A9 Aa A1 _ A7.o).mono ?_); rintro e AC ⟨rfl, hb⟩; replace A0 := kB A0 hb; replace HB := bB HB hb; (try clear hb); (try clear Ap); (try clear hk); (try clear hi)))
  go_ret
  exact ⟨by first | rfl | (simp [eN, eS] <;> rfl) | (simp [*, eN, eS] <;> rfl), vB HB⟩
 ·replace c5 := Bool.eq_false_iff.mpr c5
  subst c5
  have H1 : (some false) = some r := by rw [if_neg (show ¬ (false = true) by decide)] at H; exact H
  clear H
  have H := H1
  clear H1
  obtain rfl := Option.some.inj H
  go_enter Try.func53, Try.ntmps53
  go_wp2_with (first | ((with_reducible refine gq (N := 3) rfl ?_); refine be (N := 3) (cs := #[.int .i64 a0_0, .int .i64 a0_1, .slice A0_2 l0_2.length c0_2]) (t := 30) ?_; intro Ac hg AD hbox hb; have A0 := Z.m (hbox); have A2 := gW (w := w) HB hg; have Ab := A2; replace HB := bB HB hb; clear hb hbox hg; have Ag := bc0 A0; have Ah := bc1 A0; have Ai := bc2 A0; have Am := qz A0.o 0; have An := qz A0.o 1; have Ao := qz A0.o 2) | ((with_reducible refine gc (f := 69) rfl ?_); refine gA (some 10) _ #[.agg #[.int .i64 a0_0, .int .i64 a0_1, .slice A0_2 l0_2.length c0_2], .int .i64 a1, .int .i64 a2] ?_ Try.func69; (with_reducible refine (spec_boHas.calls k a0_0 a0_1 _ _ l0_2 a1 a2 false _ ?side1 ?side2 A4.o).mono ?_); (case side1 => repeat (first | exact (Kd.C_below A5.o HB.o) | (with_reducible refine Kd.C_alloc ?_ _) | (with_reducible refine Kd.C_drewN ?_ _) | (with_reducible refine Kd.C_drew ?_))); (case side2 => exact A3.o); rintro e AE ⟨rfl, hb⟩; refine ⟨_, rfl, ?_⟩; replace A0 := kB A0 hb; replace HB := bB HB hb; (try clear hb); (try clear Ap); (try clear hk); (try clear hi)))
  go_ret
  exact ⟨by first | rfl | (simp [eN, eS] <;> rfl) | (simp [*, eN, eS] <;> rfl), vB HB⟩

end Go.Proofs.Ytlkiakpipcnijaa.PAll
