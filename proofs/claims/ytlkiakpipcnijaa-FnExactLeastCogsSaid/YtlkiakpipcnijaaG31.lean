/- Began as a text that print.sh wrote (of the functions named below); turned and shortened by this session. -/
import Derived.Test.YtlkiakpipcnijaaG0
import Derived.Test.YtlkiakpipcnijaaG12
namespace Go.Proofs.Ytlkiakpipcnijaa.PAll
open Go.RowKit Go.Proofs.YtlkiakpipcnijaaW.PrintWords Go.Proofs.YtlkiakpipcnijaaW.PrintLast Go.Proofs.YtlkiakpipcnijaaW.PrintMore
attribute [local go_sem] max2_int min2_int max_two min_two max_three min_three max_four min_four   -- for this text's walks alone
set_option linter.unusedVariables false
set_option linter.unusedSimpArgs false

/-! ### impl_onBoard: function 56 -/
def impl_onBoard.f (k : Nat) (a0_0 : Int) (a0_1 : Int) (l0_2 : List (S71)) (a1 : Int) (a2 : Int) : Option (Bool) := (impl_IsBoard.f k a0_0 a0_1 l0_2).bind fun t751 => (if t751 = true then (if a1 ≥ 0 then (if a1 < a0_0 then (if a2 ≥ 0 then (some (decide (a2 < a0_1))) else (some false)) else (some false)) else (some false)) else (some false))
set_option maxHeartbeats 8000000 in
set_option maxRecDepth 100000 in
theorem impl_onBoard.calls (k : Nat) (a0_0 : Int) (a0_1 : Int) (A0_2 : Option Addr) (c0_2 : Nat) (l0_2 : List (S71)) (a1 : Int) (a2 : Int) (r : Bool) (w : World) (hr0_2 : Kd.C k71 w A0_2 l0_2.length l0_2) (hc0_2 : l0_2.length ≤ c0_2) (h : impl_onBoard.f k a0_0 a0_1 l0_2 a1 a2 = some r) :
 Calls Try.prog 56 #[.agg #[.int .i64 a0_0, .int .i64 a0_1, .slice A0_2 l0_2.length c0_2], .int .i64 a1, .int .i64 a2] w fun e w' => e = .returned (.bool r) ∧ Below w.heap.size w w' := by
 have AZ := Try.underlying30
 have A3 := Z.m hr0_2
 have A2 := Z.m hc0_2
 clear hr0_2 hc0_2
 have HB := Z.m (Below.refl w.heap.size w)
 have H : ((impl_IsBoard.f k a0_0 a0_1 l0_2).bind fun A7 => (if A7 = true then (if a1 ≥ 0 then (if a1 < a0_0 then (if a2 ≥ 0 then (some (decide (a2 < a0_1))) else (some false)) else (some false)) else (some false)) else (some false))) = some r := h
 clear h
 replace H := Option.bind_eq_some_iff.mp H
 obtain ⟨A7, AY, H⟩ := H
 replace H : (if A7 = true then (if a1 ≥ 0 then (if a1 < a0_0 then (if a2 ≥ 0 then (some (decide (a2 < a0_1))) else (some false)) else (some false)) else (some false)) else (some false)) = some r := H
 have A4 := Z.m AY
 clear AY
 by_cases c5 : A7 = true
 ·subst c5
  have H1 : (if a1 ≥ 0 then (if a1 < a0_0 then (if a2 ≥ 0 then (some (decide (a2 < a0_1))) else (some false)) else (some false)) else (some false)) = some r := by rw [if_pos rfl] at H; exact H
  clear H
  have H := H1
  clear H1
  by_cases c6 : a1 ≥ 0
  ·rw [if_pos c6] at H
   have AV := decide_eq_true c6
   clear c6
   by_cases c7 : a1 < a0_0
   ·rw [if_pos c7] at H
    have AW := decide_eq_true c7
    clear c7
    by_cases c8 : a2 ≥ 0
    ·rw [if_pos c8] at H
     have AX := decide_eq_true c8
     clear c8
     obtain rfl := Option.some.inj H
     go_enter Try.func56, Try.ntmps56
     go_wp2_with (first | ((with_reducible refine gq (N := 3) rfl ?_); refine be (N := 3) (cs := #[.int .i64 a0_0, .int .i64 a0_1, .slice A0_2 l0_2.length c0_2]) (t := 30) ?_; intro A6 hg w9 hbox hb; have A0 := Z.m (hbox); have A1 := gW (w := w) HB hg; have A5 := A1; replace HB := bB HB hb; clear hb hbox hg; have A9 := bc0 A0; have Aa := bc1 A0; have Ab := bc2 A0; have Ax := qz A0.o 0; have Ay := qz A0.o 1; have Az := qz A0.o 2) | ((with_reducible refine gc (f := 61) rfl ?_); refine gA (some 8) _ #[.agg #[.int .i64 a0_0, .int .i64 a0_1, .slice A0_2 l0_2.length c0_2]] ?_ Try.func61; (with_reducible refine (impl_IsBoard.calls k a0_0 a0_1 _ _ l0_2 true _ ?side1 ?side2 A4.o).mono ?_); (case side1 => repeat (first | exact (Kd.C_below A3.o HB.o) | (with_reducible refine Kd.C_alloc ?_ _) | (with_reducible refine Kd.C_drewN ?_ _) | (with_reducible refine Kd.C_drew ?_))); (case side2 => exact A2.o); rintro e B0 ⟨rfl, hb⟩; refine ⟨_, rfl, ?_⟩; replace A0 := kB A0 hb; replace HB := bB HB hb; (try clear hb); (try clear A8); (try clear hk); (try clear hi); have Ac := bc0 A0; have Ad := bc1 A0; have Ae := bc2 A0; have AA := qz A0.o 0; have AB := qz A0.o 1; have AC := qz A0.o 2))
     go_ret
     exact ⟨by first | rfl | (simp [eN, eS] <;> rfl) | (simp [*, eN, eS] <;> rfl), vB HB⟩
    ·rw [if_neg c8] at H
     have AX := decide_eq_false c8
     clear c8
     obtain rfl := Option.some.inj H
     go_enter Try.func56, Try.ntmps56
     go_wp2_with (first | ((with_reducible refine gq (N := 3) rfl ?_); refine be (N := 3) (cs := #[.int .i64 a0_0, .int .i64 a0_1, .slice A0_2 l0_2.length c0_2]) (t := 30) ?_; intro A6 hg B2 hbox hb; have A0 := Z.m (hbox); have A1 := gW (w := w) HB hg; have A5 := A1; replace HB := bB HB hb; clear hb hbox hg; have Af := bc0 A0; have Ag := bc1 A0; have Ah := bc2 A0; have AD := qz A0.o 0; have AE := qz A0.o 1; have AF := qz A0.o 2) | ((with_reducible refine gc (f := 61) rfl ?_); refine gA (some 8) _ #[.agg #[.int .i64 a0_0, .int .i64 a0_1, .slice A0_2 l0_2.length c0_2]] ?_ Try.func61; (with_reducible refine (impl_IsBoard.calls k a0_0 a0_1 _ _ l0_2 true _ ?side1 ?side2 A4.o).mono ?_); (case side1 => repeat (first | exact (Kd.C_below A3.o HB.o) | (with_reducible refine Kd.C_alloc ?_ _) | (with_reducible refine Kd.C_drewN ?_ _) | (with_reducible refine Kd.C_drew ?_))); (case side2 => exact A2.o); rintro e B7 ⟨rfl, hb⟩; refine ⟨_, rfl, ?_⟩; replace A0 := kB A0 hb; replace HB := bB HB hb; (try clear hb); (try clear A8); (try clear hk); (try clear hi); have Ai := bc0 A0; have Aj := bc1 A0; have Ak := bc2 A0; have AG := qz A0.o 0; have AH := qz A0.o 1; have AI := qz A0.o 2))
     go_ret
     exact ⟨by first | rfl | (simp [eN, eS] <;> rfl) | (simp [*, eN, eS] <;> rfl), vB HB⟩
   ·rw [if_neg c7] at H
    have AW := decide_eq_false c7
    clear c7
    obtain rfl := Option.some.inj H
    go_enter Try.func56, Try.ntmps56
    go_wp2_with (first | ((with_reducible refine gq (N := 3) rfl ?_); refine be (N := 3) (cs := #[.int .i64 a0_0, .int .i64 a0_1, .slice A0_2 l0_2.length c0_2]) (t := 30) ?_; intro A6 hg Ba hbox hb; have A0 := Z.m (hbox); have A1 := gW (w := w) HB hg; have A5 := A1; replace HB := bB HB hb; clear hb hbox hg; have Al := bc0 A0; have Am := bc1 A0; have An := bc2 A0; have AJ := qz A0.o 0; have AK := qz A0.o 1; have AL := qz A0.o 2) | ((with_reducible refine gc (f := 61) rfl ?_); refine gA (some 8) _ #[.agg #[.int .i64 a0_0, .int .i64 a0_1, .slice A0_2 l0_2.length c0_2]] ?_ Try.func61; (with_reducible refine (impl_IsBoard.calls k a0_0 a0_1 _ _ l0_2 true _ ?side1 ?side2 A4.o).mono ?_); (case side1 => repeat (first | exact (Kd.C_below A3.o HB.o) | (with_reducible refine Kd.C_alloc ?_ _) | (with_reducible refine Kd.C_drewN ?_ _) | (with_reducible refine Kd.C_drew ?_))); (case side2 => exact A2.o); rintro e Bb ⟨rfl, hb⟩; refine ⟨_, rfl, ?_⟩; replace A0 := kB A0 hb; replace HB := bB HB hb; (try clear hb); (try clear A8); (try clear hk); (try clear hi); have Ao := bc0 A0; have Ap := bc1 A0; have Aq := bc2 A0; have AM := qz A0.o 0; have AN := qz A0.o 1; have AO := qz A0.o 2))
    go_ret
    exact ⟨by first | rfl | (simp [eN, eS] <;> rfl) | (simp [*, eN, eS] <;> rfl), vB HB⟩
  ·rw [if_neg c6] at H
   have AV := decide_eq_false c6
   clear c6
   obtain rfl := Option.some.inj H
   go_enter Try.func56, Try.ntmps56
   go_wp2_with (first | ((with_reducible refine gq (N := 3) rfl ?_); refine be (N := 3) (cs := #[.int .i64 a0_0, .int .i64 a0_1, .slice A0_2 l0_2.length c0_2]) (t := 30) ?_; intro A6 hg Bc hbox hb; have A0 := Z.m (hbox); have A1 := gW (w := w) HB hg; have A5 := A1; replace HB := bB HB hb; clear hb hbox hg; have Ar := bc0 A0; have As := bc1 A0; have At := bc2 A0; have AP := qz A0.o 0; have AQ := qz A0.o 1; have AR := qz A0.o 2) | ((with_reducible refine gc (f := 61) rfl ?_); refine gA (some 8) _ #[.agg #[.int .i64 a0_0, .int .i64 a0_1, .slice A0_2 l0_2.length c0_2]] ?_ Try.func61; (with_reducible refine (impl_IsBoard.calls k a0_0 a0_1 _ _ l0_2 true _ ?side1 ?side2 A4.o).mono ?_); (case side1 => repeat (first | exact (Kd.C_below A3.o HB.o) | (with_reducible refine Kd.C_alloc ?_ _) | (with_reducible refine Kd.C_drewN ?_ _) | (with_reducible refine Kd.C_drew ?_))); (case side2 => exact A2.o); rintro e Bd ⟨rfl, hb⟩; refine ⟨_, rfl, ?_⟩; replace A0 := kB A0 hb; replace HB := bB HB hb; (try clear hb); (try clear A8); (try clear hk); (try clear hi)))
   go_ret
   exact ⟨by first | rfl | (simp [eN, eS] <;> rfl) | (simp [*, eN, eS] <;> rfl), vB HB⟩
 ·replace c5 := Bool.eq_false_iff.mpr c5
  subst c5
  have H1 : (some false) = some r := by rw [if_neg (show ¬ (false = true) by decide)] at H; exact H
  clear H
  have H := H1
  clear H1
  obtain rfl := Option.some.inj H
  go_enter Try.func56, Try.ntmps56
  go_wp2_with (first | ((with_reducible refine gq (N := 3) rfl ?_); refine be (N := 3) (cs := #[.int .i64 a0_0, .int .i64 a0_1, .slice A0_2 l0_2.length c0_2]) (t := 30) ?_; intro A6 hg Be hbox hb; have A0 := Z.m (hbox); have A1 := gW (w := w) HB hg; have A5 := A1; replace HB := bB HB hb; clear hb hbox hg; have Au := bc0 A0; have Av := bc1 A0; have Aw := bc2 A0; have AS := qz A0.o 0; have AT := qz A0.o 1; have AU := qz A0.o 2) | ((with_reducible refine gc (f := 61) rfl ?_); refine gA (some 8) _ #[.agg #[.int .i64 a0_0, .int .i64 a0_1, .slice A0_2 l0_2.length c0_2]] ?_ Try.func61; (with_reducible refine (impl_IsBoard.calls k a0_0 a0_1 _ _ l0_2 false _ ?side1 ?side2 A4.o).mono ?_); (case side1 => repeat (first | exact (Kd.C_below A3.o HB.o) | (with_reducible refine Kd.C_alloc ?_ _) | (with_reducible refine Kd.C_drewN ?_ _) | (with_reducible refine Kd.C_drew ?_))); (case side2 => exact A2.o); rintro e Bf ⟨rfl, hb⟩; refine ⟨_, rfl, ?_⟩; replace A0 := kB A0 hb; replace HB := bB HB hb; (try clear hb); (try clear A8); (try clear hk); (try clear hi)))
  go_ret
  exact ⟨by first | rfl | (simp [eN, eS] <;> rfl) | (simp [*, eN, eS] <;> rfl), vB HB⟩

end Go.Proofs.Ytlkiakpipcnijaa.PAll
