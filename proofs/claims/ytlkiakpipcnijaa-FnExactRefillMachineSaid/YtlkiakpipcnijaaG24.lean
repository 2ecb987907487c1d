/- Began as a text that print.sh wrote (of the functions named below); turned and shortened by this session. -/
import Derived.Test.YtlkiakpipcnijaaG0
import Derived.Test.YtlkiakpipcnijaaG12
import Derived.Test.YtlkiakpipcnijaaG18
namespace Go.Proofs.Ytlkiakpipcnijaa.PAll
open Go.RowKit Go.Proofs.YtlkiakpipcnijaaW.PrintWords Go.Proofs.YtlkiakpipcnijaaW.PrintLast Go.Proofs.YtlkiakpipcnijaaW.PrintMore
attribute [local go_sem] max2_int min2_int max_two min_two max_three min_three max_four min_four   -- for this text's walks alone
set_option linter.unusedVariables false
set_option linter.unusedSimpArgs false

/-! ### impl_validEntry: function 88 -/
def impl_validEntry.f (k : Nat) (a0_0 : Int) (a0_1 : Int) (l0_2 : List (S71)) (a1 : Int) : Option (Bool) := (impl_IsBoard.f k a0_0 a0_1 l0_2).bind fun t588 => (if t588 = true then (if a1 ≥ 0 then (some (decide (a1 < a0_1))) else (some false)) else (some false))
set_option maxHeartbeats 8000000 in
set_option maxRecDepth 100000 in
theorem impl_validEntry.calls (k : Nat) (a0_0 : Int) (a0_1 : Int) (A0_2 : Option Addr) (c0_2 : Nat) (l0_2 : List (S71)) (a1 : Int) (r : Bool) (w : World) (hr0_2 : Kd.C k71 w A0_2 l0_2.length l0_2) (hc0_2 : l0_2.length ≤ c0_2) (h : impl_validEntry.f k a0_0 a0_1 l0_2 a1 = some r) :
 Calls Try.prog 88 #[.agg #[.int .i64 a0_0, .int .i64 a0_1, .slice A0_2 l0_2.length c0_2], .int .i64 a1] w fun e w' => e = .returned (.bool r) ∧ Below w.heap.size w w' := by
 have Az := Try.underlying30
 have A4 := Z.m hr0_2
 have A2 := Z.m hc0_2
 clear hr0_2 hc0_2
 have HB := Z.m (Below.refl w.heap.size w)
 have H : ((impl_IsBoard.f k a0_0 a0_1 l0_2).bind fun A5 => (if A5 = true then (if a1 ≥ 0 then (some (decide (a1 < a0_1))) else (some false)) else (some false))) = some r := h
 clear h
 replace H := Option.bind_eq_some_iff.mp H
 obtain ⟨A5, Ax, H⟩ := H
 replace H : (if A5 = true then (if a1 ≥ 0 then (some (decide (a1 < a0_1))) else (some false)) else (some false)) = some r := H
 have A3 := Z.m Ax
 clear Ax
 by_cases c4 : A5 = true
 ·subst c4
  have H1 : (if a1 ≥ 0 then (some (decide (a1 < a0_1))) else (some false)) = some r := by rw [if_pos rfl] at H; exact H
  clear H
  have H := H1
  clear H1
  by_cases c5 : a1 ≥ 0
  ·rw [if_pos c5] at H
   have Ak := decide_eq_true c5
   clear c5
   obtain rfl := Option.some.inj H
   go_enter Try.func88, Try.ntmps88
   go_wp2_with (first | ((with_reducible refine gq (N := 2) rfl ?_); refine be (N := 2) (cs := #[.int .i64 a0_0, .int .i64 a0_1, .slice A0_2 l0_2.length c0_2]) (t := 30) ?_; intro A7 hg w6 hbox hb; have A0 := Z.m (hbox); have A1 := gW (w := w) HB hg; have A6 := A1; replace HB := bB HB hb; clear hb hbox hg; have Al := bc0 A0; have Am := bc1 A0; have An := bc2 A0; have Ar := qz A0.o 0; have As := qz A0.o 1; have At := qz A0.o 2) | ((with_reducible refine gc (f := 61) rfl ?_); refine gA (some 6) _ #[.agg #[.int .i64 a0_0, .int .i64 a0_1, .slice A0_2 l0_2.length c0_2]] ?_ Try.func61; (with_reducible refine (impl_IsBoard.calls k a0_0 a0_1 _ _ l0_2 true _ ?side1 ?side2 A3.o).mono ?_); (case side1 => repeat (first | exact (Kd.C_below A4.o HB.o) | (with_reducible refine Kd.C_alloc ?_ _) | (with_reducible refine Kd.C_drewN ?_ _) | (with_reducible refine Kd.C_drew ?_))); (case side2 => exact A2.o); rintro e w8 ⟨rfl, hb⟩; refine ⟨_, rfl, ?_⟩; replace A0 := kB A0 hb; replace HB := bB HB hb; (try clear hb); (try clear Ay); (try clear hk); (try clear hi); have Ao := bc0 A0; have Ap := bc1 A0; have Aq := bc2 A0; have Au := qz A0.o 0; have Av := qz A0.o 1; have Aw := qz A0.o 2))
   go_ret
   exact ⟨by first | rfl | (simp [eN, eS] <;> rfl) | (simp [*, eN, eS] <;> rfl), vB HB⟩
  ·rw [if_neg c5] at H
   have Ak := decide_eq_false c5
   clear c5
   obtain rfl := Option.some.inj H
   go_enter Try.func88, Try.ntmps88
   go_wp2_with (first | ((with_reducible refine gq (N := 2) rfl ?_); refine be (N := 2) (cs := #[.int .i64 a0_0, .int .i64 a0_1, .slice A0_2 l0_2.length c0_2]) (t := 30) ?_; intro A7 hg AA hbox hb; have A0 := Z.m (hbox); have A1 := gW (w := w) HB hg; have A6 := A1; replace HB := bB HB hb; clear hb hbox hg; have A8 := bc0 A0; have A9 := bc1 A0; have Aa := bc2 A0; have Ae := qz A0.o 0; have Af := qz A0.o 1; have Ag := qz A0.o 2) | ((with_reducible refine gc (f := 61) rfl ?_); refine gA (some 6) _ #[.agg #[.int .i64 a0_0, .int .i64 a0_1, .slice A0_2 l0_2.length c0_2]] ?_ Try.func61; (with_reducible refine (impl_IsBoard.calls k a0_0 a0_1 _ _ l0_2 true _ ?side1 ?side2 A3.o).mono ?_); (case side1 => repeat (first | exact (Kd.C_below A4.o HB.o) | (with_reducible refine Kd.C_alloc ?_ _) | (with_reducible refine Kd.C_drewN ?_ _) | (with_reducible refine Kd.C_drew ?_))); (case side2 => exact A2.o); rintro e AB ⟨rfl, hb⟩; refine ⟨_, rfl, ?_⟩; replace A0 := kB A0 hb; replace HB := bB HB hb; (try clear hb); (try clear Ay); (try clear hk); (try clear hi)))
   go_ret
   exact ⟨by first | rfl | (simp [eN, eS] <;> rfl) | (simp [*, eN, eS] <;> rfl), vB HB⟩
 ·replace c4 := Bool.eq_false_iff.mpr c4
  subst c4
  have H1 : (some false) = some r := by rw [if_neg (show ¬ (false = true) by decide)] at H; exact H
  clear H
  have H := H1
  clear H1
  obtain rfl := Option.some.inj H
  go_enter Try.func88, Try.ntmps88
  go_wp2_with (first | ((with_reducible refine gq (N := 2) rfl ?_); refine be (N := 2) (cs := #[.int .i64 a0_0, .int .i64 a0_1, .slice A0_2 l0_2.length c0_2]) (t := 30) ?_; intro A7 hg AC hbox hb; have A0 := Z.m (hbox); have A1 := gW (w := w) HB hg; have A6 := A1; replace HB := bB HB hb; clear hb hbox hg; have Ab := bc0 A0; have Ac := bc1 A0; have Ad := bc2 A0; have Ah := qz A0.o 0; have Ai := qz A0.o 1; have Aj := qz A0.o 2) | ((with_reducible refine gc (f := 61) rfl ?_); refine gA (some 6) _ #[.agg #[.int .i64 a0_0, .int .i64 a0_1, .slice A0_2 l0_2.length c0_2]] ?_ Try.func61; (with_reducible refine (impl_IsBoard.calls k a0_0 a0_1 _ _ l0_2 false _ ?side1 ?side2 A3.o).mono ?_); (case side1 => repeat (first | exact (Kd.C_below A4.o HB.o) | (with_reducible refine Kd.C_alloc ?_ _) | (with_reducible refine Kd.C_drewN ?_ _) | (with_reducible refine Kd.C_drew ?_))); (case side2 => exact A2.o); rintro e AD ⟨rfl, hb⟩; refine ⟨_, rfl, ?_⟩; replace A0 := kB A0 hb; replace HB := bB HB hb; (try clear hb); (try clear Ay); (try clear hk); (try clear hi)))
  go_ret
  exact ⟨by first | rfl | (simp [eN, eS] <;> rfl) | (simp [*, eN, eS] <;> rfl), vB HB⟩

/-! ### impl_IsMachine: function 78 -/
def impl_IsMachine.f (k : Nat) (a0_0 : Int) (a0_1 : Int) (l0_2 : List (S71)) (a0_3 : Int) (a0_4 : Int) (a0_5 : Int) (a0_6 : Int) (a0_7 : Int) : Option (Bool) := (impl_validEntry.f k a0_0 a0_1 l0_2 a0_3).bind fun t590 => (if t590 = true then ((impl_validEntry.f k a0_0 a0_1 l0_2 a0_4).bind fun t591 => (if t591 = true then (if a0_5 ≥ 0 then (if a0_5 ≤ 30 then (if a0_6 ≥ 0 then (if a0_6 ≤ 30 then (if a0_7 ≥ 0 then (some (decide (a0_7 ≤ 2))) else (some false)) else (some false)) else (some false)) else (some false)) else (some false)) else (some false))) else (some false))
set_option maxHeartbeats 8000000 in
set_option maxRecDepth 100000 in
theorem impl_IsMachine.calls (k : Nat) (a0_0 : Int) (a0_1 : Int) (A0_2 : Option Addr) (c0_2 : Nat) (l0_2 : List (S71)) (a0_3 : Int) (a0_4 : Int) (a0_5 : Int) (a0_6 : Int) (a0_7 : Int) (r : Bool) (w : World) (hr0_2 : Kd.C k71 w A0_2 l0_2.length l0_2) (hc0_2 : l0_2.length ≤ c0_2) (h : impl_IsMachine.f k a0_0 a0_1 l0_2 a0_3 a0_4 a0_5 a0_6 a0_7 = some r) :
 Calls Try.prog 78 #[.agg #[.int .i64 a0_0, .int .i64 a0_1, .slice A0_2 l0_2.length c0_2, .int .i64 a0_3, .int .i64 a0_4, .int .i64 a0_5, .int .i64 a0_6, .int .i64 a0_7]] w fun e w' => e = .returned (.bool r) ∧ Below w.heap.size w w' := by
 have FV := Try.underlying55
 have FU := Try.underlying30
 have A5 := Z.m hr0_2
 have A3 := Z.m hc0_2
 clear hr0_2 hc0_2
 have HB := Z.m (Below.refl w.heap.size w)
 have H : ((impl_validEntry.f k a0_0 a0_1 l0_2 a0_3).bind fun Aa => (if Aa = true then ((impl_validEntry.f k a0_0 a0_1 l0_2 a0_4).bind fun A8 => (if A8 = true then (if a0_5 ≥ 0 then (if a0_5 ≤ 30 then (if a0_6 ≥ 0 then (if a0_6 ≤ 30 then (if a0_7 ≥ 0 then (some (decide (a0_7 ≤ 2))) else (some false)) else (some false)) else (some false)) else (some false)) else (some false)) else (some false))) else (some false))) = some r := h
 clear h
 replace H := Option.bind_eq_some_iff.mp H
 obtain ⟨Aa, FS, H⟩ := H
 replace H : (if Aa = true then ((impl_validEntry.f k a0_0 a0_1 l0_2 a0_4).bind fun A8 => (if A8 = true then (if a0_5 ≥ 0 then (if a0_5 ≤ 30 then (if a0_6 ≥ 0 then (if a0_6 ≤ 30 then (if a0_7 ≥ 0 then (some (decide (a0_7 ≤ 2))) else (some false)) else (some false)) else (some false)) else (some false)) else (some false)) else (some false))) else (some false)) = some r := H
 have A2 := Z.m FS
 clear FS
 by_cases c3 : Aa = true
 ·subst c3
  have H1 : ((impl_validEntry.f k a0_0 a0_1 l0_2 a0_4).bind fun A8 => (if A8 = true then (if a0_5 ≥ 0 then (if a0_5 ≤ 30 then (if a0_6 ≥ 0 then (if a0_6 ≤ 30 then (if a0_7 ≥ 0 then (some (decide (a0_7 ≤ 2))) else (some false)) else (some false)) else (some false)) else (some false)) else (some false)) else (some false))) = some r := by rw [if_pos rfl] at H; exact H
  clear H
  have H := H1
  clear H1
  replace H := Option.bind_eq_some_iff.mp H
  obtain ⟨A8, FT, H⟩ := H
  replace H : (if A8 = true then (if a0_5 ≥ 0 then (if a0_5 ≤ 30 then (if a0_6 ≥ 0 then (if a0_6 ≤ 30 then (if a0_7 ≥ 0 then (some (decide (a0_7 ≤ 2))) else (some false)) else (some false)) else (some false)) else (some false)) else (some false)) else (some false)) = some r := H
  have A4 := Z.m FT
  clear FT
  by_cases c5 : A8 = true
  ·subst c5
   have H1 : (if a0_5 ≥ 0 then (if a0_5 ≤ 30 then (if a0_6 ≥ 0 then (if a0_6 ≤ 30 then (if a0_7 ≥ 0 then (some (decide (a0_7 ≤ 2))) else (some false)) else (some false)) else (some false)) else (some false)) else (some false)) = some r := by rw [if_pos rfl] at H; exact H
   clear H
   have H := H1
   clear H1
   by_cases c6 : a0_5 ≥ 0
   ·rw [if_pos c6] at H
    have FO := decide_eq_true c6
    clear c6
    by_cases c7 : a0_5 ≤ 30
    ·rw [if_pos c7] at H
     have FP := decide_eq_true c7
     clear c7
     by_cases c8 : a0_6 ≥ 0
     ·rw [if_pos c8] at H
      have FQ := decide_eq_true c8
      clear c8
      by_cases c9 : a0_6 ≤ 30
      ·rw [if_pos c9] at H
       have FR := decide_eq_true c9
       clear c9
       by_cases c10 : a0_7 ≥ 0
       ·rw [if_pos c10] at H
        have Ab := decide_eq_true c10
        clear c10
        obtain rfl := Option.some.inj H
        go_enter Try.func78, Try.ntmps78
        go_wp2_with (first | ((with_reducible refine gq (N := 1) rfl ?_); refine be (N := 1) (cs := #[.int .i64 a0_0, .int .i64 a0_1, .slice A0_2 l0_2.length c0_2, .int .i64 a0_3, .int .i64 a0_4, .int .i64 a0_5, .int .i64 a0_6, .int .i64 a0_7]) (t := 55) ?_; intro A7 hg FW hbox hb; have A0 := Z.m (hbox); have A1 := gW (w := w) HB hg; have A6 := A1; replace HB := bB HB hb; clear hb hbox hg; have Ac := bc0 A0; have Ad := bc1 A0; have Ae := bc2 A0; have Af := bc3 A0; have Ag := bc4 A0; have Ah := bc5 A0; have Ai := bc6 A0; have Aj := bc7 A0; have D3 := qz A0.o 0; have D4 := qz A0.o 1; have D5 := qz A0.o 2; have D6 := qz A0.o 3; have D7 := qz A0.o 4; have D8 := qz A0.o 5; have D9 := qz A0.o 6; have Da := qz A0.o 7) | ((with_reducible refine gc (f := 88) rfl ?_); refine gA (some 7) _ #[.agg #[.int .i64 a0_0, .int .i64 a0_1, .slice A0_2 l0_2.length c0_2], .int .i64 a0_3] ?_ Try.func88; (with_reducible refine (impl_validEntry.calls k a0_0 a0_1 _ _ l0_2 a0_3 true _ ?side1 ?side2 A2.o).mono ?_); (case side1 => repeat (first | exact (Kd.C_below A5.o HB.o) | (with_reducible refine Kd.C_alloc ?_ _) | (with_reducible refine Kd.C_drewN ?_ _) | (with_reducible refine Kd.C_drew ?_))); (case side2 => exact A3.o); rintro e FX ⟨rfl, hb⟩; refine ⟨_, rfl, ?_⟩; replace A0 := kB A0 hb; replace HB := bB HB hb; (try clear hb); (try clear A9); (try clear hk); (try clear hi); have Ak := bc0 A0; have Al := bc1 A0; have Am := bc2 A0; have An := bc3 A0; have Ao := bc4 A0; have Ap := bc5 A0; have Aq := bc6 A0; have Ar := bc7 A0; have Db := qz A0.o 0; have Dc := qz A0.o 1; have Dd := qz A0.o 2; have De := qz A0.o 3; have Df := qz A0.o 4; have Dg := qz A0.o 5; have Dh := qz A0.o 6; have Di := qz A0.o 7) | (go_at_call 88; (with_reducible refine (impl_validEntry.calls k a0_0 a0_1 _ _ l0_2 a0_4 true _ ?side1 ?side2 A4.o).mono ?_); (case side1 => repeat (first | exact (Kd.C_below A5.o HB.o) | (with_reducible refine Kd.C_alloc ?_ _) | (with_reducible refine Kd.C_drewN ?_ _) | (with_reducible refine Kd.C_drew ?_))); (case side2 => exact A3.o); rintro e FY ⟨rfl, hb⟩; replace A0 := kB A0 hb; replace HB := bB HB hb; (try clear hb); (try clear A9); (try clear hk); (try clear hi); have As := bc0 A0; have At := bc1 A0; have Au := bc2 A0; have Av := bc3 A0; have Aw := bc4 A0; have Ax := bc5 A0; have Ay := bc6 A0; have Az := bc7 A0; have Dj := qz A0.o 0; have Dk := qz A0.o 1; have Dl := qz A0.o 2; have Dm := qz A0.o 3; have Dn := qz A0.o 4; have Do := qz A0.o 5; have Dp := qz A0.o 6; have Dq := qz A0.o 7))
        go_ret
        exact ⟨by first | rfl | (simp [eN, eS] <;> rfl) | (simp [*, eN, eS] <;> rfl), vB HB⟩
       ·rw [if_neg c10] at H
        have Ab := decide_eq_false c10
        clear c10
        obtain rfl := Option.some.inj H
        go_enter Try.func78, Try.ntmps78
        go_wp2_with (first | ((with_reducible refine gq (N := 1) rfl ?_); refine be (N := 1) (cs := #[.int .i64 a0_0, .int .i64 a0_1, .slice A0_2 l0_2.length c0_2, .int .i64 a0_3, .int .i64 a0_4, .int .i64 a0_5, .int .i64 a0_6, .int .i64 a0_7]) (t := 55) ?_; intro A7 hg FZ hbox hb; have A0 := Z.m (hbox); have A1 := gW (w := w) HB hg; have A6 := A1; replace HB := bB HB hb; clear hb hbox hg; have AA := bc0 A0; have AB := bc1 A0; have AC := bc2 A0; have AD := bc3 A0; have AE := bc4 A0; have AF := bc5 A0; have AG := bc6 A0; have AH := bc7 A0; have Dr := qz A0.o 0; have Ds := qz A0.o 1; have Dt := qz A0.o 2; have Du := qz A0.o 3; have Dv := qz A0.o 4; have Dw := qz A0.o 5; have Dx := qz A0.o 6; have Dy := qz A0.o 7) | ((with_reducible refine gc (f := 88) rfl ?_); refine gA (some 7) _ #[.agg #[.int .i64 a0_0, .int .i64 a0_1, .slice A0_2 l0_2.length c0_2], .int .i64 a0_3] ?_ Try.func88; (with_reducible refine (impl_validEntry.calls k a0_0 a0_1 _ _ l0_2 a0_3 true _ ?side1 ?side2 A2.o).mono ?_); (case side1 => repeat (first | exact (Kd.C_below A5.o HB.o) | (with_reducible refine Kd.C_alloc ?_ _) | (with_reducible refine Kd.C_drewN ?_ _) | (with_reducible refine Kd.C_drew ?_))); (case side2 => exact A3.o); rintro e G0 ⟨rfl, hb⟩; refine ⟨_, rfl, ?_⟩; replace A0 := kB A0 hb; replace HB := bB HB hb; (try clear hb); (try clear A9); (try clear hk); (try clear hi); have AI := bc0 A0; have AJ := bc1 A0; have AK := bc2 A0; have AL := bc3 A0; have AM := bc4 A0; have AN := bc5 A0; have AO := bc6 A0; have AP := bc7 A0; have Dz := qz A0.o 0; have DA := qz A0.o 1; have DB := qz A0.o 2; have DC := qz A0.o 3; have DD := qz A0.o 4; have DE := qz A0.o 5; have DF := qz A0.o 6; have DG := qz A0.o 7) | (go_at_call 88; (with_reducible refine (impl_validEntry.calls k a0_0 a0_1 _ _ l0_2 a0_4 true _ ?side1 ?side2 A4.o).mono ?_); (case side1 => repeat (first | exact (Kd.C_below A5.o HB.o) | (with_reducible refine Kd.C_alloc ?_ _) | (with_reducible refine Kd.C_drewN ?_ _) | (with_reducible refine Kd.C_drew ?_))); (case side2 => exact A3.o); rintro e G1 ⟨rfl, hb⟩; replace A0 := kB A0 hb; replace HB := bB HB hb; (try clear hb); (try clear A9); (try clear hk); (try clear hi); have AQ := bc0 A0; have AR := bc1 A0; have AS := bc2 A0; have AT := bc3 A0; have AU := bc4 A0; have AV := bc5 A0; have AW := bc6 A0; have AX := bc7 A0; have DH := qz A0.o 0; have DI := qz A0.o 1; have DJ := qz A0.o 2; have DK := qz A0.o 3; have DL := qz A0.o 4; have DM := qz A0.o 5; have DN := qz A0.o 6; have DO := qz A0.o 7))
        go_ret
        exact ⟨by first | rfl | (simp [eN, eS] <;> rfl) | (simp [*, eN, eS] <;> rfl), vB HB⟩
      ·rw [if_neg c9] at H
       have FR := decide_eq_false c9
       clear c9
       obtain rfl := Option.some.inj H
       go_enter Try.func78, Try.ntmps78
       go_wp2_with (first | ((with_reducible refine gq (N := 1) rfl ?_); refine be (N := 1) (cs := #[.int .i64 a0_0, .int .i64 a0_1, .slice A0_2 l0_2.length c0_2, .int .i64 a0_3, .int .i64 a0_4, .int .i64 a0_5, .int .i64 a0_6, .int .i64 a0_7]) (t := 55) ?_; intro A7 hg G2 hbox hb; have A0 := Z.m (hbox); have A1 := gW (w := w) HB hg; have A6 := A1; replace HB := bB HB hb; clear hb hbox hg; have AY := bc0 A0; have AZ := bc1 A0; have B0 := bc2 A0; have B2 := bc3 A0; have B7 := bc4 A0; have Ba := bc5 A0; have Bb := bc6 A0; have Bc := bc7 A0; have DP := qz A0.o 0; have DQ := qz A0.o 1; have DR := qz A0.o 2; have DS := qz A0.o 3; have DT := qz A0.o 4; have DU := qz A0.o 5; have DV := qz A0.o 6; have DW := qz A0.o 7) | ((with_reducible refine gc (f := 88) rfl ?_); refine gA (some 7) _ #[.agg #[.int .i64 a0_0, .int .i64 a0_1, .slice A0_2 l0_2.length c0_2], .int .i64 a0_3] ?_ Try.func88; (with_reducible refine (impl_validEntry.calls k a0_0 a0_1 _ _ l0_2 a0_3 true _ ?side1 ?side2 A2.o).mono ?_); (case side1 => repeat (first | exact (Kd.C_below A5.o HB.o) | (with_reducible refine Kd.C_alloc ?_ _) | (with_reducible refine Kd.C_drewN ?_ _) | (with_reducible refine Kd.C_drew ?_))); (case side2 => exact A3.o); rintro e G3 ⟨rfl, hb⟩; refine ⟨_, rfl, ?_⟩; replace A0 := kB A0 hb; replace HB := bB HB hb; (try clear hb); (try clear A9); (try clear hk); (try clear hi); have Bd := bc0 A0; have Be := bc1 A0; have Bf := bc2 A0; have Bg := bc3 A0; have Bh := bc4 A0; have Bi := bc5 A0; have Bj := bc6 A0; have Bk := bc7 A0; have DX := qz A0.o 0; have DY := qz A0.o 1; have DZ := qz A0.o 2; have E0 := qz A0.o 3; have E1 := qz A0.o 4; have E2 := qz A0.o 5; have E3 := qz A0.o 6; have E4 := qz A0.o 7) | (go_at_call 88; (with_reducible refine (impl_validEntry.calls k a0_0 a0_1 _ _ l0_2 a0_4 true _ ?side1 ?side2 A4.o).mono ?_); (case side1 => repeat (first | exact (Kd.C_below A5.o HB.o) | (with_reducible refine Kd.C_alloc ?_ _) | (with_reducible refine Kd.C_drewN ?_ _) | (with_reducible refine Kd.C_drew ?_))); (case side2 => exact A3.o); rintro e G4 ⟨rfl, hb⟩; replace A0 := kB A0 hb; replace HB := bB HB hb; (try clear hb); (try clear A9); (try clear hk); (try clear hi); have Bl := bc0 A0; have Bm := bc1 A0; have Bn := bc2 A0; have Bo := bc3 A0; have Bp := bc4 A0; have Bq := bc5 A0; have Br := bc6 A0; have Bs := bc7 A0; have E5 := qz A0.o 0; have E6 := qz A0.o 1; have E7 := qz A0.o 2; have E8 := qz A0.o 3; have E9 := qz A0.o 4; have Ea := qz A0.o 5; have Eb := qz A0.o 6; have Ec := qz A0.o 7))
       go_ret
       exact ⟨by first | rfl | (simp [eN, eS] <;> rfl) | (simp [*, eN, eS] <;> rfl), vB HB⟩
     ·rw [if_neg c8] at H
      have FQ := decide_eq_false c8
      clear c8
      obtain rfl := Option.some.inj H
      go_enter Try.func78, Try.ntmps78
      go_wp2_with (first | ((with_reducible refine gq (N := 1) rfl ?_); refine be (N := 1) (cs := #[.int .i64 a0_0, .int .i64 a0_1, .slice A0_2 l0_2.length c0_2, .int .i64 a0_3, .int .i64 a0_4, .int .i64 a0_5, .int .i64 a0_6, .int .i64 a0_7]) (t := 55) ?_; intro A7 hg G5 hbox hb; have A0 := Z.m (hbox); have A1 := gW (w := w) HB hg; have A6 := A1; replace HB := bB HB hb; clear hb hbox hg; have Bt := bc0 A0; have Bu := bc1 A0; have Bv := bc2 A0; have Bw := bc3 A0; have Bx := bc4 A0; have By := bc5 A0; have Bz := bc6 A0; have BA := bc7 A0; have Ed := qz A0.o 0; have Ee := qz A0.o 1; have Ef := qz A0.o 2; have Eg := qz A0.o 3; have Eh := qz A0.o 4; have Ei := qz A0.o 5; have Ej := qz A0.o 6; have Ek := qz A0.o 7) | ((with_reducible refine gc (f := 88) rfl ?_); refine gA (some 7) _ #[.agg #[.int .i64 a0_0, .int .i64 a0_1, .slice A0_2 l0_2.length c0_2], .int .i64 a0_3] ?_ Try.func88; (with_reducible refine (impl_validEntry.calls k a0_0 a0_1 _ _ l0_2 a0_3 true _ ?side1 ?side2 A2.o).mono ?_); (case side1 => repeat (first | exact (Kd.C_below A5.o HB.o) | (with_reducible refine Kd.C_alloc ?_ _) | (with_reducible refine Kd.C_drewN ?_ _) | (with_reducible refine Kd.C_drew ?_))); (case side2 => exact A3.o); rintro e G6 ⟨rfl, hb⟩; refine ⟨_, rfl, ?_⟩; replace A0 := kB A0 hb; replace HB := bB HB hb; (try clear hb); (try clear A9); (try clear hk); (try clear hi); have BB := bc0 A0; have BC := bc1 A0; have BD := bc2 A0; have BE := bc3 A0; have BF := bc4 A0; have BG := bc5 A0; have BH := bc6 A0; have BI := bc7 A0; have El := qz A0.o 0; have Em := qz A0.o 1; have En := qz A0.o 2; have Eo := qz A0.o 3; have Ep := qz A0.o 4; have Er := qz A0.o 5; have Es := qz A0.o 6; have Et := qz A0.o 7) | (go_at_call 88; (with_reducible refine (impl_validEntry.calls k a0_0 a0_1 _ _ l0_2 a0_4 true _ ?side1 ?side2 A4.o).mono ?_); (case side1 => repeat (first | exact (Kd.C_below A5.o HB.o) | (with_reducible refine Kd.C_alloc ?_ _) | (with_reducible refine Kd.C_drewN ?_ _) | (with_reducible refine Kd.C_drew ?_))); (case side2 => exact A3.o); rintro e G7 ⟨rfl, hb⟩; replace A0 := kB A0 hb; replace HB := bB HB hb; (try clear hb); (try clear A9); (try clear hk); (try clear hi); have BJ := bc0 A0; have BK := bc1 A0; have BL := bc2 A0; have BM := bc3 A0; have BN := bc4 A0; have BO := bc5 A0; have BP := bc6 A0; have BQ := bc7 A0; have Eu := qz A0.o 0; have Ew := qz A0.o 1; have Ex := qz A0.o 2; have Ey := qz A0.o 3; have Ez := qz A0.o 4; have EA := qz A0.o 5; have EB := qz A0.o 6; have EC := qz A0.o 7))
      go_ret
      exact ⟨by first | rfl | (simp [eN, eS] <;> rfl) | (simp [*, eN, eS] <;> rfl), vB HB⟩
    ·rw [if_neg c7] at H
     have FP := decide_eq_false c7
     clear c7
     obtain rfl := Option.some.inj H
     go_enter Try.func78, Try.ntmps78
     go_wp2_with (first | ((with_reducible refine gq (N := 1) rfl ?_); refine be (N := 1) (cs := #[.int .i64 a0_0, .int .i64 a0_1, .slice A0_2 l0_2.length c0_2, .int .i64 a0_3, .int .i64 a0_4, .int .i64 a0_5, .int .i64 a0_6, .int .i64 a0_7]) (t := 55) ?_; intro A7 hg G8 hbox hb; have A0 := Z.m (hbox); have A1 := gW (w := w) HB hg; have A6 := A1; replace HB := bB HB hb; clear hb hbox hg; have BR := bc0 A0; have BS := bc1 A0; have BT := bc2 A0; have BU := bc3 A0; have BV := bc4 A0; have BW := bc5 A0; have BX := bc6 A0; have BY := bc7 A0; have ED := qz A0.o 0; have EE := qz A0.o 1; have EF := qz A0.o 2; have EG := qz A0.o 3; have EH := qz A0.o 4; have EI := qz A0.o 5; have EJ := qz A0.o 6; have EK := qz A0.o 7) | ((with_reducible refine gc (f := 88) rfl ?_); refine gA (some 7) _ #[.agg #[.int .i64 a0_0, .int .i64 a0_1, .slice A0_2 l0_2.length c0_2], .int .i64 a0_3] ?_ Try.func88; (with_reducible refine (impl_validEntry.calls k a0_0 a0_1 _ _ l0_2 a0_3 true _ ?side1 ?side2 A2.o).mono ?_); (case side1 => repeat (first | exact (Kd.C_below A5.o HB.o) | (with_reducible refine Kd.C_alloc ?_ _) | (with_reducible refine Kd.C_drewN ?_ _) | (with_reducible refine Kd.C_drew ?_))); (case side2 => exact A3.o); rintro e G9 ⟨rfl, hb⟩; refine ⟨_, rfl, ?_⟩; replace A0 := kB A0 hb; replace HB := bB HB hb; (try clear hb); (try clear A9); (try clear hk); (try clear hi); have BZ := bc0 A0; have C0 := bc1 A0; have C1 := bc2 A0; have C2 := bc3 A0; have C3 := bc4 A0; have C4 := bc5 A0; have C5 := bc6 A0; have C6 := bc7 A0; have EL := qz A0.o 0; have EM := qz A0.o 1; have EN := qz A0.o 2; have EO := qz A0.o 3; have EP := qz A0.o 4; have EQ := qz A0.o 5; have ER := qz A0.o 6; have ES := qz A0.o 7) | (go_at_call 88; (with_reducible refine (impl_validEntry.calls k a0_0 a0_1 _ _ l0_2 a0_4 true _ ?side1 ?side2 A4.o).mono ?_); (case side1 => repeat (first | exact (Kd.C_below A5.o HB.o) | (with_reducible refine Kd.C_alloc ?_ _) | (with_reducible refine Kd.C_drewN ?_ _) | (with_reducible refine Kd.C_drew ?_))); (case side2 => exact A3.o); rintro e Ga ⟨rfl, hb⟩; replace A0 := kB A0 hb; replace HB := bB HB hb; (try clear hb); (try clear A9); (try clear hk); (try clear hi); have C7 := bc0 A0; have C8 := bc1 A0; have C9 := bc2 A0; have Ca := bc3 A0; have Cb := bc4 A0; have Cd := bc5 A0; have Ce := bc6 A0; have Cf := bc7 A0; have ET := qz A0.o 0; have EU := qz A0.o 1; have EV := qz A0.o 2; have EW := qz A0.o 3; have EX := qz A0.o 4; have EY := qz A0.o 5; have EZ := qz A0.o 6; have F0 := qz A0.o 7))
     go_ret
     exact ⟨by first | rfl | (simp [eN, eS] <;> rfl) | (simp [*, eN, eS] <;> rfl), vB HB⟩
   ·rw [if_neg c6] at H
    have FO := decide_eq_false c6
    clear c6
    obtain rfl := Option.some.inj H
    go_enter Try.func78, Try.ntmps78
    go_wp2_with (first | ((with_reducible refine gq (N := 1) rfl ?_); refine be (N := 1) (cs := #[.int .i64 a0_0, .int .i64 a0_1, .slice A0_2 l0_2.length c0_2, .int .i64 a0_3, .int .i64 a0_4, .int .i64 a0_5, .int .i64 a0_6, .int .i64 a0_7]) (t := 55) ?_; intro A7 hg Gb hbox hb; have A0 := Z.m (hbox); have A1 := gW (w := w) HB hg; have A6 := A1; replace HB := bB HB hb; clear hb hbox hg; have Cg := bc0 A0; have Ch := bc1 A0; have Ci := bc2 A0; have Cj := bc3 A0; have Cl := bc4 A0; have Cm := bc5 A0; have Cn := bc6 A0; have Co := bc7 A0; have F1 := qz A0.o 0; have F2 := qz A0.o 1; have F3 := qz A0.o 2; have F4 := qz A0.o 3; have F5 := qz A0.o 4; have F6 := qz A0.o 5; have F7 := qz A0.o 6; have F8 := qz A0.o 7) | ((with_reducible refine gc (f := 88) rfl ?_); refine gA (some 7) _ #[.agg #[.int .i64 a0_0, .int .i64 a0_1, .slice A0_2 l0_2.length c0_2], .int .i64 a0_3] ?_ Try.func88; (with_reducible refine (impl_validEntry.calls k a0_0 a0_1 _ _ l0_2 a0_3 true _ ?side1 ?side2 A2.o).mono ?_); (case side1 => repeat (first | exact (Kd.C_below A5.o HB.o) | (with_reducible refine Kd.C_alloc ?_ _) | (with_reducible refine Kd.C_drewN ?_ _) | (with_reducible refine Kd.C_drew ?_))); (case side2 => exact A3.o); rintro e Gc ⟨rfl, hb⟩; refine ⟨_, rfl, ?_⟩; replace A0 := kB A0 hb; replace HB := bB HB hb; (try clear hb); (try clear A9); (try clear hk); (try clear hi); have Cp := bc0 A0; have Cq := bc1 A0; have Cr := bc2 A0; have Cs := bc3 A0; have Ct := bc4 A0; have Cu := bc5 A0; have Cv := bc6 A0; have Cw := bc7 A0; have F9 := qz A0.o 0; have Fa := qz A0.o 1; have Fb := qz A0.o 2; have Fc := qz A0.o 3; have Fd := qz A0.o 4; have Fe := qz A0.o 5; have Ff := qz A0.o 6; have Fg := qz A0.o 7) | (go_at_call 88; (with_reducible refine (impl_validEntry.calls k a0_0 a0_1 _ _ l0_2 a0_4 true _ ?side1 ?side2 A4.o).mono ?_); (case side1 => repeat (first | exact (Kd.C_below A5.o HB.o) | (with_reducible refine Kd.C_alloc ?_ _) | (with_reducible refine Kd.C_drewN ?_ _) | (with_reducible refine Kd.C_drew ?_))); (case side2 => exact A3.o); rintro e Gd ⟨rfl, hb⟩; replace A0 := kB A0 hb; replace HB := bB HB hb; (try clear hb); (try clear A9); (try clear hk); (try clear hi); have Cx := bc0 A0; have Cy := bc1 A0; have Cz := bc2 A0; have CA := bc3 A0; have CB := bc4 A0; have CC := bc5 A0; have CD := bc6 A0; have CE := bc7 A0; have Fh := qz A0.o 0; have Fi := qz A0.o 1; have Fj := qz A0.o 2; have Fk := qz A0.o 3; have Fl := qz A0.o 4; have Fm := qz A0.o 5; have Fn := qz A0.o 6; have Fo := qz A0.o 7))
    go_ret
    exact ⟨by first | rfl | (simp [eN, eS] <;> rfl) | (simp [*, eN, eS] <;> rfl), vB HB⟩
  ·replace c5 := Bool.eq_false_iff.mpr c5
   subst c5
   have H1 : (some false) = some r := by rw [if_neg (show ¬ (false = true) by decide)] at H; exact H
   clear H
   have H := H1
   clear H1
   obtain rfl := Option.some.inj H
   go_enter Try.func78, Try.ntmps78
   go_wp2_with (first | ((with_reducible refine gq (N := 1) rfl ?_); refine be (N := 1) (cs := #[.int .i64 a0_0, .int .i64 a0_1, .slice A0_2 l0_2.length c0_2, .int .i64 a0_3, .int .i64 a0_4, .int .i64 a0_5, .int .i64 a0_6, .int .i64 a0_7]) (t := 55) ?_; intro A7 hg Ge hbox hb; have A0 := Z.m (hbox); have A1 := gW (w := w) HB hg; have A6 := A1; replace HB := bB HB hb; clear hb hbox hg; have CF := bc0 A0; have CG := bc1 A0; have CH := bc2 A0; have CI := bc3 A0; have CJ := bc4 A0; have CK := bc5 A0; have CL := bc6 A0; have CM := bc7 A0; have Fp := qz A0.o 0; have Fq := qz A0.o 1; have Fr := qz A0.o 2; have Fs := qz A0.o 3; have Ft := qz A0.o 4; have Fu := qz A0.o 5; have Fv := qz A0.o 6; have Fw := qz A0.o 7) | ((with_reducible refine gc (f := 88) rfl ?_); refine gA (some 7) _ #[.agg #[.int .i64 a0_0, .int .i64 a0_1, .slice A0_2 l0_2.length c0_2], .int .i64 a0_3] ?_ Try.func88; (with_reducible refine (impl_validEntry.calls k a0_0 a0_1 _ _ l0_2 a0_3 true _ ?side1 ?side2 A2.o).mono ?_); (case side1 => repeat (first | exact (Kd.C_below A5.o HB.o) | (with_reducible refine Kd.C_alloc ?_ _) | (with_reducible refine Kd.C_drewN ?_ _) | (with_reducible refine Kd.C_drew ?_))); (case side2 => exact A3.o); rintro e Gf ⟨rfl, hb⟩; refine ⟨_, rfl, ?_⟩; replace A0 := kB A0 hb; replace HB := bB HB hb; (try clear hb); (try clear A9); (try clear hk); (try clear hi); have CN := bc0 A0; have CO := bc1 A0; have CP := bc2 A0; have CQ := bc3 A0; have CR := bc4 A0; have CS := bc5 A0; have CT := bc6 A0; have CU := bc7 A0; have Fx := qz A0.o 0; have Fy := qz A0.o 1; have Fz := qz A0.o 2; have FA := qz A0.o 3; have FB := qz A0.o 4; have FC := qz A0.o 5; have FD := qz A0.o 6; have FE := qz A0.o 7) | (go_at_call 88; (with_reducible refine (impl_validEntry.calls k a0_0 a0_1 _ _ l0_2 a0_4 false _ ?side1 ?side2 A4.o).mono ?_); (case side1 => repeat (first | exact (Kd.C_below A5.o HB.o) | (with_reducible refine Kd.C_alloc ?_ _) | (with_reducible refine Kd.C_drewN ?_ _) | (with_reducible refine Kd.C_drew ?_))); (case side2 => exact A3.o); rintro e Gg ⟨rfl, hb⟩; replace A0 := kB A0 hb; replace HB := bB HB hb; (try clear hb); (try clear A9); (try clear hk); (try clear hi)))
   go_ret
   exact ⟨by first | rfl | (simp [eN, eS] <;> rfl) | (simp [*, eN, eS] <;> rfl), vB HB⟩
 ·replace c3 := Bool.eq_false_iff.mpr c3
  subst c3
  have H1 : (some false) = some r := by rw [if_neg (show ¬ (false = true) by decide)] at H; exact H
  clear H
  have H := H1
  clear H1
  obtain rfl := Option.some.inj H
  go_enter Try.func78, Try.ntmps78
  go_wp2_with (first | ((with_reducible refine gq (N := 1) rfl ?_); refine be (N := 1) (cs := #[.int .i64 a0_0, .int .i64 a0_1, .slice A0_2 l0_2.length c0_2, .int .i64 a0_3, .int .i64 a0_4, .int .i64 a0_5, .int .i64 a0_6, .int .i64 a0_7]) (t := 55) ?_; intro A7 hg Gh hbox hb; have A0 := Z.m (hbox); have A1 := gW (w := w) HB hg; have A6 := A1; replace HB := bB HB hb; clear hb hbox hg; have CV := bc0 A0; have CW := bc1 A0; have CX := bc2 A0; have CY := bc3 A0; have CZ := bc4 A0; have D0 := bc5 A0; have D1 := bc6 A0; have D2 := bc7 A0; have FF := qz A0.o 0; have FG := qz A0.o 1; have FH := qz A0.o 2; have FI := qz A0.o 3; have FJ := qz A0.o 4; have FL := qz A0.o 5; have FM := qz A0.o 6; have FN := qz A0.o 7) | ((with_reducible refine gc (f := 88) rfl ?_); refine gA (some 7) _ #[.agg #[.int .i64 a0_0, .int .i64 a0_1, .slice A0_2 l0_2.length c0_2], .int .i64 a0_3] ?_ Try.func88; (with_reducible refine (impl_validEntry.calls k a0_0 a0_1 _ _ l0_2 a0_3 false _ ?side1 ?side2 A2.o).mono ?_); (case side1 => repeat (first | exact (Kd.C_below A5.o HB.o) | (with_reducible refine Kd.C_alloc ?_ _) | (with_reducible refine Kd.C_drewN ?_ _) | (with_reducible refine Kd.C_drew ?_))); (case side2 => exact A3.o); rintro e Gi ⟨rfl, hb⟩; refine ⟨_, rfl, ?_⟩; replace A0 := kB A0 hb; replace HB := bB HB hb; (try clear hb); (try clear A9); (try clear hk); (try clear hi)))
  go_ret
  exact ⟨by first | rfl | (simp [eN, eS] <;> rfl) | (simp [*, eN, eS] <;> rfl), vB HB⟩

/-! ### impl_copyMachine: function 79 -/
def impl_copyMachine.f (a0_0 : Int) (a0_1 : Int) (l0_2 : List (S71)) (a0_3 : Int) (a0_4 : Int) (a0_5 : Int) (a0_6 : Int) (a0_7 : Int) : Option (Int × Int × (List (S71)) × Int × Int × Int × Int × Int) := (impl_copyBoard.f a0_0 a0_1 l0_2).bind fun bt594 => (some (bt594.1, bt594.2.1, bt594.2.2, a0_3, a0_4, a0_5, a0_6, a0_7))
set_option maxHeartbeats 8000000 in
set_option maxRecDepth 100000 in
theorem impl_copyMachine.calls (a0_0 : Int) (a0_1 : Int) (A0_2 : Option Addr) (c0_2 : Nat) (l0_2 : List (S71)) (a0_3 : Int) (a0_4 : Int) (a0_5 : Int) (a0_6 : Int) (a0_7 : Int) (r1 : Int) (r2 : Int) (r3 : List (S71)) (r4 : Int) (r5 : Int) (r6 : Int) (r7 : Int) (r8 : Int) (w : World) (hr0_2 : Kd.C k71 w A0_2 l0_2.length l0_2) (hc0_2 : l0_2.length ≤ c0_2) (h : impl_copyMachine.f a0_0 a0_1 l0_2 a0_3 a0_4 a0_5 a0_6 a0_7 = some (r1, r2, r3, r4, r5, r6, r7, r8)) :
 Calls Try.prog 79 #[.agg #[.int .i64 a0_0, .int .i64 a0_1, .slice A0_2 l0_2.length c0_2, .int .i64 a0_3, .int .i64 a0_4, .int .i64 a0_5, .int .i64 a0_6, .int .i64 a0_7]] w fun e w' => ∃ v2_ : Value, e = .returned (.agg #[.int .i64 r1, .int .i64 r2, v2_, .int .i64 r4, .int .i64 r5, .int .i64 r6, .int .i64 r7, .int .i64 r8]) ∧ Kd.R k71 71 w' w.heap.size (fun _ => True) v2_ r3 ∧ Below w.heap.size w w' := by
 have Bi := Try.underlying55
 have Bh := Try.underlying30
 have Ac := Z.m hr0_2
 have Ab := Z.m hc0_2
 clear hr0_2 hc0_2
 have HB := Z.m (Below.refl w.heap.size w)
 have H : ((impl_copyBoard.f a0_0 a0_1 l0_2).bind fun bt594 => (some (bt594.1, bt594.2.1, bt594.2.2, a0_3, a0_4, a0_5, a0_6, a0_7))) = some (r1, r2, r3, r4, r5, r6, r7, r8) := h
 clear h
 replace H := Option.bind_eq_some_iff.mp H
 obtain ⟨⟨A6, A7, A8⟩, B0, H⟩ := H
 replace H : (some (A6, A7, A8, a0_3, a0_4, a0_5, a0_6, a0_7)) = some (r1, r2, r3, r4, r5, r6, r7, r8) := H
 have A2 := Z.m B0
 clear B0
 simp only [Option.some.injEq, Prod.mk.injEq] at H
 obtain ⟨rfl, rfl, rfl, rfl, rfl, rfl, rfl, rfl⟩ := H
 go_enter Try.func79, Try.ntmps79
 go_wp2_with (first | ((with_reducible refine gq (N := 1) rfl ?_); refine be (N := 1) (cs := #[.int .i64 a0_0, .int .i64 a0_1, .slice A0_2 l0_2.length c0_2, .int .i64 a0_3, .int .i64 a0_4, .int .i64 a0_5, .int .i64 a0_6, .int .i64 a0_7]) (t := 55) ?_; intro Ba hg w3 hbox hb; have A0 := Z.m (hbox); have A9 := gW (w := w) HB hg; have B2 := A9; replace HB := bB HB hb; clear hb hbox hg) | ((with_reducible refine gq (N := 2) rfl ?_); refine be (N := 2) (cs := #[.int .i64 0, .int .i64 0, .slice none 0 0, .int .i64 0, .int .i64 0, .int .i64 0, .int .i64 0, .int .i64 0]) (t := 55) ?_; intro Ad hg w4 hbox hb; have A1 := Z.m (hbox); have Aa := gW (w := w) HB hg; have B7 := Aa; have A4 := neL A0 hg; have A3 := neG A0 hg; replace A0 := kB A0 hb; replace HB := bB HB hb; clear hb hbox hg; have Bf := A4.o; have Bg := A3.o; have Au := bc0 A0; have Av := bc1 A0; have Aw := bc2 A0; have Ax := bc3 A0; have Ay := bc4 A0; have Az := bc5 A0; have AA := bc6 A0; have AB := bc7 A0; have AK := qz A0.o 0; have AL := qz A0.o 1; have AM := qz A0.o 2; have AN := qz A0.o 3; have AO := qz A0.o 4; have AP := qz A0.o 5; have AQ := qz A0.o 6; have AR := qz A0.o 7) | ((with_reducible refine gc (f := 72) rfl ?_); refine gA (some 5) _ #[.agg #[.int .i64 a0_0, .int .i64 a0_1, .slice A0_2 l0_2.length c0_2]] ?_ Try.func72; (with_reducible refine (impl_copyBoard.calls a0_0 a0_1 _ _ l0_2 A6 A7 A8 _ ?side1 ?side2 A2.o).mono ?_); (case side1 => repeat (first | exact (Kd.C_below Ac.o HB.o) | (with_reducible refine Kd.C_alloc ?_ _) | (with_reducible refine Kd.C_drewN ?_ _) | (with_reducible refine Kd.C_drew ?_))); (case side2 => exact Ab.o); rintro e w7 ⟨Bj, rfl, Bb, hb⟩; refine ⟨_, rfl, ?_⟩; have A5 := Z.m (Kd.R_lower Bb (below_size (vB HB))); replace A0 := kB A0 hb; replace A1 := kB A1 hb; replace HB := bB HB hb; (try clear hb); (try clear Bk); (try clear hk); (try clear hi); (try clear Bb); have AC := bc0 A0; have AD := bc1 A0; have AE := bc2 A0; have AF := bc3 A0; have AG := bc4 A0; have AH := bc5 A0; have AI := bc6 A0; have AJ := bc7 A0; have AS := qz A0.o 0; have AT := qz A0.o 1; have AU := qz A0.o 2; have AV := qz A0.o 3; have AW := qz A0.o 4; have AX := qz A0.o 5; have AY := qz A0.o 6; have AZ := qz A0.o 7; obtain ⟨Bc, Bd, Be⟩ := Kd.R_slice A5.o; subst Be; have Ae := bc0 A1; have Af := bc1 A1; have Ag := bc2 A1; have Ah := bc3 A1; have Ai := bc4 A1; have Aj := bc5 A1; have Ak := bc6 A1; have Al := bc7 A1; have Am := qz A1.o 0; have An := qz A1.o 1; have Ao := qz A1.o 2; have Ap := qz A1.o 3; have Aq := qz A1.o 4; have Ar := qz A1.o 5; have As := qz A1.o 6; have At := qz A1.o 7))
 refine bodyPost_ret (results_cell_row rfl _ _ Ad 55 #[.int .i64 A6, .int .i64 A7, .slice Bc A8.length Bd, .int .i64 a0_3, .int .i64 a0_4, .int .i64 a0_5, .int .i64 a0_6, .int .i64 a0_7] (0, 0) _ rfl (by refine bK ?_; apply st8; refine bK ?_; (iterate 3 refine qF ?_ A3); exact A1.o) Try.underlying55 rfl (by kernel_rfl)) rfl ?_
 exact ⟨_, by first | rfl | (simp [eN, eS] <;> rfl) | (simp [*, eN, eS] <;> rfl), by refine rK ?_; exact Kd.Rm (rf (rf (rf (rf (rf (rf (rf (rf (rf1 (rf1 (rf1 (Kd.Ry (Kd.Ry A5.o A0.o (by decide)) A1.o (by decide))))))))))))) (fun _ hk => trivial), vB HB⟩

end Go.Proofs.Ytlkiakpipcnijaa.PAll
