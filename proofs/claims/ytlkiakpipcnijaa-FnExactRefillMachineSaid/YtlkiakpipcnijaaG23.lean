/- Began as a text that print.sh wrote (of the functions named below); turned and shortened by this session. -/
import Derived.Test.YtlkiakpipcnijaaG0
import Derived.Test.YtlkiakpipcnijaaG1
import Derived.Test.YtlkiakpipcnijaaG7
import Derived.Test.YtlkiakpipcnijaaG16
namespace Go.Proofs.Ytlkiakpipcnijaa.PAll
open Go.RowKit Go.Proofs.YtlkiakpipcnijaaW.PrintWords Go.Proofs.YtlkiakpipcnijaaW.PrintLast Go.Proofs.YtlkiakpipcnijaaW.PrintMore
attribute [local go_sem] max2_int min2_int max_two min_two max_three min_three max_four min_four   -- for this text's walks alone
set_option linter.unusedVariables false
set_option linter.unusedSimpArgs false

/-! ### laws_szMachine: function 45 -/
def laws_szMachine.f (a0_0 : Int) (a0_1 : Int) (l0_2 : List (S84)) (a0_3 : Int) (a0_4 : Int) (a0_5 : Int) (a0_6 : Int) (a0_7 : Int) (a1 : Int) : Option (Int) := (laws_szBoard.f a0_0 a0_1 l0_2 a1).bind fun t558 => (if t558 < 0 then (some (-1)) else (some t558))
set_option maxHeartbeats 8000000 in
set_option maxRecDepth 100000 in
theorem laws_szMachine.calls (a0_0 : Int) (a0_1 : Int) (A0_2 : Option Addr) (c0_2 : Nat) (l0_2 : List (S84)) (a0_3 : Int) (a0_4 : Int) (a0_5 : Int) (a0_6 : Int) (a0_7 : Int) (a1 : Int) (r : Int) (w : World) (hr0_2 : Kd.C k84 w A0_2 l0_2.length l0_2) (hc0_2 : l0_2.length ≤ c0_2) (h : laws_szMachine.f a0_0 a0_1 l0_2 a0_3 a0_4 a0_5 a0_6 a0_7 a1 = some r) :
 Calls Try.prog 45 #[.agg #[.int .i64 a0_0, .int .i64 a0_1, .slice A0_2 l0_2.length c0_2, .int .i64 a0_3, .int .i64 a0_4, .int .i64 a0_5, .int .i64 a0_6, .int .i64 a0_7], .int .i64 a1] w fun e w' => e = .returned (.int .i64 r) ∧ Below w.heap.size w w' := by
 have AI := Try.underlying52
 have AH := Try.underlying24
 have A5 := Z.m hr0_2
 have A4 := Z.m hc0_2
 clear hr0_2 hc0_2
 have HB := Z.m (Below.refl w.heap.size w)
 have H : ((laws_szBoard.f a0_0 a0_1 l0_2 a1).bind fun A1 => (if A1 < 0 then (some (-1)) else (some A1))) = some r := h
 clear h
 replace H := Option.bind_eq_some_iff.mp H
 obtain ⟨A1, AF, H⟩ := H
 replace H : (if A1 < 0 then (some (-1)) else (some A1)) = some r := H
 have A3 := Z.m AF
 clear AF
 by_cases c4 : A1 < 0
 ·rw [if_pos c4] at H
  have A8 := decide_eq_true c4
  clear c4
  obtain rfl := Option.some.inj H
  go_enter Try.func45, Try.ntmps45
  go_wp2_with (first | ((with_reducible refine gq (N := 2) rfl ?_); refine be (N := 2) (cs := #[.int .i64 a0_0, .int .i64 a0_1, .slice A0_2 l0_2.length c0_2, .int .i64 a0_3, .int .i64 a0_4, .int .i64 a0_5, .int .i64 a0_6, .int .i64 a0_7]) (t := 52) ?_; intro A7 hg w5 hbox hb; have A0 := Z.m (hbox); have A2 := gW (w := w) HB hg; have A6 := A2; replace HB := bB HB hb; clear hb hbox hg; have A9 := bc0 A0; have Aa := bc1 A0; have Ab := bc2 A0; have Ac := bc3 A0; have Ad := bc4 A0; have Ae := bc5 A0; have Af := bc6 A0; have Ag := bc7 A0; have Ap := qz A0.o 0; have Aq := qz A0.o 1; have Ar := qz A0.o 2; have As := qz A0.o 3; have At := qz A0.o 4; have Au := qz A0.o 5; have Av := qz A0.o 6; have Aw := qz A0.o 7) | ((with_reducible refine gc (f := 15) rfl ?_); refine gA (some 8) _ #[.agg #[.int .i64 a0_0, .int .i64 a0_1, .slice A0_2 l0_2.length c0_2], .int .i64 a1] ?_ Try.func15; (with_reducible refine (laws_szBoard.calls a0_0 a0_1 _ _ l0_2 a1 A1 _ ?side1 ?side2 A3.o).mono ?_); (case side1 => repeat (first | exact (Kd.C_below A5.o HB.o) | (with_reducible refine Kd.C_alloc ?_ _) | (with_reducible refine Kd.C_drewN ?_ _) | (with_reducible refine Kd.C_drew ?_))); (case side2 => exact A4.o); rintro e w7 ⟨rfl, hb⟩; refine ⟨_, rfl, ?_⟩; replace A0 := kB A0 hb; replace HB := bB HB hb; (try clear hb); (try clear AG); (try clear hk); (try clear hi)))
  go_ret
  exact ⟨by first | rfl | (simp [eN, eS] <;> rfl) | (simp [*, eN, eS] <;> rfl), vB HB⟩
 ·rw [if_neg c4] at H
  have A8 := decide_eq_false c4
  clear c4
  obtain rfl := Option.some.inj H
  go_enter Try.func45, Try.ntmps45
  go_wp2_with (first | ((with_reducible refine gq (N := 2) rfl ?_); refine be (N := 2) (cs := #[.int .i64 a0_0, .int .i64 a0_1, .slice A0_2 l0_2.length c0_2, .int .i64 a0_3, .int .i64 a0_4, .int .i64 a0_5, .int .i64 a0_6, .int .i64 a0_7]) (t := 52) ?_; intro A7 hg w8 hbox hb; have A0 := Z.m (hbox); have A2 := gW (w := w) HB hg; have A6 := A2; replace HB := bB HB hb; clear hb hbox hg; have Ah := bc0 A0; have Ai := bc1 A0; have Aj := bc2 A0; have Ak := bc3 A0; have Al := bc4 A0; have Am := bc5 A0; have An := bc6 A0; have Ao := bc7 A0; have Ax := qz A0.o 0; have Ay := qz A0.o 1; have Az := qz A0.o 2; have AA := qz A0.o 3; have AB := qz A0.o 4; have AC := qz A0.o 5; have AD := qz A0.o 6; have AE := qz A0.o 7) | ((with_reducible refine gc (f := 15) rfl ?_); refine gA (some 8) _ #[.agg #[.int .i64 a0_0, .int .i64 a0_1, .slice A0_2 l0_2.length c0_2], .int .i64 a1] ?_ Try.func15; (with_reducible refine (laws_szBoard.calls a0_0 a0_1 _ _ l0_2 a1 A1 _ ?side1 ?side2 A3.o).mono ?_); (case side1 => repeat (first | exact (Kd.C_below A5.o HB.o) | (with_reducible refine Kd.C_alloc ?_ _) | (with_reducible refine Kd.C_drewN ?_ _) | (with_reducible refine Kd.C_drew ?_))); (case side2 => exact A4.o); rintro e AJ ⟨rfl, hb⟩; refine ⟨_, rfl, ?_⟩; replace A0 := kB A0 hb; replace HB := bB HB hb; (try clear hb); (try clear AG); (try clear hk); (try clear hi)))
  go_ret
  exact ⟨by first | rfl | (simp [eN, eS] <;> rfl) | (simp [*, eN, eS] <;> rfl), vB HB⟩

/-! ### spec_flHas: function 87 -/
def spec_flHas.f (k : Nat) (a0_0 : Int) (a0_1 : Int) (l0_2 : List (S71)) (a1 : Int) : Option (Bool) := (spec_boGood.f k a0_0 a0_1 l0_2).bind fun t560 => (if t560 = true then ((spec_l1In.f a1 0 (wrap64 (a0_1 - 1))).bind fun t561 => (some t561)) else (some false))
set_option maxHeartbeats 8000000 in
set_option maxRecDepth 100000 in
theorem spec_flHas.calls (k : Nat) (a0_0 : Int) (a0_1 : Int) (A0_2 : Option Addr) (c0_2 : Nat) (l0_2 : List (S71)) (a1 : Int) (r : Bool) (w : World) (hr0_2 : Kd.C k71 w A0_2 l0_2.length l0_2) (hc0_2 : l0_2.length ≤ c0_2) (h : spec_flHas.f k a0_0 a0_1 l0_2 a1 = some r) :
 Calls Try.prog 87 #[.agg #[.int .i64 a0_0, .int .i64 a0_1, .slice A0_2 l0_2.length c0_2], .int .i64 a1] w fun e w' => e = .returned (.bool r) ∧ Below w.heap.size w w' := by
 have Av := Try.underlying30
 have A7 := Z.m hr0_2
 have A6 := Z.m hc0_2
 clear hr0_2 hc0_2
 have HB := Z.m (Below.refl w.heap.size w)
 have H : ((spec_boGood.f k a0_0 a0_1 l0_2).bind fun A4 => (if A4 = true then ((spec_l1In.f a1 0 (wrap64 (a0_1 - 1))).bind fun A1 => (some A1)) else (some false))) = some r := h
 clear h
 replace H := Option.bind_eq_some_iff.mp H
 obtain ⟨A4, As, H⟩ := H
 replace H : (if A4 = true then ((spec_l1In.f a1 0 (wrap64 (a0_1 - 1))).bind fun A1 => (some A1)) else (some false)) = some r := H
 have A3 := Z.m As
 clear As
 by_cases c4 : A4 = true
 ·subst c4
  have H1 : ((spec_l1In.f a1 0 (wrap64 (a0_1 - 1))).bind fun A1 => (some A1)) = some r := by rw [if_pos rfl] at H; exact H
  clear H
  have H := H1
  clear H1
  replace H := Option.bind_eq_some_iff.mp H
  obtain ⟨A1, At, H⟩ := H
  replace H : (some A1) = some r := H
  have A5 := Z.m At
  clear At
  obtain rfl := Option.some.inj H
  go_enter Try.func87, Try.ntmps87
  go_wp2_with (first | ((with_reducible refine gq (N := 2) rfl ?_); refine be (N := 2) (cs := #[.int .i64 a0_0, .int .i64 a0_1, .slice A0_2 l0_2.length c0_2]) (t := 30) ?_; intro A9 hg w6 hbox hb; have A0 := Z.m (hbox); have A2 := gW (w := w) HB hg; have A8 := A2; replace HB := bB HB hb; clear hb hbox hg; have Ag := bc0 A0; have Ah := bc1 A0; have Ai := bc2 A0; have Am := qz A0.o 0; have An := qz A0.o 1; have Ao := qz A0.o 2) | ((with_reducible refine gc (f := 59) rfl ?_); refine gA (some 6) _ #[.agg #[.int .i64 a0_0, .int .i64 a0_1, .slice A0_2 l0_2.length c0_2]] ?_ Try.func59; (with_reducible refine (spec_boGood.calls k a0_0 a0_1 _ _ l0_2 true _ ?side1 ?side2 A3.o).mono ?_); (case side1 => repeat (first | exact (Kd.C_below A7.o HB.o) | (with_reducible refine Kd.C_alloc ?_ _) | (with_reducible refine Kd.C_drewN ?_ _) | (with_reducible refine Kd.C_drew ?_))); (case side2 => exact A6.o); rintro e w8 ⟨rfl, hb⟩; refine ⟨_, rfl, ?_⟩; replace A0 := kB A0 hb; replace HB := bB HB hb; (try clear hb); (try clear Au); (try clear hk); (try clear hi); have Aj := bc0 A0; have Ak := bc1 A0; have Al := bc2 A0; have Ap := qz A0.o 0; have Aq := qz A0.o 1; have Ar := qz A0.o 2) | (go_at_call 77; (with_reducible refine (spec_l1In.calls a1 0 (wrap64 (a0_1 - 1)) A1 _ A5.o).mono ?_); rintro e w' ⟨rfl, ⟨nd, rfl⟩⟩))
  go_ret
  exact ⟨by first | rfl | (simp [eN, eS] <;> rfl) | (simp [*, eN, eS] <;> rfl), vB HB⟩
 ·replace c4 := Bool.eq_false_iff.mpr c4
  subst c4
  have H1 : (some false) = some r := by rw [if_neg (show ¬ (false = true) by decide)] at H; exact H
  clear H
  have H := H1
  clear H1
  obtain rfl := Option.some.inj H
  go_enter Try.func87, Try.ntmps87
  go_wp2_with (first | ((with_reducible refine gq (N := 2) rfl ?_); refine be (N := 2) (cs := #[.int .i64 a0_0, .int .i64 a0_1, .slice A0_2 l0_2.length c0_2]) (t := 30) ?_; intro A9 hg Aw hbox hb; have A0 := Z.m (hbox); have A2 := gW (w := w) HB hg; have A8 := A2; replace HB := bB HB hb; clear hb hbox hg; have Aa := bc0 A0; have Ab := bc1 A0; have Ac := bc2 A0; have Ad := qz A0.o 0; have Ae := qz A0.o 1; have Af := qz A0.o 2) | ((with_reducible refine gc (f := 59) rfl ?_); refine gA (some 6) _ #[.agg #[.int .i64 a0_0, .int .i64 a0_1, .slice A0_2 l0_2.length c0_2]] ?_ Try.func59; (with_reducible refine (spec_boGood.calls k a0_0 a0_1 _ _ l0_2 false _ ?side1 ?side2 A3.o).mono ?_); (case side1 => repeat (first | exact (Kd.C_below A7.o HB.o) | (with_reducible refine Kd.C_alloc ?_ _) | (with_reducible refine Kd.C_drewN ?_ _) | (with_reducible refine Kd.C_drew ?_))); (case side2 => exact A6.o); rintro e Ax ⟨rfl, hb⟩; refine ⟨_, rfl, ?_⟩; replace A0 := kB A0 hb; replace HB := bB HB hb; (try clear hb); (try clear Au); (try clear hk); (try clear hi)))
  go_ret
  exact ⟨by first | rfl | (simp [eN, eS] <;> rfl) | (simp [*, eN, eS] <;> rfl), vB HB⟩

/-! ### spec_maGood: function 76 -/
def spec_maGood.f (k : Nat) (a0_0 : Int) (a0_1 : Int) (l0_2 : List (S71)) (a0_3 : Int) (a0_4 : Int) (a0_5 : Int) (a0_6 : Int) (a0_7 : Int) : Option (Bool) := (spec_flHas.f k a0_0 a0_1 l0_2 a0_3).bind fun t563 => (if t563 = true then ((spec_flHas.f k a0_0 a0_1 l0_2 a0_4).bind fun t564 => (if t564 = true then ((spec_l1In.f a0_5 0 30).bind fun t565 => (if t565 = true then ((spec_l1In.f a0_6 0 30).bind fun t566 => (if t566 = true then ((spec_l1In.f a0_7 0 2).bind fun t567 => (some t567)) else (some false))) else (some false))) else (some false))) else (some false))
set_option maxHeartbeats 8000000 in
set_option maxRecDepth 100000 in
theorem spec_maGood.calls (k : Nat) (a0_0 : Int) (a0_1 : Int) (A0_2 : Option Addr) (c0_2 : Nat) (l0_2 : List (S71)) (a0_3 : Int) (a0_4 : Int) (a0_5 : Int) (a0_6 : Int) (a0_7 : Int) (r : Bool) (w : World) (hr0_2 : Kd.C k71 w A0_2 l0_2.length l0_2) (hc0_2 : l0_2.length ≤ c0_2) (h : spec_maGood.f k a0_0 a0_1 l0_2 a0_3 a0_4 a0_5 a0_6 a0_7 = some r) :
 Calls Try.prog 76 #[.agg #[.int .i64 a0_0, .int .i64 a0_1, .slice A0_2 l0_2.length c0_2, .int .i64 a0_3, .int .i64 a0_4, .int .i64 a0_5, .int .i64 a0_6, .int .i64 a0_7]] w fun e w' => e = .returned (.bool r) ∧ Below w.heap.size w w' := by
 have DC := Try.underlying55
 have DB := Try.underlying30
 have A9 := Z.m hr0_2
 have A7 := Z.m hc0_2
 clear hr0_2 hc0_2
 have HB := Z.m (Below.refl w.heap.size w)
 have H : ((spec_flHas.f k a0_0 a0_1 l0_2 a0_3).bind fun Ae => (if Ae = true then ((spec_flHas.f k a0_0 a0_1 l0_2 a0_4).bind fun Ab => (if Ab = true then ((spec_l1In.f a0_5 0 30).bind fun Aa => (if Aa = true then ((spec_l1In.f a0_6 0 30).bind fun A3 => (if A3 = true then ((spec_l1In.f a0_7 0 2).bind fun A1 => (some A1)) else (some false))) else (some false))) else (some false))) else (some false))) = some r := h
 clear h
 replace H := Option.bind_eq_some_iff.mp H
 obtain ⟨Ae, Dw, H⟩ := H
 replace H : (if Ae = true then ((spec_flHas.f k a0_0 a0_1 l0_2 a0_4).bind fun Ab => (if Ab = true then ((spec_l1In.f a0_5 0 30).bind fun Aa => (if Aa = true then ((spec_l1In.f a0_6 0 30).bind fun A3 => (if A3 = true then ((spec_l1In.f a0_7 0 2).bind fun A1 => (some A1)) else (some false))) else (some false))) else (some false))) else (some false)) = some r := H
 have A2 := Z.m Dw
 clear Dw
 by_cases c3 : Ae = true
 ·subst c3
  have H1 : ((spec_flHas.f k a0_0 a0_1 l0_2 a0_4).bind fun Ab => (if Ab = true then ((spec_l1In.f a0_5 0 30).bind fun Aa => (if Aa = true then ((spec_l1In.f a0_6 0 30).bind fun A3 => (if A3 = true then ((spec_l1In.f a0_7 0 2).bind fun A1 => (some A1)) else (some false))) else (some false))) else (some false))) = some r := by rw [if_pos rfl] at H; exact H
  clear H
  have H := H1
  clear H1
  replace H := Option.bind_eq_some_iff.mp H
  obtain ⟨Ab, Dx, H⟩ := H
  replace H : (if Ab = true then ((spec_l1In.f a0_5 0 30).bind fun Aa => (if Aa = true then ((spec_l1In.f a0_6 0 30).bind fun A3 => (if A3 = true then ((spec_l1In.f a0_7 0 2).bind fun A1 => (some A1)) else (some false))) else (some false))) else (some false)) = some r := H
  have A4 := Z.m Dx
  clear Dx
  by_cases c5 : Ab = true
  ·subst c5
   have H1 : ((spec_l1In.f a0_5 0 30).bind fun Aa => (if Aa = true then ((spec_l1In.f a0_6 0 30).bind fun A3 => (if A3 = true then ((spec_l1In.f a0_7 0 2).bind fun A1 => (some A1)) else (some false))) else (some false))) = some r := by rw [if_pos rfl] at H; exact H
   clear H
   have H := H1
   clear H1
   replace H := Option.bind_eq_some_iff.mp H
   obtain ⟨Aa, Dy, H⟩ := H
   replace H : (if Aa = true then ((spec_l1In.f a0_6 0 30).bind fun A3 => (if A3 = true then ((spec_l1In.f a0_7 0 2).bind fun A1 => (some A1)) else (some false))) else (some false)) = some r := H
   have A6 := Z.m Dy
   clear Dy
   by_cases c7 : Aa = true
   ·subst c7
    have H1 : ((spec_l1In.f a0_6 0 30).bind fun A3 => (if A3 = true then ((spec_l1In.f a0_7 0 2).bind fun A1 => (some A1)) else (some false))) = some r := by rw [if_pos rfl] at H; exact H
    clear H
    have H := H1
    clear H1
    replace H := Option.bind_eq_some_iff.mp H
    obtain ⟨A3, Dz, H⟩ := H
    replace H : (if A3 = true then ((spec_l1In.f a0_7 0 2).bind fun A1 => (some A1)) else (some false)) = some r := H
    have A8 := Z.m Dz
    clear Dz
    by_cases c9 : A3 = true
    ·subst c9
     have H1 : ((spec_l1In.f a0_7 0 2).bind fun A1 => (some A1)) = some r := by rw [if_pos rfl] at H; exact H
     clear H
     have H := H1
     clear H1
     replace H := Option.bind_eq_some_iff.mp H
     obtain ⟨A1, Ag, H⟩ := H
     replace H : (some A1) = some r := H
     have DA := Z.m Ag
     clear Ag
     obtain rfl := Option.some.inj H
     go_enter Try.func76, Try.ntmps76
     go_wp2_with (first | ((with_reducible refine gq (N := 1) rfl ?_); refine be (N := 1) (cs := #[.int .i64 a0_0, .int .i64 a0_1, .slice A0_2 l0_2.length c0_2, .int .i64 a0_3, .int .i64 a0_4, .int .i64 a0_5, .int .i64 a0_6, .int .i64 a0_7]) (t := 55) ?_; intro Ad hg DD hbox hb; have A0 := Z.m (hbox); have A5 := gW (w := w) HB hg; have Ac := A5; replace HB := bB HB hb; clear hb hbox hg; have Ah := bc0 A0; have Ai := bc1 A0; have Aj := bc2 A0; have Ak := bc3 A0; have Al := bc4 A0; have Am := bc5 A0; have An := bc6 A0; have Ao := bc7 A0; have BW := qz A0.o 0; have BX := qz A0.o 1; have BY := qz A0.o 2; have BZ := qz A0.o 3; have C0 := qz A0.o 4; have C1 := qz A0.o 5; have C2 := qz A0.o 6; have C3 := qz A0.o 7) | ((with_reducible refine gc (f := 87) rfl ?_); refine gA (some 7) _ #[.agg #[.int .i64 a0_0, .int .i64 a0_1, .slice A0_2 l0_2.length c0_2], .int .i64 a0_3] ?_ Try.func87; (with_reducible refine (spec_flHas.calls k a0_0 a0_1 _ _ l0_2 a0_3 true _ ?side1 ?side2 A2.o).mono ?_); (case side1 => repeat (first | exact (Kd.C_below A9.o HB.o) | (with_reducible refine Kd.C_alloc ?_ _) | (with_reducible refine Kd.C_drewN ?_ _) | (with_reducible refine Kd.C_drew ?_))); (case side2 => exact A7.o); rintro e DE ⟨rfl, hb⟩; refine ⟨_, rfl, ?_⟩; replace A0 := kB A0 hb; replace HB := bB HB hb; (try clear hb); (try clear Af); (try clear hk); (try clear hi); have Ap := bc0 A0; have Aq := bc1 A0; have Ar := bc2 A0; have As := bc3 A0; have At := bc4 A0; have Au := bc5 A0; have Av := bc6 A0; have Aw := bc7 A0; have C4 := qz A0.o 0; have C5 := qz A0.o 1; have C6 := qz A0.o 2; have C7 := qz A0.o 3; have C8 := qz A0.o 4; have C9 := qz A0.o 5; have Ca := qz A0.o 6; have Cb := qz A0.o 7) | (go_at_call 87; (with_reducible refine (spec_flHas.calls k a0_0 a0_1 _ _ l0_2 a0_4 true _ ?side1 ?side2 A4.o).mono ?_); (case side1 => repeat (first | exact (Kd.C_below A9.o HB.o) | (with_reducible refine Kd.C_alloc ?_ _) | (with_reducible refine Kd.C_drewN ?_ _) | (with_reducible refine Kd.C_drew ?_))); (case side2 => exact A7.o); rintro e DF ⟨rfl, hb⟩; replace A0 := kB A0 hb; replace HB := bB HB hb; (try clear hb); (try clear Af); (try clear hk); (try clear hi); have Ax := bc0 A0; have Ay := bc1 A0; have Az := bc2 A0; have AA := bc3 A0; have AB := bc4 A0; have AC := bc5 A0; have AD := bc6 A0; have AE := bc7 A0; have Cd := qz A0.o 0; have Ce := qz A0.o 1; have Cf := qz A0.o 2; have Cg := qz A0.o 3; have Ch := qz A0.o 4; have Ci := qz A0.o 5; have Cj := qz A0.o 6; have Cl := qz A0.o 7) | (go_at_call 77; (with_reducible refine (spec_l1In.calls a0_5 0 30 true _ A6.o).mono ?_); rintro e w' ⟨rfl, ⟨nd, rfl⟩⟩) | (go_at_call 77; (with_reducible refine (spec_l1In.calls a0_6 0 30 true _ A8.o).mono ?_); rintro e w' ⟨rfl, ⟨nd, rfl⟩⟩) | (go_at_call 77; (with_reducible refine (spec_l1In.calls a0_7 0 2 A1 _ DA.o).mono ?_); rintro e w' ⟨rfl, ⟨nd, rfl⟩⟩))
     go_ret
     exact ⟨by first | rfl | (simp [eN, eS] <;> rfl) | (simp [*, eN, eS] <;> rfl), vB HB⟩
    ·replace c9 := Bool.eq_false_iff.mpr c9
     subst c9
     have H1 : (some false) = some r := by rw [if_neg (show ¬ (false = true) by decide)] at H; exact H
     clear H
     have H := H1
     clear H1
     obtain rfl := Option.some.inj H
     go_enter Try.func76, Try.ntmps76
     go_wp2_with (first | ((with_reducible refine gq (N := 1) rfl ?_); refine be (N := 1) (cs := #[.int .i64 a0_0, .int .i64 a0_1, .slice A0_2 l0_2.length c0_2, .int .i64 a0_3, .int .i64 a0_4, .int .i64 a0_5, .int .i64 a0_6, .int .i64 a0_7]) (t := 55) ?_; intro Ad hg DG hbox hb; have A0 := Z.m (hbox); have A5 := gW (w := w) HB hg; have Ac := A5; replace HB := bB HB hb; clear hb hbox hg; have AF := bc0 A0; have AG := bc1 A0; have AH := bc2 A0; have AI := bc3 A0; have AJ := bc4 A0; have AK := bc5 A0; have AL := bc6 A0; have AM := bc7 A0; have Cm := qz A0.o 0; have Cn := qz A0.o 1; have Co := qz A0.o 2; have Cp := qz A0.o 3; have Cq := qz A0.o 4; have Cr := qz A0.o 5; have Cs := qz A0.o 6; have Ct := qz A0.o 7) | ((with_reducible refine gc (f := 87) rfl ?_); refine gA (some 7) _ #[.agg #[.int .i64 a0_0, .int .i64 a0_1, .slice A0_2 l0_2.length c0_2], .int .i64 a0_3] ?_ Try.func87; (with_reducible refine (spec_flHas.calls k a0_0 a0_1 _ _ l0_2 a0_3 true _ ?side1 ?side2 A2.o).mono ?_); (case side1 => repeat (first | exact (Kd.C_below A9.o HB.o) | (with_reducible refine Kd.C_alloc ?_ _) | (with_reducible refine Kd.C_drewN ?_ _) | (with_reducible refine Kd.C_drew ?_))); (case side2 => exact A7.o); rintro e DH ⟨rfl, hb⟩; refine ⟨_, rfl, ?_⟩; replace A0 := kB A0 hb; replace HB := bB HB hb; (try clear hb); (try clear Af); (try clear hk); (try clear hi); have AN := bc0 A0; have AO := bc1 A0; have AP := bc2 A0; have AQ := bc3 A0; have AR := bc4 A0; have AS := bc5 A0; have AT := bc6 A0; have AU := bc7 A0; have Cu := qz A0.o 0; have Cv := qz A0.o 1; have Cw := qz A0.o 2; have Cx := qz A0.o 3; have Cy := qz A0.o 4; have Cz := qz A0.o 5; have CA := qz A0.o 6; have CB := qz A0.o 7) | (go_at_call 87; (with_reducible refine (spec_flHas.calls k a0_0 a0_1 _ _ l0_2 a0_4 true _ ?side1 ?side2 A4.o).mono ?_); (case side1 => repeat (first | exact (Kd.C_below A9.o HB.o) | (with_reducible refine Kd.C_alloc ?_ _) | (with_reducible refine Kd.C_drewN ?_ _) | (with_reducible refine Kd.C_drew ?_))); (case side2 => exact A7.o); rintro e DI ⟨rfl, hb⟩; replace A0 := kB A0 hb; replace HB := bB HB hb; (try clear hb); (try clear Af); (try clear hk); (try clear hi); have AV := bc0 A0; have AW := bc1 A0; have AX := bc2 A0; have AY := bc3 A0; have AZ := bc4 A0; have B0 := bc5 A0; have B2 := bc6 A0; have B7 := bc7 A0; have CC := qz A0.o 0; have CD := qz A0.o 1; have CE := qz A0.o 2; have CF := qz A0.o 3; have CG := qz A0.o 4; have CH := qz A0.o 5; have CI := qz A0.o 6; have CJ := qz A0.o 7) | (go_at_call 77; (with_reducible refine (spec_l1In.calls a0_5 0 30 true _ A6.o).mono ?_); rintro e w' ⟨rfl, ⟨nd, rfl⟩⟩) | (go_at_call 77; (with_reducible refine (spec_l1In.calls a0_6 0 30 false _ A8.o).mono ?_); rintro e w' ⟨rfl, ⟨nd, rfl⟩⟩))
     go_ret
     exact ⟨by first | rfl | (simp [eN, eS] <;> rfl) | (simp [*, eN, eS] <;> rfl), vB HB⟩
   ·replace c7 := Bool.eq_false_iff.mpr c7
    subst c7
    have H1 : (some false) = some r := by rw [if_neg (show ¬ (false = true) by decide)] at H; exact H
    clear H
    have H := H1
    clear H1
    obtain rfl := Option.some.inj H
    go_enter Try.func76, Try.ntmps76
    go_wp2_with (first | ((with_reducible refine gq (N := 1) rfl ?_); refine be (N := 1) (cs := #[.int .i64 a0_0, .int .i64 a0_1, .slice A0_2 l0_2.length c0_2, .int .i64 a0_3, .int .i64 a0_4, .int .i64 a0_5, .int .i64 a0_6, .int .i64 a0_7]) (t := 55) ?_; intro Ad hg DJ hbox hb; have A0 := Z.m (hbox); have A5 := gW (w := w) HB hg; have Ac := A5; replace HB := bB HB hb; clear hb hbox hg; have Ba := bc0 A0; have Bb := bc1 A0; have Bc := bc2 A0; have Bd := bc3 A0; have Be := bc4 A0; have Bf := bc5 A0; have Bg := bc6 A0; have Bh := bc7 A0; have CK := qz A0.o 0; have CL := qz A0.o 1; have CM := qz A0.o 2; have CN := qz A0.o 3; have CO := qz A0.o 4; have CP := qz A0.o 5; have CQ := qz A0.o 6; have CR := qz A0.o 7) | ((with_reducible refine gc (f := 87) rfl ?_); refine gA (some 7) _ #[.agg #[.int .i64 a0_0, .int .i64 a0_1, .slice A0_2 l0_2.length c0_2], .int .i64 a0_3] ?_ Try.func87; (with_reducible refine (spec_flHas.calls k a0_0 a0_1 _ _ l0_2 a0_3 true _ ?side1 ?side2 A2.o).mono ?_); (case side1 => repeat (first | exact (Kd.C_below A9.o HB.o) | (with_reducible refine Kd.C_alloc ?_ _) | (with_reducible refine Kd.C_drewN ?_ _) | (with_reducible refine Kd.C_drew ?_))); (case side2 => exact A7.o); rintro e DK ⟨rfl, hb⟩; refine ⟨_, rfl, ?_⟩; replace A0 := kB A0 hb; replace HB := bB HB hb; (try clear hb); (try clear Af); (try clear hk); (try clear hi); have Bi := bc0 A0; have Bj := bc1 A0; have Bk := bc2 A0; have Bl := bc3 A0; have Bm := bc4 A0; have Bn := bc5 A0; have Bo := bc6 A0; have Bp := bc7 A0; have CS := qz A0.o 0; have CT := qz A0.o 1; have CU := qz A0.o 2; have CV := qz A0.o 3; have CW := qz A0.o 4; have CX := qz A0.o 5; have CY := qz A0.o 6; have CZ := qz A0.o 7) | (go_at_call 87; (with_reducible refine (spec_flHas.calls k a0_0 a0_1 _ _ l0_2 a0_4 true _ ?side1 ?side2 A4.o).mono ?_); (case side1 => repeat (first | exact (Kd.C_below A9.o HB.o) | (with_reducible refine Kd.C_alloc ?_ _) | (with_reducible refine Kd.C_drewN ?_ _) | (with_reducible refine Kd.C_drew ?_))); (case side2 => exact A7.o); rintro e DL ⟨rfl, hb⟩; replace A0 := kB A0 hb; replace HB := bB HB hb; (try clear hb); (try clear Af); (try clear hk); (try clear hi); have Bq := bc0 A0; have Br := bc1 A0; have Bs := bc2 A0; have Bt := bc3 A0; have Bu := bc4 A0; have Bv := bc5 A0; have Bw := bc6 A0; have Bx := bc7 A0; have D0 := qz A0.o 0; have D1 := qz A0.o 1; have D2 := qz A0.o 2; have D3 := qz A0.o 3; have D4 := qz A0.o 4; have D5 := qz A0.o 5; have D6 := qz A0.o 6; have D7 := qz A0.o 7) | (go_at_call 77; (with_reducible refine (spec_l1In.calls a0_5 0 30 false _ A6.o).mono ?_); rintro e w' ⟨rfl, ⟨nd, rfl⟩⟩))
    go_ret
    exact ⟨by first | rfl | (simp [eN, eS] <;> rfl) | (simp [*, eN, eS] <;> rfl), vB HB⟩
  ·replace c5 := Bool.eq_false_iff.mpr c5
   subst c5
   have H1 : (some false) = some r := by rw [if_neg (show ¬ (false = true) by decide)] at H; exact H
   clear H
   have H := H1
   clear H1
   obtain rfl := Option.some.inj H
   go_enter Try.func76, Try.ntmps76
   go_wp2_with (first | ((with_reducible refine gq (N := 1) rfl ?_); refine be (N := 1) (cs := #[.int .i64 a0_0, .int .i64 a0_1, .slice A0_2 l0_2.length c0_2, .int .i64 a0_3, .int .i64 a0_4, .int .i64 a0_5, .int .i64 a0_6, .int .i64 a0_7]) (t := 55) ?_; intro Ad hg DM hbox hb; have A0 := Z.m (hbox); have A5 := gW (w := w) HB hg; have Ac := A5; replace HB := bB HB hb; clear hb hbox hg; have By := bc0 A0; have Bz := bc1 A0; have BA := bc2 A0; have BB := bc3 A0; have BC := bc4 A0; have BD := bc5 A0; have BE := bc6 A0; have BF := bc7 A0; have D8 := qz A0.o 0; have D9 := qz A0.o 1; have Da := qz A0.o 2; have Db := qz A0.o 3; have Dc := qz A0.o 4; have Dd := qz A0.o 5; have De := qz A0.o 6; have Df := qz A0.o 7) | ((with_reducible refine gc (f := 87) rfl ?_); refine gA (some 7) _ #[.agg #[.int .i64 a0_0, .int .i64 a0_1, .slice A0_2 l0_2.length c0_2], .int .i64 a0_3] ?_ Try.func87; (with_reducible refine (spec_flHas.calls k a0_0 a0_1 _ _ l0_2 a0_3 true _ ?side1 ?side2 A2.o).mono ?_); (case side1 => repeat (first | exact (Kd.C_below A9.o HB.o) | (with_reducible refine Kd.C_alloc ?_ _) | (with_reducible refine Kd.C_drewN ?_ _) | (with_reducible refine Kd.C_drew ?_))); (case side2 => exact A7.o); rintro e DN ⟨rfl, hb⟩; refine ⟨_, rfl, ?_⟩; replace A0 := kB A0 hb; replace HB := bB HB hb; (try clear hb); (try clear Af); (try clear hk); (try clear hi); have BG := bc0 A0; have BH := bc1 A0; have BI := bc2 A0; have BJ := bc3 A0; have BK := bc4 A0; have BL := bc5 A0; have BM := bc6 A0; have BN := bc7 A0; have Dg := qz A0.o 0; have Dh := qz A0.o 1; have Di := qz A0.o 2; have Dj := qz A0.o 3; have Dk := qz A0.o 4; have Dl := qz A0.o 5; have Dm := qz A0.o 6; have Dn := qz A0.o 7) | (go_at_call 87; (with_reducible refine (spec_flHas.calls k a0_0 a0_1 _ _ l0_2 a0_4 false _ ?side1 ?side2 A4.o).mono ?_); (case side1 => repeat (first | exact (Kd.C_below A9.o HB.o) | (with_reducible refine Kd.C_alloc ?_ _) | (with_reducible refine Kd.C_drewN ?_ _) | (with_reducible refine Kd.C_drew ?_))); (case side2 => exact A7.o); rintro e DO ⟨rfl, hb⟩; replace A0 := kB A0 hb; replace HB := bB HB hb; (try clear hb); (try clear Af); (try clear hk); (try clear hi)))
   go_ret
   exact ⟨by first | rfl | (simp [eN, eS] <;> rfl) | (simp [*, eN, eS] <;> rfl), vB HB⟩
 ·replace c3 := Bool.eq_false_iff.mpr c3
  subst c3
  have H1 : (some false) = some r := by rw [if_neg (show ¬ (false = true) by decide)] at H; exact H
  clear H
  have H := H1
  clear H1
  obtain rfl := Option.some.inj H
  go_enter Try.func76, Try.ntmps76
  go_wp2_with (first | ((with_reducible refine gq (N := 1) rfl ?_); refine be (N := 1) (cs := #[.int .i64 a0_0, .int .i64 a0_1, .slice A0_2 l0_2.length c0_2, .int .i64 a0_3, .int .i64 a0_4, .int .i64 a0_5, .int .i64 a0_6, .int .i64 a0_7]) (t := 55) ?_; intro Ad hg DP hbox hb; have A0 := Z.m (hbox); have A5 := gW (w := w) HB hg; have Ac := A5; replace HB := bB HB hb; clear hb hbox hg; have BO := bc0 A0; have BP := bc1 A0; have BQ := bc2 A0; have BR := bc3 A0; have BS := bc4 A0; have BT := bc5 A0; have BU := bc6 A0; have BV := bc7 A0; have Do := qz A0.o 0; have Dp := qz A0.o 1; have Dq := qz A0.o 2; have Dr := qz A0.o 3; have Ds := qz A0.o 4; have Dt := qz A0.o 5; have Du := qz A0.o 6; have Dv := qz A0.o 7) | ((with_reducible refine gc (f := 87) rfl ?_); refine gA (some 7) _ #[.agg #[.int .i64 a0_0, .int .i64 a0_1, .slice A0_2 l0_2.length c0_2], .int .i64 a0_3] ?_ Try.func87; (with_reducible refine (spec_flHas.calls k a0_0 a0_1 _ _ l0_2 a0_3 false _ ?side1 ?side2 A2.o).mono ?_); (case side1 => repeat (first | exact (Kd.C_below A9.o HB.o) | (with_reducible refine Kd.C_alloc ?_ _) | (with_reducible refine Kd.C_drewN ?_ _) | (with_reducible refine Kd.C_drew ?_))); (case side2 => exact A7.o); rintro e DQ ⟨rfl, hb⟩; refine ⟨_, rfl, ?_⟩; replace A0 := kB A0 hb; replace HB := bB HB hb; (try clear hb); (try clear Af); (try clear hk); (try clear hi)))
  go_ret
  exact ⟨by first | rfl | (simp [eN, eS] <;> rfl) | (simp [*, eN, eS] <;> rfl), vB HB⟩

/-! ### spec_RefillMachine: function 46 -/
def spec_RefillMachine.j0 : Nat → Int → Int → Bool → Int → Int → List (S71) → Int → Int → Int → Int → Int → Option (Int × Int × (List (S71)) × Int × Int × Int × Int × Int × Bool)
 | 0, _, _, _, _, _, _, _, _, _, _, _ => none
 | k + 1, x1, x2, x20, x569000, x569001, x569002, x569003, x569004, x569005, x569006, x569007 => if x20 = true then (some (0, 0, ([] : List (S71)), 0, 0, 0, 0, 0, false)) else ((spec_boOwn.f x569000 x569001 x569002).bind fun bt573 => ((spec_maGood.f k bt573.1 bt573.2.1 bt573.2.2 x569003 x569004 (wrap64 (x569005 + x1)) (wrap64 (x569006 + x2)) x569007).bind fun t578 => (if t578 = true then (some (bt573.1, bt573.2.1, bt573.2.2, x569003, x569004, wrap64 (x569005 + x1), wrap64 (x569006 + x2), x569007, true)) else (some (0, 0, ([] : List (S71)), 0, 0, 0, 0, 0, false)))))
def spec_RefillMachine.f (k : Nat) (a0_0 : Int) (a0_1 : Int) (l0_2 : List (S71)) (a0_3 : Int) (a0_4 : Int) (a0_5 : Int) (a0_6 : Int) (a0_7 : Int) (a1 : Int) (a2 : Int) : Option (Int × Int × (List (S71)) × Int × Int × Int × Int × Int × Bool) := (spec_maGood.f k a0_0 a0_1 l0_2 a0_3 a0_4 a0_5 a0_6 a0_7).bind fun t570 => (if t570 = true then ((spec_l1In.f a1 0 30).bind fun t571 => (if t571 = true then ((spec_l1In.f a2 0 30).bind fun t572 => (spec_RefillMachine.j0 k a1 a2 (!t572) a0_0 a0_1 l0_2 a0_3 a0_4 a0_5 a0_6 a0_7)) else (spec_RefillMachine.j0 k a1 a2 true a0_0 a0_1 l0_2 a0_3 a0_4 a0_5 a0_6 a0_7))) else (spec_RefillMachine.j0 k a1 a2 true a0_0 a0_1 l0_2 a0_3 a0_4 a0_5 a0_6 a0_7))
set_option maxHeartbeats 8000000 in
set_option maxRecDepth 100000 in
theorem spec_RefillMachine.calls (k : Nat) (a0_0 : Int) (a0_1 : Int) (A0_2 : Option Addr) (c0_2 : Nat) (l0_2 : List (S71)) (a0_3 : Int) (a0_4 : Int) (a0_5 : Int) (a0_6 : Int) (a0_7 : Int) (a1 : Int) (a2 : Int) (r1 : Int) (r2 : Int) (r3 : List (S71)) (r4 : Int) (r5 : Int) (r6 : Int) (r7 : Int) (r8 : Int) (r9 : Bool) (w : World) (hr0_2 : Kd.C k71 w A0_2 l0_2.length l0_2) (hc0_2 : l0_2.length ≤ c0_2) (h : spec_RefillMachine.f k a0_0 a0_1 l0_2 a0_3 a0_4 a0_5 a0_6 a0_7 a1 a2 = some (r1, r2, r3, r4, r5, r6, r7, r8, r9)) :
 Calls Try.prog 46 #[.agg #[.int .i64 a0_0, .int .i64 a0_1, .slice A0_2 l0_2.length c0_2, .int .i64 a0_3, .int .i64 a0_4, .int .i64 a0_5, .int .i64 a0_6, .int .i64 a0_7], .int .i64 a1, .int .i64 a2] w fun e w' => ∃ v2_ : Value, e = .returned (.tuple #[.agg #[.int .i64 r1, .int .i64 r2, v2_, .int .i64 r4, .int .i64 r5, .int .i64 r6, .int .i64 r7, .int .i64 r8], .bool r9]) ∧ Kd.R k71 71 w' w.heap.size (fun _ => True) v2_ r3 ∧ Below w.heap.size w w' := by
 have DR := Try.underlying55
 have DQ := Try.underlying30
 have Ad := Z.m hr0_2
 have Ac := Z.m hc0_2
 clear hr0_2 hc0_2
 have HB := Z.m (Below.refl w.heap.size w)
 have H : ((spec_maGood.f k a0_0 a0_1 l0_2 a0_3 a0_4 a0_5 a0_6 a0_7).bind fun Am => (if Am = true then ((spec_l1In.f a1 0 30).bind fun Ae => (if Ae = true then ((spec_l1In.f a2 0 30).bind fun Aa => (spec_RefillMachine.j0 k a1 a2 (!Aa) a0_0 a0_1 l0_2 a0_3 a0_4 a0_5 a0_6 a0_7)) else (spec_RefillMachine.j0 k a1 a2 true a0_0 a0_1 l0_2 a0_3 a0_4 a0_5 a0_6 a0_7))) else (spec_RefillMachine.j0 k a1 a2 true a0_0 a0_1 l0_2 a0_3 a0_4 a0_5 a0_6 a0_7))) = some (r1, r2, r3, r4, r5, r6, r7, r8, r9) := h
 clear h
 have Dt := Z.m H
 clear H
 go_enter Try.func46, Try.ntmps46
 go_upto_region 1 with (first | ((with_reducible refine gq (N := 3) rfl ?_); refine be (N := 3) (cs := #[.int .i64 a0_0, .int .i64 a0_1, .slice A0_2 l0_2.length c0_2, .int .i64 a0_3, .int .i64 a0_4, .int .i64 a0_5, .int .i64 a0_6, .int .i64 a0_7]) (t := 55) ?_; intro Ak hg w5 hbox hb; have A0 := Z.m (hbox); have Ar := gW (w := w) HB hg; have DB := Ar; replace HB := bB HB hb; clear hb hbox hg) | ((with_reducible refine gq (N := 6) rfl ?_); refine be (N := 6) (cs := #[.int .i64 0, .int .i64 0, .slice none 0 0, .int .i64 0, .int .i64 0, .int .i64 0, .int .i64 0, .int .i64 0]) (t := 55) ?_; intro Ab hg w6 hbox hb; have A1 := Z.m (hbox); have As := gW (w := w) HB hg; have DC := As; have A3 := neL A0 hg; have A2 := neG A0 hg; replace A0 := kB A0 hb; replace HB := bB HB hb; clear hb hbox hg))
 (try simp only [Act.put, q1, q2, q3])
 go_cut [20] (fun v20 wc => ∃ (kq : Nat) (Af : Bool), v20 = .bool Af ∧ Z (spec_RefillMachine.j0 kq a1 a2 Af a0_0 a0_1 l0_2 a0_3 a0_4 a0_5 a0_6 a0_7 = some (r1, r2, r3, r4, r5, r6, r7, r8, r9)) ∧ Z (kq ≤ k) ∧ Z (wc.heap[Ak]? = some (.cells #[.int .i64 a0_0, .int .i64 a0_1, (.slice A0_2 l0_2.length c0_2), .int .i64 a0_3, .int .i64 a0_4, .int .i64 a0_5, .int .i64 a0_6, .int .i64 a0_7] 55 (0, 0))) ∧ Z (wc.heap[Ab]? = some (.cells #[.int .i64 0, .int .i64 0, (.slice none 0 0), .int .i64 0, .int .i64 0, .int .i64 0, .int .i64 0, .int .i64 0] 55 (0, 0))) ∧ Z (Below w.heap.size w wc))
 case first =>
  have H := Dt.o
  clear Dt
  replace H := Option.bind_eq_some_iff.mp H
  obtain ⟨Am, Dz, H⟩ := H
  replace H : (if Am = true then ((spec_l1In.f a1 0 30).bind fun Ae => (if Ae = true then ((spec_l1In.f a2 0 30).bind fun Aa => (spec_RefillMachine.j0 k a1 a2 (!Aa) a0_0 a0_1 l0_2 a0_3 a0_4 a0_5 a0_6 a0_7)) else (spec_RefillMachine.j0 k a1 a2 true a0_0 a0_1 l0_2 a0_3 a0_4 a0_5 a0_6 a0_7))) else (spec_RefillMachine.j0 k a1 a2 true a0_0 a0_1 l0_2 a0_3 a0_4 a0_5 a0_6 a0_7)) = some (r1, r2, r3, r4, r5, r6, r7, r8, r9) := H
  have A7 := Z.m Dz
  clear Dz
  by_cases c8 : Am = true
  ·subst c8
   have H1 : ((spec_l1In.f a1 0 30).bind fun Ae => (if Ae = true then ((spec_l1In.f a2 0 30).bind fun Aa => (spec_RefillMachine.j0 k a1 a2 (!Aa) a0_0 a0_1 l0_2 a0_3 a0_4 a0_5 a0_6 a0_7)) else (spec_RefillMachine.j0 k a1 a2 true a0_0 a0_1 l0_2 a0_3 a0_4 a0_5 a0_6 a0_7))) = some (r1, r2, r3, r4, r5, r6, r7, r8, r9) := by rw [if_pos rfl] at H; exact H
   clear H
   have H := H1
   clear H1
   replace H := Option.bind_eq_some_iff.mp H
   obtain ⟨Ae, DA, H⟩ := H
   replace H : (if Ae = true then ((spec_l1In.f a2 0 30).bind fun Aa => (spec_RefillMachine.j0 k a1 a2 (!Aa) a0_0 a0_1 l0_2 a0_3 a0_4 a0_5 a0_6 a0_7)) else (spec_RefillMachine.j0 k a1 a2 true a0_0 a0_1 l0_2 a0_3 a0_4 a0_5 a0_6 a0_7)) = some (r1, r2, r3, r4, r5, r6, r7, r8, r9) := H
   have A9 := Z.m DA
   clear DA
   by_cases c10 : Ae = true
   ·subst c10
    have H1 : ((spec_l1In.f a2 0 30).bind fun Aa => (spec_RefillMachine.j0 k a1 a2 (!Aa) a0_0 a0_1 l0_2 a0_3 a0_4 a0_5 a0_6 a0_7)) = some (r1, r2, r3, r4, r5, r6, r7, r8, r9) := by rw [if_pos rfl] at H; exact H
    clear H
    have H := H1
    clear H1
    replace H := Option.bind_eq_some_iff.mp H
    obtain ⟨Aa, Ao, H⟩ := H
    replace H : (spec_RefillMachine.j0 k a1 a2 (!Aa) a0_0 a0_1 l0_2 a0_3 a0_4 a0_5 a0_6 a0_7) = some (r1, r2, r3, r4, r5, r6, r7, r8, r9) := H
    have DP := Z.m Ao
    clear Ao
    have H' := Z.m H
    clear H
    have DD := A3.o
    have DJ := A2.o
    have Au := bc0 A0
    have Av := bc1 A0
    have Aw := bc2 A0
    have Ax := bc3 A0
    have Ay := bc4 A0
    have Az := bc5 A0
    have AA := bc6 A0
    have AB := bc7 A0
    have C1 := qz A0.o 0
    have C2 := qz A0.o 1
    have C3 := qz A0.o 2
    have C4 := qz A0.o 3
    have C5 := qz A0.o 4
    have C6 := qz A0.o 5
    have C7 := qz A0.o 6
    have C8 := qz A0.o 7
    go_wp2_with (first | ((with_reducible refine gc (f := 76) rfl ?_); refine gA (some 9) _ #[.agg #[.int .i64 a0_0, .int .i64 a0_1, .slice A0_2 l0_2.length c0_2, .int .i64 a0_3, .int .i64 a0_4, .int .i64 a0_5, .int .i64 a0_6, .int .i64 a0_7]] ?_ Try.func76; (with_reducible refine (spec_maGood.calls k a0_0 a0_1 _ _ l0_2 a0_3 a0_4 a0_5 a0_6 a0_7 true _ ?side1 ?side2 A7.o).mono ?_); (case side1 => repeat (first | exact (Kd.C_below Ad.o HB.o) | (with_reducible refine Kd.C_alloc ?_ _) | (with_reducible refine Kd.C_drewN ?_ _) | (with_reducible refine Kd.C_drew ?_))); (case side2 => exact Ac.o); rintro e DT ⟨rfl, hb⟩; refine ⟨_, rfl, ?_⟩; replace A0 := kB A0 hb; replace A1 := kB A1 hb; replace HB := bB HB hb; (try clear hb); (try clear An); (try clear hk); (try clear hi)) | (go_at_call 77; (with_reducible refine (spec_l1In.calls a1 0 30 true _ A9.o).mono ?_); rintro e w' ⟨rfl, ⟨nd, rfl⟩⟩) | (go_at_call 77; (with_reducible refine (spec_l1In.calls a2 0 30 Aa _ DP.o).mono ?_); rintro e w' ⟨rfl, ⟨nd, rfl⟩⟩))
    go_meet
    case rel => exact ⟨_, (!Aa), (by first | rfl | (simp; done) | (simp [*]; done)), H', ⟨by first | omega | exact Nat.le_refl _⟩, ⟨vK A0⟩, ⟨vK A1⟩, ⟨vB HB⟩⟩
   ·replace c10 := Bool.eq_false_iff.mpr c10
    subst c10
    have H1 : (spec_RefillMachine.j0 k a1 a2 true a0_0 a0_1 l0_2 a0_3 a0_4 a0_5 a0_6 a0_7) = some (r1, r2, r3, r4, r5, r6, r7, r8, r9) := by rw [if_neg (show ¬ (false = true) by decide)] at H; exact H
    clear H
    have H := H1
    clear H1
    have H' := Z.m H
    clear H
    have DE := A3.o
    have DK := A2.o
    have AC := bc0 A0
    have AD := bc1 A0
    have AE := bc2 A0
    have AF := bc3 A0
    have AG := bc4 A0
    have AH := bc5 A0
    have AI := bc6 A0
    have AJ := bc7 A0
    have C9 := qz A0.o 0
    have Ca := qz A0.o 1
    have Cb := qz A0.o 2
    have Cd := qz A0.o 3
    have Ce := qz A0.o 4
    have Cf := qz A0.o 5
    have Cg := qz A0.o 6
    have Ch := qz A0.o 7
    go_wp2_with (first | ((with_reducible refine gc (f := 76) rfl ?_); refine gA (some 9) _ #[.agg #[.int .i64 a0_0, .int .i64 a0_1, .slice A0_2 l0_2.length c0_2, .int .i64 a0_3, .int .i64 a0_4, .int .i64 a0_5, .int .i64 a0_6, .int .i64 a0_7]] ?_ Try.func76; (with_reducible refine (spec_maGood.calls k a0_0 a0_1 _ _ l0_2 a0_3 a0_4 a0_5 a0_6 a0_7 true _ ?side1 ?side2 A7.o).mono ?_); (case side1 => repeat (first | exact (Kd.C_below Ad.o HB.o) | (with_reducible refine Kd.C_alloc ?_ _) | (with_reducible refine Kd.C_drewN ?_ _) | (with_reducible refine Kd.C_drew ?_))); (case side2 => exact Ac.o); rintro e DU ⟨rfl, hb⟩; refine ⟨_, rfl, ?_⟩; replace A0 := kB A0 hb; replace A1 := kB A1 hb; replace HB := bB HB hb; (try clear hb); (try clear An); (try clear hk); (try clear hi)) | (go_at_call 77; (with_reducible refine (spec_l1In.calls a1 0 30 false _ A9.o).mono ?_); rintro e w' ⟨rfl, ⟨nd, rfl⟩⟩))
    go_meet
    case rel => exact ⟨_, (true), (by first | rfl | (simp; done) | (simp [*]; done)), H', ⟨by first | omega | exact Nat.le_refl _⟩, ⟨vK A0⟩, ⟨vK A1⟩, ⟨vB HB⟩⟩
  ·replace c8 := Bool.eq_false_iff.mpr c8
   subst c8
   have H1 : (spec_RefillMachine.j0 k a1 a2 true a0_0 a0_1 l0_2 a0_3 a0_4 a0_5 a0_6 a0_7) = some (r1, r2, r3, r4, r5, r6, r7, r8, r9) := by rw [if_neg (show ¬ (false = true) by decide)] at H; exact H
   clear H
   have H := H1
   clear H1
   have H' := Z.m H
   clear H
   have DF := A3.o
   have DL := A2.o
   have AK := bc0 A0
   have AL := bc1 A0
   have AM := bc2 A0
   have AN := bc3 A0
   have AO := bc4 A0
   have AP := bc5 A0
   have AQ := bc6 A0
   have AR := bc7 A0
   have Ci := qz A0.o 0
   have Cj := qz A0.o 1
   have Cl := qz A0.o 2
   have Cm := qz A0.o 3
   have Cn := qz A0.o 4
   have Co := qz A0.o 5
   have Cp := qz A0.o 6
   have Cq := qz A0.o 7
   go_wp2_with (first | ((with_reducible refine gc (f := 76) rfl ?_); refine gA (some 9) _ #[.agg #[.int .i64 a0_0, .int .i64 a0_1, .slice A0_2 l0_2.length c0_2, .int .i64 a0_3, .int .i64 a0_4, .int .i64 a0_5, .int .i64 a0_6, .int .i64 a0_7]] ?_ Try.func76; (with_reducible refine (spec_maGood.calls k a0_0 a0_1 _ _ l0_2 a0_3 a0_4 a0_5 a0_6 a0_7 false _ ?side1 ?side2 A7.o).mono ?_); (case side1 => repeat (first | exact (Kd.C_below Ad.o HB.o) | (with_reducible refine Kd.C_alloc ?_ _) | (with_reducible refine Kd.C_drewN ?_ _) | (with_reducible refine Kd.C_drew ?_))); (case side2 => exact Ac.o); rintro e DV ⟨rfl, hb⟩; refine ⟨_, rfl, ?_⟩; replace A0 := kB A0 hb; replace A1 := kB A1 hb; replace HB := bB HB hb; (try clear hb); (try clear An); (try clear hk); (try clear hi)))
   go_meet
   case rel => exact ⟨_, (true), (by first | rfl | (simp; done) | (simp [*]; done)), H', ⟨by first | omega | exact Nat.le_refl _⟩, ⟨vK A0⟩, ⟨vK A1⟩, ⟨vB HB⟩⟩
 case rest =>
  clear Dt
  obtain ⟨kq, Af, rfl, HA, DS, A0, A1, HB⟩ := hcut
  cases kq with
  | zero => exact absurd HA.o (by simp [spec_RefillMachine.j0])
  | succ kj3 =>
   have H := HA.o
   clear HA
   simp only [spec_RefillMachine.j0] at H
   by_cases c21 : Af = true
   ·subst c21
    have H1 : (some (0, 0, ([] : List (S71)), 0, 0, 0, 0, 0, false)) = some (r1, r2, r3, r4, r5, r6, r7, r8, r9) := by rw [if_pos rfl] at H; exact H
    clear H
    have H := H1
    clear H1
    simp only [Option.some.injEq, Prod.mk.injEq] at H
    obtain ⟨rfl, rfl, rfl, rfl, rfl, rfl, rfl, rfl, rfl⟩ := H
    have DG := A2.o
    have DM := A3.o
    have AS := bc0 A1
    have AT := bc1 A1
    have AU := bc2 A1
    have AV := bc3 A1
    have AW := bc4 A1
    have AX := bc5 A1
    have AY := bc6 A1
    have AZ := bc7 A1
    have Cr := qz A1.o 0
    have Cs := qz A1.o 1
    have Ct := qz A1.o 2
    have Cu := qz A1.o 3
    have Cv := qz A1.o 4
    have Cw := qz A1.o 5
    have Cx := qz A1.o 6
    have Cy := qz A1.o 7
    go_wp2
    refine bodyPost_ret (results_ct rfl _ _ Ab 55 #[.int .i64 0, .int .i64 0, .slice none 0 0, .int .i64 0, .int .i64 0, .int .i64 0, .int .i64 0, .int .i64 0] (0, 0) _ rfl (by refine bK ?_; apply st8; refine bK ?_; exact A1.o) Try.underlying55 rfl (by kernel_rfl)) rfl ?_
    exact ⟨_, by first | rfl | (simp [eN, eS] <;> rfl) | (simp [*, eN, eS] <;> rfl), by first | exact Kd.R_nil _ _ _ _ _ | exact Kd.N_nil _ _ _ _ _ | exact Kd.V_nil _ _ _ _ _ | exact Kd.Q_nil _ _ _ _ _ | exact Kd.S_nil _ _ _ _ _, vB HB⟩
   ·replace c21 := Bool.eq_false_iff.mpr c21
    subst c21
    have H1 : ((spec_boOwn.f a0_0 a0_1 l0_2).bind fun bt573 => ((spec_maGood.f kj3 bt573.1 bt573.2.1 bt573.2.2 a0_3 a0_4 (wrap64 (a0_5 + a1)) (wrap64 (a0_6 + a2)) a0_7).bind fun Ah => (if Ah = true then (some (bt573.1, bt573.2.1, bt573.2.2, a0_3, a0_4, wrap64 (a0_5 + a1), wrap64 (a0_6 + a2), a0_7, true)) else (some (0, 0, ([] : List (S71)), 0, 0, 0, 0, 0, false))))) = some (r1, r2, r3, r4, r5, r6, r7, r8, r9) := by rw [if_neg (show ¬ (false = true) by decide)] at H; exact H
    clear H
    have H := H1
    clear H1
    replace H := Option.bind_eq_some_iff.mp H
    obtain ⟨⟨A4, A5, A6⟩, Ap, H⟩ := H
    replace H : ((spec_maGood.f kj3 A4 A5 A6 a0_3 a0_4 (wrap64 (a0_5 + a1)) (wrap64 (a0_6 + a2)) a0_7).bind fun Ah => (if Ah = true then (some (A4, A5, A6, a0_3, a0_4, wrap64 (a0_5 + a1), wrap64 (a0_6 + a2), a0_7, true)) else (some (0, 0, ([] : List (S71)), 0, 0, 0, 0, 0, false)))) = some (r1, r2, r3, r4, r5, r6, r7, r8, r9) := H
    have Dx := Z.m Ap
    clear Ap
    replace H := Option.bind_eq_some_iff.mp H
    obtain ⟨Ah, Aq, H⟩ := H
    replace H : (if Ah = true then (some (A4, A5, A6, a0_3, a0_4, wrap64 (a0_5 + a1), wrap64 (a0_6 + a2), a0_7, true)) else (some (0, 0, ([] : List (S71)), 0, 0, 0, 0, 0, false))) = some (r1, r2, r3, r4, r5, r6, r7, r8, r9) := H
    have Dy := Z.m Aq
    clear Aq
    by_cases c26 : Ah = true
    ·subst c26
     have H1 : (some (A4, A5, A6, a0_3, a0_4, wrap64 (a0_5 + a1), wrap64 (a0_6 + a2), a0_7, true)) = some (r1, r2, r3, r4, r5, r6, r7, r8, r9) := by rw [if_pos rfl] at H; exact H
     clear H
     have H := H1
     clear H1
     simp only [Option.some.injEq, Prod.mk.injEq] at H
     obtain ⟨rfl, rfl, rfl, rfl, rfl, rfl, rfl, rfl, rfl⟩ := H
     have DH := A3.o
     have DN := A2.o
     have B0 := bc0 A0
     have B2 := bc1 A0
     have B7 := bc2 A0
     have Ba := bc3 A0
     have Bb := bc4 A0
     have Bc := bc5 A0
     have Bd := bc6 A0
     have Be := bc7 A0
     have Cz := qz A0.o 0
     have CA := qz A0.o 1
     have CB := qz A0.o 2
     have CC := qz A0.o 3
     have CD := qz A0.o 4
     have CE := qz A0.o 5
     have CF := qz A0.o 6
     have CG := qz A0.o 7
     go_wp2_with (first | ((with_reducible refine gc (f := 75) rfl ?_); refine gA (some 24) _ #[.agg #[.int .i64 a0_0, .int .i64 a0_1, .slice A0_2 l0_2.length c0_2]] ?_ Try.func75; (with_reducible refine (spec_boOwn.calls a0_0 a0_1 _ _ l0_2 A4 A5 A6 _ ?side1 ?side2 Dx.o).mono ?_); (case side1 => repeat (first | exact (Kd.C_below Ad.o HB.o) | (with_reducible refine Kd.C_alloc ?_ _) | (with_reducible refine Kd.C_drewN ?_ _) | (with_reducible refine Kd.C_drew ?_))); (case side2 => exact Ac.o); rintro e DW ⟨Dw, rfl, At, hb⟩; refine ⟨_, rfl, ?_⟩; have A8 := Z.m (Kd.R_lower At (below_size (vB HB))); replace A0 := kB A0 hb; replace A1 := kB A1 hb; replace HB := bB HB hb; (try clear hb); (try clear An); (try clear hk); (try clear hi); (try clear At); have Bf := bc0 A0; have Bg := bc1 A0; have Bh := bc2 A0; have Bi := bc3 A0; have Bj := bc4 A0; have Bk := bc5 A0; have Bl := bc6 A0; have Bm := bc7 A0; have CH := qz A0.o 0; have CI := qz A0.o 1; have CJ := qz A0.o 2; have CK := qz A0.o 3; have CL := qz A0.o 4; have CM := qz A0.o 5; have CN := qz A0.o 6; have CO := qz A0.o 7; obtain ⟨Ai, Ag, Du⟩ := Kd.R_slice A8.o; subst Du) | ((with_reducible refine gc (f := 76) rfl ?_); refine gA (some 37) _ #[.agg #[.int .i64 A4, .int .i64 A5, .slice Ai A6.length Ag, .int .i64 a0_3, .int .i64 a0_4, .int .i64 (wrap64 (a0_5 + a1)), .int .i64 (wrap64 (a0_6 + a2)), .int .i64 a0_7]] ?_ Try.func76; (with_reducible refine (spec_maGood.calls kj3 A4 A5 _ _ A6 a0_3 a0_4 (wrap64 (a0_5 + a1)) (wrap64 (a0_6 + a2)) a0_7 true _ ?side1 ?side2 Dy.o).mono ?_); (case side1 => refine (Kd.RrZ (e := 71) (base := w.heap.size) (ok := fun k_ => True) (n := A6.length) (c := Ag) ?_).2.2; exact (by refine rK ?_; exact (Kd.Rm (rf (rf (rf (rf (rf (Kd.Ry A8.o A0.o (by decide))))))) (fun _ h_ => h_.1)))); (case side2 => exact (Kd.RrZ A8.o).2.1); rintro e DX ⟨rfl, hb⟩; refine ⟨_, rfl, ?_⟩; replace A8 := Z.m (Kd.Rb (by refine rK ?_; exact (Kd.Rm (rf (rf (rf (rf (rf (Kd.Ry A8.o A0.o (by decide))))))) (fun _ h_ => h_.1))) hb); replace A0 := Z.m (qb (g := Ak) (o := .cells #[.int .i64 A4, .int .i64 A5, .slice Ai A6.length Ag, .int .i64 a0_3, .int .i64 a0_4, .int .i64 (wrap64 (a0_5 + a1)), .int .i64 (wrap64 (a0_6 + a2)), .int .i64 a0_7] 55 (0, 0)) (by refine bK ?_; refine qp (cs := #[iV A4, iV A5, .slice Ai A6.length Ag, iV a0_3, iV a0_4, iV (wrap64 (a0_5 + a1)), iV a0_6, iV a0_7]) ?_ 6 _ rfl; refine bK ?_; refine qp (cs := #[iV A4, iV A5, .slice Ai A6.length Ag, iV a0_3, iV a0_4, iV a0_5, iV a0_6, iV a0_7]) ?_ 5 _ rfl; refine bK ?_; refine qp (cs := #[iV A4, iV A5, .slice A0_2 l0_2.length c0_2, iV a0_3, iV a0_4, iV a0_5, iV a0_6, iV a0_7]) ?_ 2 _ rfl; refine bK ?_; refine qp (cs := #[iV A4, iV a0_1, .slice A0_2 l0_2.length c0_2, iV a0_3, iV a0_4, iV a0_5, iV a0_6, iV a0_7]) ?_ 1 _ rfl; refine bK ?_; refine qp (cs := #[iV a0_0, iV a0_1, .slice A0_2 l0_2.length c0_2, iV a0_3, iV a0_4, iV a0_5, iV a0_6, iV a0_7]) ?_ 0 _ rfl; refine bK ?_; exact A0.o) hb); replace A1 := Z.m (qb (g := Ab) (o := .cells #[.int .i64 0, .int .i64 0, .slice none 0 0, .int .i64 0, .int .i64 0, .int .i64 0, .int .i64 0, .int .i64 0] 55 (0, 0)) (by refine bK ?_; (iterate 5 refine qF ?_ A2); exact A1.o) hb); replace HB := bB HB hb; (try clear hb); (try clear An); (try clear hk); (try clear hi); have Bn := bc0 A0; have Bo := bc1 A0; have Bp := bc2 A0; have Bq := bc3 A0; have Br := bc4 A0; have Bs := bc5 A0; have Bt := bc6 A0; have Bu := bc7 A0; have CP := qz A0.o 0; have CQ := qz A0.o 1; have CR := qz A0.o 2; have CS := qz A0.o 3; have CT := qz A0.o 4; have CU := qz A0.o 5; have CV := qz A0.o 6; have CW := qz A0.o 7; have Bv := bc0 A1; have Bw := bc1 A1; have Bx := bc2 A1; have By := bc3 A1; have Bz := bc4 A1; have BA := bc5 A1; have BB := bc6 A1; have BC := bc7 A1; have CX := qz A1.o 0; have CY := qz A1.o 1; have CZ := qz A1.o 2; have D0 := qz A1.o 3; have D1 := qz A1.o 4; have D2 := qz A1.o 5; have D3 := qz A1.o 6; have D4 := qz A1.o 7))
     refine bodyPost_ret (results_ct rfl _ _ Ab 55 #[.int .i64 A4, .int .i64 A5, .slice Ai A6.length Ag, .int .i64 a0_3, .int .i64 a0_4, .int .i64 (wrap64 (a0_5 + a1)), .int .i64 (wrap64 (a0_6 + a2)), .int .i64 a0_7] (0, 0) _ rfl (by refine bK ?_; apply st8; refine bK ?_; exact A1.o) Try.underlying55 rfl (by kernel_rfl)) rfl ?_
     exact ⟨_, by first | rfl | (simp [eN, eS] <;> rfl) | (simp [*, eN, eS] <;> rfl), by refine rK ?_; exact Kd.Rm (rf (rf (rf (rf (rf (rf (rf (rf (Kd.Ry A8.o A1.o (by decide)))))))))) (fun _ hk => trivial), vB HB⟩
    ·replace c26 := Bool.eq_false_iff.mpr c26
     subst c26
     have H1 : (some (0, 0, ([] : List (S71)), 0, 0, 0, 0, 0, false)) = some (r1, r2, r3, r4, r5, r6, r7, r8, r9) := by rw [if_neg (show ¬ (false = true) by decide)] at H; exact H
     clear H
     have H := H1
     clear H1
     simp only [Option.some.injEq, Prod.mk.injEq] at H
     obtain ⟨rfl, rfl, rfl, rfl, rfl, rfl, rfl, rfl, rfl⟩ := H
     have DI := A3.o
     have DO := A2.o
     have BD := bc0 A0
     have BE := bc1 A0
     have BF := bc2 A0
     have BG := bc3 A0
     have BH := bc4 A0
     have BI := bc5 A0
     have BJ := bc6 A0
     have BK := bc7 A0
     have D5 := qz A0.o 0
     have D6 := qz A0.o 1
     have D7 := qz A0.o 2
     have D8 := qz A0.o 3
     have D9 := qz A0.o 4
     have Da := qz A0.o 5
     have Db := qz A0.o 6
     have Dc := qz A0.o 7
     go_wp2_with (first | ((with_reducible refine gc (f := 75) rfl ?_); refine gA (some 24) _ #[.agg #[.int .i64 a0_0, .int .i64 a0_1, .slice A0_2 l0_2.length c0_2]] ?_ Try.func75; (with_reducible refine (spec_boOwn.calls a0_0 a0_1 _ _ l0_2 A4 A5 A6 _ ?side1 ?side2 Dx.o).mono ?_); (case side1 => repeat (first | exact (Kd.C_below Ad.o HB.o) | (with_reducible refine Kd.C_alloc ?_ _) | (with_reducible refine Kd.C_drewN ?_ _) | (with_reducible refine Kd.C_drew ?_))); (case side2 => exact Ac.o); rintro e DY ⟨Dw, rfl, At, hb⟩; refine ⟨_, rfl, ?_⟩; have A8 := Z.m (Kd.R_lower At (below_size (vB HB))); replace A0 := kB A0 hb; replace A1 := kB A1 hb; replace HB := bB HB hb; (try clear hb); (try clear An); (try clear hk); (try clear hi); (try clear At); have BL := bc0 A0; have BM := bc1 A0; have BN := bc2 A0; have BO := bc3 A0; have BP := bc4 A0; have BQ := bc5 A0; have BR := bc6 A0; have BS := bc7 A0; have Dd := qz A0.o 0; have De := qz A0.o 1; have Df := qz A0.o 2; have Dg := qz A0.o 3; have Dh := qz A0.o 4; have Di := qz A0.o 5; have Dj := qz A0.o 6; have Dk := qz A0.o 7; obtain ⟨Al, Aj, Dv⟩ := Kd.R_slice A8.o; subst Dv) | ((with_reducible refine gc (f := 76) rfl ?_); refine gA (some 37) _ #[.agg #[.int .i64 A4, .int .i64 A5, .slice Al A6.length Aj, .int .i64 a0_3, .int .i64 a0_4, .int .i64 (wrap64 (a0_5 + a1)), .int .i64 (wrap64 (a0_6 + a2)), .int .i64 a0_7]] ?_ Try.func76; (with_reducible refine (spec_maGood.calls kj3 A4 A5 _ _ A6 a0_3 a0_4 (wrap64 (a0_5 + a1)) (wrap64 (a0_6 + a2)) a0_7 false _ ?side1 ?side2 Dy.o).mono ?_); (case side1 => refine (Kd.RrZ (e := 71) (base := w.heap.size) (ok := fun k_ => True) (n := A6.length) (c := Aj) ?_).2.2; exact (by refine rK ?_; exact (Kd.Rm (rf (rf (rf (rf (rf (Kd.Ry A8.o A0.o (by decide))))))) (fun _ h_ => h_.1)))); (case side2 => exact (Kd.RrZ A8.o).2.1); rintro e DZ ⟨rfl, hb⟩; refine ⟨_, rfl, ?_⟩; replace A8 := Z.m (Kd.Rb (by refine rK ?_; exact (Kd.Rm (rf (rf (rf (rf (rf (Kd.Ry A8.o A0.o (by decide))))))) (fun _ h_ => h_.1))) hb); replace A0 := Z.m (qb (g := Ak) (o := .cells #[.int .i64 A4, .int .i64 A5, .slice Al A6.length Aj, .int .i64 a0_3, .int .i64 a0_4, .int .i64 (wrap64 (a0_5 + a1)), .int .i64 (wrap64 (a0_6 + a2)), .int .i64 a0_7] 55 (0, 0)) (by refine bK ?_; refine qp (cs := #[iV A4, iV A5, .slice Al A6.length Aj, iV a0_3, iV a0_4, iV (wrap64 (a0_5 + a1)), iV a0_6, iV a0_7]) ?_ 6 _ rfl; refine bK ?_; refine qp (cs := #[iV A4, iV A5, .slice Al A6.length Aj, iV a0_3, iV a0_4, iV a0_5, iV a0_6, iV a0_7]) ?_ 5 _ rfl; refine bK ?_; refine qp (cs := #[iV A4, iV A5, .slice A0_2 l0_2.length c0_2, iV a0_3, iV a0_4, iV a0_5, iV a0_6, iV a0_7]) ?_ 2 _ rfl; refine bK ?_; refine qp (cs := #[iV A4, iV a0_1, .slice A0_2 l0_2.length c0_2, iV a0_3, iV a0_4, iV a0_5, iV a0_6, iV a0_7]) ?_ 1 _ rfl; refine bK ?_; refine qp (cs := #[iV a0_0, iV a0_1, .slice A0_2 l0_2.length c0_2, iV a0_3, iV a0_4, iV a0_5, iV a0_6, iV a0_7]) ?_ 0 _ rfl; refine bK ?_; exact A0.o) hb); replace A1 := Z.m (qb (g := Ab) (o := .cells #[.int .i64 0, .int .i64 0, .slice none 0 0, .int .i64 0, .int .i64 0, .int .i64 0, .int .i64 0, .int .i64 0] 55 (0, 0)) (by refine bK ?_; (iterate 5 refine qF ?_ A2); exact A1.o) hb); replace HB := bB HB hb; (try clear hb); (try clear An); (try clear hk); (try clear hi); have BT := bc0 A1; have BU := bc1 A1; have BV := bc2 A1; have BW := bc3 A1; have BX := bc4 A1; have BY := bc5 A1; have BZ := bc6 A1; have C0 := bc7 A1; have Dl := qz A1.o 0; have Dm := qz A1.o 1; have Dn := qz A1.o 2; have Do := qz A1.o 3; have Dp := qz A1.o 4; have Dq := qz A1.o 5; have Dr := qz A1.o 6; have Ds := qz A1.o 7))
     refine bodyPost_ret (results_ct rfl _ _ Ab 55 #[.int .i64 0, .int .i64 0, .slice none 0 0, .int .i64 0, .int .i64 0, .int .i64 0, .int .i64 0, .int .i64 0] (0, 0) _ rfl (by refine bK ?_; apply st8; refine bK ?_; exact A1.o) Try.underlying55 rfl (by kernel_rfl)) rfl ?_
     exact ⟨_, by first | rfl | (simp [eN, eS] <;> rfl) | (simp [*, eN, eS] <;> rfl), by first | exact Kd.R_nil _ _ _ _ _ | exact Kd.N_nil _ _ _ _ _ | exact Kd.V_nil _ _ _ _ _ | exact Kd.Q_nil _ _ _ _ _ | exact Kd.S_nil _ _ _ _ _, vB HB⟩

/-! ### laws_toMachine: function 47 -/
def laws_toMachine.f (k : Nat) (a0_0 : Int) (a0_1 : Int) (l0_2 : List (S84)) (a0_3 : Int) (a0_4 : Int) (a0_5 : Int) (a0_6 : Int) (a0_7 : Int) : Option (Int × Int × (List (S71)) × Int × Int × Int × Int × Int) := (laws_toBoard.f k a0_0 a0_1 l0_2).bind fun bt582 => (some (bt582.1, bt582.2.1, bt582.2.2, a0_3, a0_4, a0_5, a0_6, a0_7))
set_option maxHeartbeats 8000000 in
set_option maxRecDepth 100000 in
theorem laws_toMachine.calls (k : Nat) (a0_0 : Int) (a0_1 : Int) (A0_2 : Option Addr) (c0_2 : Nat) (l0_2 : List (S84)) (a0_3 : Int) (a0_4 : Int) (a0_5 : Int) (a0_6 : Int) (a0_7 : Int) (r1 : Int) (r2 : Int) (r3 : List (S71)) (r4 : Int) (r5 : Int) (r6 : Int) (r7 : Int) (r8 : Int) (w : World) (hr0_2 : Kd.C k84 w A0_2 l0_2.length l0_2) (hc0_2 : l0_2.length ≤ c0_2) (h : laws_toMachine.f k a0_0 a0_1 l0_2 a0_3 a0_4 a0_5 a0_6 a0_7 = some (r1, r2, r3, r4, r5, r6, r7, r8)) :
 Calls Try.prog 47 #[.agg #[.int .i64 a0_0, .int .i64 a0_1, .slice A0_2 l0_2.length c0_2, .int .i64 a0_3, .int .i64 a0_4, .int .i64 a0_5, .int .i64 a0_6, .int .i64 a0_7]] w fun e w' => ∃ v2_ : Value, e = .returned (.agg #[.int .i64 r1, .int .i64 r2, v2_, .int .i64 r4, .int .i64 r5, .int .i64 r6, .int .i64 r7, .int .i64 r8]) ∧ Kd.R k71 71 w' w.heap.size (fun _ => True) v2_ r3 ∧ Below w.heap.size w w' := by
 have BL := Try.underlying52
 have BM := Try.underlying55
 have BJ := Try.underlying24
 have BK := Try.underlying30
 have Ai := Z.m hr0_2
 have Ah := Z.m hc0_2
 clear hr0_2 hc0_2
 have HB := Z.m (Below.refl w.heap.size w)
 have H : ((laws_toBoard.f k a0_0 a0_1 l0_2).bind fun bt582 => (some (bt582.1, bt582.2.1, bt582.2.2, a0_3, a0_4, a0_5, a0_6, a0_7))) = some (r1, r2, r3, r4, r5, r6, r7, r8) := h
 clear h
 replace H := Option.bind_eq_some_iff.mp H
 obtain ⟨⟨Ab, Ac, Ad⟩, Bw, H⟩ := H
 replace H : (some (Ab, Ac, Ad, a0_3, a0_4, a0_5, a0_6, a0_7)) = some (r1, r2, r3, r4, r5, r6, r7, r8) := H
 have A2 := Z.m Bw
 clear Bw
 simp only [Option.some.injEq, Prod.mk.injEq] at H
 obtain ⟨rfl, rfl, rfl, rfl, rfl, rfl, rfl, rfl⟩ := H
 go_enter Try.func47, Try.ntmps47
 go_wp2_with (first | ((with_reducible refine gq (N := 1) rfl ?_); refine be (N := 1) (cs := #[.int .i64 a0_0, .int .i64 a0_1, .slice A0_2 l0_2.length c0_2, .int .i64 a0_3, .int .i64 a0_4, .int .i64 a0_5, .int .i64 a0_6, .int .i64 a0_7]) (t := 52) ?_; intro BA hg w3 hbox hb; have A0 := Z.m (hbox); have Ae := gW (w := w) HB hg; have Bx := Ae; replace HB := bB HB hb; clear hb hbox hg) | ((with_reducible refine gq (N := 2) rfl ?_); refine be (N := 2) (cs := #[.int .i64 0, .int .i64 0, .slice none 0 0, .int .i64 0, .int .i64 0, .int .i64 0, .int .i64 0, .int .i64 0]) (t := 55) ?_; intro Aj hg w4 hbox hb; have A1 := Z.m (hbox); have Af := gW (w := w) HB hg; have By := Af; have A5 := neL A0 hg; have A7 := neG A0 hg; replace A0 := kB A0 hb; replace HB := bB HB hb; clear hb hbox hg) | ((with_reducible refine gq (N := 3) rfl ?_); refine be (N := 3) (cs := #[.int .i64 0, .int .i64 0, .slice none 0 0, .int .i64 0, .int .i64 0, .int .i64 0, .int .i64 0, .int .i64 0]) (t := 55) ?_; intro BB hg w5 hbox hb; have A3 := Z.m (hbox); have Ag := gW (w := w) HB hg; have Bz := Ag; have A6 := neL A0 hg; have A8 := neG A0 hg; have A4 := neL A1 hg; have A9 := neG A1 hg; replace A0 := kB A0 hb; replace A1 := kB A1 hb; replace HB := bB HB hb; clear hb hbox hg; have BF := A5.o; have BH := A7.o; have BG := A6.o; have BI := A8.o; have Bg := bc0 A0; have Bh := bc1 A0; have Bi := bc2 A0; have Bj := bc3 A0; have Bk := bc4 A0; have Bl := bc5 A0; have Bm := bc6 A0; have Bn := bc7 A0; have Bo := qz A0.o 0; have Bp := qz A0.o 1; have Bq := qz A0.o 2; have Br := qz A0.o 3; have Bs := qz A0.o 4; have Bt := qz A0.o 5; have Bu := qz A0.o 6; have Bv := qz A0.o 7) | ((with_reducible refine gc (f := 17) rfl ?_); refine gA (some 6) _ #[.agg #[.int .i64 a0_0, .int .i64 a0_1, .slice A0_2 l0_2.length c0_2]] ?_ Try.func17; (with_reducible refine (laws_toBoard.calls k a0_0 a0_1 _ _ l0_2 Ab Ac Ad _ ?side1 ?side2 A2.o).mono ?_); (case side1 => repeat (first | exact (Kd.C_below Ai.o HB.o) | (with_reducible refine Kd.C_alloc ?_ _) | (with_reducible refine Kd.C_drewN ?_ _) | (with_reducible refine Kd.C_drew ?_))); (case side2 => exact Ah.o); rintro e w9 ⟨BN, rfl, BE, hb⟩; refine ⟨_, rfl, ?_⟩; have Aa := Z.m (Kd.R_lower BE (below_size (vB HB))); replace A0 := kB A0 hb; replace A1 := kB A1 hb; replace A3 := kB A3 hb; replace HB := bB HB hb; (try clear hb); (try clear BO); (try clear hk); (try clear hi); (try clear BE); have BC := A9.o; have BD := A4.o; have Ak := bc0 A3; have Al := bc1 A3; have Am := bc2 A3; have An := bc3 A3; have Ao := bc4 A3; have Ap := bc5 A3; have Aq := bc6 A3; have Ar := bc7 A3; have AI := qz A3.o 0; have AJ := qz A3.o 1; have AK := qz A3.o 2; have AL := qz A3.o 3; have AM := qz A3.o 4; have AN := qz A3.o 5; have AO := qz A3.o 6; have AP := qz A3.o 7; obtain ⟨Bd, Be, Bf⟩ := Kd.R_slice Aa.o; subst Bf; have As := bc0 A0; have At := bc1 A0; have Au := bc2 A0; have Av := bc3 A0; have Aw := bc4 A0; have Ax := bc5 A0; have Ay := bc6 A0; have Az := bc7 A0; have AQ := qz A0.o 0; have AR := qz A0.o 1; have AS := qz A0.o 2; have AT := qz A0.o 3; have AU := qz A0.o 4; have AV := qz A0.o 5; have AW := qz A0.o 6; have AX := qz A0.o 7; have AA := bc0 A1; have AB := bc1 A1; have AC := bc2 A1; have AD := bc3 A1; have AE := bc4 A1; have AF := bc5 A1; have AG := bc6 A1; have AH := bc7 A1; have AY := qz A1.o 0; have AZ := qz A1.o 1; have B0 := qz A1.o 2; have B2 := qz A1.o 3; have B7 := qz A1.o 4; have Ba := qz A1.o 5; have Bb := qz A1.o 6; have Bc := qz A1.o 7))
 refine bodyPost_ret (results_cell_row rfl _ _ Aj 55 #[.int .i64 Ab, .int .i64 Ac, .slice Bd Ad.length Be, .int .i64 a0_3, .int .i64 a0_4, .int .i64 a0_5, .int .i64 a0_6, .int .i64 a0_7] (0, 0) _ rfl (by refine bK ?_; apply st8; refine bK ?_; (iterate 8 refine qF ?_ A4); exact A1.o) Try.underlying55 rfl (by kernel_rfl)) rfl ?_
 exact ⟨_, by first | rfl | (simp [eN, eS] <;> rfl) | (simp [*, eN, eS] <;> rfl), by refine rK ?_; exact Kd.Rm (rf (rf (rf (rf (rf (rf (rf (rf (rf1 (rf1 (rf1 (rf1 (rf1 (rf1 (rf1 (rf1 (Kd.Ry (Kd.Ry Aa.o A3.o (by decide)) A1.o (by decide)))))))))))))))))) (fun _ hk => trivial), vB HB⟩

end Go.Proofs.Ytlkiakpipcnijaa.PAll
