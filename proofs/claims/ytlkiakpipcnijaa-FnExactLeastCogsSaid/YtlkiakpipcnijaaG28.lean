/- Began as a text that print.sh wrote (of the functions named below); turned and shortened by this session. -/
import Derived.Test.YtlkiakpipcnijaaG0
import Derived.Test.YtlkiakpipcnijaaG7
namespace Go.Proofs.Ytlkiakpipcnijaa.PAll
open Go.RowKit Go.Proofs.YtlkiakpipcnijaaW.PrintWords Go.Proofs.YtlkiakpipcnijaaW.PrintLast Go.Proofs.YtlkiakpipcnijaaW.PrintMore
attribute [local go_sem] max2_int min2_int max_two min_two max_three min_three max_four min_four   -- for this text's walks alone
set_option linter.unusedVariables false
set_option linter.unusedSimpArgs false

/-! ### spec_boHas: function 69 -/
def spec_boHas.f (k : Nat) (a0_0 : Int) (a0_1 : Int) (l0_2 : List (S71)) (a1 : Int) (a2 : Int) : Option (Bool) := (spec_boGood.f k a0_0 a0_1 l0_2).bind fun t711 => (if t711 = true then ((spec_l1In.f a1 0 (wrap64 (a0_0 - 1))).bind fun t712 => (if t712 = true then ((spec_l1In.f a2 0 (wrap64 (a0_1 - 1))).bind fun t713 => (some t713)) else (some false))) else (some false))
set_option maxHeartbeats 8000000 in
set_option maxRecDepth 100000 in
theorem spec_boHas.calls (k : Nat) (a0_0 : Int) (a0_1 : Int) (A0_2 : Option Addr) (c0_2 : Nat) (l0_2 : List (S71)) (a1 : Int) (a2 : Int) (r : Bool) (w : World) (hr0_2 : Kd.C k71 w A0_2 l0_2.length l0_2) (hc0_2 : l0_2.length ≤ c0_2) (h : spec_boHas.f k a0_0 a0_1 l0_2 a1 a2 = some r) :
 Calls Try.prog 69 #[.agg #[.int .i64 a0_0, .int .i64 a0_1, .slice A0_2 l0_2.length c0_2], .int .i64 a1, .int .i64 a2] w fun e w' => e = .returned (.bool r) ∧ Below w.heap.size w w' := by
 have AK := Try.underlying30
 have A7 := Z.m hr0_2
 have A5 := Z.m hc0_2
 clear hr0_2 hc0_2
 have HB := Z.m (Below.refl w.heap.size w)
 have H : ((spec_boGood.f k a0_0 a0_1 l0_2).bind fun A9 => (if A9 = true then ((spec_l1In.f a1 0 (wrap64 (a0_0 - 1))).bind fun A3 => (if A3 = true then ((spec_l1In.f a2 0 (wrap64 (a0_1 - 1))).bind fun A1 => (some A1)) else (some false))) else (some false))) = some r := h
 clear h
 replace H := Option.bind_eq_some_iff.mp H
 obtain ⟨A9, AG, H⟩ := H
 replace H : (if A9 = true then ((spec_l1In.f a1 0 (wrap64 (a0_0 - 1))).bind fun A3 => (if A3 = true then ((spec_l1In.f a2 0 (wrap64 (a0_1 - 1))).bind fun A1 => (some A1)) else (some false))) else (some false)) = some r := H
 have A4 := Z.m AG
 clear AG
 by_cases c5 : A9 = true
 ·subst c5
  have H1 : ((spec_l1In.f a1 0 (wrap64 (a0_0 - 1))).bind fun A3 => (if A3 = true then ((spec_l1In.f a2 0 (wrap64 (a0_1 - 1))).bind fun A1 => (some A1)) else (some false))) = some r := by rw [if_pos rfl] at H; exact H
  clear H
  have H := H1
  clear H1
  replace H := Option.bind_eq_some_iff.mp H
  obtain ⟨A3, AH, H⟩ := H
  replace H : (if A3 = true then ((spec_l1In.f a2 0 (wrap64 (a0_1 - 1))).bind fun A1 => (some A1)) else (some false)) = some r := H
  have A6 := Z.m AH
  clear AH
  by_cases c7 : A3 = true
  ·subst c7
   have H1 : ((spec_l1In.f a2 0 (wrap64 (a0_1 - 1))).bind fun A1 => (some A1)) = some r := by rw [if_pos rfl] at H; exact H
   clear H
   have H := H1
   clear H1
   replace H := Option.bind_eq_some_iff.mp H
   obtain ⟨A1, AI, H⟩ := H
   replace H : (some A1) = some r := H
   have A8 := Z.m AI
   clear AI
   obtain rfl := Option.some.inj H
   go_enter Try.func69, Try.ntmps69
   go_wp2_with (first | ((with_reducible refine gq (N := 3) rfl ?_); refine be (N := 3) (cs := #[.int .i64 a0_0, .int .i64 a0_1, .slice A0_2 l0_2.length c0_2]) (t := 30) ?_; intro Ab hg w9 hbox hb; have A0 := Z.m (hbox); have A2 := gW (w := w) HB hg; have Aa := A2; replace HB := bB HB hb; clear hb hbox hg; have Ac := bc0 A0; have Ad := bc1 A0; have Ae := bc2 A0; have Ar := qz A0.o 0; have As := qz A0.o 1; have At := qz A0.o 2) | ((with_reducible refine gc (f := 59) rfl ?_); refine gA (some 8) _ #[.agg #[.int .i64 a0_0, .int .i64 a0_1, .slice A0_2 l0_2.length c0_2]] ?_ Try.func59; (with_reducible refine (spec_boGood.calls k a0_0 a0_1 _ _ l0_2 true _ ?side1 ?side2 A4.o).mono ?_); (case side1 => repeat (first | exact (Kd.C_below A7.o HB.o) | (with_reducible refine Kd.C_alloc ?_ _) | (with_reducible refine Kd.C_drewN ?_ _) | (with_reducible refine Kd.C_drew ?_))); (case side2 => exact A5.o); rintro e AL ⟨rfl, hb⟩; refine ⟨_, rfl, ?_⟩; replace A0 := kB A0 hb; replace HB := bB HB hb; (try clear hb); (try clear AJ); (try clear hk); (try clear hi); have Af := bc0 A0; have Ag := bc1 A0; have Ah := bc2 A0; have Au := qz A0.o 0; have Av := qz A0.o 1; have Aw := qz A0.o 2) | (go_at_call 77; (with_reducible refine (spec_l1In.calls a1 0 (wrap64 (a0_0 - 1)) true _ A6.o).mono ?_); rintro e w' ⟨rfl, ⟨nd, rfl⟩⟩) | (go_at_call 77; (with_reducible refine (spec_l1In.calls a2 0 (wrap64 (a0_1 - 1)) A1 _ A8.o).mono ?_); rintro e w' ⟨rfl, ⟨nd, rfl⟩⟩))
   go_ret
   exact ⟨by first | rfl | (simp [eN, eS] <;> rfl) | (simp [*, eN, eS] <;> rfl), vB HB⟩
  ·replace c7 := Bool.eq_false_iff.mpr c7
   subst c7
   have H1 : (some false) = some r := by rw [if_neg (show ¬ (false = true) by decide)] at H; exact H
   clear H
   have H := H1
   clear H1
   obtain rfl := Option.some.inj H
   go_enter Try.func69, Try.ntmps69
   go_wp2_with (first | ((with_reducible refine gq (N := 3) rfl ?_); refine be (N := 3) (cs := #[.int .i64 a0_0, .int .i64 a0_1, .slice A0_2 l0_2.length c0_2]) (t := 30) ?_; intro Ab hg AM hbox hb; have A0 := Z.m (hbox); have A2 := gW (w := w) HB hg; have Aa := A2; replace HB := bB HB hb; clear hb hbox hg; have Ai := bc0 A0; have Aj := bc1 A0; have Ak := bc2 A0; have Ax := qz A0.o 0; have Ay := qz A0.o 1; have Az := qz A0.o 2) | ((with_reducible refine gc (f := 59) rfl ?_); refine gA (some 8) _ #[.agg #[.int .i64 a0_0, .int .i64 a0_1, .slice A0_2 l0_2.length c0_2]] ?_ Try.func59; (with_reducible refine (spec_boGood.calls k a0_0 a0_1 _ _ l0_2 true _ ?side1 ?side2 A4.o).mono ?_); (case side1 => repeat (first | exact (Kd.C_below A7.o HB.o) | (with_reducible refine Kd.C_alloc ?_ _) | (with_reducible refine Kd.C_drewN ?_ _) | (with_reducible refine Kd.C_drew ?_))); (case side2 => exact A5.o); rintro e AN ⟨rfl, hb⟩; refine ⟨_, rfl, ?_⟩; replace A0 := kB A0 hb; replace HB := bB HB hb; (try clear hb); (try clear AJ); (try clear hk); (try clear hi); have Al := bc0 A0; have Am := bc1 A0; have An := bc2 A0; have AA := qz A0.o 0; have AB := qz A0.o 1; have AC := qz A0.o 2) | (go_at_call 77; (with_reducible refine (spec_l1In.calls a1 0 (wrap64 (a0_0 - 1)) false _ A6.o).mono ?_); rintro e w' ⟨rfl, ⟨nd, rfl⟩⟩))
   go_ret
   exact ⟨by first | rfl | (simp [eN, eS] <;> rfl) | (simp [*, eN, eS] <;> rfl), vB HB⟩
 ·replace c5 := Bool.eq_false_iff.mpr c5
  subst c5
  have H1 : (some false) = some r := by rw [if_neg (show ¬ (false = true) by decide)] at H; exact H
  clear H
  have H := H1
  clear H1
  obtain rfl := Option.some.inj H
  go_enter Try.func69, Try.ntmps69
  go_wp2_with (first | ((with_reducible refine gq (N := 3) rfl ?_); refine be (N := 3) (cs := #[.int .i64 a0_0, .int .i64 a0_1, .slice A0_2 l0_2.length c0_2]) (t := 30) ?_; intro Ab hg AO hbox hb; have A0 := Z.m (hbox); have A2 := gW (w := w) HB hg; have Aa := A2; replace HB := bB HB hb; clear hb hbox hg; have Ao := bc0 A0; have Ap := bc1 A0; have Aq := bc2 A0; have AD := qz A0.o 0; have AE := qz A0.o 1; have AF := qz A0.o 2) | ((with_reducible refine gc (f := 59) rfl ?_); refine gA (some 8) _ #[.agg #[.int .i64 a0_0, .int .i64 a0_1, .slice A0_2 l0_2.length c0_2]] ?_ Try.func59; (with_reducible refine (spec_boGood.calls k a0_0 a0_1 _ _ l0_2 false _ ?side1 ?side2 A4.o).mono ?_); (case side1 => repeat (first | exact (Kd.C_below A7.o HB.o) | (with_reducible refine Kd.C_alloc ?_ _) | (with_reducible refine Kd.C_drewN ?_ _) | (with_reducible refine Kd.C_drew ?_))); (case side2 => exact A5.o); rintro e AP ⟨rfl, hb⟩; refine ⟨_, rfl, ?_⟩; replace A0 := kB A0 hb; replace HB := bB HB hb; (try clear hb); (try clear AJ); (try clear hk); (try clear hi)))
  go_ret
  exact ⟨by first | rfl | (simp [eN, eS] <;> rfl) | (simp [*, eN, eS] <;> rfl), vB HB⟩

/-! ### spec_boAt: function 70 -/
def spec_boAt.f (a0_0 : Int) (a0_1 : Int) (l0_2 : List (S71)) (a1 : Int) (a2 : Int) : Option (Int × Int) := if 0 ≤ (wrap64 ((wrap64 (a1 * a0_1)) + a2)) then (if (wrap64 ((wrap64 (a1 * a0_1)) + a2)) < (l0_2.length : Int) then (some ((rd_T71 l0_2 (wrap64 ((wrap64 (a1 * a0_1)) + a2))).f0, (rd_T71 l0_2 (wrap64 ((wrap64 (a1 * a0_1)) + a2))).f1)) else (none)) else (none)
set_option maxHeartbeats 8000000 in
set_option maxRecDepth 100000 in
theorem spec_boAt.calls (a0_0 : Int) (a0_1 : Int) (A0_2 : Option Addr) (c0_2 : Nat) (l0_2 : List (S71)) (a1 : Int) (a2 : Int) (r1 : Int) (r2 : Int) (w : World) (hr0_2 : Kd.C k71 w A0_2 l0_2.length l0_2) (hc0_2 : l0_2.length ≤ c0_2) (h : spec_boAt.f a0_0 a0_1 l0_2 a1 a2 = some (r1, r2)) :
 Calls Try.prog 70 #[.agg #[.int .i64 a0_0, .int .i64 a0_1, .slice A0_2 l0_2.length c0_2], .int .i64 a1, .int .i64 a2] w fun e w' => e = .returned (.agg #[.int .i64 r1, .int .i64 r2]) ∧ Below w.heap.size w w' := by
 have Av := Try.underlying30
 have Aw := Try.underlying71
 have Aa := Z.m hr0_2
 have Ao := Z.m hc0_2
 clear hr0_2 hc0_2
 have HB := Z.m (Below.refl w.heap.size w)
 have H : (if 0 ≤ (wrap64 ((wrap64 (a1 * a0_1)) + a2)) then (if (wrap64 ((wrap64 (a1 * a0_1)) + a2)) < (l0_2.length : Int) then (some ((rd_T71 l0_2 (wrap64 ((wrap64 (a1 * a0_1)) + a2))).f0, (rd_T71 l0_2 (wrap64 ((wrap64 (a1 * a0_1)) + a2))).f1)) else (none)) else (none)) = some (r1, r2) := h
 clear h
 obtain ⟨A6, A7⟩ : ∃ j_ : Int, (wrap64 ((wrap64 (a1 * a0_1)) + a2)) = j_ := ⟨_, rfl⟩
 replace H : (if 0 ≤ (A6) then (if (A6) < (l0_2.length : Int) then (some ((rd_T71 l0_2 (A6)).f0, (rd_T71 l0_2 (A6)).f1)) else (none)) else (none)) = some (r1, r2) := by first | (rw [A7] at H; exact H) | (simp only [A7] at H ⊢; exact H)
 have hji4w : (IntKind.i64.wrap ((wrap64 (a1 * a0_1)) + a2)) = A6 := (i64_w _).trans A7
 by_cases c5 : 0 ≤ (A6)
 ·rw [if_pos c5] at H
  have Ar := decide_eq_true c5
  clear c5
  by_cases c6 : (A6) < (l0_2.length : Int)
  ·rw [if_pos c6] at H
   have As := decide_eq_true c6
   clear c6
   simp only [Option.some.injEq, Prod.mk.injEq] at H
   obtain ⟨rfl, rfl⟩ := H
   go_enter Try.func70, Try.ntmps70
   go_wp2_with (first | ((with_reducible refine gq (N := 3) rfl ?_); refine be (N := 3) (cs := #[.int .i64 a0_0, .int .i64 a0_1, .slice A0_2 l0_2.length c0_2]) (t := 30) ?_; intro Aq hg w7 hbox hb; have A0 := Z.m (hbox); have A8 := gW (w := w) HB hg; have Am := A8; replace HB := bB HB hb; clear hb hbox hg) | ((with_reducible refine gq (N := 6) rfl ?_); refine be (N := 6) (cs := #[.int .i64 0, .int .i64 0]) (t := 71) ?_; intro Ab hg w8 hbox hb; have A3 := Z.m (hbox); have A9 := gW (w := w) HB hg; have An := A9; have A4 := neL A0 hg; have A5 := neG A0 hg; replace A0 := kB A0 hb; replace HB := bB HB hb; clear hb hbox hg; have At := A4.o; have Au := A5.o; have Ac := bc0 A0; have Ad := bc1 A0; have Ae := bc2 A0; have Ah := qz A0.o 0; have Ai := qz A0.o 1; have Aj := qz A0.o 2; have p716 : 0 ≤ ((A6) : Int) := ofD; have q716 : (A6) < (l0_2.length : Int) := ofD; obtain ⟨Ap, e716, A1, A2⟩ := at_T71 Aa.o (A6) p716 q716; cases e716; replace A1 := (HB.o.cell (World.block_lt_of_cell? w _ A1)).trans A1; replace A2 := (HB.o.cell (World.block_lt_of_cell? w _ A2)).trans A2; replace p716 := eq_true p716; replace q716 := eq_true q716; have Af := bc0 A3; have Ag := bc1 A3; have Ak := qz A3.o 0; have Al := qz A3.o 1))
   refine bodyPost_ret (results_cell_row rfl _ _ Ab 71 #[.int .i64 ((rd_T71 l0_2 (A6)).f0), .int .i64 ((rd_T71 l0_2 (A6)).f1)] (0, 0) _ rfl (by refine bK ?_; refine qp (cs := #[iV ((rd_T71 l0_2 (A6)).f0), iV 0]) ?_ 1 _ rfl; refine bK ?_; refine qp (cs := #[iV 0, iV 0]) ?_ 0 _ rfl; refine bK ?_; exact A3.o) Try.underlying71 rfl (by kernel_rfl)) rfl ?_
   exact ⟨by first | rfl | (simp [eN, eS] <;> rfl) | (simp only [← A7]; first | rfl | (simp [eN, eS] <;> rfl)) | (simp [*, eN, eS] <;> rfl), vB HB⟩
  ·rw [if_neg c6] at H
   exact absurd H (by simp)
 ·rw [if_neg c5] at H
  exact absurd H (by simp)

end Go.Proofs.Ytlkiakpipcnijaa.PAll
