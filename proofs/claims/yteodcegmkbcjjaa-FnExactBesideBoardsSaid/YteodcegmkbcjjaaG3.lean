/- Began as a text that print.sh wrote (of the functions named below); turned and shortened by this session. -/
import Derived.Test.YteodcegmkbcjjaaG0
import Derived.Test.YteodcegmkbcjjaaG1
import Derived.Test.YteodcegmkbcjjaaG2
namespace Go.Proofs.Yteodcegmkbcjjaa.PAll
open Go.RowKit Go.Proofs.YteodcegmkbcjjaaW.PrintWords Go.Proofs.YteodcegmkbcjjaaW.PrintLast Go.Proofs.YteodcegmkbcjjaaW.PrintMore
attribute [local go_sem] max2_int min2_int max_two min_two max_three min_three max_four min_four   -- for this text's walks alone
set_option linter.unusedVariables false
set_option linter.unusedSimpArgs false

/-! ### laws_heldBoard: function 26 -/
def laws_heldBoard.f (k : Nat) (a0_0 : Int) (a0_1 : Int) (l0_2 : List (S34)) (a1 : Int) : Option (Int) := (laws_heldCellS.f k l0_2 a1).bind fun t246 => (if t246 < 0 then (some (-1)) else (some t246))
set_option maxHeartbeats 8000000 in
set_option maxRecDepth 100000 in
theorem laws_heldBoard.calls (k : Nat) (a0_0 : Int) (a0_1 : Int) (A0_2 : Option Addr) (c0_2 : Nat) (l0_2 : List (S34)) (a1 : Int) (r : Int) (w : World) (hr0_2 : Kd.C k34 w A0_2 l0_2.length l0_2) (hc0_2 : l0_2.length ≤ c0_2) (h : laws_heldBoard.f k a0_0 a0_1 l0_2 a1 = some r) :
 Calls Try.prog 26 #[.agg #[.int .i64 a0_0, .int .i64 a0_1, .slice A0_2 l0_2.length c0_2], .int .i64 a1] w fun e w' => e = .returned (.int .i64 r) ∧ Below w.heap.size w w' := by
 have Am := Try.underlying29
 have A5 := Z.m hr0_2
 have A4 := Z.m hc0_2
 clear hr0_2 hc0_2
 have HB := Z.m (Below.refl w.heap.size w)
 have H : ((laws_heldCellS.f k l0_2 a1).bind fun A1 => (if A1 < 0 then (some (-1)) else (some A1))) = some r := h
 clear h
 replace H := Option.bind_eq_some_iff.mp H
 obtain ⟨A1, Al, H⟩ := H
 replace H : (if A1 < 0 then (some (-1)) else (some A1)) = some r := H
 have A3 := Z.m Al
 clear Al
 by_cases c4 : A1 < 0
 ·rw [if_pos c4] at H
  have A8 := decide_eq_true c4
  clear c4
  obtain rfl := Option.some.inj H
  go_enter Try.func26, Try.ntmps26
  go_wp2_with (first | ((with_reducible refine gq (N := 2) rfl ?_); refine be (N := 2) (cs := #[.int .i64 a0_0, .int .i64 a0_1, .slice A0_2 l0_2.length c0_2]) (t := 29) ?_; intro A7 hg w5 hbox hb; have A0 := Z.m (hbox); have A2 := gW (w := w) HB hg; have A6 := A2; replace HB := bB HB hb; clear hb hbox hg; have A9 := bc0 A0; have Aa := bc1 A0; have Ab := bc2 A0; have Af := qz A0.o 0; have Ag := qz A0.o 1; have Ah := qz A0.o 2) | ((with_reducible refine gc (f := 62) rfl ?_); refine gA (some 8) _ #[.slice A0_2 l0_2.length c0_2, .int .i64 a1] ?_ Try.func62; (with_reducible refine (laws_heldCellS.calls k _ _ l0_2 a1 A1 _ ?side1 ?side2 A3.o).mono ?_); (case side1 => repeat (first | exact (Kd.C_below A5.o HB.o) | (with_reducible refine Kd.C_alloc ?_ _) | (with_reducible refine Kd.C_drewN ?_ _) | (with_reducible refine Kd.C_drew ?_))); (case side2 => exact A4.o); rintro e w' ⟨rfl, ⟨nd, rfl⟩⟩; refine ⟨_, rfl, ?_⟩))
  go_ret
  exact ⟨by first | rfl | (simp [eN, eS] <;> rfl) | (simp [*, eN, eS] <;> rfl), vB HB⟩
 ·rw [if_neg c4] at H
  have A8 := decide_eq_false c4
  clear c4
  obtain rfl := Option.some.inj H
  go_enter Try.func26, Try.ntmps26
  go_wp2_with (first | ((with_reducible refine gq (N := 2) rfl ?_); refine be (N := 2) (cs := #[.int .i64 a0_0, .int .i64 a0_1, .slice A0_2 l0_2.length c0_2]) (t := 29) ?_; intro A7 hg w7 hbox hb; have A0 := Z.m (hbox); have A2 := gW (w := w) HB hg; have A6 := A2; replace HB := bB HB hb; clear hb hbox hg; have Ac := bc0 A0; have Ad := bc1 A0; have Ae := bc2 A0; have Ai := qz A0.o 0; have Aj := qz A0.o 1; have Ak := qz A0.o 2) | ((with_reducible refine gc (f := 62) rfl ?_); refine gA (some 8) _ #[.slice A0_2 l0_2.length c0_2, .int .i64 a1] ?_ Try.func62; (with_reducible refine (laws_heldCellS.calls k _ _ l0_2 a1 A1 _ ?side1 ?side2 A3.o).mono ?_); (case side1 => repeat (first | exact (Kd.C_below A5.o HB.o) | (with_reducible refine Kd.C_alloc ?_ _) | (with_reducible refine Kd.C_drewN ?_ _) | (with_reducible refine Kd.C_drew ?_))); (case side2 => exact A4.o); rintro e w' ⟨rfl, ⟨nd, rfl⟩⟩; refine ⟨_, rfl, ?_⟩))
  go_ret
  exact ⟨by first | rfl | (simp [eN, eS] <;> rfl) | (simp [*, eN, eS] <;> rfl), vB HB⟩

/-! ### spec_boIf: function 63 -/
def spec_boIf.f (k : Nat) (a0_0 : Int) (a0_1 : Int) (l0_2 : List (S34)) : Option (Int × Int × (List (S34)) × Bool) := (spec_boGood.f k a0_0 a0_1 l0_2).bind fun t303 => (if t303 = true then (some (a0_0, a0_1, l0_2, true)) else (some (0, 0, ([] : List (S34)), false)))
set_option maxHeartbeats 8000000 in
set_option maxRecDepth 100000 in
theorem spec_boIf.calls (k : Nat) (a0_0 : Int) (a0_1 : Int) (P0_2_ : Nat → Prop) (u9000_ : Value) (l0_2 : List (S34)) (r1 : Int) (r2 : Int) (r3 : List (S34)) (r4 : Bool) (w0 w : World) (hB : Below w0.heap.size w0 w) (ho0_2 : Kd.R k34 34 w w0.heap.size P0_2_ u9000_ l0_2) (h : spec_boIf.f k a0_0 a0_1 l0_2 = some (r1, r2, r3, r4)) :
 Calls Try.prog 63 #[.agg #[.int .i64 a0_0, .int .i64 a0_1, u9000_]] w fun e w' => ∃ v2_ : Value, e = .returned (.tuple #[.agg #[.int .i64 r1, .int .i64 r2, v2_], .bool r4]) ∧ Kd.R k34 34 w' w0.heap.size (fun k_ => (P0_2_ k_ ∨ w.heap.size ≤ k_)) v2_ r3 ∧ Below w0.heap.size w0 w' ∧ Kept w w' (fun k_ => P0_2_ k_) := by
 have AT := Try.underlying29
 have A3 := Z.m (show Kd.R k34 34 w w0.heap.size (fun k_ => (P0_2_ k_ ∨ w.heap.size ≤ k_)) u9000_ l0_2 from Kd.Rm ho0_2 (fun k_ hk => (.inl hk)))
 have HK := Z.m (Kept.refl w (fun k_ => P0_2_ k_))
 have HW0 := Z.m hB.size
 have HB := Z.m hB
 clear hB
 have H : ((spec_boGood.f k a0_0 a0_1 l0_2).bind fun A8 => (if A8 = true then (some (a0_0, a0_1, l0_2, true)) else (some (0, 0, ([] : List (S34)), false)))) = some (r1, r2, r3, r4) := h
 clear h
 replace H := Option.bind_eq_some_iff.mp H
 obtain ⟨A8, AM, H⟩ := H
 replace H : (if A8 = true then (some (a0_0, a0_1, l0_2, true)) else (some (0, 0, ([] : List (S34)), false))) = some (r1, r2, r3, r4) := H
 have A2 := Z.m AM
 clear AM
 by_cases c3 : A8 = true
 ·subst c3
  have H1 : (some (a0_0, a0_1, l0_2, true)) = some (r1, r2, r3, r4) := by rw [if_pos rfl] at H; exact H
  clear H
  have H := H1
  clear H1
  simp only [Option.some.injEq, Prod.mk.injEq] at H
  obtain ⟨rfl, rfl, rfl, rfl⟩ := H
  obtain ⟨AD, AE, AP⟩ := Kd.R_slice A3.o
  subst AP
  go_enter Try.func63, Try.ntmps63
  go_wp2_with (first | ((with_reducible refine gq (N := 1) rfl ?_); refine be (N := 1) (cs := #[.int .i64 a0_0, .int .i64 a0_1, .slice AD l0_2.length AE]) (t := 29) ?_; intro A7 hg w5 hbox hb; have A0 := Z.m (hbox); have Ac := Z.m ((by rw [hg]; exact (by first | exact HK.o.1 | exact (show Kept w _ (fun k_ => P0_2_ k_) from vT HK).1) : w.heap.size ≤ A7)); have Aa := gW (w := w0) HB hg; replace A3 := Z.m (Kd.Rb (vR A3) hb); replace HK := Z.m (Kept.below (S := (fun k_ => P0_2_ k_)) (vT HK) hb); replace HB := bB HB hb; clear hb hbox hg) | ((with_reducible refine gq (N := 2) rfl ?_); refine be (N := 2) (cs := #[.int .i64 0, .int .i64 0, .slice none 0 0]) (t := 29) ?_; intro A6 hg w6 hbox hb; have A1 := Z.m (hbox); have Ad := Z.m ((by rw [hg]; exact (by first | exact HK.o.1 | exact (show Kept w _ (fun k_ => P0_2_ k_) from vT HK).1) : w.heap.size ≤ A6)); have Ab := gW (w := w0) HB hg; have A4 := neL A0 hg; have A5 := neG A0 hg; replace A3 := Z.m (Kd.Rb (vR A3) hb); replace A0 := kB A0 hb; replace HK := Z.m (Kept.below (S := (fun k_ => P0_2_ k_)) (vT HK) hb); replace HB := bB HB hb; clear hb hbox hg; have AR := A4.o; have AS := A5.o; have AG := bc0 A0; have AH := bc1 A0; have AI := bc2 A0; have AJ := qz A0.o 0; have AK := qz A0.o 1; have AL := qz A0.o 2) | ((with_reducible refine gc (f := 53) rfl ?_); refine gA (some 5) _ #[.agg #[.int .i64 a0_0, .int .i64 a0_1, .slice AD l0_2.length AE]] ?_ Try.func53; (with_reducible refine (spec_boGood.calls k a0_0 a0_1 _ _ l0_2 true _ ?side1 ?side2 A2.o).mono ?_); (case side1 => repeat (first | exact (Kd.RrZ A3.o).2.2 | (with_reducible refine Kd.C_alloc ?_ _) | (with_reducible refine Kd.C_drewN ?_ _) | (with_reducible refine Kd.C_drew ?_))); (case side2 => exact (Kd.RrZ A3.o).2.1); rintro e w9 ⟨rfl, hb⟩; refine ⟨_, rfl, ?_⟩; replace A3 := Z.m (Kd.Rb (vR A3) hb); replace A0 := kB A0 hb; replace A1 := kB A1 hb; replace HK := Z.m (Kept.below (S := (fun k_ => P0_2_ k_)) (vT HK) hb); replace HB := bB HB hb; (try clear hb); (try clear AQ); (try clear hk); (try clear hi); have Af := bc0 A0; have Ag := bc1 A0; have Ah := bc2 A0; have Ar := qz A0.o 0; have As := qz A0.o 1; have At := qz A0.o 2; have Ai := bc0 A1; have Aj := bc1 A1; have Ak := bc2 A1; have Au := qz A1.o 0; have Av := qz A1.o 1; have Aw := qz A1.o 2))
  refine bodyPost_ret (results_ct rfl _ _ A6 29 #[.int .i64 a0_0, .int .i64 a0_1, .slice AD l0_2.length AE] (0, 0) _ rfl (by refine bK ?_; apply st3; refine bK ?_; exact A1.o) Try.underlying29 rfl (by kernel_rfl)) rfl ?_
  exact ⟨_, by first | rfl | (simp [eN, eS] <;> rfl) | (simp [*, eN, eS] <;> rfl), by refine rK ?_; exact Kd.Rm (rf (rf (rf (Kd.Ry A3.o A1.o (by decide))))) (fun _ hk => hk.1), vB HB, vT HK⟩
 ·replace c3 := Bool.eq_false_iff.mpr c3
  subst c3
  have H1 : (some (0, 0, ([] : List (S34)), false)) = some (r1, r2, r3, r4) := by rw [if_neg (show ¬ (false = true) by decide)] at H; exact H
  clear H
  have H := H1
  clear H1
  simp only [Option.some.injEq, Prod.mk.injEq] at H
  obtain ⟨rfl, rfl, rfl, rfl⟩ := H
  obtain ⟨A9, Ae, AF⟩ := Kd.R_slice A3.o
  subst AF
  go_enter Try.func63, Try.ntmps63
  go_wp2_with (first | ((with_reducible refine gq (N := 1) rfl ?_); refine be (N := 1) (cs := #[.int .i64 a0_0, .int .i64 a0_1, .slice A9 l0_2.length Ae]) (t := 29) ?_; intro A7 hg AU hbox hb; have A0 := Z.m (hbox); have Ac := Z.m ((by rw [hg]; exact (by first | exact HK.o.1 | exact (show Kept w _ (fun k_ => P0_2_ k_) from vT HK).1) : w.heap.size ≤ A7)); have Aa := gW (w := w0) HB hg; replace A3 := Z.m (Kd.Rb (vR A3) hb); replace HK := Z.m (Kept.below (S := (fun k_ => P0_2_ k_)) (vT HK) hb); replace HB := bB HB hb; clear hb hbox hg) | ((with_reducible refine gq (N := 2) rfl ?_); refine be (N := 2) (cs := #[.int .i64 0, .int .i64 0, .slice none 0 0]) (t := 29) ?_; intro A6 hg AV hbox hb; have A1 := Z.m (hbox); have Ad := Z.m ((by rw [hg]; exact (by first | exact HK.o.1 | exact (show Kept w _ (fun k_ => P0_2_ k_) from vT HK).1) : w.heap.size ≤ A6)); have Ab := gW (w := w0) HB hg; have A4 := neL A0 hg; have A5 := neG A0 hg; replace A3 := Z.m (Kd.Rb (vR A3) hb); replace A0 := kB A0 hb; replace HK := Z.m (Kept.below (S := (fun k_ => P0_2_ k_)) (vT HK) hb); replace HB := bB HB hb; clear hb hbox hg; have AN := A4.o; have AO := A5.o; have Al := bc0 A0; have Am := bc1 A0; have An := bc2 A0; have Ax := qz A0.o 0; have Ay := qz A0.o 1; have Az := qz A0.o 2) | ((with_reducible refine gc (f := 53) rfl ?_); refine gA (some 5) _ #[.agg #[.int .i64 a0_0, .int .i64 a0_1, .slice A9 l0_2.length Ae]] ?_ Try.func53; (with_reducible refine (spec_boGood.calls k a0_0 a0_1 _ _ l0_2 false _ ?side1 ?side2 A2.o).mono ?_); (case side1 => repeat (first | exact (Kd.RrZ A3.o).2.2 | (with_reducible refine Kd.C_alloc ?_ _) | (with_reducible refine Kd.C_drewN ?_ _) | (with_reducible refine Kd.C_drew ?_))); (case side2 => exact (Kd.RrZ A3.o).2.1); rintro e AW ⟨rfl, hb⟩; refine ⟨_, rfl, ?_⟩; replace A3 := Z.m (Kd.Rb (vR A3) hb); replace A0 := kB A0 hb; replace A1 := kB A1 hb; replace HK := Z.m (Kept.below (S := (fun k_ => P0_2_ k_)) (vT HK) hb); replace HB := bB HB hb; (try clear hb); (try clear AQ); (try clear hk); (try clear hi); have Ao := bc0 A1; have Ap := bc1 A1; have Aq := bc2 A1; have AA := qz A1.o 0; have AB := qz A1.o 1; have AC := qz A1.o 2))
  refine bodyPost_ret (results_ct rfl _ _ A6 29 #[.int .i64 0, .int .i64 0, .slice none 0 0] (0, 0) _ rfl (by refine bK ?_; apply st3; refine bK ?_; exact A1.o) Try.underlying29 rfl (by kernel_rfl)) rfl ?_
  exact ⟨_, by first | rfl | (simp [eN, eS] <;> rfl) | (simp [*, eN, eS] <;> rfl), by first | exact Kd.R_nil _ _ _ _ _ | exact Kd.N_nil _ _ _ _ _ | exact Kd.V_nil _ _ _ _ _ | exact Kd.Q_nil _ _ _ _ _ | exact Kd.S_nil _ _ _ _ _, vB HB, vT HK⟩

/-! ### spec_boRow: function 67 -/
def spec_boRow.f (a0_0 : Int) (a0_1 : Int) (l0_2 : List (S34)) (a1 : Int) : Option ((List (S34))) := if 0 ≤ (wrap64 (a1 * a0_1)) then (if (wrap64 (a1 * a0_1)) ≤ (wrap64 ((wrap64 (a1 + 1)) * a0_1)) then (if (wrap64 ((wrap64 (a1 + 1)) * a0_1)) ≤ (l0_2.length : Int) then (some ((l0_2.take ((wrap64 ((wrap64 (a1 + 1)) * a0_1)) : Int).toNat).drop ((wrap64 (a1 * a0_1)) : Int).toNat)) else (none)) else (none)) else (none)
set_option maxHeartbeats 8000000 in
set_option maxRecDepth 100000 in
/-- The part of the board's own row that boRow hands back. -/
theorem spec_boRow.part (a0_0 a0_1 : Int) (A0_2 : Option Addr) (c0_2 : Nat) (l0_2 : List S34) (a1 ji : Int) (w : World) (hc0_2 : l0_2.length ≤ c0_2) (hji : wrap64 (a1 * a0_1) = ji) (h0 : 0 ≤ ji) (h1 : ji ≤ wrap64 ((wrap64 (a1 + 1)) * a0_1)) (h2 : wrap64 ((wrap64 (a1 + 1)) * a0_1) ≤ (l0_2.length : Int)) :
 Calls Try.prog 67 #[.agg #[.int .i64 a0_0, .int .i64 a0_1, .slice A0_2 l0_2.length c0_2], .int .i64 a1] w fun e w' => e = .returned (.slice (if c0_2 = ((ji) : Int).toNat then A0_2 else (A0_2 : Option Addr).map (·.add (((ji) : Int).toNat * 2))) (((wrap64 ((wrap64 (a1 + 1)) * a0_1)) : Int).toNat - ((ji) : Int).toNat) (c0_2 - ((ji) : Int).toNat)) ∧ Below w.heap.size w w' := by
 have hu29 := Try.underlying29
 have HB := Z.m (Below.refl w.heap.size w)
 have hjiw : (IntKind.i64.wrap (a1 * a0_1)) = ji := (i64_w _).trans hji
 obtain ⟨i0, hi0, _, hsz, _⟩ := info_parts info34
 have hcut := cut_mid (P := Try.prog) 27 34 .i64 .i64 Try.underlying27 hi0 2 hsz A0_2 l0_2.length c0_2 (ji) (wrap64 ((wrap64 (a1 + 1)) * a0_1)) h0 h1 h2 hc0_2
 clear hi0 hsz
 generalize (if c0_2 = ((ji) : Int).toNat then A0_2 else (A0_2 : Option Addr).map (·.add (((ji) : Int).toNat * 2))) = Ce at hcut ⊢
 go_enter Try.func67, Try.ntmps67
 go_wp2_with (first | ((with_reducible refine gq (N := 2) rfl ?_); refine be (N := 2) (cs := #[.int .i64 a0_0, .int .i64 a0_1, .slice A0_2 l0_2.length c0_2]) (t := 29) ?_; intro gb hg w2 hbox hb; have BK := Z.m (hbox); have GW := gW (w := w) HB hg; replace HB := bB HB hb; clear hb hbox hg; have hcz_0 := bc0 BK; have hcz_1 := bc1 BK; have hcz_2 := bc2 BK))
 go_ret
 exact ⟨by first | rfl | (simp; done) | (simp [*] <;> rfl), vB HB⟩

theorem spec_boRow.rows (a0_0 : Int) (a0_1 : Int) (A0_2 : Option Addr) (c0_2 : Nat) (l0_2 : List (S34)) (a1 : Int) (r : List (S34)) (w0 w : World) (hr : Kd.C k34 w0 A0_2 l0_2.length l0_2) (hc0_2 : l0_2.length ≤ c0_2) (h : spec_boRow.f a0_0 a0_1 l0_2 a1 = some r) :
 Calls Try.prog 67 #[.agg #[.int .i64 a0_0, .int .i64 a0_1, .slice A0_2 l0_2.length c0_2], .int .i64 a1] w fun e w' => ∃ (A_ : Option Addr) (c_ : Nat), e = .returned (.slice A_ r.length c_) ∧ r.length ≤ c_ ∧ Kd.C k34 w0 A_ r.length r ∧ Below w.heap.size w w' := by
 unfold spec_boRow.f at h
 by_cases q0 : 0 ≤ (wrap64 (a1 * a0_1))
 case neg => rw [if_neg q0] at h; exact absurd h (by simp)
 rw [if_pos q0] at h
 by_cases q1 : (wrap64 (a1 * a0_1)) ≤ (wrap64 ((wrap64 (a1 + 1)) * a0_1))
 case neg => rw [if_neg q1] at h; exact absurd h (by simp)
 rw [if_pos q1] at h
 by_cases q2 : (wrap64 ((wrap64 (a1 + 1)) * a0_1)) ≤ (l0_2.length : Int)
 case neg => rw [if_neg q2] at h; exact absurd h (by simp)
 rw [if_pos q2] at h
 obtain rfl := (Option.some.inj h).symm
 refine (spec_boRow.part a0_0 a0_1 A0_2 c0_2 l0_2 a1 (wrap64 (a1 * a0_1)) w hc0_2 rfl q0 q1 q2).mono ?_
 rintro e w' ⟨rfl, hb⟩
 generalize (wrap64 (a1 * a0_1)) = lo at q0 q1 q2 ⊢
 generalize (wrap64 ((wrap64 (a1 + 1)) * a0_1)) = hi at q1 q2 ⊢
 have hm := Kd.C_mid (lo := (lo : Int).toNat) (hi := (hi : Int).toNat) (c := c0_2) hr (by omega) (by omega) hc0_2
 have hl : ((l0_2.take (hi : Int).toNat).drop (lo : Int).toNat).length = (hi : Int).toNat - (lo : Int).toNat := by rw [List.length_drop, List.length_take]; omega
 refine ⟨_, c0_2 - (lo : Int).toNat, ?_, ?_, hm, hb⟩
 ·rw [hl]; rfl
 ·rw [hl]; omega

/-! ### spec_BesideBoards: function 31 -/
mutual
def spec_BesideBoards.j0 : Nat → Bool → Int → Int → List (S34) → Int → Int → List (S34) → Option (Int × Int × (List (S34)) × Bool)
 | 0, _, _, _, _, _, _, _ => none
 | k + 1, x22, x495000, x495001, x495002, x496000, x496001, x496002 => if x22 = true then (some (0, 0, ([] : List (S34)), false)) else (spec_BesideBoards.l0 k 0 x495000 x495001 x495002 x496000 x496001 x496002 x495000 (wrap64 (x495001 + x496001)) ([] : List (S34)))
def spec_BesideBoards.l0 : Nat → Int → Int → Int → List (S34) → Int → Int → List (S34) → Int → Int → List (S34) → Option (Int × Int × (List (S34)) × Bool)
 | 0, _, _, _, _, _, _, _, _, _, _ => none
 | k + 1, x7, x495000, x495001, x495002, x496000, x496001, x496002, x500000, x500001, x500002 => if x7 < x495000 then ((spec_boRow.f x495000 x495001 x495002 x7).bind fun t500 => (if x500002.length + t500.length < 8796093022208 then ((some (x500002 ++ t500 : List (S34))).bind fun y503 => ((spec_boRow.f x496000 x496001 x496002 x7).bind fun t506 => (if y503.length + t506.length < 8796093022208 then (spec_BesideBoards.l0 k (wrap64 (x7 + 1)) x495000 x495001 x495002 x496000 x496001 x496002 x500000 x500001 (y503 ++ t506)) else (none)))) else (none))) else ((spec_boIf.f k x500000 x500001 x500002).bind fun bt512 => (some (bt512.1, bt512.2.1, bt512.2.2.1, bt512.2.2.2)))
end
def spec_BesideBoards.f (k : Nat) (a0_0 : Int) (a0_1 : Int) (l0_2 : List (S34)) (a1_0 : Int) (a1_1 : Int) (l1_2 : List (S34)) : Option (Int × Int × (List (S34)) × Bool) := (spec_boGood.f k a0_0 a0_1 l0_2).bind fun t497 => (if t497 = true then ((spec_boGood.f k a1_0 a1_1 l1_2).bind fun t498 => (if t498 = true then (spec_BesideBoards.j0 k (a0_0 != a1_0) a0_0 a0_1 l0_2 a1_0 a1_1 l1_2) else (spec_BesideBoards.j0 k true a0_0 a0_1 l0_2 a1_0 a1_1 l1_2))) else (spec_BesideBoards.j0 k true a0_0 a0_1 l0_2 a1_0 a1_1 l1_2))
def spec_BesideBoards.T7 : Bool × List (List Nat × List Nat) := (true, [([], []), ([0], [0]), ([], []), ([], []), ([2, 3], [2, 3]), ([1, 4, 4], [1, 4]), ([], []), ([], []), ([6, 7, 5], [6, 7]), ([5, 8, 8], [5, 8]), ([0, 1, 2, 3, 4, 5, 6, 7, 8, 9], []), ([10, 9, 9, 0, 1, 2, 3, 4, 5, 6, 7, 8, 9], [9, 10])])
def spec_BesideBoards.B7 : List Nat := [0, 1, 0, 0, 12, 31, 0, 0, 255, 511, 1023, 2047]
theorem spec_BesideBoards.tab7 : rtab .any (opsOf Try.f31 7) = spec_BesideBoards.T7 := by kernel_rfl
theorem spec_BesideBoards.bits7 : waitsOk spec_BesideBoards.T7.2 spec_BesideBoards.B7 = true := by kernel_rfl
set_option maxHeartbeats 8000000 in
set_option maxRecDepth 100000 in
theorem spec_BesideBoards.calls (k : Nat) (a0_0 : Int) (a0_1 : Int) (A0_2 : Option Addr) (c0_2 : Nat) (l0_2 : List (S34)) (a1_0 : Int) (a1_1 : Int) (A1_2 : Option Addr) (c1_2 : Nat) (l1_2 : List (S34)) (r1 : Int) (r2 : Int) (r3 : List (S34)) (r4 : Bool) (w : World) (hr0_2 : Kd.C k34 w A0_2 l0_2.length l0_2) (hc0_2 : l0_2.length ≤ c0_2) (hr1_2 : Kd.C k34 w A1_2 l1_2.length l1_2) (hc1_2 : l1_2.length ≤ c1_2) (h : spec_BesideBoards.f k a0_0 a0_1 l0_2 a1_0 a1_1 l1_2 = some (r1, r2, r3, r4)) :
 Calls Try.prog 31 #[.agg #[.int .i64 a0_0, .int .i64 a0_1, .slice A0_2 l0_2.length c0_2], .agg #[.int .i64 a1_0, .int .i64 a1_1, .slice A1_2 l1_2.length c1_2]] w fun e w' => ∃ v2_ : Value, e = .returned (.tuple #[.agg #[.int .i64 r1, .int .i64 r2, v2_], .bool r4]) ∧ Kd.R k34 34 w' w.heap.size (fun _ => True) v2_ r3 ∧ Below w.heap.size w w' := by
 have DN := Try.underlying29
 have Ax := Z.m hr0_2
 have Aw := Z.m hc0_2
 clear hr0_2 hc0_2
 have AC := Z.m hr1_2
 have AA := Z.m hc1_2
 clear hr1_2 hc1_2
 have HB := Z.m (Below.refl w.heap.size w)
 have H : ((spec_boGood.f k a0_0 a0_1 l0_2).bind fun AV => (if AV = true then ((spec_boGood.f k a1_0 a1_1 l1_2).bind fun Av => (if Av = true then (spec_BesideBoards.j0 k (a0_0 != a1_0) a0_0 a0_1 l0_2 a1_0 a1_1 l1_2) else (spec_BesideBoards.j0 k true a0_0 a0_1 l0_2 a1_0 a1_1 l1_2))) else (spec_BesideBoards.j0 k true a0_0 a0_1 l0_2 a1_0 a1_1 l1_2))) = some (r1, r2, r3, r4) := h
 clear h
 have CK := Z.m H
 clear H
 go_enter Try.func31, Try.ntmps31
 go_upto_region 1 with (first | ((with_reducible refine gq (N := 2) rfl ?_); refine be (N := 2) (cs := #[.int .i64 a0_0, .int .i64 a0_1, .slice A0_2 l0_2.length c0_2]) (t := 29) ?_; intro Ao hg w4 hbox hb; have A0 := Z.m (hbox); have Be := gW (w := w) HB hg; have Ba := Be; replace HB := bB HB hb; clear hb hbox hg) | ((with_reducible refine gq (N := 3) rfl ?_); refine be (N := 3) (cs := #[.int .i64 a1_0, .int .i64 a1_1, .slice A1_2 l1_2.length c1_2]) (t := 29) ?_; intro Ap hg w5 hbox hb; have A1 := Z.m (hbox); have Bf := gW (w := w) HB hg; have Bb := Bf; have Aa := neL A0 hg; have Ac := neG A0 hg; replace A0 := kB A0 hb; replace HB := bB HB hb; clear hb hbox hg) | ((with_reducible refine gq (N := 4) rfl ?_); refine be (N := 4) (cs := #[.int .i64 0, .int .i64 0, .slice none 0 0]) (t := 29) ?_; intro As hg w6 hbox hb; have A2 := Z.m (hbox); have Bg := gW (w := w) HB hg; have Bc := Bg; have A6 := neL A0 hg; have A8 := neG A0 hg; have Ad := neL A1 hg; have Af := neG A1 hg; replace A0 := kB A0 hb; replace A1 := kB A1 hb; replace HB := bB HB hb; clear hb hbox hg))
 (try simp only [Act.put, q1, q2, q3])
 go_cut [22] (fun v22 wc => ∃ (kq : Nat) (Ay : Bool), v22 = .bool Ay ∧ Z (spec_BesideBoards.j0 kq Ay a0_0 a0_1 l0_2 a1_0 a1_1 l1_2 = some (r1, r2, r3, r4)) ∧ Z (kq ≤ k) ∧ Z (wc.heap[Ao]? = some (.cells #[.int .i64 a0_0, .int .i64 a0_1, (.slice A0_2 l0_2.length c0_2)] 29 (0, 0))) ∧ Z (wc.heap[Ap]? = some (.cells #[.int .i64 a1_0, .int .i64 a1_1, (.slice A1_2 l1_2.length c1_2)] 29 (0, 0))) ∧ Z (wc.heap[As]? = some (.cells #[.int .i64 0, .int .i64 0, (.slice none 0 0)] 29 (0, 0))) ∧ Z (Below w.heap.size w wc))
 case first =>
  have H := CK.o
  clear CK
  replace H := Option.bind_eq_some_iff.mp H
  obtain ⟨AV, CQ, H⟩ := H
  replace H : (if AV = true then ((spec_boGood.f k a1_0 a1_1 l1_2).bind fun Av => (if Av = true then (spec_BesideBoards.j0 k (a0_0 != a1_0) a0_0 a0_1 l0_2 a1_0 a1_1 l1_2) else (spec_BesideBoards.j0 k true a0_0 a0_1 l0_2 a1_0 a1_1 l1_2))) else (spec_BesideBoards.j0 k true a0_0 a0_1 l0_2 a1_0 a1_1 l1_2)) = some (r1, r2, r3, r4) := H
  have A7 := Z.m CQ
  clear CQ
  by_cases c8 : AV = true
  ·subst c8
   have H1 : ((spec_boGood.f k a1_0 a1_1 l1_2).bind fun Av => (if Av = true then (spec_BesideBoards.j0 k (a0_0 != a1_0) a0_0 a0_1 l0_2 a1_0 a1_1 l1_2) else (spec_BesideBoards.j0 k true a0_0 a0_1 l0_2 a1_0 a1_1 l1_2))) = some (r1, r2, r3, r4) := by rw [if_pos rfl] at H; exact H
   clear H
   have H := H1
   clear H1
   replace H := Option.bind_eq_some_iff.mp H
   obtain ⟨Av, CR, H⟩ := H
   replace H : (if Av = true then (spec_BesideBoards.j0 k (a0_0 != a1_0) a0_0 a0_1 l0_2 a1_0 a1_1 l1_2) else (spec_BesideBoards.j0 k true a0_0 a0_1 l0_2 a1_0 a1_1 l1_2)) = some (r1, r2, r3, r4) := H
   have A9 := Z.m CR
   clear CR
   by_cases c10 : Av = true
   ·subst c10
    have H1 : (spec_BesideBoards.j0 k (a0_0 != a1_0) a0_0 a0_1 l0_2 a1_0 a1_1 l1_2) = some (r1, r2, r3, r4) := by rw [if_pos rfl] at H; exact H
    clear H
    have H := H1
    clear H1
    have H' := Z.m H
    clear H
    have CU := Aa.o
    have Dj := Ac.o
    have CV := A6.o
    have Dk := A8.o
    have Bq := bc0 A0
    have Br := bc1 A0
    have Bs := bc2 A0
    have C0 := qz A0.o 0
    have C1 := qz A0.o 1
    have C2 := qz A0.o 2
    go_wp2_with (first | ((with_reducible refine gc (f := 53) rfl ?_); refine gA (some 9) _ #[.agg #[.int .i64 a0_0, .int .i64 a0_1, .slice A0_2 l0_2.length c0_2]] ?_ Try.func53; (with_reducible refine (spec_boGood.calls k a0_0 a0_1 _ _ l0_2 true _ ?side1 ?side2 A7.o).mono ?_); (case side1 => repeat (first | exact (Kd.C_below Ax.o HB.o) | (with_reducible refine Kd.C_alloc ?_ _) | (with_reducible refine Kd.C_drewN ?_ _) | (with_reducible refine Kd.C_drew ?_))); (case side2 => exact Aw.o); rintro e DR ⟨rfl, hb⟩; refine ⟨_, rfl, ?_⟩; replace A0 := kB A0 hb; replace A1 := kB A1 hb; replace A2 := kB A2 hb; replace HB := bB HB hb; (try clear hb); (try clear Bp); (try clear hk); (try clear hi); have CW := Ad.o; have Dl := Af.o; have Bt := bc0 A1; have Bu := bc1 A1; have Bv := bc2 A1; have C3 := qz A1.o 0; have C4 := qz A1.o 1; have C5 := qz A1.o 2) | (go_at_call 53; (with_reducible refine (spec_boGood.calls k a1_0 a1_1 _ _ l1_2 true _ ?side1 ?side2 A9.o).mono ?_); (case side1 => repeat (first | exact (Kd.C_below AC.o HB.o) | (with_reducible refine Kd.C_alloc ?_ _) | (with_reducible refine Kd.C_drewN ?_ _) | (with_reducible refine Kd.C_drew ?_))); (case side2 => exact AA.o); rintro e DS ⟨rfl, hb⟩; replace A0 := kB A0 hb; replace A1 := kB A1 hb; replace A2 := kB A2 hb; replace HB := bB HB hb; (try clear hb); (try clear Bp); (try clear hk); (try clear hi); have Bw := bc0 A0; have Bx := bc1 A0; have By := bc2 A0; have C6 := qz A0.o 0; have C7 := qz A0.o 1; have C8 := qz A0.o 2; have Bz := bc0 A1; have BA := bc1 A1; have BB := bc2 A1; have C9 := qz A1.o 0; have Ca := qz A1.o 1; have Cb := qz A1.o 2))
    go_meet
    case rel => exact ⟨_, ((a0_0 != a1_0)), (by first | rfl | (simp; done) | (simp [*]; done)), H', ⟨by first | omega | exact Nat.le_refl _⟩, ⟨vK A0⟩, ⟨vK A1⟩, ⟨vK A2⟩, ⟨vB HB⟩⟩
   ·replace c10 := Bool.eq_false_iff.mpr c10
    subst c10
    have H1 : (spec_BesideBoards.j0 k true a0_0 a0_1 l0_2 a1_0 a1_1 l1_2) = some (r1, r2, r3, r4) := by rw [if_neg (show ¬ (false = true) by decide)] at H; exact H
    clear H
    have H := H1
    clear H1
    have H' := Z.m H
    clear H
    have CX := Aa.o
    have Dm := Ac.o
    have CY := A6.o
    have Dn := A8.o
    have BC := bc0 A0
    have BD := bc1 A0
    have BE := bc2 A0
    have Cd := qz A0.o 0
    have Ce := qz A0.o 1
    have Cf := qz A0.o 2
    go_wp2_with (first | ((with_reducible refine gc (f := 53) rfl ?_); refine gA (some 9) _ #[.agg #[.int .i64 a0_0, .int .i64 a0_1, .slice A0_2 l0_2.length c0_2]] ?_ Try.func53; (with_reducible refine (spec_boGood.calls k a0_0 a0_1 _ _ l0_2 true _ ?side1 ?side2 A7.o).mono ?_); (case side1 => repeat (first | exact (Kd.C_below Ax.o HB.o) | (with_reducible refine Kd.C_alloc ?_ _) | (with_reducible refine Kd.C_drewN ?_ _) | (with_reducible refine Kd.C_drew ?_))); (case side2 => exact Aw.o); rintro e DT ⟨rfl, hb⟩; refine ⟨_, rfl, ?_⟩; replace A0 := kB A0 hb; replace A1 := kB A1 hb; replace A2 := kB A2 hb; replace HB := bB HB hb; (try clear hb); (try clear Bp); (try clear hk); (try clear hi); have CZ := Ad.o; have Do := Af.o; have BF := bc0 A1; have BG := bc1 A1; have BH := bc2 A1; have Cg := qz A1.o 0; have Ch := qz A1.o 1; have Ci := qz A1.o 2) | (go_at_call 53; (with_reducible refine (spec_boGood.calls k a1_0 a1_1 _ _ l1_2 false _ ?side1 ?side2 A9.o).mono ?_); (case side1 => repeat (first | exact (Kd.C_below AC.o HB.o) | (with_reducible refine Kd.C_alloc ?_ _) | (with_reducible refine Kd.C_drewN ?_ _) | (with_reducible refine Kd.C_drew ?_))); (case side2 => exact AA.o); rintro e DU ⟨rfl, hb⟩; replace A0 := kB A0 hb; replace A1 := kB A1 hb; replace A2 := kB A2 hb; replace HB := bB HB hb; (try clear hb); (try clear Bp); (try clear hk); (try clear hi)))
    go_meet
    case rel => exact ⟨_, (true), (by first | rfl | (simp; done) | (simp [*]; done)), H', ⟨by first | omega | exact Nat.le_refl _⟩, ⟨vK A0⟩, ⟨vK A1⟩, ⟨vK A2⟩, ⟨vB HB⟩⟩
  ·replace c8 := Bool.eq_false_iff.mpr c8
   subst c8
   have H1 : (spec_BesideBoards.j0 k true a0_0 a0_1 l0_2 a1_0 a1_1 l1_2) = some (r1, r2, r3, r4) := by rw [if_neg (show ¬ (false = true) by decide)] at H; exact H
   clear H
   have H := H1
   clear H1
   have H' := Z.m H
   clear H
   have D0 := Aa.o
   have Dp := Ac.o
   have D1 := A6.o
   have Dq := A8.o
   have BI := bc0 A0
   have BJ := bc1 A0
   have BK := bc2 A0
   have Cj := qz A0.o 0
   have Cl := qz A0.o 1
   have Cm := qz A0.o 2
   go_wp2_with (first | ((with_reducible refine gc (f := 53) rfl ?_); refine gA (some 9) _ #[.agg #[.int .i64 a0_0, .int .i64 a0_1, .slice A0_2 l0_2.length c0_2]] ?_ Try.func53; (with_reducible refine (spec_boGood.calls k a0_0 a0_1 _ _ l0_2 false _ ?side1 ?side2 A7.o).mono ?_); (case side1 => repeat (first | exact (Kd.C_below Ax.o HB.o) | (with_reducible refine Kd.C_alloc ?_ _) | (with_reducible refine Kd.C_drewN ?_ _) | (with_reducible refine Kd.C_drew ?_))); (case side2 => exact Aw.o); rintro e DV ⟨rfl, hb⟩; refine ⟨_, rfl, ?_⟩; replace A0 := kB A0 hb; replace A1 := kB A1 hb; replace A2 := kB A2 hb; replace HB := bB HB hb; (try clear hb); (try clear Bp); (try clear hk); (try clear hi)))
   go_meet
   case rel => exact ⟨_, (true), (by first | rfl | (simp; done) | (simp [*]; done)), H', ⟨by first | omega | exact Nat.le_refl _⟩, ⟨vK A0⟩, ⟨vK A1⟩, ⟨vK A2⟩, ⟨vB HB⟩⟩
 case rest =>
  clear CK
  obtain ⟨kq, Ay, rfl, HA, CS, A0, A1, A2, HB⟩ := hcut
  cases kq with
  | zero => exact absurd HA.o (by simp [spec_BesideBoards.j0])
  | succ kj2 =>
   have H := HA.o
   clear HA
   simp only [spec_BesideBoards.j0] at H
   by_cases c31 : Ay = true
   ·subst c31
    have H1 : (some (0, 0, ([] : List (S34)), false)) = some (r1, r2, r3, r4) := by rw [if_pos rfl] at H; exact H
    clear H
    have H := H1
    clear H1
    simp only [Option.some.injEq, Prod.mk.injEq] at H
    obtain ⟨rfl, rfl, rfl, rfl⟩ := H
    have D2 := A8.o
    have Dr := A6.o
    have D3 := Af.o
    have Ds := Ad.o
    have BL := bc0 A2
    have BM := bc1 A2
    have BN := bc2 A2
    have Cn := qz A2.o 0
    have Co := qz A2.o 1
    have Cp := qz A2.o 2
    go_wp2
    refine bodyPost_ret (results_ct rfl _ _ As 29 #[.int .i64 0, .int .i64 0, .slice none 0 0] (0, 0) _ rfl (by refine bK ?_; apply st3; refine bK ?_; exact A2.o) Try.underlying29 rfl (by kernel_rfl)) rfl ?_
    exact ⟨_, by first | rfl | (simp [eN, eS] <;> rfl) | (simp [*, eN, eS] <;> rfl), by first | exact Kd.R_nil _ _ _ _ _ | exact Kd.N_nil _ _ _ _ _ | exact Kd.V_nil _ _ _ _ _ | exact Kd.Q_nil _ _ _ _ _ | exact Kd.S_nil _ _ _ _ _, vB HB⟩
   ·replace c31 := Bool.eq_false_iff.mpr c31
    subst c31
    have H1 : (spec_BesideBoards.l0 kj2 0 a0_0 a0_1 l0_2 a1_0 a1_1 l1_2 a0_0 (wrap64 (a0_1 + a1_1)) ([] : List (S34))) = some (r1, r2, r3, r4) := by rw [if_neg (show ¬ (false = true) by decide)] at H; exact H
    clear H
    have H := H1
    clear H1
    have H' := Z.m H
    clear H
    have D4 := Aa.o
    have Dt := Ac.o
    have D5 := A6.o
    have Du := A8.o
    have AD := bc0 A0
    have AE := bc1 A0
    have AF := bc2 A0
    have AM := qz A0.o 0
    have AN := qz A0.o 1
    have AO := qz A0.o 2
    have D6 := Ad.o
    have Dv := Af.o
    have AG := bc0 A1
    have AH := bc1 A1
    have AI := bc2 A1
    have AP := qz A1.o 0
    have AQ := qz A1.o 1
    have AR := qz A1.o 2
    go_wp2_with (first | ((with_reducible refine gq (N := 6) rfl ?_); refine be (N := 6) (cs := #[.int .i64 0, .int .i64 0, .slice none 0 0]) (t := 29) ?_; intro Aq hg DW hbox hb; have A3 := Z.m (hbox); have Bh := gW (w := w) HB hg; have Bd := Bh; have Ab := neL A0 hg; have Ah := neG A0 hg; have Ae := neL A1 hg; have Aj := neG A1 hg; have Ag := neL A2 hg; have Ak := neG A2 hg; replace A0 := kB A0 hb; replace A1 := kB A1 hb; replace A2 := kB A2 hb; replace HB := bB HB hb; clear hb hbox hg; have D7 := Ah.o; have Dw := Ab.o; have D8 := Aj.o; have Dx := Ae.o; have D9 := Ak.o; have Dy := Ag.o; have AJ := bc0 A3; have AK := bc1 A3; have AL := bc2 A3; have AS := qz A3.o 0; have AT := qz A3.o 1; have AU := qz A3.o 2))
    go_loopg [7] kj2 (fun kq v7 w' => ∃ (Ai : Int) (A5 : List (S34)) (u500002 : Value), v7 = .int .i64 Ai ∧ Z (spec_BesideBoards.l0 kq Ai a0_0 a0_1 l0_2 a1_0 a1_1 l1_2 a0_0 (wrap64 (a0_1 + a1_1)) A5 = some (r1, r2, r3, r4)) ∧ Z (kq ≤ kj2) ∧ Z (Kd.R k34 34 w' w.heap.size (fun _ => True) u500002 A5) ∧ Z (w'.heap[Ao]? = some (.cells #[.int .i64 a0_0, .int .i64 a0_1, (.slice A0_2 l0_2.length c0_2)] 29 (0, 0))) ∧ Z (w'.heap[Ap]? = some (.cells #[.int .i64 a1_0, .int .i64 a1_1, (.slice A1_2 l1_2.length c1_2)] 29 (0, 0))) ∧ Z (w'.heap[As]? = some (.cells #[.int .i64 0, .int .i64 0, (.slice none 0 0)] 29 (0, 0))) ∧ Z (w'.heap[Aq]? = some (.cells #[.int .i64 a0_0, .int .i64 (wrap64 (a0_1 + a1_1)), u500002] 29 (0, 0))) ∧ Z (Below w.heap.size w w'))
    case atStart => exact ⟨(0), (([] : List (S34))), (.slice none 0 0), (by first | rfl | (simp; done) | (simp [*]; done)), H', ⟨Nat.le_refl _⟩, ⟨by first | exact Kd.R_nil _ _ _ _ _ | exact Kd.N_nil _ _ _ _ _ | exact Kd.V_nil _ _ _ _ _ | exact Kd.Q_nil _ _ _ _ _ | exact Kd.S_nil _ _ _ _ _⟩, ⟨by refine bK ?_; (iterate 3 refine qF ?_ Ab); exact A0.o⟩, ⟨by refine bK ?_; (iterate 3 refine qF ?_ Ae); exact A1.o⟩, ⟨by refine bK ?_; (iterate 3 refine qF ?_ Ag); exact A2.o⟩, ⟨by refine bK ?_; apply st3; refine bK ?_; exact A3.o⟩, ⟨vB HB⟩⟩
    case round =>
     clear H'
     (try clear c31)
     (try clear AD); (try clear AE); (try clear AF); (try clear AG); (try clear AH); (try clear AI); (try clear AJ); (try clear AK)
     (try clear AL); (try clear AM); (try clear AN); (try clear AO); (try clear AP); (try clear AQ); (try clear AR); (try clear AS)
     (try clear AT); (try clear AU)
     obtain ⟨Ai, A5, u500002, rfl, HA, CT, A4, A0, A1, A2, A3, HB⟩ := hrel
     cases gk with
     | zero => exact absurd HA.o (by simp [spec_BesideBoards.l0])
     | succ k2 =>
      have H := HA.o
      clear HA
      simp only [spec_BesideBoards.l0] at H
      by_cases c45 : Ai < a0_0
      ·rw [if_pos c45] at H
       have Bm := decide_eq_true c45
       clear c45
       replace H := Option.bind_eq_some_iff.mp H
       obtain ⟨Az, B4, H⟩ := H
       replace H : (if A5.length + Az.length < 8796093022208 then ((some (A5 ++ Az : List (S34))).bind fun Ar => ((spec_boRow.f a1_0 a1_1 l1_2 Ai).bind fun Am => (if Ar.length + Am.length < 8796093022208 then (spec_BesideBoards.l0 k2 (wrap64 (Ai + 1)) a0_0 a0_1 l0_2 a1_0 a1_1 l1_2 a0_0 (wrap64 (a0_1 + a1_1)) (Ar ++ Am)) else (none)))) else (none)) = some (r1, r2, r3, r4) := H
       have DJ := Z.m B4
       clear B4
       by_cases c47 : A5.length + Az.length < 8796093022208
       ·rw [if_pos c47] at H
        have Bi := Z.m c47
        clear c47
        obtain ⟨Ar, At⟩ : ∃ y_ : List (S34), y_ = (A5 ++ Az) := ⟨_, rfl⟩
        replace H : ((spec_boRow.f a1_0 a1_1 l1_2 Ai).bind fun Am => (if Ar.length + Am.length < 8796093022208 then (spec_BesideBoards.l0 k2 (wrap64 (Ai + 1)) a0_0 a0_1 l0_2 a1_0 a1_1 l1_2 a0_0 (wrap64 (a0_1 + a1_1)) (Ar ++ Am)) else (none))) = some (r1, r2, r3, r4) := by first | (rw [At]; with_reducible exact H) | (have H2_ := (Option.bind_some _ _).symm.trans H; rw [At]; with_reducible exact H2_) | (have H2_ := (Option.bind_some _ _).symm.trans H; with_reducible exact H2_) | with_reducible exact H | (rw [At]; exact H) | exact H
        have Bk := Z.m At
        clear At
        replace H := Option.bind_eq_some_iff.mp H
        obtain ⟨Am, B5, H⟩ := H
        replace H : (if Ar.length + Am.length < 8796093022208 then (spec_BesideBoards.l0 k2 (wrap64 (Ai + 1)) a0_0 a0_1 l0_2 a1_0 a1_1 l1_2 a0_0 (wrap64 (a0_1 + a1_1)) (Ar ++ Am)) else (none)) = some (r1, r2, r3, r4) := H
        have DK := Z.m B5
        clear B5
        by_cases c49 : Ar.length + Am.length < 8796093022208
        ·rw [if_pos c49] at H
         have Bj := Z.m c49
         clear c49
         obtain ⟨B3, Au⟩ : ∃ y_ : List (S34), y_ = (Ar ++ Am) := ⟨_, rfl⟩
         replace H : (spec_BesideBoards.l0 k2 (wrap64 (Ai + 1)) a0_0 a0_1 l0_2 a1_0 a1_1 l1_2 a0_0 (wrap64 (a0_1 + a1_1)) B3) = some (r1, r2, r3, r4) := by first | (rw [Au]; with_reducible exact H) | (have H2_ := (Option.bind_some _ _).symm.trans H; rw [Au]; with_reducible exact H2_) | (have H2_ := (Option.bind_some _ _).symm.trans H; with_reducible exact H2_) | with_reducible exact H | (rw [Au]; exact H) | exact H
         have Bl := Z.m Au
         clear Au
         have H' := Z.m H
         clear H
         have Da := Aa.o
         have Dz := Ac.o
         have Db := A6.o
         have DA := A8.o
         have Dc := Ab.o
         have DB := Ah.o
         have BO := bc0 A0
         have BP := bc1 A0
         have BQ := bc2 A0
         have Cq := qz A0.o 0
         have Cr := qz A0.o 1
         have Cs := qz A0.o 2
         try go_wp2
         replace A4 := Z.m (Kd.R_drew A4.o)
         replace A0 := Z.m (blk_drew A0.o)
         replace A1 := Z.m (blk_drew A1.o)
         replace A2 := Z.m (blk_drew A2.o)
         replace A3 := Z.m (blk_drew A3.o)
         replace HB := Z.m (qd HB.o)
         refine start_ (n := 12) (S := fun w' => w'.cell? ⟨Aq, 0, none⟩ = some (.int .i64 a0_0) ∧ w'.cell? ⟨Aq, 1, none⟩ = some (.int .i64 (wrap64 (a0_1 + a1_1))) ∧ w'.cell? ⟨Aq, 2, none⟩ = some (u500002) ∧ w'.cell? ⟨Ao, 0, none⟩ = some (.int .i64 a0_0) ∧ w'.cell? ⟨Ao, 1, none⟩ = some (.int .i64 a0_1) ∧ w'.cell? ⟨Ao, 2, none⟩ = some (.slice A0_2 l0_2.length c0_2) ∧ w'.cell? ⟨Ap, 0, none⟩ = some (.int .i64 a1_0) ∧ w'.cell? ⟨Ap, 1, none⟩ = some (.int .i64 a1_1) ∧ w'.cell? ⟨Ap, 2, none⟩ = some (.slice A1_2 l1_2.length c1_2)) (ds := [11]) #[false, false, false, false, false, false, false, false, false, false, false, false] (by kernel_rfl) rfl rfl ⟨(ql A3.o 0).trans rfl, (ql A3.o 1).trans rfl, (ql A3.o 2).trans rfl, (ql A0.o 0).trans rfl, (ql A0.o 1).trans rfl, (ql A0.o 2).trans rfl, (ql A1.o 0).trans rfl, (ql A1.o 1).trans rfl, (ql A1.o 2).trans rfl⟩ (fun hHeld => ?_); refine with_tabW spec_BesideBoards.tab7 spec_BesideBoards.bits7 (fun HT_ HW_ => ?_)
         generalize wr.drew = DX at A4 A0 A1 A2 A3 HB hHeld ⊢
         refine pure_ (i := 0) (N := some 38) (v := ?_) (a' := ?_) #[true, false, false, false, false, false, false, false, false, false, false, false] rfl rfl (any_of HT_.o (by kernel_rfl)) (fun _ _ _ h => h) (Or.inl ⟨by rfl, ?_⟩) ?_ ?_
         rotate_left
         ·intro w'
          go_simp
          with_reducible rfl
         rotate_left
         ·simp only [Act.put, q1, q2, q3, i64_w, i32_w]
          rfl
         refine pure_ (i := 3) (N := some 41) (v := ?_) (a' := ?_) #[true, false, false, true, false, false, false, false, false, false, false, false] rfl rfl (any_of HT_.o (by kernel_rfl)) (fun _ _ _ h => h) (Or.inl ⟨by rfl, ?_⟩) ?_ ?_
         rotate_left
         ·intro w'
          go_simp
          with_reducible rfl
         rotate_left
         ·simp only [Act.put, q1, q2, q3, i64_w, i32_w]
          rfl
         refine pure_ (i := 7) (N := some 45) (v := ?_) (a' := ?_) #[true, false, false, true, false, false, false, true, false, false, false, false] rfl rfl (any_of HT_.o (by kernel_rfl)) (fun _ _ _ h => h) (Or.inl ⟨by rfl, ?_⟩) ?_ ?_
         rotate_left
         ·intro w'
          go_simp
          with_reducible rfl
         rotate_left
         ·simp only [Act.put, q1, q2, q3, i64_w, i32_w]
          rfl
         refine take_ (i := 1) (N := some 39) (v := ?_) (a' := ?_) #[true, true, false, true, false, false, false, true, false, false, false, false] rfl rfl (take_ofW HT_.o HW_.o (by kernel_rfl)) (fun _ _ _ h => h) (Or.inl ⟨by rfl, ?_⟩) hHeld ?_ ?_
         rotate_left
         ·rintro w' ⟨s0, s1, s2, s3, s4, s5, s6, s7, s8⟩
          go_simp
          with_reducible rfl
         rotate_left
         ·simp only [Act.put, q1, q2, q3, i64_w, i32_w]
          rfl
         refine take_ (i := 2) (N := some 40) (v := ?_) (a' := ?_) #[true, true, true, true, false, false, false, true, false, false, false, false] rfl rfl (take_ofW HT_.o HW_.o (by kernel_rfl)) (fun _ _ _ h => h) (Or.inl ⟨by rfl, ?_⟩) hHeld ?_ ?_
         rotate_left
         ·rintro w' ⟨s0, s1, s2, s3, s4, s5, s6, s7, s8⟩
          go_simp
          with_reducible rfl
         rotate_left
         ·simp only [Act.put, q1, q2, q3, i64_w, i32_w]
          rfl
         refine take_ (i := 6) (N := some 44) (v := ?_) (a' := ?_) #[true, true, true, true, false, false, true, true, false, false, false, false] rfl rfl (take_ofW HT_.o HW_.o (by kernel_rfl)) (fun _ _ _ h => h) (Or.inl ⟨by rfl, ?_⟩) hHeld ?_ ?_
         rotate_left
         ·rintro w' ⟨s0, s1, s2, s3, s4, s5, s6, s7, s8⟩
          go_simp
          with_reducible rfl
         rotate_left
         ·simp only [Act.put, q1, q2, q3, i64_w, i32_w]
          rfl
         refine one_ (i := 4) (N := some 42) #[true, true, true, true, true, false, true, true, false, false, false, false] rfl rfl (one_of HT_.o (by kernel_rfl)) (by decide) (fun K hK => ?_)
         refine goes_ Try.func67 (by kernel_rfl) rfl #[.agg #[.int .i64 a0_0, .int .i64 a0_1, .slice A0_2 l0_2.length c0_2], .int .i64 Ai] (by rfl) rfl rfl (by (try simp only [List.map_toArray, List.map_cons, List.map_nil]); first | done | rfl | (simp only [List.length_drop, List.length_take]; rfl)) ?_
         with_reducible refine (spec_boRow.rows a0_0 a0_1 _ _ l0_2 Ai Az w _ ?side1 ?side2 DJ.o).mono ?_
         (case side1 => exact Ax.o)
         (case side2 => exact Aw.o)
         rintro e DY ⟨Ap0, cp0, rfl, hcl_, hcr_, hb⟩
         clear hcl_
         refine ⟨_, rfl, ?_⟩
         have An := Z.m (hcr_)
         replace A4 := Z.m (Kd.Rb (vR A4) hb)
         replace A0 := kB A0 hb
         replace A1 := kB A1 hb
         replace A2 := kB A2 hb
         replace A3 := kB A3 hb
         replace HB := bB HB hb
         (try clear hb); (try clear hcr_)
         refine hK.out _ _ ⟨(ql A3.o 0).trans rfl, (ql A3.o 1).trans rfl, (ql A3.o 2).trans rfl, (ql A0.o 0).trans rfl, (ql A0.o 1).trans rfl, (ql A0.o 2).trans rfl, (ql A1.o 0).trans rfl, (ql A1.o 1).trans rfl, (ql A1.o 2).trans rfl⟩ (fun hHeld => ?_)
         clear hK K
         refine norm_ (a' := ?_) ?_ ?_
         rotate_left
         ·show Act.put _ (some 42) _ = _
          simp only [Act.put, q1, q2, q3, i64_w, i32_w]
          rfl
         refine one_ (i := 5) (N := some 43) #[true, true, true, true, true, true, true, true, false, false, false, false] rfl rfl (one_of HT_.o (by kernel_rfl)) (by decide) (fun K hK => ?_)
         refine Kd.R_append_rows_step k34 (w0 := w) w.heap.size (by rfl) (.tmp 39) (.tmp 42) 27 34 (.agg #[(.int .i64 0), (.int .i64 0)]) 16 rfl Try.underlying27 info34 rfl (by decide) (by omega) u500002 A5 Az _ _ _ (fun _ => True) (fun _ => False) rfl rfl ?aO ?aR (fun _ _ h => h) (fun _ h => h.elim) ?aF ?aB ?aS ?aL ?_
         (case aR => repeat (first | exact (Kd.C_below An.o HB.o) | (with_reducible refine Kd.C_alloc ?_ _) | (with_reducible refine Kd.C_drewN ?_ _) | (with_reducible refine Kd.C_drew ?_)))
         (case aB => exact (vB HB))
         (case aF => exact (fun _ _ => trivial))
         (case aO => exact (vR A4))
         (case aS => exact (below_size (vB HB)))
         (case aL => have := Bi.o; omega)
         intro CP DZ ho hb hg hat
         rw [← Bk.o] at ho
         have Al := Z.m (ho)
         replace A0 := Z.m (qg (g := Ao) (o := .cells #[.int .i64 a0_0, .int .i64 a0_1, .slice A0_2 l0_2.length c0_2] 29 (0, 0)) (vK A0) hg (Kd.R_ne A4.o A0.o (by decide)))
         replace A1 := Z.m (qg (g := Ap) (o := .cells #[.int .i64 a1_0, .int .i64 a1_1, .slice A1_2 l1_2.length c1_2] 29 (0, 0)) (vK A1) hg (Kd.R_ne A4.o A1.o (by decide)))
         replace A2 := Z.m (qg (g := As) (o := .cells #[.int .i64 0, .int .i64 0, .slice none 0 0] 29 (0, 0)) (vK A2) hg (Kd.R_ne A4.o A2.o (by decide)))
         replace A3 := Z.m (qg (g := Aq) (o := .cells #[.int .i64 a0_0, .int .i64 (wrap64 (a0_1 + a1_1)), u500002] 29 (0, 0)) (vK A3) hg (Kd.R_ne A4.o A3.o (by decide)))
         replace An := Z.m (An.o)
         replace HB := Z.m (hb)
         clear A4
         clear ho hb hg hat
         refine hK.out _ _ ⟨(ql A3.o 0).trans rfl, (ql A3.o 1).trans rfl, (ql A3.o 2).trans rfl, (ql A0.o 0).trans rfl, (ql A0.o 1).trans rfl, (ql A0.o 2).trans rfl, (ql A1.o 0).trans rfl, (ql A1.o 1).trans rfl, (ql A1.o 2).trans rfl⟩ (fun hHeld => ?_)
         clear hK K
         refine norm_ (a' := ?_) ?_ ?_
         rotate_left
         ·show Act.put _ (some 43) _ = _
          simp only [Act.put, q1, q2, q3, i64_w, i32_w]
          rfl
         refine one_ (i := 8) (N := some 46) #[true, true, true, true, true, true, true, true, true, false, false, false] rfl rfl (one_of HT_.o (by kernel_rfl)) (by decide) (fun K hK => ?_)
         refine goes_ Try.func67 (by kernel_rfl) rfl #[.agg #[.int .i64 a1_0, .int .i64 a1_1, .slice A1_2 l1_2.length c1_2], .int .i64 Ai] (by rfl) rfl rfl (by (try simp only [List.map_toArray, List.map_cons, List.map_nil]); first | done | rfl | (simp only [List.length_drop, List.length_take]; rfl)) ?_
         with_reducible refine (spec_boRow.rows a1_0 a1_1 _ _ l1_2 Ai Am w _ ?side1 ?side2 DK.o).mono ?_
         (case side1 => exact AC.o)
         (case side2 => exact AA.o)
         rintro e E0 ⟨Ap1, cp1, rfl, hcl_, hcr_, hb⟩
         clear hcl_
         refine ⟨_, rfl, ?_⟩
         have AB := Z.m (hcr_)
         replace An := Z.m (An.o)
         replace Al := Z.m (Kd.Rb (vR Al) hb)
         replace A0 := kB A0 hb
         replace A1 := kB A1 hb
         replace A2 := kB A2 hb
         replace A3 := kB A3 hb
         replace HB := bB HB hb
         (try clear hb); (try clear hcr_)
         refine hK.out _ _ ⟨(ql A3.o 0).trans rfl, (ql A3.o 1).trans rfl, (ql A3.o 2).trans rfl, (ql A0.o 0).trans rfl, (ql A0.o 1).trans rfl, (ql A0.o 2).trans rfl, (ql A1.o 0).trans rfl, (ql A1.o 1).trans rfl, (ql A1.o 2).trans rfl⟩ (fun hHeld => ?_)
         clear hK K
         refine norm_ (a' := ?_) ?_ ?_
         rotate_left
         ·show Act.put _ (some 46) _ = _
          simp only [Act.put, q1, q2, q3, i64_w, i32_w]
          rfl
         refine one_ (i := 9) (N := some 47) #[true, true, true, true, true, true, true, true, true, true, false, false] rfl rfl (one_of HT_.o (by kernel_rfl)) (by decide) (fun K hK => ?_)
         refine Kd.R_append_rows_step k34 (w0 := w) w.heap.size (by rfl) (.tmp 43) (.tmp 46) 27 34 (.agg #[(.int .i64 0), (.int .i64 0)]) 16 rfl Try.underlying27 info34 rfl (by decide) (by omega) CP Ar Am _ _ _ (fun _ => True) (fun _ => False) rfl rfl ?aO ?aR (fun _ _ h => h) (fun _ h => h.elim) ?aF ?aB ?aS ?aL ?_
         (case aR => repeat (first | exact (Kd.C_below AB.o HB.o) | (with_reducible refine Kd.C_alloc ?_ _) | (with_reducible refine Kd.C_drewN ?_ _) | (with_reducible refine Kd.C_drew ?_)))
         (case aB => exact (vB HB))
         (case aF => exact (fun _ _ => trivial))
         (case aO => exact (vR Al))
         (case aS => exact (below_size (vB HB)))
         (case aL => have := Bj.o; omega)
         intro DO DQ ho hb hg hat
         rw [← Bl.o] at ho
         have AW := Z.m (ho)
         replace A0 := Z.m (qg (g := Ao) (o := .cells #[.int .i64 a0_0, .int .i64 a0_1, .slice A0_2 l0_2.length c0_2] 29 (0, 0)) (vK A0) hg (Kd.R_ne Al.o A0.o (by decide)))
         replace A1 := Z.m (qg (g := Ap) (o := .cells #[.int .i64 a1_0, .int .i64 a1_1, .slice A1_2 l1_2.length c1_2] 29 (0, 0)) (vK A1) hg (Kd.R_ne Al.o A1.o (by decide)))
         replace A2 := Z.m (qg (g := As) (o := .cells #[.int .i64 0, .int .i64 0, .slice none 0 0] 29 (0, 0)) (vK A2) hg (Kd.R_ne Al.o A2.o (by decide)))
         replace A3 := Z.m (qg (g := Aq) (o := .cells #[.int .i64 a0_0, .int .i64 (wrap64 (a0_1 + a1_1)), u500002] 29 (0, 0)) (vK A3) hg (Kd.R_ne Al.o A3.o (by decide)))
         replace An := Z.m (An.o)
         replace AB := Z.m (AB.o)
         replace HB := Z.m (hb)
         clear Al
         clear ho hb hg hat
         obtain ⟨CI, CL, Bn⟩ := Kd.R_slice AW.o
         (first | subst Bn | (injection Bn with f1_ f2_ f3_; have f4_ := f1_.symm; have f5_ := f3_.symm; clear f1_ f2_ f3_; subst f4_; subst f5_))
         refine hK.out _ _ ⟨(ql A3.o 0).trans rfl, (ql A3.o 1).trans rfl, (ql A3.o 2).trans rfl, (ql A0.o 0).trans rfl, (ql A0.o 1).trans rfl, (ql A0.o 2).trans rfl, (ql A1.o 0).trans rfl, (ql A1.o 1).trans rfl, (ql A1.o 2).trans rfl⟩ (fun hHeld => ?_)
         clear hK K
         refine norm_ (a' := ?_) ?_ ?_
         rotate_left
         ·show Act.put _ (some 47) _ = _
          simp only [Act.put, q1, q2, q3, i64_w, i32_w]
          rfl
         refine pure_ (i := 10) (N := some 48) (v := ?_) (a' := ?_) #[true, true, true, true, true, true, true, true, true, true, true, false] rfl rfl (any_of HT_.o (by kernel_rfl)) (fun _ _ _ h => h) (Or.inl ⟨by rfl, ?_⟩) ?_ ?_
         rotate_left
         ·intro w'
          go_simp
          with_reducible rfl
         rotate_left
         ·simp only [Act.put, q1, q2, q3, i64_w, i32_w]
          rfl
         refine last_ (i := 11) (N := none) #[true, true, true, true, true, true, true, true, true, true, true, true] rfl rfl (one_of HT_.o (by kernel_rfl)) (by decide) (fun K hK => ?_)
         have DM : DQ.cell? ⟨Aq, 2, none⟩ = some (u500002) := (ql A3.o 2).trans rfl
         have hfs62 := qz A3.o 2
         have CF := Ab.o
         have CG := Ae.o
         have CH := Ag.o
         have CC := Ah.o
         have CD := Aj.o
         have CE := Ak.o
         refine skip_ (w1 := ?_) ?hwx ?hnx ?_ ?_; (case hwx => rfl); (case hnx => rfl)
         rotate_left
         ·go_simp
          rfl
         refine hK.out _ _ ?_
         clear hK K
         refine done_ (done_of HT_.o (by kernel_rfl)) ?_
         try go_wp2
         go_roundg k2
         case measure => have := CS.o; have := CT.o; omega
         case rel => exact ⟨(wrap64 (Ai + 1)), (B3), (.slice CI B3.length CL), (by first | rfl | (simp; done) | (simp [*]; done)), H', ⟨by have := CS.o; have := CT.o; omega⟩, ⟨by refine rK ?_; exact Kd.Rm (rf (Kd.Ry AW.o A3.o (by decide))) (fun _ hk => trivial)⟩, ⟨by refine bK ?_; refine qF ?_ Ab; exact A0.o⟩, ⟨by refine bK ?_; refine qF ?_ Ae; exact A1.o⟩, ⟨by refine bK ?_; refine qF ?_ Ag; exact A2.o⟩, ⟨by refine bK ?_; refine qp (cs := #[iV a0_0, iV (wrap64 (a0_1 + a1_1)), u500002]) ?_ 2 _ rfl; refine bK ?_; exact A3.o⟩, ⟨vB HB⟩⟩
        ·rw [if_neg c49] at H
         exact absurd H (by simp)
       ·rw [if_neg c47] at H
        exact absurd H (by simp)
      ·rw [if_neg c45] at H
       have Bm := decide_eq_false c45
       clear c45
       replace H := Option.bind_eq_some_iff.mp H
       obtain ⟨⟨B0, B1, B2, Bo⟩, B9, H⟩ := H
       replace H : (some (B0, B1, B2, Bo)) = some (r1, r2, r3, r4) := H
       have DL := Z.m B9
       clear B9
       simp only [Option.some.injEq, Prod.mk.injEq] at H
       obtain ⟨rfl, rfl, rfl, rfl⟩ := H
       have Dd := Aa.o
       have DC := Ac.o
       have De := A6.o
       have DD := A8.o
       have Df := Ab.o
       have DE := Ah.o
       have BR := bc0 A0
       have BS := bc1 A0
       have BT := bc2 A0
       have Ct := qz A0.o 0
       have Cu := qz A0.o 1
       have Cv := qz A0.o 2
       have Dg := Aj.o
       have DF := Ae.o
       have Dh := Ak.o
       have DG := Ag.o
       have BU := bc0 A3
       have BV := bc1 A3
       have BW := bc2 A3
       have Cw := qz A3.o 0
       have Cx := qz A3.o 1
       have Cy := qz A3.o 2
       obtain ⟨AY, AZ, CN⟩ := Kd.R_slice A4.o
       subst CN
       go_wp2_with (first | ((with_reducible refine gc (f := 63) rfl ?_); refine gA (some 50) _ #[.agg #[.int .i64 a0_0, .int .i64 (wrap64 (a0_1 + a1_1)), .slice AY A5.length AZ]] ?_ Try.func63; (with_reducible refine (spec_boIf.calls k2 a0_0 (wrap64 (a0_1 + a1_1)) (fun k_ => some k_ = (.slice AY A5.length AZ : Value).ownBlock) (.slice AY A5.length AZ) A5 B0 B1 B2 Bo w _ ?side1 ?side2 DL.o).mono ?_); (case side1 => repeat (first | (with_reducible first | exact HB.o | apply qa | apply qn | apply qd | refine qx ?_ Ba.o | refine qx ?_ Bb.o | refine qx ?_ Bc.o | refine qx ?_ Bd.o) | exact HB.o)); (case side2 => exact Kd.Rg rfl A4.o); rintro e E1 ⟨DP, rfl, DI, hb, hkp⟩; refine ⟨_, rfl, ?_⟩; have AX := Z.m (Kd.Rm (ok' := fun k_ => True) DI (fun k_ hk_ => trivial)); replace A0 := Z.m (qk (vK A0) hkp (fun hs_ => (fun e_ => (Kd.R_ne A4.o A0.o (by decide)) e_) hs_)); replace A1 := Z.m (qk (vK A1) hkp (fun hs_ => (fun e_ => (Kd.R_ne A4.o A1.o (by decide)) e_) hs_)); replace A2 := Z.m (qk (vK A2) hkp (fun hs_ => (fun e_ => (Kd.R_ne A4.o A2.o (by decide)) e_) hs_)); replace A3 := Z.m (qk (vK A3) hkp (fun hs_ => (fun e_ => (Kd.R_ne A4.o A3.o (by decide)) e_) hs_)); replace HB := Z.m (hb); clear A4; (try clear hb); (try clear hkp); (try clear DI); (try clear hcr_); have Di := Af.o; have DH := Ad.o; have BX := bc0 A2; have BY := bc1 A2; have BZ := bc2 A2; have Cz := qz A2.o 0; have CA := qz A2.o 1; have CB := qz A2.o 2; obtain ⟨CJ, CM, CO⟩ := Kd.R_slice AX.o; subst CO))
       refine bodyPost_ret (results_ct rfl _ _ As 29 #[.int .i64 B0, .int .i64 B1, .slice CJ B2.length CM] (0, 0) _ rfl (by refine bK ?_; apply st3; refine bK ?_; exact A2.o) Try.underlying29 rfl (by kernel_rfl)) rfl ?_
       exact ⟨_, by first | rfl | (simp [eN, eS] <;> rfl) | (simp [*, eN, eS] <;> rfl), by refine rK ?_; exact Kd.Rm (rf (rf (rf (Kd.Ry AX.o A2.o (by decide))))) (fun _ hk => trivial), vB HB⟩

end Go.Proofs.Yteodcegmkbcjjaa.PAll
