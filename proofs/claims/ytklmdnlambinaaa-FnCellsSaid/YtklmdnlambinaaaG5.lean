/- Began as a text that print.sh wrote (of the functions named below); turned and shortened by this session. -/
import Derived.Test.YtklmdnlambinaaaG0
import Derived.Test.YtklmdnlambinaaaG4
namespace Go.Proofs.Ytklmdnlambinaaa.PAll
open Go.RowKit Go.Proofs.YtklmdnlambinaaaW.PrintWords Go.Proofs.YtklmdnlambinaaaW.PrintLast Go.Proofs.YtklmdnlambinaaaW.PrintMore
attribute [local go_sem] max2_int min2_int max_two min_two max_three min_three max_four min_four   -- for this text's walks alone
set_option linter.unusedVariables false
set_option linter.unusedSimpArgs false

/-! ### spec_CellLetter: function 8 -/
def spec_CellLetter.f (a0_0 : Int) (a0_1 : Int) : Option (ByteArray × Bool) := (spec_paGood.f a0_0 a0_1).bind fun t171 => (if t171 = true then ((spec_paLetter.f a0_0 a0_1).bind fun t172 => (some (t172, true))) else (some ((⟨#[]⟩ : ByteArray), false)))
set_option maxHeartbeats 8000000 in
set_option maxRecDepth 100000 in
theorem spec_CellLetter.calls (a0_0 : Int) (a0_1 : Int) (r1 : ByteArray) (r2 : Bool) (w : World) (h : spec_CellLetter.f a0_0 a0_1 = some (r1, r2)) :
 Calls Try.prog 8 #[.agg #[.int .i64 a0_0, .int .i64 a0_1]] w fun e w' => e = .returned (.tuple #[.string r1, .bool r2]) ∧ Below w.heap.size w w' := by
 have An := Try.underlying25
 have HB := Z.m (Below.refl w.heap.size w)
 have H : ((spec_paGood.f a0_0 a0_1).bind fun A5 => (if A5 = true then ((spec_paLetter.f a0_0 a0_1).bind fun A1 => (some (A1, true))) else (some ((⟨#[]⟩ : ByteArray), false)))) = some (r1, r2) := h
 clear h
 replace H := Option.bind_eq_some_iff.mp H
 obtain ⟨A5, Ak, H⟩ := H
 replace H : (if A5 = true then ((spec_paLetter.f a0_0 a0_1).bind fun A1 => (some (A1, true))) else (some ((⟨#[]⟩ : ByteArray), false))) = some (r1, r2) := H
 have A2 := Z.m Ak
 clear Ak
 by_cases c3 : A5 = true
 ·subst c3
  have H1 : ((spec_paLetter.f a0_0 a0_1).bind fun A1 => (some (A1, true))) = some (r1, r2) := by rw [if_pos rfl] at H; exact H
  clear H
  have H := H1
  clear H1
  replace H := Option.bind_eq_some_iff.mp H
  obtain ⟨A1, Al, H⟩ := H
  replace H : (some (A1, true)) = some (r1, r2) := H
  have A4 := Z.m Al
  clear Al
  simp only [Option.some.injEq, Prod.mk.injEq] at H
  obtain ⟨rfl, rfl⟩ := H
  go_enter Try.func8, Try.ntmps8
  go_wp2_with (first | ((with_reducible refine gq (N := 1) rfl ?_); refine be (N := 1) (cs := #[.int .i64 a0_0, .int .i64 a0_1]) (t := 25) ?_; intro A7 hg w5 hbox hb; have A0 := Z.m (hbox); have A3 := gW (w := w) HB hg; have A6 := A3; replace HB := bB HB hb; clear hb hbox hg; have Ac := bc0 A0; have Ad := bc1 A0; have Ag := qz A0.o 0; have Ah := qz A0.o 1) | ((with_reducible refine gc (f := 38) rfl ?_); refine gA (some 5) _ #[.agg #[.int .i64 a0_0, .int .i64 a0_1]] ?_ Try.func38; (with_reducible refine (spec_paGood.calls a0_0 a0_1 true _ A2.o).mono ?_); rintro e w7 ⟨rfl, hb⟩; refine ⟨_, rfl, ?_⟩; replace A0 := kB A0 hb; replace HB := bB HB hb; (try clear hb); (try clear Am); (try clear hk); (try clear hi); have Ae := bc0 A0; have Af := bc1 A0; have Ai := qz A0.o 0; have Aj := qz A0.o 1) | ((with_reducible refine gc (f := 39) rfl ?_); refine gA (some 8) _ #[.agg #[.int .i64 a0_0, .int .i64 a0_1]] ?_ Try.func39; (with_reducible refine (spec_paLetter.calls a0_0 a0_1 A1 _ A4.o).mono ?_); rintro e w9 ⟨rfl, hb⟩; refine ⟨_, rfl, ?_⟩; replace A0 := kB A0 hb; replace HB := bB HB hb; (try clear hb); (try clear Am); (try clear hk); (try clear hi)))
  go_ret2
  exact ⟨by first | rfl | (simp [eN, eS] <;> rfl) | (simp [*, eN, eS] <;> rfl), vB HB⟩
 ·replace c3 := Bool.eq_false_iff.mpr c3
  subst c3
  have H1 : (some ((⟨#[]⟩ : ByteArray), false)) = some (r1, r2) := by rw [if_neg (show ¬ (false = true) by decide)] at H; exact H
  clear H
  have H := H1
  clear H1
  simp only [Option.some.injEq, Prod.mk.injEq] at H
  obtain ⟨rfl, rfl⟩ := H
  go_enter Try.func8, Try.ntmps8
  go_wp2_with (first | ((with_reducible refine gq (N := 1) rfl ?_); refine be (N := 1) (cs := #[.int .i64 a0_0, .int .i64 a0_1]) (t := 25) ?_; intro A7 hg Ao hbox hb; have A0 := Z.m (hbox); have A3 := gW (w := w) HB hg; have A6 := A3; replace HB := bB HB hb; clear hb hbox hg; have A8 := bc0 A0; have A9 := bc1 A0; have Aa := qz A0.o 0; have Ab := qz A0.o 1) | ((with_reducible refine gc (f := 38) rfl ?_); refine gA (some 5) _ #[.agg #[.int .i64 a0_0, .int .i64 a0_1]] ?_ Try.func38; (with_reducible refine (spec_paGood.calls a0_0 a0_1 false _ A2.o).mono ?_); rintro e Ap ⟨rfl, hb⟩; refine ⟨_, rfl, ?_⟩; replace A0 := kB A0 hb; replace HB := bB HB hb; (try clear hb); (try clear Am); (try clear hk); (try clear hi)))
  go_ret2
  exact ⟨by first | rfl | (simp [eN, eS] <;> rfl) | (simp [*, eN, eS] <;> rfl), vB HB⟩

/-! ### impl_MirrorCell: function 9 -/
def impl_MirrorCell.f (a0_0 : Int) (a0_1 : Int) : Option (Int × Int × Bool) := (impl_IsCell.f a0_0 a0_1).bind fun t175 => (if t175 = true then (if a0_0 = 1 then (some (2, a0_1, true)) else (if a0_0 = 2 then (some (1, a0_1, true)) else (if a0_0 = 3 then (some (a0_0, wrap64 (1 - a0_1), true)) else (if a0_0 = 6 then (some (a0_0, wrap64 (1 - a0_1), true)) else (some (a0_0, a0_1, true)))))) else (some (0, 0, false)))
set_option maxHeartbeats 8000000 in
set_option maxRecDepth 100000 in
theorem impl_MirrorCell.calls (a0_0 : Int) (a0_1 : Int) (r1 : Int) (r2 : Int) (r3 : Bool) (w : World) (h : impl_MirrorCell.f a0_0 a0_1 = some (r1, r2, r3)) :
 Calls Try.prog 9 #[.agg #[.int .i64 a0_0, .int .i64 a0_1]] w fun e w' => e = .returned (.tuple #[.agg #[.int .i64 r1, .int .i64 r2], .bool r3]) ∧ Below w.heap.size w w' := by
 have BE := Try.underlying25
 have HB := Z.m (Below.refl w.heap.size w)
 have H : ((impl_IsCell.f a0_0 a0_1).bind fun Ab => (if Ab = true then (if a0_0 = 1 then (some (2, a0_1, true)) else (if a0_0 = 2 then (some (1, a0_1, true)) else (if a0_0 = 3 then (some (a0_0, wrap64 (1 - a0_1), true)) else (if a0_0 = 6 then (some (a0_0, wrap64 (1 - a0_1), true)) else (some (a0_0, a0_1, true)))))) else (some (0, 0, false)))) = some (r1, r2, r3) := h
 clear h
 replace H := Option.bind_eq_some_iff.mp H
 obtain ⟨Ab, Br, H⟩ := H
 replace H : (if Ab = true then (if a0_0 = 1 then (some (2, a0_1, true)) else (if a0_0 = 2 then (some (1, a0_1, true)) else (if a0_0 = 3 then (some (a0_0, wrap64 (1 - a0_1), true)) else (if a0_0 = 6 then (some (a0_0, wrap64 (1 - a0_1), true)) else (some (a0_0, a0_1, true)))))) else (some (0, 0, false))) = some (r1, r2, r3) := H
 have A2 := Z.m Br
 clear Br
 by_cases c3 : Ab = true
 ·subst c3
  have H1 : (if a0_0 = 1 then (some (2, a0_1, true)) else (if a0_0 = 2 then (some (1, a0_1, true)) else (if a0_0 = 3 then (some (a0_0, wrap64 (1 - a0_1), true)) else (if a0_0 = 6 then (some (a0_0, wrap64 (1 - a0_1), true)) else (some (a0_0, a0_1, true)))))) = some (r1, r2, r3) := by rw [if_pos rfl] at H; exact H
  clear H
  have H := H1
  clear H1
  by_cases c4 : a0_0 = 1
  ·rw [if_pos c4] at H
   have Bl := beq_iff_eq.mpr c4
   have Bm := bne_eq_false_iff_eq.mpr c4
   clear c4
   simp only [Option.some.injEq, Prod.mk.injEq] at H
   obtain ⟨rfl, rfl, rfl⟩ := H
   go_enter Try.func9, Try.ntmps9
   go_wp2_with (first | ((with_reducible refine gq (N := 1) rfl ?_); refine be (N := 1) (cs := #[.int .i64 a0_0, .int .i64 a0_1]) (t := 25) ?_; intro Aa hg w5 hbox hb; have A0 := Z.m (hbox); have A5 := gW (w := w) HB hg; have A8 := A5; replace HB := bB HB hb; clear hb hbox hg) | ((with_reducible refine gq (N := 2) rfl ?_); refine be (N := 2) (cs := #[.int .i64 0, .int .i64 0]) (t := 25) ?_; intro A7 hg w6 hbox hb; have A1 := Z.m (hbox); have A6 := gW (w := w) HB hg; have A9 := A6; have A4 := neL A0 hg; have A3 := neG A0 hg; replace A0 := kB A0 hb; replace HB := bB HB hb; clear hb hbox hg; have BC := A4.o; have BD := A3.o; have Bn := bc0 A0; have Bo := bc1 A0; have Bp := qz A0.o 0; have Bq := qz A0.o 1) | ((with_reducible refine gc (f := 13) rfl ?_); refine gA (some 5) _ #[.agg #[.int .i64 a0_0, .int .i64 a0_1]] ?_ Try.func13; (with_reducible refine (impl_IsCell.calls a0_0 a0_1 true _ A2.o).mono ?_); rintro e w9 ⟨rfl, hb⟩; refine ⟨_, rfl, ?_⟩; replace A0 := kB A0 hb; replace A1 := kB A1 hb; replace HB := bB HB hb; (try clear hb); (try clear Ai); (try clear hk); (try clear hi); have Aj := bc0 A0; have Ak := bc1 A0; have AP := qz A0.o 0; have AQ := qz A0.o 1; have Al := bc0 A1; have Am := bc1 A1; have AR := qz A1.o 0; have AS := qz A1.o 1))
   refine bodyPost_ret (results_ct rfl _ _ A7 25 #[.int .i64 2, .int .i64 a0_1] (0, 0) _ rfl (by refine bK ?_; refine qp (cs := #[iV 2, iV 0]) ?_ 1 _ rfl; refine bK ?_; refine qp (cs := #[iV 0, iV 0]) ?_ 0 _ rfl; refine bK ?_; refine qF ?_ A3; exact A1.o) Try.underlying25 rfl (by kernel_rfl)) rfl ?_
   exact ⟨by first | rfl | (simp [eN, eS] <;> rfl) | (simp [*, eN, eS] <;> rfl), vB HB⟩
  ·rw [if_neg c4] at H
   have Bl := beq_eq_false_iff_ne.mpr c4
   have Bm := bne_iff_ne.mpr c4
   by_cases c12 : a0_0 = 2
   ·rw [if_pos c12] at H
    have Ac := beq_iff_eq.mpr c12
    have Ad := bne_eq_false_iff_eq.mpr c12
    clear c12
    simp only [Option.some.injEq, Prod.mk.injEq] at H
    obtain ⟨rfl, rfl, rfl⟩ := H
    go_enter Try.func9, Try.ntmps9
    go_wp2_with (first | ((with_reducible refine gq (N := 1) rfl ?_); refine be (N := 1) (cs := #[.int .i64 a0_0, .int .i64 a0_1]) (t := 25) ?_; intro Aa hg BF hbox hb; have A0 := Z.m (hbox); have A5 := gW (w := w) HB hg; have A8 := A5; replace HB := bB HB hb; clear hb hbox hg) | ((with_reducible refine gq (N := 2) rfl ?_); refine be (N := 2) (cs := #[.int .i64 0, .int .i64 0]) (t := 25) ?_; intro A7 hg BG hbox hb; have A1 := Z.m (hbox); have A6 := gW (w := w) HB hg; have A9 := A6; have A4 := neL A0 hg; have A3 := neG A0 hg; replace A0 := kB A0 hb; replace HB := bB HB hb; clear hb hbox hg; have Bs := A4.o; have Bx := A3.o; have An := bc0 A0; have Ao := bc1 A0; have AT := qz A0.o 0; have AU := qz A0.o 1) | ((with_reducible refine gc (f := 13) rfl ?_); refine gA (some 5) _ #[.agg #[.int .i64 a0_0, .int .i64 a0_1]] ?_ Try.func13; (with_reducible refine (impl_IsCell.calls a0_0 a0_1 true _ A2.o).mono ?_); rintro e BH ⟨rfl, hb⟩; refine ⟨_, rfl, ?_⟩; replace A0 := kB A0 hb; replace A1 := kB A1 hb; replace HB := bB HB hb; (try clear hb); (try clear Ai); (try clear hk); (try clear hi); have Ap := bc0 A0; have Aq := bc1 A0; have AV := qz A0.o 0; have AW := qz A0.o 1; have Ar := bc0 A1; have As := bc1 A1; have AX := qz A1.o 0; have AY := qz A1.o 1))
    refine bodyPost_ret (results_ct rfl _ _ A7 25 #[.int .i64 1, .int .i64 a0_1] (0, 0) _ rfl (by refine bK ?_; refine qp (cs := #[iV 1, iV 0]) ?_ 1 _ rfl; refine bK ?_; refine qp (cs := #[iV 0, iV 0]) ?_ 0 _ rfl; refine bK ?_; refine qF ?_ A3; exact A1.o) Try.underlying25 rfl (by kernel_rfl)) rfl ?_
    exact ⟨by first | rfl | (simp [eN, eS] <;> rfl) | (simp [*, eN, eS] <;> rfl), vB HB⟩
   ·rw [if_neg c12] at H
    have Ac := beq_eq_false_iff_ne.mpr c12
    have Ad := bne_iff_ne.mpr c12
    by_cases c20 : a0_0 = 3
    ·rw [if_pos c20] at H
     have Ae := beq_iff_eq.mpr c20
     have Af := bne_eq_false_iff_eq.mpr c20
     clear c20
     simp only [Option.some.injEq, Prod.mk.injEq] at H
     obtain ⟨rfl, rfl, rfl⟩ := H
     go_enter Try.func9, Try.ntmps9
     go_wp2_with (first | ((with_reducible refine gq (N := 1) rfl ?_); refine be (N := 1) (cs := #[.int .i64 a0_0, .int .i64 a0_1]) (t := 25) ?_; intro Aa hg BI hbox hb; have A0 := Z.m (hbox); have A5 := gW (w := w) HB hg; have A8 := A5; replace HB := bB HB hb; clear hb hbox hg) | ((with_reducible refine gq (N := 2) rfl ?_); refine be (N := 2) (cs := #[.int .i64 0, .int .i64 0]) (t := 25) ?_; intro A7 hg BJ hbox hb; have A1 := Z.m (hbox); have A6 := gW (w := w) HB hg; have A9 := A6; have A4 := neL A0 hg; have A3 := neG A0 hg; replace A0 := kB A0 hb; replace HB := bB HB hb; clear hb hbox hg; have Bt := A4.o; have By := A3.o; have At := bc0 A0; have Au := bc1 A0; have AZ := qz A0.o 0; have B0 := qz A0.o 1) | ((with_reducible refine gc (f := 13) rfl ?_); refine gA (some 5) _ #[.agg #[.int .i64 a0_0, .int .i64 a0_1]] ?_ Try.func13; (with_reducible refine (impl_IsCell.calls a0_0 a0_1 true _ A2.o).mono ?_); rintro e BK ⟨rfl, hb⟩; refine ⟨_, rfl, ?_⟩; replace A0 := kB A0 hb; replace A1 := kB A1 hb; replace HB := bB HB hb; (try clear hb); (try clear Ai); (try clear hk); (try clear hi); have Av := bc0 A0; have Aw := bc1 A0; have B1 := qz A0.o 0; have B2 := qz A0.o 1; have Ax := bc0 A1; have Ay := bc1 A1; have B3 := qz A1.o 0; have B4 := qz A1.o 1))
     refine bodyPost_ret (results_ct rfl _ _ A7 25 #[.int .i64 a0_0, .int .i64 (wrap64 (1 - a0_1))] (0, 0) _ rfl (by refine bK ?_; refine qp (cs := #[iV a0_0, iV 0]) ?_ 1 _ rfl; refine bK ?_; refine qp (cs := #[iV 0, iV 0]) ?_ 0 _ rfl; refine bK ?_; refine qF ?_ A3; exact A1.o) Try.underlying25 rfl (by kernel_rfl)) rfl ?_
     exact ⟨by first | rfl | (simp [eN, eS] <;> rfl) | (simp [*, eN, eS] <;> rfl), vB HB⟩
    ·rw [if_neg c20] at H
     have Ae := beq_eq_false_iff_ne.mpr c20
     have Af := bne_iff_ne.mpr c20
     by_cases c28 : a0_0 = 6
     ·rw [if_pos c28] at H
      have Ag := beq_iff_eq.mpr c28
      have Ah := bne_eq_false_iff_eq.mpr c28
      clear c28
      simp only [Option.some.injEq, Prod.mk.injEq] at H
      obtain ⟨rfl, rfl, rfl⟩ := H
      go_enter Try.func9, Try.ntmps9
      go_wp2_with (first | ((with_reducible refine gq (N := 1) rfl ?_); refine be (N := 1) (cs := #[.int .i64 a0_0, .int .i64 a0_1]) (t := 25) ?_; intro Aa hg BL hbox hb; have A0 := Z.m (hbox); have A5 := gW (w := w) HB hg; have A8 := A5; replace HB := bB HB hb; clear hb hbox hg) | ((with_reducible refine gq (N := 2) rfl ?_); refine be (N := 2) (cs := #[.int .i64 0, .int .i64 0]) (t := 25) ?_; intro A7 hg BM hbox hb; have A1 := Z.m (hbox); have A6 := gW (w := w) HB hg; have A9 := A6; have A4 := neL A0 hg; have A3 := neG A0 hg; replace A0 := kB A0 hb; replace HB := bB HB hb; clear hb hbox hg; have Bu := A4.o; have Bz := A3.o; have Az := bc0 A0; have AA := bc1 A0; have B5 := qz A0.o 0; have B6 := qz A0.o 1) | ((with_reducible refine gc (f := 13) rfl ?_); refine gA (some 5) _ #[.agg #[.int .i64 a0_0, .int .i64 a0_1]] ?_ Try.func13; (with_reducible refine (impl_IsCell.calls a0_0 a0_1 true _ A2.o).mono ?_); rintro e BN ⟨rfl, hb⟩; refine ⟨_, rfl, ?_⟩; replace A0 := kB A0 hb; replace A1 := kB A1 hb; replace HB := bB HB hb; (try clear hb); (try clear Ai); (try clear hk); (try clear hi); have AB := bc0 A0; have AC := bc1 A0; have B7 := qz A0.o 0; have B8 := qz A0.o 1; have AD := bc0 A1; have AE := bc1 A1; have B9 := qz A1.o 0; have Ba := qz A1.o 1))
      refine bodyPost_ret (results_ct rfl _ _ A7 25 #[.int .i64 a0_0, .int .i64 (wrap64 (1 - a0_1))] (0, 0) _ rfl (by refine bK ?_; refine qp (cs := #[iV a0_0, iV 0]) ?_ 1 _ rfl; refine bK ?_; refine qp (cs := #[iV 0, iV 0]) ?_ 0 _ rfl; refine bK ?_; refine qF ?_ A3; exact A1.o) Try.underlying25 rfl (by kernel_rfl)) rfl ?_
      exact ⟨by first | rfl | (simp [eN, eS] <;> rfl) | (simp [*, eN, eS] <;> rfl), vB HB⟩
     ·rw [if_neg c28] at H
      have Ag := beq_eq_false_iff_ne.mpr c28
      have Ah := bne_iff_ne.mpr c28
      simp only [Option.some.injEq, Prod.mk.injEq] at H
      obtain ⟨rfl, rfl, rfl⟩ := H
      go_enter Try.func9, Try.ntmps9
      go_wp2_with (first | ((with_reducible refine gq (N := 1) rfl ?_); refine be (N := 1) (cs := #[.int .i64 a0_0, .int .i64 a0_1]) (t := 25) ?_; intro Aa hg BO hbox hb; have A0 := Z.m (hbox); have A5 := gW (w := w) HB hg; have A8 := A5; replace HB := bB HB hb; clear hb hbox hg) | ((with_reducible refine gq (N := 2) rfl ?_); refine be (N := 2) (cs := #[.int .i64 0, .int .i64 0]) (t := 25) ?_; intro A7 hg BP hbox hb; have A1 := Z.m (hbox); have A6 := gW (w := w) HB hg; have A9 := A6; have A4 := neL A0 hg; have A3 := neG A0 hg; replace A0 := kB A0 hb; replace HB := bB HB hb; clear hb hbox hg; have Bv := A4.o; have BA := A3.o; have AF := bc0 A0; have AG := bc1 A0; have Bb := qz A0.o 0; have Bc := qz A0.o 1) | ((with_reducible refine gc (f := 13) rfl ?_); refine gA (some 5) _ #[.agg #[.int .i64 a0_0, .int .i64 a0_1]] ?_ Try.func13; (with_reducible refine (impl_IsCell.calls a0_0 a0_1 true _ A2.o).mono ?_); rintro e BQ ⟨rfl, hb⟩; refine ⟨_, rfl, ?_⟩; replace A0 := kB A0 hb; replace A1 := kB A1 hb; replace HB := bB HB hb; (try clear hb); (try clear Ai); (try clear hk); (try clear hi); have AH := bc0 A0; have AI := bc1 A0; have Bd := qz A0.o 0; have Be := qz A0.o 1; have AJ := bc0 A1; have AK := bc1 A1; have Bf := qz A1.o 0; have Bg := qz A1.o 1))
      refine bodyPost_ret (results_ct rfl _ _ A7 25 #[.int .i64 a0_0, .int .i64 a0_1] (0, 0) _ rfl (by refine bK ?_; refine qp (cs := #[iV a0_0, iV 0]) ?_ 1 _ rfl; refine bK ?_; refine qp (cs := #[iV 0, iV 0]) ?_ 0 _ rfl; refine bK ?_; exact A1.o) Try.underlying25 rfl (by kernel_rfl)) rfl ?_
      exact ⟨by first | rfl | (simp [eN, eS] <;> rfl) | (simp [*, eN, eS] <;> rfl), vB HB⟩
 ·replace c3 := Bool.eq_false_iff.mpr c3
  subst c3
  have H1 : (some (0, 0, false)) = some (r1, r2, r3) := by rw [if_neg (show ¬ (false = true) by decide)] at H; exact H
  clear H
  have H := H1
  clear H1
  simp only [Option.some.injEq, Prod.mk.injEq] at H
  obtain ⟨rfl, rfl, rfl⟩ := H
  go_enter Try.func9, Try.ntmps9
  go_wp2_with (first | ((with_reducible refine gq (N := 1) rfl ?_); refine be (N := 1) (cs := #[.int .i64 a0_0, .int .i64 a0_1]) (t := 25) ?_; intro Aa hg BR hbox hb; have A0 := Z.m (hbox); have A5 := gW (w := w) HB hg; have A8 := A5; replace HB := bB HB hb; clear hb hbox hg) | ((with_reducible refine gq (N := 2) rfl ?_); refine be (N := 2) (cs := #[.int .i64 0, .int .i64 0]) (t := 25) ?_; intro A7 hg BS hbox hb; have A1 := Z.m (hbox); have A6 := gW (w := w) HB hg; have A9 := A6; have A4 := neL A0 hg; have A3 := neG A0 hg; replace A0 := kB A0 hb; replace HB := bB HB hb; clear hb hbox hg; have Bw := A4.o; have BB := A3.o; have AL := bc0 A0; have AM := bc1 A0; have Bh := qz A0.o 0; have Bi := qz A0.o 1) | ((with_reducible refine gc (f := 13) rfl ?_); refine gA (some 5) _ #[.agg #[.int .i64 a0_0, .int .i64 a0_1]] ?_ Try.func13; (with_reducible refine (impl_IsCell.calls a0_0 a0_1 false _ A2.o).mono ?_); rintro e BT ⟨rfl, hb⟩; refine ⟨_, rfl, ?_⟩; replace A0 := kB A0 hb; replace A1 := kB A1 hb; replace HB := bB HB hb; (try clear hb); (try clear Ai); (try clear hk); (try clear hi); have AN := bc0 A1; have AO := bc1 A1; have Bj := qz A1.o 0; have Bk := qz A1.o 1))
  refine bodyPost_ret (results_ct rfl _ _ A7 25 #[.int .i64 0, .int .i64 0] (0, 0) _ rfl (by refine bK ?_; refine qp (cs := #[iV 0, iV 0]) ?_ 1 _ rfl; refine bK ?_; refine qp (cs := #[iV 0, iV 0]) ?_ 0 _ rfl; refine bK ?_; exact A1.o) Try.underlying25 rfl (by kernel_rfl)) rfl ?_
  exact ⟨by first | rfl | (simp [eN, eS] <;> rfl) | (simp [*, eN, eS] <;> rfl), vB HB⟩

/-! ### spec_paTurn: function 42 -/
def spec_paTurn.f (a0_0 : Int) (a0_1 : Int) : Option (Int × Int) := some (a0_0, wrap64 (1 - a0_1))
set_option maxHeartbeats 8000000 in
set_option maxRecDepth 100000 in
theorem spec_paTurn.calls (a0_0 : Int) (a0_1 : Int) (r1 : Int) (r2 : Int) (w : World) (h : spec_paTurn.f a0_0 a0_1 = some (r1, r2)) :
 Calls Try.prog 42 #[.agg #[.int .i64 a0_0, .int .i64 a0_1]] w fun e w' => e = .returned (.agg #[.int .i64 r1, .int .i64 r2]) ∧ Below w.heap.size w w' := by
 have Ak := Try.underlying25
 have HB := Z.m (Below.refl w.heap.size w)
 have H : (some (a0_0, wrap64 (1 - a0_1))) = some (r1, r2) := h
 clear h
 simp only [Option.some.injEq, Prod.mk.injEq] at H
 obtain ⟨rfl, rfl⟩ := H
 go_enter Try.func42, Try.ntmps42
 go_wp2_with (first | ((with_reducible refine gq (N := 1) rfl ?_); refine be (N := 1) (cs := #[.int .i64 a0_0, .int .i64 a0_1]) (t := 25) ?_; intro Ah hg w2 hbox hb; have A0 := Z.m (hbox); have A4 := gW (w := w) HB hg; have Af := A4; replace HB := bB HB hb; clear hb hbox hg) | ((with_reducible refine gq (N := 2) rfl ?_); refine be (N := 2) (cs := #[.int .i64 0, .int .i64 0]) (t := 25) ?_; intro A6 hg w3 hbox hb; have A1 := Z.m (hbox); have A5 := gW (w := w) HB hg; have Ag := A5; have A2 := neL A0 hg; have A3 := neG A0 hg; replace A0 := kB A0 hb; replace HB := bB HB hb; clear hb hbox hg; have Ai := A2.o; have Aj := A3.o; have A7 := bc0 A0; have A8 := bc1 A0; have Ab := qz A0.o 0; have Ac := qz A0.o 1; have A9 := bc0 A1; have Aa := bc1 A1; have Ad := qz A1.o 0; have Ae := qz A1.o 1))
 refine bodyPost_ret (results_cell_row rfl _ _ A6 25 #[.int .i64 a0_0, .int .i64 (wrap64 (1 - a0_1))] (0, 0) _ rfl (by refine bK ?_; refine qp (cs := #[iV a0_0, iV 0]) ?_ 1 _ rfl; refine bK ?_; refine qp (cs := #[iV 0, iV 0]) ?_ 0 _ rfl; refine bK ?_; exact A1.o) Try.underlying25 rfl (by kernel_rfl)) rfl ?_
 exact ⟨by first | rfl | (simp [eN, eS] <;> rfl) | (simp [*, eN, eS] <;> rfl), vB HB⟩

/-! ### spec_paMirror: function 40 -/
def spec_paMirror.f (a0_0 : Int) (a0_1 : Int) : Option (Int × Int) := if a0_0 = 1 then (some (2, 0)) else (if a0_0 = 2 then (some (1, 0)) else (if a0_0 = 3 then ((spec_paTurn.f a0_0 a0_1).bind fun bt180 => (some (bt180.1, bt180.2))) else (if a0_0 = 6 then ((spec_paTurn.f a0_0 a0_1).bind fun bt182 => (some (bt182.1, bt182.2))) else (some (a0_0, a0_1)))))
set_option maxHeartbeats 8000000 in
set_option maxRecDepth 100000 in
theorem spec_paMirror.calls (a0_0 : Int) (a0_1 : Int) (r1 : Int) (r2 : Int) (w : World) (h : spec_paMirror.f a0_0 a0_1 = some (r1, r2)) :
 Calls Try.prog 40 #[.agg #[.int .i64 a0_0, .int .i64 a0_1]] w fun e w' => e = .returned (.agg #[.int .i64 r1, .int .i64 r2]) ∧ Below w.heap.size w w' := by
 have Bf := Try.underlying25
 have HB := Z.m (Below.refl w.heap.size w)
 have H : (if a0_0 = 1 then (some (2, 0)) else (if a0_0 = 2 then (some (1, 0)) else (if a0_0 = 3 then ((spec_paTurn.f a0_0 a0_1).bind fun bt180 => (some (bt180.1, bt180.2))) else (if a0_0 = 6 then ((spec_paTurn.f a0_0 a0_1).bind fun bt182 => (some (bt182.1, bt182.2))) else (some (a0_0, a0_1)))))) = some (r1, r2) := h
 clear h
 by_cases c2 : a0_0 = 1
 ·rw [if_pos c2] at H
  have AQ := beq_iff_eq.mpr c2
  have AR := bne_eq_false_iff_eq.mpr c2
  clear c2
  simp only [Option.some.injEq, Prod.mk.injEq] at H
  obtain ⟨rfl, rfl⟩ := H
  go_enter Try.func40, Try.ntmps40
  go_wp2_with (first | ((with_reducible refine gq (N := 1) rfl ?_); refine be (N := 1) (cs := #[.int .i64 a0_0, .int .i64 a0_1]) (t := 25) ?_; intro A9 hg w3 hbox hb; have A0 := Z.m (hbox); have A4 := gW (w := w) HB hg; have A7 := A4; replace HB := bB HB hb; clear hb hbox hg) | ((with_reducible refine gq (N := 2) rfl ?_); refine be (N := 2) (cs := #[.int .i64 0, .int .i64 0]) (t := 25) ?_; intro A6 hg w4 hbox hb; have A1 := Z.m (hbox); have A5 := gW (w := w) HB hg; have A8 := A5; have A2 := neL A0 hg; have A3 := neG A0 hg; replace A0 := kB A0 hb; replace HB := bB HB hb; clear hb hbox hg; have Bd := A2.o; have Be := A3.o; have AU := bc0 A0; have AV := bc1 A0; have AY := qz A0.o 0; have AZ := qz A0.o 1; have AW := bc0 A1; have AX := bc1 A1; have B0 := qz A1.o 0; have B1 := qz A1.o 1))
  refine bodyPost_ret (results_cell_row rfl _ _ A6 25 #[.int .i64 2, .int .i64 0] (0, 0) _ rfl (by refine bK ?_; refine qp (cs := #[iV 2, iV 0]) ?_ 1 _ rfl; refine bK ?_; refine qp (cs := #[iV 0, iV 0]) ?_ 0 _ rfl; refine bK ?_; exact A1.o) Try.underlying25 rfl (by kernel_rfl)) rfl ?_
  exact ⟨by first | rfl | (simp [eN, eS] <;> rfl) | (simp [*, eN, eS] <;> rfl), vB HB⟩
 ·rw [if_neg c2] at H
  have AQ := beq_eq_false_iff_ne.mpr c2
  have AR := bne_iff_ne.mpr c2
  by_cases c8 : a0_0 = 2
  ·rw [if_pos c8] at H
   have AS := beq_iff_eq.mpr c8
   have AT := bne_eq_false_iff_eq.mpr c8
   clear c8
   simp only [Option.some.injEq, Prod.mk.injEq] at H
   obtain ⟨rfl, rfl⟩ := H
   go_enter Try.func40, Try.ntmps40
   go_wp2_with (first | ((with_reducible refine gq (N := 1) rfl ?_); refine be (N := 1) (cs := #[.int .i64 a0_0, .int .i64 a0_1]) (t := 25) ?_; intro A9 hg w9 hbox hb; have A0 := Z.m (hbox); have A4 := gW (w := w) HB hg; have A7 := A4; replace HB := bB HB hb; clear hb hbox hg) | ((with_reducible refine gq (N := 2) rfl ?_); refine be (N := 2) (cs := #[.int .i64 0, .int .i64 0]) (t := 25) ?_; intro A6 hg Bg hbox hb; have A1 := Z.m (hbox); have A5 := gW (w := w) HB hg; have A8 := A5; have A2 := neL A0 hg; have A3 := neG A0 hg; replace A0 := kB A0 hb; replace HB := bB HB hb; clear hb hbox hg; have B2 := A2.o; have B6 := A3.o; have Ak := bc0 A0; have Al := bc1 A0; have AA := qz A0.o 0; have AB := qz A0.o 1; have Am := bc0 A1; have An := bc1 A1; have AC := qz A1.o 0; have AD := qz A1.o 1))
   refine bodyPost_ret (results_cell_row rfl _ _ A6 25 #[.int .i64 1, .int .i64 0] (0, 0) _ rfl (by refine bK ?_; refine qp (cs := #[iV 1, iV 0]) ?_ 1 _ rfl; refine bK ?_; refine qp (cs := #[iV 0, iV 0]) ?_ 0 _ rfl; refine bK ?_; exact A1.o) Try.underlying25 rfl (by kernel_rfl)) rfl ?_
   exact ⟨by first | rfl | (simp [eN, eS] <;> rfl) | (simp [*, eN, eS] <;> rfl), vB HB⟩
  ·rw [if_neg c8] at H
   have AS := beq_eq_false_iff_ne.mpr c8
   have AT := bne_iff_ne.mpr c8
   by_cases c14 : a0_0 = 3
   ·rw [if_pos c14] at H
    have Ag := beq_iff_eq.mpr c14
    have Ah := bne_eq_false_iff_eq.mpr c14
    clear c14
    replace H := Option.bind_eq_some_iff.mp H
    obtain ⟨⟨Aa, Ac⟩, Ae, H⟩ := H
    replace H : (some (Aa, Ac)) = some (r1, r2) := H
    have Ba := Z.m Ae
    clear Ae
    simp only [Option.some.injEq, Prod.mk.injEq] at H
    obtain ⟨rfl, rfl⟩ := H
    go_enter Try.func40, Try.ntmps40
    go_wp2_with (first | ((with_reducible refine gq (N := 1) rfl ?_); refine be (N := 1) (cs := #[.int .i64 a0_0, .int .i64 a0_1]) (t := 25) ?_; intro A9 hg Bh hbox hb; have A0 := Z.m (hbox); have A4 := gW (w := w) HB hg; have A7 := A4; replace HB := bB HB hb; clear hb hbox hg) | ((with_reducible refine gq (N := 2) rfl ?_); refine be (N := 2) (cs := #[.int .i64 0, .int .i64 0]) (t := 25) ?_; intro A6 hg Bi hbox hb; have A1 := Z.m (hbox); have A5 := gW (w := w) HB hg; have A8 := A5; have A2 := neL A0 hg; have A3 := neG A0 hg; replace A0 := kB A0 hb; replace HB := bB HB hb; clear hb hbox hg; have B3 := A2.o; have B7 := A3.o; have Ao := bc0 A0; have Ap := bc1 A0; have AE := qz A0.o 0; have AF := qz A0.o 1) | ((with_reducible refine gc (f := 42) rfl ?_); refine gA (some 15) _ #[.agg #[.int .i64 a0_0, .int .i64 a0_1]] ?_ Try.func42; (with_reducible refine (spec_paTurn.calls a0_0 a0_1 Aa Ac _ Ba.o).mono ?_); rintro e Bj ⟨rfl, hb⟩; refine ⟨_, rfl, ?_⟩; replace A0 := kB A0 hb; replace A1 := kB A1 hb; replace HB := bB HB hb; (try clear hb); (try clear Bc); (try clear hk); (try clear hi); have Aq := bc0 A1; have Ar := bc1 A1; have AG := qz A1.o 0; have AH := qz A1.o 1))
    refine bodyPost_ret (results_cell_row rfl _ _ A6 25 #[.int .i64 Aa, .int .i64 Ac] (0, 0) _ rfl (by refine bK ?_; refine qp (cs := #[iV Aa, iV 0]) ?_ 1 _ rfl; refine bK ?_; refine qp (cs := #[iV 0, iV 0]) ?_ 0 _ rfl; refine bK ?_; exact A1.o) Try.underlying25 rfl (by kernel_rfl)) rfl ?_
    exact ⟨by first | rfl | (simp [eN, eS] <;> rfl) | (simp [*, eN, eS] <;> rfl), vB HB⟩
   ·rw [if_neg c14] at H
    have Ag := beq_eq_false_iff_ne.mpr c14
    have Ah := bne_iff_ne.mpr c14
    by_cases c22 : a0_0 = 6
    ·rw [if_pos c22] at H
     have Ai := beq_iff_eq.mpr c22
     have Aj := bne_eq_false_iff_eq.mpr c22
     clear c22
     replace H := Option.bind_eq_some_iff.mp H
     obtain ⟨⟨Ab, Ad⟩, Af, H⟩ := H
     replace H : (some (Ab, Ad)) = some (r1, r2) := H
     have Bb := Z.m Af
     clear Af
     simp only [Option.some.injEq, Prod.mk.injEq] at H
     obtain ⟨rfl, rfl⟩ := H
     go_enter Try.func40, Try.ntmps40
     go_wp2_with (first | ((with_reducible refine gq (N := 1) rfl ?_); refine be (N := 1) (cs := #[.int .i64 a0_0, .int .i64 a0_1]) (t := 25) ?_; intro A9 hg Bk hbox hb; have A0 := Z.m (hbox); have A4 := gW (w := w) HB hg; have A7 := A4; replace HB := bB HB hb; clear hb hbox hg) | ((with_reducible refine gq (N := 2) rfl ?_); refine be (N := 2) (cs := #[.int .i64 0, .int .i64 0]) (t := 25) ?_; intro A6 hg Bl hbox hb; have A1 := Z.m (hbox); have A5 := gW (w := w) HB hg; have A8 := A5; have A2 := neL A0 hg; have A3 := neG A0 hg; replace A0 := kB A0 hb; replace HB := bB HB hb; clear hb hbox hg; have B4 := A2.o; have B8 := A3.o; have As := bc0 A0; have At := bc1 A0; have AI := qz A0.o 0; have AJ := qz A0.o 1) | ((with_reducible refine gc (f := 42) rfl ?_); refine gA (some 15) _ #[.agg #[.int .i64 a0_0, .int .i64 a0_1]] ?_ Try.func42; (with_reducible refine (spec_paTurn.calls a0_0 a0_1 Ab Ad _ Bb.o).mono ?_); rintro e Bm ⟨rfl, hb⟩; refine ⟨_, rfl, ?_⟩; replace A0 := kB A0 hb; replace A1 := kB A1 hb; replace HB := bB HB hb; (try clear hb); (try clear Bc); (try clear hk); (try clear hi); have Au := bc0 A1; have Av := bc1 A1; have AK := qz A1.o 0; have AL := qz A1.o 1))
     refine bodyPost_ret (results_cell_row rfl _ _ A6 25 #[.int .i64 Ab, .int .i64 Ad] (0, 0) _ rfl (by refine bK ?_; refine qp (cs := #[iV Ab, iV 0]) ?_ 1 _ rfl; refine bK ?_; refine qp (cs := #[iV 0, iV 0]) ?_ 0 _ rfl; refine bK ?_; exact A1.o) Try.underlying25 rfl (by kernel_rfl)) rfl ?_
     exact ⟨by first | rfl | (simp [eN, eS] <;> rfl) | (simp [*, eN, eS] <;> rfl), vB HB⟩
    ·rw [if_neg c22] at H
     have Ai := beq_eq_false_iff_ne.mpr c22
     have Aj := bne_iff_ne.mpr c22
     simp only [Option.some.injEq, Prod.mk.injEq] at H
     obtain ⟨rfl, rfl⟩ := H
     go_enter Try.func40, Try.ntmps40
     go_wp2_with (first | ((with_reducible refine gq (N := 1) rfl ?_); refine be (N := 1) (cs := #[.int .i64 a0_0, .int .i64 a0_1]) (t := 25) ?_; intro A9 hg Bn hbox hb; have A0 := Z.m (hbox); have A4 := gW (w := w) HB hg; have A7 := A4; replace HB := bB HB hb; clear hb hbox hg) | ((with_reducible refine gq (N := 2) rfl ?_); refine be (N := 2) (cs := #[.int .i64 0, .int .i64 0]) (t := 25) ?_; intro A6 hg Bo hbox hb; have A1 := Z.m (hbox); have A5 := gW (w := w) HB hg; have A8 := A5; have A2 := neL A0 hg; have A3 := neG A0 hg; replace A0 := kB A0 hb; replace HB := bB HB hb; clear hb hbox hg; have B5 := A2.o; have B9 := A3.o; have Aw := bc0 A0; have Ax := bc1 A0; have AM := qz A0.o 0; have AN := qz A0.o 1; have Ay := bc0 A1; have Az := bc1 A1; have AO := qz A1.o 0; have AP := qz A1.o 1))
     refine bodyPost_ret (results_cell_row rfl _ _ A6 25 #[.int .i64 a0_0, .int .i64 a0_1] (0, 0) _ rfl (by refine bK ?_; refine qp (cs := #[iV a0_0, iV 0]) ?_ 1 _ rfl; refine bK ?_; refine qp (cs := #[iV 0, iV 0]) ?_ 0 _ rfl; refine bK ?_; exact A1.o) Try.underlying25 rfl (by kernel_rfl)) rfl ?_
     exact ⟨by first | rfl | (simp [eN, eS] <;> rfl) | (simp [*, eN, eS] <;> rfl), vB HB⟩

/-! ### spec_MirrorCell: function 10 -/
def spec_MirrorCell.f (a0_0 : Int) (a0_1 : Int) : Option (Int × Int × Bool) := (spec_paGood.f a0_0 a0_1).bind fun t186 => (if t186 = true then ((spec_paMirror.f a0_0 a0_1).bind fun bt187 => (some (bt187.1, bt187.2, true))) else (some (0, 0, false)))
set_option maxHeartbeats 8000000 in
set_option maxRecDepth 100000 in
theorem spec_MirrorCell.calls (a0_0 : Int) (a0_1 : Int) (r1 : Int) (r2 : Int) (r3 : Bool) (w : World) (h : spec_MirrorCell.f a0_0 a0_1 = some (r1, r2, r3)) :
 Calls Try.prog 10 #[.agg #[.int .i64 a0_0, .int .i64 a0_1]] w fun e w' => e = .returned (.tuple #[.agg #[.int .i64 r1, .int .i64 r2], .bool r3]) ∧ Below w.heap.size w w' := by
 have AG := Try.underlying25
 have HB := Z.m (Below.refl w.heap.size w)
 have H : ((spec_paGood.f a0_0 a0_1).bind fun A9 => (if A9 = true then ((spec_paMirror.f a0_0 a0_1).bind fun bt187 => (some (bt187.1, bt187.2, true))) else (some (0, 0, false)))) = some (r1, r2, r3) := h
 clear h
 replace H := Option.bind_eq_some_iff.mp H
 obtain ⟨A9, Az, H⟩ := H
 replace H : (if A9 = true then ((spec_paMirror.f a0_0 a0_1).bind fun bt187 => (some (bt187.1, bt187.2, true))) else (some (0, 0, false))) = some (r1, r2, r3) := H
 have A2 := Z.m Az
 clear Az
 by_cases c3 : A9 = true
 ·subst c3
  have H1 : ((spec_paMirror.f a0_0 a0_1).bind fun bt187 => (some (bt187.1, bt187.2, true))) = some (r1, r2, r3) := by rw [if_pos rfl] at H; exact H
  clear H
  have H := H1
  clear H1
  replace H := Option.bind_eq_some_iff.mp H
  obtain ⟨⟨Aa, Ab⟩, AA, H⟩ := H
  replace H : (some (Aa, Ab, true)) = some (r1, r2, r3) := H
  have A4 := Z.m AA
  clear AA
  simp only [Option.some.injEq, Prod.mk.injEq] at H
  obtain ⟨rfl, rfl, rfl⟩ := H
  go_enter Try.func10, Try.ntmps10
  go_wp2_with (first | ((with_reducible refine gq (N := 1) rfl ?_); refine be (N := 1) (cs := #[.int .i64 a0_0, .int .i64 a0_1]) (t := 25) ?_; intro Ae hg w5 hbox hb; have A0 := Z.m (hbox); have A6 := gW (w := w) HB hg; have Ac := A6; replace HB := bB HB hb; clear hb hbox hg) | ((with_reducible refine gq (N := 2) rfl ?_); refine be (N := 2) (cs := #[.int .i64 0, .int .i64 0]) (t := 25) ?_; intro A8 hg w6 hbox hb; have A1 := Z.m (hbox); have A7 := gW (w := w) HB hg; have Ad := A7; have A3 := neL A0 hg; have A5 := neG A0 hg; replace A0 := kB A0 hb; replace HB := bB HB hb; clear hb hbox hg; have AE := A3.o; have AF := A5.o; have Av := bc0 A0; have Aw := bc1 A0; have Ax := qz A0.o 0; have Ay := qz A0.o 1) | ((with_reducible refine gc (f := 38) rfl ?_); refine gA (some 5) _ #[.agg #[.int .i64 a0_0, .int .i64 a0_1]] ?_ Try.func38; (with_reducible refine (spec_paGood.calls a0_0 a0_1 true _ A2.o).mono ?_); rintro e w9 ⟨rfl, hb⟩; refine ⟨_, rfl, ?_⟩; replace A0 := kB A0 hb; replace A1 := kB A1 hb; replace HB := bB HB hb; (try clear hb); (try clear AB); (try clear hk); (try clear hi); have Af := bc0 A0; have Ag := bc1 A0; have An := qz A0.o 0; have Ao := qz A0.o 1) | ((with_reducible refine gc (f := 40) rfl ?_); refine gA (some 9) _ #[.agg #[.int .i64 a0_0, .int .i64 a0_1]] ?_ Try.func40; (with_reducible refine (spec_paMirror.calls a0_0 a0_1 Aa Ab _ A4.o).mono ?_); rintro e AH ⟨rfl, hb⟩; refine ⟨_, rfl, ?_⟩; replace A0 := kB A0 hb; replace A1 := kB A1 hb; replace HB := bB HB hb; (try clear hb); (try clear AB); (try clear hk); (try clear hi); have Ah := bc0 A1; have Ai := bc1 A1; have Ap := qz A1.o 0; have Aq := qz A1.o 1))
  refine bodyPost_ret (results_ct rfl _ _ A8 25 #[.int .i64 Aa, .int .i64 Ab] (0, 0) _ rfl (by refine bK ?_; refine qp (cs := #[iV Aa, iV 0]) ?_ 1 _ rfl; refine bK ?_; refine qp (cs := #[iV 0, iV 0]) ?_ 0 _ rfl; refine bK ?_; exact A1.o) Try.underlying25 rfl (by kernel_rfl)) rfl ?_
  exact ⟨by first | rfl | (simp [eN, eS] <;> rfl) | (simp [*, eN, eS] <;> rfl), vB HB⟩
 ·replace c3 := Bool.eq_false_iff.mpr c3
  subst c3
  have H1 : (some (0, 0, false)) = some (r1, r2, r3) := by rw [if_neg (show ¬ (false = true) by decide)] at H; exact H
  clear H
  have H := H1
  clear H1
  simp only [Option.some.injEq, Prod.mk.injEq] at H
  obtain ⟨rfl, rfl, rfl⟩ := H
  go_enter Try.func10, Try.ntmps10
  go_wp2_with (first | ((with_reducible refine gq (N := 1) rfl ?_); refine be (N := 1) (cs := #[.int .i64 a0_0, .int .i64 a0_1]) (t := 25) ?_; intro Ae hg AI hbox hb; have A0 := Z.m (hbox); have A6 := gW (w := w) HB hg; have Ac := A6; replace HB := bB HB hb; clear hb hbox hg) | ((with_reducible refine gq (N := 2) rfl ?_); refine be (N := 2) (cs := #[.int .i64 0, .int .i64 0]) (t := 25) ?_; intro A8 hg AJ hbox hb; have A1 := Z.m (hbox); have A7 := gW (w := w) HB hg; have Ad := A7; have A3 := neL A0 hg; have A5 := neG A0 hg; replace A0 := kB A0 hb; replace HB := bB HB hb; clear hb hbox hg; have AC := A3.o; have AD := A5.o; have Aj := bc0 A0; have Ak := bc1 A0; have Ar := qz A0.o 0; have As := qz A0.o 1) | ((with_reducible refine gc (f := 38) rfl ?_); refine gA (some 5) _ #[.agg #[.int .i64 a0_0, .int .i64 a0_1]] ?_ Try.func38; (with_reducible refine (spec_paGood.calls a0_0 a0_1 false _ A2.o).mono ?_); rintro e AK ⟨rfl, hb⟩; refine ⟨_, rfl, ?_⟩; replace A0 := kB A0 hb; replace A1 := kB A1 hb; replace HB := bB HB hb; (try clear hb); (try clear AB); (try clear hk); (try clear hi); have Al := bc0 A1; have Am := bc1 A1; have At := qz A1.o 0; have Au := qz A1.o 1))
  refine bodyPost_ret (results_ct rfl _ _ A8 25 #[.int .i64 0, .int .i64 0] (0, 0) _ rfl (by refine bK ?_; refine qp (cs := #[iV 0, iV 0]) ?_ 1 _ rfl; refine bK ?_; refine qp (cs := #[iV 0, iV 0]) ?_ 0 _ rfl; refine bK ?_; exact A1.o) Try.underlying25 rfl (by kernel_rfl)) rfl ?_
  exact ⟨by first | rfl | (simp [eN, eS] <;> rfl) | (simp [*, eN, eS] <;> rfl), vB HB⟩

end Go.Proofs.Ytklmdnlambinaaa.PAll
