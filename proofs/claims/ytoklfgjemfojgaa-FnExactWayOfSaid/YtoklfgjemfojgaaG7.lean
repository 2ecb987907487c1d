/- Began as a text that print.sh wrote (of the functions named below); turned and shortened by this session. -/
import Derived.Test.YtoklfgjemfojgaaG0
import Derived.Test.YtoklfgjemfojgaaG2
import Derived.Test.YtoklfgjemfojgaaG5
import Derived.Test.YtoklfgjemfojgaaG6
namespace Go.Proofs.Ytoklfgjemfojgaa.PAll
open Go.RowKit Go.Proofs.YtoklfgjemfojgaaW.PrintWords Go.Proofs.YtoklfgjemfojgaaW.PrintLast Go.Proofs.YtoklfgjemfojgaaW.PrintMore
attribute [local go_sem] max2_int min2_int max_two min_two max_three min_three max_four min_four   -- for this text's walks alone
set_option linter.unusedVariables false
set_option linter.unusedSimpArgs false

/-! ### spec_flGo: function 63 -/
def spec_flGo.l0 : Nat → List Int → Int → List (List Int) → Int → Int → Int → Int → List (S89) → Int → Int → List (S89) → Option (Int × Int × Int × Int × Int × (List (S89)) × (List (List Int)))
 | 0, _, _, _, _, _, _, _, _, _, _, _ => none
 | k + 1, x1, x2, x10, x11, x12, x215000, x215001, x215002, x223000, x223001, x223002 => if x12 < x215000 then (if x10.length < 5864062014805 then ((some (x10 ++ [(([x12, x2] : List Int))] : List (List Int))).bind fun y226 => ((spec_boAt.f x223000 x223001 x223002 x12 x2).bind fun bt229 => (if bt229.1 = 5 then (some (2, x12, x2, x223000, x223001, x223002, y226)) else ((spec_paGoes.f k bt229.1 bt229.2 x11).bind fun t232 => ((spec_flPass.f k x223000 x223001 x223002 x1 (wrap64 ((wrap64 (x12 * x215001)) + x2))).bind fun t233 => ((spec_l1In.f (wrap64 (x2 + t232)) 0 (wrap64 (x215001 - 1))).bind fun t234 => (if t234 = true then (spec_flGo.l0 k x1 (wrap64 (x2 + t232)) y226 (wrap64 (-t232)) (wrap64 (x12 + 1)) x215000 x215001 x215002 x223000 x223001 t233) else (some (3, x12, wrap64 (x2 + t232), x223000, x223001, t233, y226))))))))) else (none)) else (some (1, x215000, x2, x223000, x223001, x223002, x10))
def spec_flGo.f (k : Nat) (a0_0 : Int) (a0_1 : Int) (l0_2 : List (S89)) (l1 : List Int) (a2 : Int) : Option (Int × Int × Int × Int × Int × (List (S89)) × (List (List Int))) := (spec_boOwn.f a0_0 a0_1 l0_2).bind fun bt217 => (spec_flGo.l0 k l1 a2 ([] : List (List Int)) 0 0 a0_0 a0_1 l0_2 bt217.1 bt217.2.1 bt217.2.2)
def spec_flGo.T10 : Bool × List (List Nat × List Nat) := (true, [([], []), ([], []), ([0, 1], [0, 1]), ([], []), ([], []), ([2, 0, 1, 2], [2]), ([3, 5, 0, 1, 2, 3, 5], [3]), ([4, 6, 0, 1, 2, 3, 4, 5, 6], [4])])
def spec_flGo.B10 : List Nat := [0, 0, 3, 0, 0, 7, 47, 127]
theorem spec_flGo.tab10 : rtab .any (opsOf Try.f63 10) = spec_flGo.T10 := by kernel_rfl
theorem spec_flGo.bits10 : waitsOk spec_flGo.T10.2 spec_flGo.B10 = true := by kernel_rfl
def spec_flGo.T16 : Bool × List (List Nat × List Nat) := (true, [([], []), ([], []), ([0, 1], [0, 1]), ([], []), ([], []), ([2, 0, 1, 2], [2]), ([3, 5, 0, 1, 2, 3, 5], [3]), ([4, 6, 0, 1, 2, 3, 4, 5, 6], [4])])
def spec_flGo.B16 : List Nat := [0, 0, 3, 0, 0, 7, 47, 127]
theorem spec_flGo.tab16 : rtab .any (opsOf Try.f63 16) = spec_flGo.T16 := by kernel_rfl
theorem spec_flGo.bits16 : waitsOk spec_flGo.T16.2 spec_flGo.B16 = true := by kernel_rfl
def spec_flGo.T17 : Bool × List (List Nat × List Nat) := (true, [([], []), ([0], [0]), ([], []), ([1, 2], [1, 2]), ([], []), ([], []), ([3, 0, 1, 2, 3], [3]), ([4, 6, 0, 1, 2, 3, 4, 6], [4]), ([5, 7, 0, 1, 2, 3, 4, 5, 6, 7], [5])])
def spec_flGo.B17 : List Nat := [0, 1, 0, 7, 0, 0, 15, 95, 255]
theorem spec_flGo.tab17 : rtab .any (opsOf Try.f63 17) = spec_flGo.T17 := by kernel_rfl
theorem spec_flGo.bits17 : waitsOk spec_flGo.T17.2 spec_flGo.B17 = true := by kernel_rfl
set_option maxHeartbeats 8000000 in
set_option maxRecDepth 100000 in
theorem spec_flGo.calls (k : Nat) (a0_0 : Int) (a0_1 : Int) (A0_2 : Option Addr) (c0_2 : Nat) (l0_2 : List (S89)) (A1 : Option Addr) (c1 : Nat) (l1 : List Int) (a2 : Int) (r1 : Int) (r2 : Int) (r3 : Int) (r4 : Int) (r5 : Int) (r6 : List (S89)) (r7 : List (List Int)) (w : World) (hr0_2 : Kd.C k89 w A0_2 l0_2.length l0_2) (hc0_2 : l0_2.length ≤ c0_2) (hr1 : Kd.C (Kd.int .i64) w A1 l1.length l1) (hc1 : l1.length ≤ c1) (h : spec_flGo.f k a0_0 a0_1 l0_2 l1 a2 = some (r1, r2, r3, r4, r5, r6, r7)) :
 Calls Try.prog 63 #[.agg #[.int .i64 a0_0, .int .i64 a0_1, .slice A0_2 l0_2.length c0_2], .slice A1 l1.length c1, .int .i64 a2] w fun e w' => ∃ v5_ v6_ : Value, e = .returned (.tuple #[.agg #[.int .i64 r1, .int .i64 r2, .int .i64 r3], .agg #[.int .i64 r4, .int .i64 r5, v5_], v6_]) ∧ Kd.R k89 89 w' w.heap.size (fun _ => True) v5_ r6 ∧ Kd.S (Kd.slice 3 (Kd.int .i64)) 43 w' w.heap.size (fun _ => True) v6_ r7 ∧ Below w.heap.size w w' := by
 have Hs := Try.underlying32
 have Hr := Try.underlying27
 have Ht := Try.underlying89
 have BT := Z.m hr0_2
 have BS := Z.m hc0_2
 clear hr0_2 hc0_2
 have G4 := Z.m hr1
 have G2 := Z.m hc1
 clear hr1 hc1
 have HB := Z.m (Below.refl w.heap.size w)
 have H : ((spec_boOwn.f a0_0 a0_1 l0_2).bind fun bt217 => (spec_flGo.l0 k l1 a2 ([] : List (List Int)) 0 0 a0_0 a0_1 l0_2 bt217.1 bt217.2.1 bt217.2.2)) = some (r1, r2, r3, r4, r5, r6, r7) := h
 clear h
 replace H := Option.bind_eq_some_iff.mp H
 obtain ⟨⟨Ak, Al, By⟩, FY, H⟩ := H
 replace H : (spec_flGo.l0 k l1 a2 ([] : List (List Int)) 0 0 a0_0 a0_1 l0_2 Ak Al By) = some (r1, r2, r3, r4, r5, r6, r7) := H
 have A4 := Z.m FY
 clear FY
 have H' := Z.m H
 clear H
 go_enter Try.func63, Try.ntmps63
 go_wp2_with (first | ((with_reducible refine gq (N := 3) rfl ?_); refine be (N := 3) (cs := #[.int .i64 a0_0, .int .i64 a0_1, .slice A0_2 l0_2.length c0_2]) (t := 32) ?_; intro AO hg w5 hbox hb; have A2 := Z.m (hbox); have BO := gW (w := w) HB hg; have BB := BO; replace HB := bB HB hb; clear hb hbox hg) | ((with_reducible refine gq (N := 6) rfl ?_); refine be (N := 6) (cs := #[.int .i64 0, .int .i64 0, .int .i64 0]) (t := 27) ?_; intro Ax hg w6 hbox hb; have A6 := Z.m (hbox); have BP := gW (w := w) HB hg; have BC := BP; have Aa := neL A2 hg; have Am := neG A2 hg; replace A2 := kB A2 hb; replace HB := bB HB hb; clear hb hbox hg) | ((with_reducible refine gq (N := 7) rfl ?_); refine be (N := 7) (cs := #[.int .i64 0, .int .i64 0, .slice none 0 0]) (t := 32) ?_; intro Ay hg w7 hbox hb; have A9 := Z.m (hbox); have BQ := gW (w := w) HB hg; have BD := BQ; have Ab := neL A2 hg; have Ap := neG A2 hg; have Ad := neL A6 hg; have Ae := neG A6 hg; replace A2 := kB A2 hb; replace A6 := kB A6 hb; replace HB := bB HB hb; clear hb hbox hg; have Hh := Aa.o; have Hj := Am.o; have Hi := Ab.o; have Hk := Ap.o; have Bm := bc0 A2; have Bn := bc1 A2; have Bo := bc2 A2; have Bs := qz A2.o 0; have Bt := qz A2.o 1; have Bu := qz A2.o 2) | ((with_reducible refine gc (f := 82) rfl ?_); refine gA (some 16) _ #[.agg #[.int .i64 a0_0, .int .i64 a0_1, .slice A0_2 l0_2.length c0_2]] ?_ Try.func82; (with_reducible refine (spec_boOwn.calls a0_0 a0_1 _ _ l0_2 Ak Al By _ ?side1 ?side2 A4.o).mono ?_); (case side1 => repeat (first | exact (Kd.C_below BT.o HB.o) | (with_reducible refine Kd.C_alloc ?_ _) | (with_reducible refine Kd.C_drewN ?_ _) | (with_reducible refine Kd.C_drew ?_))); (case side2 => exact BS.o); rintro e Hw ⟨Hu, rfl, H4, hb⟩; refine ⟨_, rfl, ?_⟩; have B0 := Z.m (Kd.R_lower H4 (below_size (vB HB))); replace A2 := kB A2 hb; replace A6 := kB A6 hb; replace A9 := kB A9 hb; replace HB := bB HB hb; (try clear hb); (try clear C0); (try clear hk); (try clear hi); (try clear H4)) | ((with_reducible refine gq (N := 9) rfl ?_); refine be (N := 9) (cs := #[.int .i64 0, .int .i64 0, .slice none 0 0]) (t := 32) ?_; intro AF hg Hx hbox hb; have A3 := Z.m (hbox); have BR := gW (w := w) HB hg; have BE := BR; have AH := neL A2 hg; have AL := neG A2 hg; have An := neL A6 hg; have A7 := neG A6 hg; have Aq := neL A9 hg; have A8 := neG A9 hg; replace B0 := Z.m (Kd.Rb (vR B0) hb); replace A2 := kB A2 hb; replace A6 := kB A6 hb; replace A9 := kB A9 hb; replace HB := bB HB hb; clear hb hbox hg; have G5 := AL.o; have Gz := AH.o; have G6 := A7.o; have GA := An.o; have G7 := A8.o; have GB := Aq.o; have Bp := bc0 A3; have Bq := bc1 A3; have Br := bc2 A3; have Bv := qz A3.o 0; have Bw := qz A3.o 1; have Bx := qz A3.o 2; obtain ⟨FI, FJ, FL⟩ := Kd.R_slice B0.o; subst FL))
 go_loopg [2, 10, 11, 12] k (fun kq v2 v10 v11 v12 w' => ∃ (Af : Int) (AP : List (List Int)) (AQ : Int) (Ac : Int) (As : Int) (At : Int) (Au : Int) (Av : Int) (Aw : Int) (A5 : List (S89)) (u223002 : Value), v2 = .int .i64 Af ∧ v11 = .int .i64 AQ ∧ v12 = .int .i64 Ac ∧ Z (spec_flGo.l0 kq l1 Af AP AQ Ac a0_0 a0_1 l0_2 Ak Al A5 = some (r1, r2, r3, r4, r5, r6, r7)) ∧ Z (kq ≤ k) ∧ Z (Kd.S (Kd.slice 3 (Kd.int .i64)) 43 w' w.heap.size (fun _ => True) v10 AP) ∧ Z (Kd.R k89 89 w' w.heap.size (fun _ => True) u223002 A5) ∧ Z (w'.heap[AO]? = some (.cells #[.int .i64 a0_0, .int .i64 a0_1, (.slice A0_2 l0_2.length c0_2)] 32 (0, 0))) ∧ Z (w'.heap[Ax]? = some (.cells #[.int .i64 As, .int .i64 At, .int .i64 Au] 27 (0, 0))) ∧ Z (w'.heap[Ay]? = some (.cells #[.int .i64 Av, .int .i64 Aw, (.slice none 0 0)] 32 (0, 0))) ∧ Z (w'.heap[AF]? = some (.cells #[.int .i64 Ak, .int .i64 Al, u223002] 32 (0, 0))) ∧ Z (Below w.heap.size w w'))
 case atStart => exact ⟨(a2), (([] : List (List Int))), (0), (0), (0), (0), (0), (0), (0), (By), (.slice FI By.length FJ), (by first | rfl | (simp; done) | (simp [*]; done)), (by first | rfl | (simp; done) | (simp [*]; done)), (by first | rfl | (simp; done) | (simp [*]; done)), H', ⟨Nat.le_refl _⟩, ⟨by first | exact Kd.S_nil _ _ _ _ _ | exact Kd.N_nil _ _ _ _ _ | exact Kd.V_nil _ _ _ _ _ | exact Kd.Q_nil _ _ _ _ _ | exact Kd.R_nil _ _ _ _ _⟩, ⟨by refine rK ?_; exact Kd.Rm (rf (rf (rf (Kd.Ry B0.o A3.o (by decide))))) (fun _ hk => trivial)⟩, ⟨by refine bK ?_; (iterate 3 refine qF ?_ AH); exact A2.o⟩, ⟨by refine bK ?_; (iterate 3 refine qF ?_ An); exact A6.o⟩, ⟨by refine bK ?_; (iterate 3 refine qF ?_ Aq); exact A9.o⟩, ⟨by refine bK ?_; apply st3; refine bK ?_; exact A3.o⟩, ⟨vB HB⟩⟩
 case round =>
  clear H'
  (try clear Bm); (try clear Bn); (try clear Bo); (try clear Bp); (try clear Bq); (try clear Br); (try clear Bs); (try clear Bt)
  (try clear Bu); (try clear Bv); (try clear Bw); (try clear Bx)
  obtain ⟨Af, AP, AQ, Ac, As, At, Au, Av, Aw, A5, u223002, rfl, rfl, rfl, HA, G3, Ah, A0, A2, A6, A9, A3, HB⟩ := hrel
  cases gk with
  | zero => exact absurd HA.o (by simp [spec_flGo.l0])
  | succ k1 =>
   have H := HA.o
   clear HA
   simp only [spec_flGo.l0] at H
   by_cases c18 : Ac < a0_0
   ·rw [if_pos c18] at H
    have BU := decide_eq_true c18
    clear c18
    obtain ⟨AS, AX⟩ : ∃ y_ : List Int, y_ = (([Ac, Af] : List Int)) := ⟨_, rfl⟩
    replace H : (if AP.length < 5864062014805 then ((some (AP ++ [AS] : List (List Int))).bind fun AK => ((spec_boAt.f Ak Al A5 Ac Af).bind fun bt229 => (if bt229.1 = 5 then (some (2, Ac, Af, Ak, Al, A5, AK)) else ((spec_paGoes.f k1 bt229.1 bt229.2 AQ).bind fun AB => ((spec_flPass.f k1 Ak Al A5 l1 (wrap64 ((wrap64 (Ac * a0_1)) + Af))).bind fun AI => ((spec_l1In.f (wrap64 (Af + AB)) 0 (wrap64 (a0_1 - 1))).bind fun AR => (if AR = true then (spec_flGo.l0 k1 l1 (wrap64 (Af + AB)) AK (wrap64 (-AB)) (wrap64 (Ac + 1)) a0_0 a0_1 l0_2 Ak Al AI) else (some (3, Ac, wrap64 (Af + AB), Ak, Al, AI, AK))))))))) else (none)) = some (r1, r2, r3, r4, r5, r6, r7) := by first | (rw [AX]; with_reducible exact H) | (have H2_ := (Option.bind_some _ _).symm.trans H; rw [AX]; with_reducible exact H2_) | (have H2_ := (Option.bind_some _ _).symm.trans H; with_reducible exact H2_) | with_reducible exact H | (rw [AX]; exact H) | exact H
    have AV := Z.m AX
    clear AX
    by_cases c19 : AP.length < 5864062014805
    ·rw [if_pos c19] at H
     have Bj := Z.m c19
     clear c19
     obtain ⟨AK, AY⟩ : ∃ y_ : List (List Int), y_ = (AP ++ [AS]) := ⟨_, rfl⟩
     replace H : ((spec_boAt.f Ak Al A5 Ac Af).bind fun bt229 => (if bt229.1 = 5 then (some (2, Ac, Af, Ak, Al, A5, AK)) else ((spec_paGoes.f k1 bt229.1 bt229.2 AQ).bind fun AB => ((spec_flPass.f k1 Ak Al A5 l1 (wrap64 ((wrap64 (Ac * a0_1)) + Af))).bind fun AI => ((spec_l1In.f (wrap64 (Af + AB)) 0 (wrap64 (a0_1 - 1))).bind fun AR => (if AR = true then (spec_flGo.l0 k1 l1 (wrap64 (Af + AB)) AK (wrap64 (-AB)) (wrap64 (Ac + 1)) a0_0 a0_1 l0_2 Ak Al AI) else (some (3, Ac, wrap64 (Af + AB), Ak, Al, AI, AK)))))))) = some (r1, r2, r3, r4, r5, r6, r7) := by first | (rw [AY]; with_reducible exact H) | (have H2_ := (Option.bind_some _ _).symm.trans H; rw [AY]; with_reducible exact H2_) | (have H2_ := (Option.bind_some _ _).symm.trans H; with_reducible exact H2_) | with_reducible exact H | (rw [AY]; exact H) | exact H
     have Bk := Z.m AY
     clear AY
     replace H := Option.bind_eq_some_iff.mp H
     obtain ⟨⟨AE, AG⟩, BH, H⟩ := H
     replace H : (if AE = 5 then (some (2, Ac, Af, Ak, Al, A5, AK)) else ((spec_paGoes.f k1 AE AG AQ).bind fun AB => ((spec_flPass.f k1 Ak Al A5 l1 (wrap64 ((wrap64 (Ac * a0_1)) + Af))).bind fun AI => ((spec_l1In.f (wrap64 (Af + AB)) 0 (wrap64 (a0_1 - 1))).bind fun AR => (if AR = true then (spec_flGo.l0 k1 l1 (wrap64 (Af + AB)) AK (wrap64 (-AB)) (wrap64 (Ac + 1)) a0_0 a0_1 l0_2 Ak Al AI) else (some (3, Ac, wrap64 (Af + AB), Ak, Al, AI, AK))))))) = some (r1, r2, r3, r4, r5, r6, r7) := H
     have FH := Z.m BH
     clear BH
     by_cases c21 : AE = 5
     ·rw [if_pos c21] at H
      have BV := beq_iff_eq.mpr c21
      have BW := bne_eq_false_iff_eq.mpr c21
      clear c21
      simp only [Option.some.injEq, Prod.mk.injEq] at H
      obtain ⟨rfl, rfl, rfl, rfl, rfl, rfl, rfl⟩ := H
      have G8 := Aa.o
      have GC := Am.o
      have G9 := Ab.o
      have GD := Ap.o
      have Ga := AH.o
      have GE := AL.o
      have DD := bc0 A2
      have DE := bc1 A2
      have DF := bc2 A2
      have Eg := qz A2.o 0
      have Eh := qz A2.o 1
      have Ei := qz A2.o 2
      try go_wp2_with (first | ((with_reducible refine gq (N := 26) rfl ?_); refine Kd.R_lit (Kd.int .i64) _ 3 ?hg (N := 26) ?hd (xs := ([Ac, Af] : List Int)) (inner := [.int .i64 Ac, .int .i64 Af]) (ok := fun _ => True) (okp := fun _ => True) ?hr ?hp (fun _ hk => hk) trivial (Below.refl _ _) (Nat.le_refl _) (by simp) ?_; (case hd => rfl); (case hg => rfl); (case hr => first | (go_simp; done) | (go_simp; rfl)); (case hp => exact (Reps.one (show Kd.M (Kd.int .i64) _ _ _ Ac [.int .i64 Ac] from rfl) (Reps.one (show Kd.M (Kd.int .i64) _ _ _ Af [.int .i64 Af] from rfl) (Reps.none _ _)))); intro DC Hy Bc hb hg_ hnew_; clear hg_ hnew_; (first | rw [← AV.o] at Bc | (simp only [Int.reduceToNat] at Bc; rw [← AV.o] at Bc)); have AJ := Z.m (Kd.R_lower Bc (below_size (vB HB))); replace Ah := Z.m (Kd.S_elder' (vS Ah) (Kd.R_base Bc) hb); replace A0 := Z.m (Kd.Rb (vR A0) hb); replace A2 := kB A2 hb; replace A6 := kB A6 hb; replace A9 := kB A9 hb; replace A3 := kB A3 hb; replace HB := bB HB hb; clear hb Bc; obtain ⟨BL, BX, FM⟩ := Kd.R_slice AJ.o; subst FM) | ((with_reducible refine gu (b := .append) (xs := #[.tmp 23, .tmp 27]) rfl ?_); at_builtin; refine Kd.S_append (Kd.slice 3 (Kd.int .i64)) (w0 := w) w.heap.size rfl (.tmp 23) (.tmp 27) 54 43 (.slice none 0 0) 24 rfl Try.underlying54 info43 rfl (by decide) (by omega) u10 AP AS [.slice BL AS.length BX] (fun _ => True) (fun k_ => some k_ = (.slice BL AS.length BX : Value).ownBlock) rfl rfl ?aP (fun k_ hk_ => ((Kd.Rm (ok' := fun k_ => ((fun _ => True)) k_ ∧ some k_ ≠ (u10 : Value).ownBlock) (Kd.Ra (AJ.o) (Kd.S_typed Ah.o) (by decide)) (fun k_ hk => ⟨trivial, hk.2⟩))).1 k_ hk_.symm) ?aF ?aO ?aB ?aS ?aL ?_; (case aP => exact Kd.M_row (Kd.Rm (Kd.Rg rfl (Kd.Rm (ok' := fun k_ => ((fun _ => True)) k_ ∧ some k_ ≠ (u10 : Value).ownBlock) (Kd.Ra (AJ.o) (Kd.S_typed Ah.o) (by decide)) (fun k_ hk => ⟨trivial, hk.2⟩))) (fun _ h_ => h_))); (case aB => exact (vB HB)); (case aF => exact (fun _ _ => trivial)); (case aO => exact (by (with_reducible repeat (first | apply Kd.S_alloc | apply Kd.S_drewN | apply Kd.S_drew)); exact Kd.S_mono Ah.o (fun k_ hk => ⟨trivial, fun e_ => hk.2 e_⟩))); (case aS => exact (below_size (vB HB))); (case aL => have := Bj.o; omega); intro Bz Hz ho hb hg hat; rw [← Bk.o] at ho; have Aj := Z.m (ho); replace A0 := Z.m (Kd.Ro (vR A0) (Kd.S_typed (vS Ah)) (by decide) hg); replace A2 := Z.m (qg (g := AO) (o := .cells #[.int .i64 a0_0, .int .i64 a0_1, .slice A0_2 l0_2.length c0_2] 32 (0, 0)) (vK A2) hg (Kd.S_ne Ah.o A2.o (by decide))); replace A6 := Z.m (qg (g := Ax) (o := .cells #[.int .i64 As, .int .i64 At, .int .i64 Au] 27 (0, 0)) (vK A6) hg (Kd.S_ne Ah.o A6.o (by decide))); replace A9 := Z.m (qg (g := Ay) (o := .cells #[.int .i64 Av, .int .i64 Aw, .slice none 0 0] 32 (0, 0)) (vK A9) hg (Kd.S_ne Ah.o A9.o (by decide))); replace A3 := Z.m (qg (g := AF) (o := .cells #[.int .i64 Ak, .int .i64 Al, u223002] 32 (0, 0)) (vK A3) hg (Kd.S_ne Ah.o A3.o (by decide))); replace HB := Z.m (hb); clear Ah AJ; clear ho hb hg hat; have Gb := A7.o; have GF := An.o; have Gc := A8.o; have GG := Aq.o; have DG := bc0 A3; have DH := bc1 A3; have DI := bc2 A3; have Ej := qz A3.o 0; have Ek := qz A3.o 1; have El := qz A3.o 2; obtain ⟨B2, Ba, FN⟩ := Kd.R_slice A0.o; subst FN) | ((with_reducible refine gc (f := 83) rfl ?_); refine gA (some 32) _ #[.agg #[.int .i64 Ak, .int .i64 Al, .slice B2 A5.length Ba], .int .i64 Ac, .int .i64 Af] ?_ Try.func83; (with_reducible refine (spec_boAt.calls Ak Al _ _ A5 Ac Af AE AG _ ?side1 ?side2 FH.o).mono ?_); (case side1 => repeat (first | exact (Kd.RrZ A0.o).2.2 | (with_reducible refine Kd.C_alloc ?_ _) | (with_reducible refine Kd.C_drewN ?_ _) | (with_reducible refine Kd.C_drew ?_))); (case side2 => exact (Kd.RrZ A0.o).2.1); rintro e HC ⟨rfl, hb⟩; refine ⟨_, rfl, ?_⟩; replace A0 := Z.m (Kd.Rb (vR A0) hb); replace Aj := Z.m (Kd.S_below (vS Aj) hb); replace A2 := kB A2 hb; replace A6 := kB A6 hb; replace A9 := kB A9 hb; replace A3 := kB A3 hb; replace HB := bB HB hb; (try clear hb); (try clear C0); (try clear hk); (try clear hi)) | ((with_reducible refine gq (N := 13) rfl ?_); refine be (N := 13) (cs := #[.int .i64 0, .int .i64 0]) (t := 89) ?_; intro Ag hg BA hbox hb; have Ai := Z.m (hbox); have AW := gW (w := w) HB hg; have AZ := AW; have AC := neL A2 hg; have AM := neG A2 hg; have Ao := neL A6 hg; have Az := neG A6 hg; have Ar := neL A9 hg; have AA := neG A9 hg; have AD := neL A3 hg; have AN := neG A3 hg; replace A0 := Z.m (Kd.Rb (Kd.R_elderB (vR A0) Ag (Nat.le_of_eq hg.symm)) hb); replace Aj := Z.m (Kd.S_below (vS Aj) hb); replace A2 := kB A2 hb; replace A6 := kB A6 hb; replace A9 := kB A9 hb; replace A3 := kB A3 hb; replace HB := bB HB hb; clear hb hbox hg; have Gd := AM.o; have GH := AC.o; have Ge := Az.o; have GI := Ao.o; have Gf := AA.o; have GJ := Ar.o; have Gg := AN.o; have GK := AD.o; have DJ := bc0 Ai; have DK := bc1 Ai; have Em := qz Ai.o 0; have En := qz Ai.o 1))
      have n0_ : Z (Kd.R k89 89 ((BA.setCell ⟨Ag, 0, none⟩ (.int .i64 AE)).setCell ⟨Ag, 1, none⟩ (.int .i64 AG)) w.heap.size (fun k_ => k_ ≠ Ag) (.slice B2 A5.length Ba) A5) := ⟨by refine rK ?_; exact Kd.Rm (rf (rf (Kd.Rm A0.o (fun k_ hk => (⟨hk, hk.2⟩ : _ ∧ k_ ≠ Ag))))) (fun _ hk => hk.1.2)⟩
      have n1_ : Z (Kd.S (Kd.slice 3 (Kd.int .i64)) 43 ((BA.setCell ⟨Ag, 0, none⟩ (.int .i64 AE)).setCell ⟨Ag, 1, none⟩ (.int .i64 AG)) w.heap.size (fun _ => True) Bz AK) := ⟨by (with_reducible repeat (first | apply Kd.S_alloc | apply Kd.S_drewN | apply Kd.S_drew)); exact Kd.S_mono (Kd.S_far (p := ⟨Ag, 1, none⟩) (Kd.S_far (p := ⟨Ag, 0, none⟩) (Kd.S_types Aj.o Ai.o (by decide)) (fun _ hk => hk.2) (.int .i64 AE)) (fun _ hk => hk.2) (.int .i64 AG)) (fun _ hk => trivial)⟩
      have n2_ : Z (((BA.setCell ⟨Ag, 0, none⟩ (.int .i64 AE)).setCell ⟨Ag, 1, none⟩ (.int .i64 AG)).heap[AO]? = some (.cells #[.int .i64 a0_0, .int .i64 a0_1, .slice A0_2 l0_2.length c0_2] 32 (0, 0))) := ⟨by refine bK ?_; (iterate 2 refine qF ?_ AC); exact A2.o⟩
      have n3_ : Z (((BA.setCell ⟨Ag, 0, none⟩ (.int .i64 AE)).setCell ⟨Ag, 1, none⟩ (.int .i64 AG)).heap[Ax]? = some (.cells #[.int .i64 As, .int .i64 At, .int .i64 Au] 27 (0, 0))) := ⟨by refine bK ?_; (iterate 2 refine qF ?_ Ao); exact A6.o⟩
      have n4_ : Z (((BA.setCell ⟨Ag, 0, none⟩ (.int .i64 AE)).setCell ⟨Ag, 1, none⟩ (.int .i64 AG)).heap[Ay]? = some (.cells #[.int .i64 Av, .int .i64 Aw, .slice none 0 0] 32 (0, 0))) := ⟨by refine bK ?_; (iterate 2 refine qF ?_ Ar); exact A9.o⟩
      have n5_ : Z (((BA.setCell ⟨Ag, 0, none⟩ (.int .i64 AE)).setCell ⟨Ag, 1, none⟩ (.int .i64 AG)).heap[AF]? = some (.cells #[.int .i64 Ak, .int .i64 Al, .slice B2 A5.length Ba] 32 (0, 0))) := ⟨by refine bK ?_; (iterate 2 refine qF ?_ AD); exact A3.o⟩
      have n6_ : Z (((BA.setCell ⟨Ag, 0, none⟩ (.int .i64 AE)).setCell ⟨Ag, 1, none⟩ (.int .i64 AG)).heap[Ag]? = some (.cells #[.int .i64 AE, .int .i64 AG] 89 (0, 0))) := ⟨by refine bK ?_; refine qp (cs := #[iV AE, iV 0]) ?_ 1 _ rfl; refine bK ?_; refine qp (cs := #[iV 0, iV 0]) ?_ 0 _ rfl; refine bK ?_; exact Ai.o⟩
      have n7_ : Z (Below w.heap.size w ((BA.setCell ⟨Ag, 0, none⟩ (.int .i64 AE)).setCell ⟨Ag, 1, none⟩ (.int .i64 AG))) := ⟨vB HB⟩
      (try clear A0); (try clear Aj); (try clear A2); (try clear A6); (try clear A9); (try clear A3); (try clear Ai); (try clear HB)
      generalize ((BA.setCell ⟨Ag, 0, none⟩ (.int .i64 AE)).setCell ⟨Ag, 1, none⟩ (.int .i64 AG)) = Hv at n0_ n1_ n2_ n3_ n4_ n5_ n6_ n7_ ⊢
      have A0 := n0_
      have Aj := n1_
      have A2 := n2_
      have A6 := n3_
      have A9 := n4_
      have A3 := n5_
      have Ai := n6_
      have HB := n7_
      clear n0_ n1_ n2_ n3_ n4_ n5_ n6_ n7_
      replace A0 := Z.m (Kd.R_drew A0.o)
      replace Aj := Z.m (Kd.S_drew Aj.o)
      replace A2 := Z.m (blk_drew A2.o)
      replace A6 := Z.m (blk_drew A6.o)
      replace A9 := Z.m (blk_drew A9.o)
      replace A3 := Z.m (blk_drew A3.o)
      replace Ai := Z.m (blk_drew Ai.o)
      replace HB := Z.m (qd HB.o)
      refine start_ (n := 8) (S := fun w' => w'.cell? ⟨AF, 0, none⟩ = some (.int .i64 Ak) ∧ w'.cell? ⟨AF, 1, none⟩ = some (.int .i64 Al) ∧ w'.cell? ⟨AF, 2, none⟩ = some (.slice B2 A5.length Ba)) (ds := []) #[false, false, false, false, false, false, false, false] (by kernel_rfl) rfl rfl ⟨(ql A3.o 0).trans rfl, (ql A3.o 1).trans rfl, (ql A3.o 2).trans rfl⟩ (fun hHeld => ?_); refine with_tabW spec_flGo.tab10 spec_flGo.bits10 (fun HT_ HW_ => ?_)
      generalize Hv.drew = BG at A0 Aj A2 A6 A9 A3 Ai HB hHeld ⊢
      refine pure_ (i := 0) (N := some 36) (v := ?_) (a' := ?_) #[true, false, false, false, false, false, false, false] rfl rfl (any_of HT_.o (by kernel_rfl)) (fun _ _ _ h => h) (Or.inl ⟨by rfl, ?_⟩) ?_ ?_
      rotate_left
      ·intro w'
       go_simp
       with_reducible rfl
      rotate_left
      ·simp only [Act.put, q1, q2, q3, i64_w, i32_w]
       rfl
      refine pure_ (i := 1) (N := some 37) (v := ?_) (a' := ?_) #[true, true, false, false, false, false, false, false] rfl rfl (any_of HT_.o (by kernel_rfl)) (fun _ _ _ h => h) (Or.inl ⟨by rfl, ?_⟩) ?_ ?_
      rotate_left
      ·intro w'
       go_simp
       with_reducible rfl
      rotate_left
      ·simp only [Act.put, q1, q2, q3, i64_w, i32_w]
       rfl
      refine pure_ (i := 2) (N := some 38) (v := ?_) (a' := ?_) #[true, true, true, false, false, false, false, false] rfl rfl (any_of HT_.o (by kernel_rfl)) (fun _ _ _ h => h) (Or.inl ⟨by rfl, ?_⟩) ?_ ?_
      rotate_left
      ·intro w'
       go_simp
       with_reducible rfl
      rotate_left
      ·simp only [Act.put, q1, q2, q3, i64_w, i32_w]
       rfl
      refine pure_ (i := 4) (N := some 40) (v := ?_) (a' := ?_) #[true, true, true, false, true, false, false, false] rfl rfl (any_of HT_.o (by kernel_rfl)) (fun _ _ _ h => h) (Or.inl ⟨by rfl, ?_⟩) ?_ ?_
      rotate_left
      ·intro w'
       go_simp
       with_reducible rfl
      rotate_left
      ·simp only [Act.put, q1, q2, q3, i64_w, i32_w]
       rfl
      refine take_ (i := 3) (N := some 39) (v := ?_) (a' := ?_) #[true, true, true, true, true, false, false, false] rfl rfl (take_ofW HT_.o HW_.o (by kernel_rfl)) (fun _ _ _ h => h) (Or.inl ⟨by rfl, ?_⟩) hHeld ?_ ?_
      rotate_left
      ·rintro w' ⟨s0, s1, s2⟩
       go_simp
       with_reducible rfl
      rotate_left
      ·simp only [Act.put, q1, q2, q3, i64_w, i32_w]
       rfl
      refine one_ (i := 5) (N := none) #[true, true, true, true, true, true, false, false] rfl rfl (one_of HT_.o (by kernel_rfl)) (by decide) (fun K hK => ?_)
      have Hl : BG.cell? ⟨Ax, 0, none⟩ = some (.int .i64 As) := (ql A6.o 0).trans rfl
      have hfs43 := qz A6.o 0
      have Fj := Aa.o
      have Fk := Ae.o
      have Fl := A7.o
      have Fm := Az.o
      have EV := Am.o
      have EW := Ad.o
      have EX := An.o
      have EY := Ao.o
      have Hm : BG.cell? ⟨Ax, 1, none⟩ = some (.int .i64 At) := (ql A6.o 1).trans rfl
      have hfs44 := qz A6.o 1
      have Fn := Aa.o
      have Fo := Ae.o
      have Fp := A7.o
      have Fq := Az.o
      have EZ := Am.o
      have F0 := Ad.o
      have F1 := An.o
      have F2 := Ao.o
      have Hn : BG.cell? ⟨Ax, 2, none⟩ = some (.int .i64 Au) := (ql A6.o 2).trans rfl
      have hfs45 := qz A6.o 2
      have Fr := Aa.o
      have Fs := Ae.o
      have Ft := A7.o
      have Fu := Az.o
      have F3 := Am.o
      have F4 := Ad.o
      have F5 := An.o
      have F6 := Ao.o
      refine skip_ (w1 := ?_) ?hwx ?hnx ?_ ?_; (case hwx => rfl); (case hnx => rfl)
      rotate_left
      ·go_simp
       rfl
      refine hK.out _ _ ⟨(cx A7.o ((cx A7.o ((cx A7.o (hHeld.1)))))), (cx A7.o ((cx A7.o ((cx A7.o (hHeld.2.1)))))), (cx A7.o ((cx A7.o ((cx A7.o (hHeld.2.2))))))⟩ (fun hHeld => ?_)
      clear hK K
      refine one_ (i := 6) (N := none) #[true, true, true, true, true, true, true, false] rfl rfl (one_of HT_.o (by kernel_rfl)) (by decide) (fun K hK => ?_)
      have Ho : BG.cell? ⟨Ay, 0, none⟩ = some (.int .i64 Av) := (ql A9.o 0).trans rfl
      have hfs46 := qz A9.o 0
      have Fv := Ab.o
      have Fw := Ad.o
      have Fx := A8.o
      have Fy := AA.o
      have F7 := Ap.o
      have F8 := Ae.o
      have F9 := Aq.o
      have Fa := Ar.o
      have Hp : BG.cell? ⟨Ay, 1, none⟩ = some (.int .i64 Aw) := (ql A9.o 1).trans rfl
      have hfs47 := qz A9.o 1
      have Fz := Ab.o
      have FA := Ad.o
      have FB := A8.o
      have FC := AA.o
      have Fb := Ap.o
      have Fc := Ae.o
      have Fd := Aq.o
      have Fe := Ar.o
      have Hq : BG.cell? ⟨Ay, 2, none⟩ = some (.slice none 0 0) := (ql A9.o 2).trans rfl
      have hfs48 := qz A9.o 2
      have FD := Ab.o
      have FE := Ad.o
      have FF := A8.o
      have FG := AA.o
      have Ff := Ap.o
      have Fg := Ae.o
      have Fh := Aq.o
      have Fi := Ar.o
      refine skip_ (w1 := ?_) ?hwx ?hnx ?_ ?_; (case hwx => rfl); (case hnx => rfl)
      rotate_left
      ·go_simp
       rfl
      refine hK.out _ _ ⟨(cx A8.o ((cx A8.o ((cx A8.o (hHeld.1)))))), (cx A8.o ((cx A8.o ((cx A8.o (hHeld.2.1)))))), (cx A8.o ((cx A8.o ((cx A8.o (hHeld.2.2))))))⟩ (fun hHeld => ?_)
      clear hK K
      refine pure_ (i := 7) (N := some 8) (v := ?_) (a' := ?_) #[true, true, true, true, true, true, true, true] rfl rfl (any_of HT_.o (by kernel_rfl)) (fun _ _ _ h => h) (Or.inl ⟨by rfl, ?_⟩) ?_ ?_
      rotate_left
      ·intro w'
       go_simp
       with_reducible rfl
      rotate_left
      ·simp only [Act.put, q1, q2, q3, i64_w, i32_w]
       rfl
      refine done_ (done_of HT_.o (by kernel_rfl)) ?_
      try go_wp2
      refine bodyPost_ret (rl (rs := [.cell 6 27, .cell 7 32, .tmp 8]) rfl (by simp) (.cell Ax 27 #[.int .i64 2, .int .i64 Ac, .int .i64 Af] (0, 0) _ rfl (by refine bK ?_; (iterate 3 refine qF ?_ Ad); apply st3; refine bK ?_; exact A6.o) Try.underlying27 rfl (by kernel_rfl) (.cell Ay 32 #[.int .i64 Ak, .int .i64 Al, .slice B2 A5.length Ba] (0, 0) _ rfl (by refine bK ?_; apply st3; refine bK ?_; (iterate 3 refine qF ?_ Ae); exact A9.o) Try.underlying32 rfl (by kernel_rfl) (.tmp .nil)))) rfl ?_
      exact ⟨_, _, by first | rfl | (simp [eN, eS] <;> rfl) | (simp [*, eN, eS] <;> rfl), by refine rK ?_; exact Kd.Rm (rf (rf (rf (rf1 (rf1 (rf1 (Kd.Ry (Kd.Ry A0.o A6.o (by decide)) A9.o (by decide)))))))) (fun _ hk => trivial), by (with_reducible repeat (first | apply Kd.S_alloc | apply Kd.S_drewN | apply Kd.S_drew)); exact Kd.S_mono (Kd.S_far (p := ⟨Ay, 2, none⟩) (Kd.S_far (p := ⟨Ay, 1, none⟩) (Kd.S_far (p := ⟨Ay, 0, none⟩) (Kd.S_far (p := ⟨Ax, 2, none⟩) (Kd.S_far (p := ⟨Ax, 1, none⟩) (Kd.S_far (p := ⟨Ax, 0, none⟩) (Kd.S_types (Kd.S_types Aj.o A6.o (by decide)) A9.o (by decide)) (fun _ hk => hk.1.2) (.int .i64 2)) (fun _ hk => hk.1.2) (.int .i64 Ac)) (fun _ hk => hk.1.2) (.int .i64 Af)) (fun _ hk => hk.2) (.int .i64 Ak)) (fun _ hk => hk.2) (.int .i64 Al)) (fun _ hk => hk.2) (.slice B2 A5.length Ba)) (fun _ hk => trivial), vB HB⟩
     ·rw [if_neg c21] at H
      have BV := beq_eq_false_iff_ne.mpr c21
      have BW := bne_iff_ne.mpr c21
      replace H := Option.bind_eq_some_iff.mp H
      obtain ⟨AB, BI, H⟩ := H
      replace H : ((spec_flPass.f k1 Ak Al A5 l1 (wrap64 ((wrap64 (Ac * a0_1)) + Af))).bind fun AI => ((spec_l1In.f (wrap64 (Af + AB)) 0 (wrap64 (a0_1 - 1))).bind fun AR => (if AR = true then (spec_flGo.l0 k1 l1 (wrap64 (Af + AB)) AK (wrap64 (-AB)) (wrap64 (Ac + 1)) a0_0 a0_1 l0_2 Ak Al AI) else (some (3, Ac, wrap64 (Af + AB), Ak, Al, AI, AK))))) = some (r1, r2, r3, r4, r5, r6, r7) := H
      have FZ := Z.m BI
      clear BI
      replace H := Option.bind_eq_some_iff.mp H
      obtain ⟨AI, BJ, H⟩ := H
      replace H : ((spec_l1In.f (wrap64 (Af + AB)) 0 (wrap64 (a0_1 - 1))).bind fun AR => (if AR = true then (spec_flGo.l0 k1 l1 (wrap64 (Af + AB)) AK (wrap64 (-AB)) (wrap64 (Ac + 1)) a0_0 a0_1 l0_2 Ak Al AI) else (some (3, Ac, wrap64 (Af + AB), Ak, Al, AI, AK)))) = some (r1, r2, r3, r4, r5, r6, r7) := H
      have G0 := Z.m BJ
      clear BJ
      replace H := Option.bind_eq_some_iff.mp H
      obtain ⟨AR, BK, H⟩ := H
      replace H : (if AR = true then (spec_flGo.l0 k1 l1 (wrap64 (Af + AB)) AK (wrap64 (-AB)) (wrap64 (Ac + 1)) a0_0 a0_1 l0_2 Ak Al AI) else (some (3, Ac, wrap64 (Af + AB), Ak, Al, AI, AK))) = some (r1, r2, r3, r4, r5, r6, r7) := H
      have G1 := Z.m BK
      clear BK
      by_cases c52 : AR = true
      ·subst c52
       have H1 : (spec_flGo.l0 k1 l1 (wrap64 (Af + AB)) AK (wrap64 (-AB)) (wrap64 (Ac + 1)) a0_0 a0_1 l0_2 Ak Al AI) = some (r1, r2, r3, r4, r5, r6, r7) := by rw [if_pos rfl] at H; exact H
       clear H
       have H := H1
       clear H1
       have H' := Z.m H
       clear H
       have Gh := Aa.o
       have GL := Am.o
       have Gi := Ab.o
       have GM := Ap.o
       have Gj := AH.o
       have GN := AL.o
       have DL := bc0 A2
       have DM := bc1 A2
       have DN := bc2 A2
       have Eo := qz A2.o 0
       have Ep := qz A2.o 1
       have Er := qz A2.o 2
       go_wp2_with (first | ((with_reducible refine gq (N := 26) rfl ?_); refine Kd.R_lit (Kd.int .i64) _ 3 ?hg (N := 26) ?hd (xs := ([Ac, Af] : List Int)) (inner := [.int .i64 Ac, .int .i64 Af]) (ok := fun _ => True) (okp := fun _ => True) ?hr ?hp (fun _ hk => hk) trivial (Below.refl _ _) (Nat.le_refl _) (by simp) ?_; (case hd => rfl); (case hg => rfl); (case hr => first | (go_simp; done) | (go_simp; rfl)); (case hp => exact (Reps.one (show Kd.M (Kd.int .i64) _ _ _ Ac [.int .i64 Ac] from rfl) (Reps.one (show Kd.M (Kd.int .i64) _ _ _ Af [.int .i64 Af] from rfl) (Reps.none _ _)))); intro DC HD Bd hb hg_ hnew_; clear hg_ hnew_; (first | rw [← AV.o] at Bd | (simp only [Int.reduceToNat] at Bd; rw [← AV.o] at Bd)); have AJ := Z.m (Kd.R_lower Bd (below_size (vB HB))); replace Ah := Z.m (Kd.S_elder' (vS Ah) (Kd.R_base Bd) hb); replace A0 := Z.m (Kd.Rb (vR A0) hb); replace A2 := kB A2 hb; replace A6 := kB A6 hb; replace A9 := kB A9 hb; replace A3 := kB A3 hb; replace HB := bB HB hb; clear hb Bd; obtain ⟨BM, BY, FO⟩ := Kd.R_slice AJ.o; subst FO) | ((with_reducible refine gu (b := .append) (xs := #[.tmp 23, .tmp 27]) rfl ?_); at_builtin; refine Kd.S_append (Kd.slice 3 (Kd.int .i64)) (w0 := w) w.heap.size rfl (.tmp 23) (.tmp 27) 54 43 (.slice none 0 0) 24 rfl Try.underlying54 info43 rfl (by decide) (by omega) u10 AP AS [.slice BM AS.length BY] (fun _ => True) (fun k_ => some k_ = (.slice BM AS.length BY : Value).ownBlock) rfl rfl ?aP (fun k_ hk_ => ((Kd.Rm (ok' := fun k_ => ((fun _ => True)) k_ ∧ some k_ ≠ (u10 : Value).ownBlock) (Kd.Ra (AJ.o) (Kd.S_typed Ah.o) (by decide)) (fun k_ hk => ⟨trivial, hk.2⟩))).1 k_ hk_.symm) ?aF ?aO ?aB ?aS ?aL ?_; (case aP => exact Kd.M_row (Kd.Rm (Kd.Rg rfl (Kd.Rm (ok' := fun k_ => ((fun _ => True)) k_ ∧ some k_ ≠ (u10 : Value).ownBlock) (Kd.Ra (AJ.o) (Kd.S_typed Ah.o) (by decide)) (fun k_ hk => ⟨trivial, hk.2⟩))) (fun _ h_ => h_))); (case aB => exact (vB HB)); (case aF => exact (fun _ _ => trivial)); (case aO => exact (by (with_reducible repeat (first | apply Kd.S_alloc | apply Kd.S_drewN | apply Kd.S_drew)); exact Kd.S_mono Ah.o (fun k_ hk => ⟨trivial, fun e_ => hk.2 e_⟩))); (case aS => exact (below_size (vB HB))); (case aL => have := Bj.o; omega); intro Bz HE ho hb hg hat; rw [← Bk.o] at ho; have Aj := Z.m (ho); replace A0 := Z.m (Kd.Ro (vR A0) (Kd.S_typed (vS Ah)) (by decide) hg); replace A2 := Z.m (qg (g := AO) (o := .cells #[.int .i64 a0_0, .int .i64 a0_1, .slice A0_2 l0_2.length c0_2] 32 (0, 0)) (vK A2) hg (Kd.S_ne Ah.o A2.o (by decide))); replace A6 := Z.m (qg (g := Ax) (o := .cells #[.int .i64 As, .int .i64 At, .int .i64 Au] 27 (0, 0)) (vK A6) hg (Kd.S_ne Ah.o A6.o (by decide))); replace A9 := Z.m (qg (g := Ay) (o := .cells #[.int .i64 Av, .int .i64 Aw, .slice none 0 0] 32 (0, 0)) (vK A9) hg (Kd.S_ne Ah.o A9.o (by decide))); replace A3 := Z.m (qg (g := AF) (o := .cells #[.int .i64 Ak, .int .i64 Al, u223002] 32 (0, 0)) (vK A3) hg (Kd.S_ne Ah.o A3.o (by decide))); replace HB := Z.m (hb); clear Ah AJ; clear ho hb hg hat; have Gk := A7.o; have GO := An.o; have Gl := A8.o; have GP := Aq.o; have DO := bc0 A3; have DP := bc1 A3; have DQ := bc2 A3; have Es := qz A3.o 0; have Et := qz A3.o 1; have Eu := qz A3.o 2; obtain ⟨B7, Bb, FP⟩ := Kd.R_slice A0.o; subst FP) | ((with_reducible refine gc (f := 83) rfl ?_); refine gA (some 32) _ #[.agg #[.int .i64 Ak, .int .i64 Al, .slice B7 A5.length Bb], .int .i64 Ac, .int .i64 Af] ?_ Try.func83; (with_reducible refine (spec_boAt.calls Ak Al _ _ A5 Ac Af AE AG _ ?side1 ?side2 FH.o).mono ?_); (case side1 => repeat (first | exact (Kd.RrZ A0.o).2.2 | (with_reducible refine Kd.C_alloc ?_ _) | (with_reducible refine Kd.C_drewN ?_ _) | (with_reducible refine Kd.C_drew ?_))); (case side2 => exact (Kd.RrZ A0.o).2.1); rintro e HF ⟨rfl, hb⟩; refine ⟨_, rfl, ?_⟩; replace A0 := Z.m (Kd.Rb (vR A0) hb); replace Aj := Z.m (Kd.S_below (vS Aj) hb); replace A2 := kB A2 hb; replace A6 := kB A6 hb; replace A9 := kB A9 hb; replace A3 := kB A3 hb; replace HB := bB HB hb; (try clear hb); (try clear C0); (try clear hk); (try clear hi)) | ((with_reducible refine gq (N := 13) rfl ?_); refine be (N := 13) (cs := #[.int .i64 0, .int .i64 0]) (t := 89) ?_; intro Ag hg HG hbox hb; have Ai := Z.m (hbox); have AW := gW (w := w) HB hg; have AZ := AW; have AC := neL A2 hg; have AM := neG A2 hg; have Ao := neL A6 hg; have Az := neG A6 hg; have Ar := neL A9 hg; have AA := neG A9 hg; have AD := neL A3 hg; have AN := neG A3 hg; replace A0 := Z.m (Kd.Rb (Kd.R_elderB (vR A0) Ag (Nat.le_of_eq hg.symm)) hb); replace Aj := Z.m (Kd.S_below (vS Aj) hb); replace A2 := kB A2 hb; replace A6 := kB A6 hb; replace A9 := kB A9 hb; replace A3 := kB A3 hb; replace HB := bB HB hb; clear hb hbox hg; have Gm := AM.o; have GQ := AC.o; have Gn := Az.o; have GR := Ao.o; have Go := AA.o; have GS := Ar.o; have Gp := AN.o; have GT := AD.o; have DR := bc0 Ai; have DS := bc1 Ai; have Ew := qz Ai.o 0; have Ex := qz Ai.o 1) | ((with_reducible refine gc (f := 84) rfl ?_); refine gA (some 43) _ #[.agg #[.int .i64 AE, .int .i64 AG], .int .i64 AQ] ?_ Try.func84; (with_reducible refine (spec_paGoes.calls k1 AE AG AQ AB _ FZ.o).mono ?_); rintro e HH ⟨rfl, hb⟩; refine ⟨_, rfl, ?_⟩; replace A0 := Z.m (Kd.Rb (by refine rK ?_; exact (Kd.Rm (rf (rf (Kd.Rm A0.o (fun k_ hk => (⟨hk, hk.2⟩ : _ ∧ k_ ≠ Ag))))) (fun _ h_ => h_.1))) hb); replace Aj := Z.m (Kd.S_below (by (with_reducible repeat (first | apply Kd.S_alloc | apply Kd.S_drewN | apply Kd.S_drew)); exact (Kd.S_mono (Kd.S_far (p := ⟨Ag, 1, none⟩) (Kd.S_far (p := ⟨Ag, 0, none⟩) (Kd.S_types Aj.o Ai.o (by decide)) (fun _ hk => hk.2) (.int .i64 AE)) (fun _ hk => hk.2) (.int .i64 AG)) (fun _ h_ => h_.1))) hb); replace A2 := Z.m (qb (g := AO) (o := .cells #[.int .i64 a0_0, .int .i64 a0_1, .slice A0_2 l0_2.length c0_2] 32 (0, 0)) (by refine bK ?_; (iterate 2 refine qF ?_ AC); exact A2.o) hb); replace A6 := Z.m (qb (g := Ax) (o := .cells #[.int .i64 As, .int .i64 At, .int .i64 Au] 27 (0, 0)) (by refine bK ?_; (iterate 2 refine qF ?_ Ao); exact A6.o) hb); replace A9 := Z.m (qb (g := Ay) (o := .cells #[.int .i64 Av, .int .i64 Aw, .slice none 0 0] 32 (0, 0)) (by refine bK ?_; (iterate 2 refine qF ?_ Ar); exact A9.o) hb); replace A3 := Z.m (qb (g := AF) (o := .cells #[.int .i64 Ak, .int .i64 Al, .slice B7 A5.length Bb] 32 (0, 0)) (by refine bK ?_; (iterate 2 refine qF ?_ AD); exact A3.o) hb); replace Ai := Z.m (qb (g := Ag) (o := .cells #[.int .i64 AE, .int .i64 AG] 89 (0, 0)) (by refine bK ?_; refine qp (cs := #[iV AE, iV 0]) ?_ 1 _ rfl; refine bK ?_; refine qp (cs := #[iV 0, iV 0]) ?_ 0 _ rfl; refine bK ?_; exact Ai.o) hb); replace HB := bB HB hb; (try clear hb); (try clear C0); (try clear hk); (try clear hi); have DT := bc0 A3; have DU := bc1 A3; have DV := bc2 A3; have Ey := qz A3.o 0; have Ez := qz A3.o 1; have EA := qz A3.o 2; have DW := bc0 A2; have DX := bc1 A2; have DY := bc2 A2; have EB := qz A2.o 0; have EC := qz A2.o 1; have ED := qz A2.o 2) | ((with_reducible refine gc (f := 85) rfl ?_); refine gA (some 52) _ #[.agg #[.int .i64 Ak, .int .i64 Al, .slice B7 A5.length Bb], .slice A1 l1.length c1, .int .i64 (wrap64 ((wrap64 (Ac * a0_1)) + Af))] ?_ Try.func85; (with_reducible refine (spec_flPass.calls k1 Ak Al (fun k_ => some k_ = (.slice B7 A5.length Bb : Value).ownBlock) (.slice B7 A5.length Bb) A5 _ _ l1 (wrap64 ((wrap64 (Ac * a0_1)) + Af)) AI w _ ?side1 ?side2 ?side3 ?side4 G0.o).mono ?_); (case side1 => repeat (first | (with_reducible first | exact HB.o | apply qa | apply qn | apply qd | refine qx ?_ BB.o | refine qx ?_ BC.o | refine qx ?_ BD.o | refine qx ?_ BE.o | refine qx ?_ AZ.o) | exact HB.o)); (case side2 => exact Kd.Rg rfl A0.o); (case side3 => exact Kd.C_kept_came (Kd.heap_int .i64) G4.o (vB HB) (fun k_ hs_ => (fun e_ => Kd.R_base A0.o k_ e_.symm) hs_)); (case side4 => exact G2.o); rintro e HI ⟨rfl, DB, hb, hkp⟩; refine ⟨_, rfl, ?_⟩; replace A2 := Z.m (qk (vK A2) hkp (fun hs_ => (fun e_ => (Kd.R_ne A0.o A2.o (by decide)) e_) hs_)); replace A6 := Z.m (qk (vK A6) hkp (fun hs_ => (fun e_ => (Kd.R_ne A0.o A6.o (by decide)) e_) hs_)); replace A9 := Z.m (qk (vK A9) hkp (fun hs_ => (fun e_ => (Kd.R_ne A0.o A9.o (by decide)) e_) hs_)); replace A3 := Z.m (qk (vK A3) hkp (fun hs_ => (fun e_ => (Kd.R_ne A0.o A3.o (by decide)) e_) hs_)); replace Aj := Z.m (Kd.S_mono (ok' := fun k_ => True) (Kd.S_keptB ((Kd.S_apart' Aj.o (Kd.Rt A0.o) (by decide))) hkp (fun k_ hk_ hs_ => (hk_.2) hs_)) (fun k_ hk_ => trivial)); replace Ai := Z.m (qk (vK Ai) hkp (fun hs_ => (fun e_ => (Kd.R_away A0.o (fun _ hk => hk.2)) e_) hs_)); replace A0 := Z.m (Kd.Re rfl DB (fun k_ e_ => A0.o.1 k_ e_)); replace HB := Z.m (hb); (try clear hb); (try clear hkp); (try clear DB); have DZ := bc0 A2; have E0 := bc1 A2; have E1 := bc2 A2; have EE := qz A2.o 0; have EF := qz A2.o 1; have EG := qz A2.o 2) | ((with_reducible refine gc (f := 71) rfl ?_); refine gA (some 62) _ #[.int .i64 (wrap64 (Af + AB)), .int .i64 0, .int .i64 (wrap64 (a0_1 - 1))] ?_ Try.func71; (with_reducible refine (spec_l1In.calls (wrap64 (Af + AB)) 0 (wrap64 (a0_1 - 1)) true _ G1.o).mono ?_); rintro e w' ⟨rfl, ⟨nd, rfl⟩⟩; refine ⟨_, rfl, ?_⟩))
       go_roundg k1
       case measure => have := G3.o; omega
       case rel => exact ⟨(wrap64 (Af + AB)), (AK), (wrap64 (-AB)), (wrap64 (Ac + 1)), (As), (At), (Au), (Av), (Aw), (AI), (.slice B7 A5.length Bb), (by first | rfl | (simp; done) | (simp [*]; done)), (by first | rfl | (simp; done) | (simp [*]; done)), (by first | rfl | (simp; done) | (simp [*]; done)), H', ⟨by have := G3.o; omega⟩, ⟨vS Aj⟩, ⟨by refine rK ?_; exact Kd.Rm A0.o (fun _ hk => trivial)⟩, ⟨vK A2⟩, ⟨vK A6⟩, ⟨vK A9⟩, ⟨vK A3⟩, ⟨vB HB⟩⟩
      ·replace c52 := Bool.eq_false_iff.mpr c52
       subst c52
       have H1 : (some (3, Ac, wrap64 (Af + AB), Ak, Al, AI, AK)) = some (r1, r2, r3, r4, r5, r6, r7) := by rw [if_neg (show ¬ (false = true) by decide)] at H; exact H
       clear H
       have H := H1
       clear H1
       simp only [Option.some.injEq, Prod.mk.injEq] at H
       obtain ⟨rfl, rfl, rfl, rfl, rfl, rfl, rfl⟩ := H
       have Gq := Aa.o
       have GU := Am.o
       have Gr := Ab.o
       have GV := Ap.o
       have Gs := AH.o
       have GW := AL.o
       have E2 := bc0 A2
       have E3 := bc1 A2
       have E4 := bc2 A2
       have EH := qz A2.o 0
       have EI := qz A2.o 1
       have EJ := qz A2.o 2
       try go_wp2_with (first | ((with_reducible refine gq (N := 26) rfl ?_); refine Kd.R_lit (Kd.int .i64) _ 3 ?hg (N := 26) ?hd (xs := ([Ac, Af] : List Int)) (inner := [.int .i64 Ac, .int .i64 Af]) (ok := fun _ => True) (okp := fun _ => True) ?hr ?hp (fun _ hk => hk) trivial (Below.refl _ _) (Nat.le_refl _) (by simp) ?_; (case hd => rfl); (case hg => rfl); (case hr => first | (go_simp; done) | (go_simp; rfl)); (case hp => exact (Reps.one (show Kd.M (Kd.int .i64) _ _ _ Ac [.int .i64 Ac] from rfl) (Reps.one (show Kd.M (Kd.int .i64) _ _ _ Af [.int .i64 Af] from rfl) (Reps.none _ _)))); intro DC HJ Be hb hg_ hnew_; clear hg_ hnew_; (first | rw [← AV.o] at Be | (simp only [Int.reduceToNat] at Be; rw [← AV.o] at Be)); have AJ := Z.m (Kd.R_lower Be (below_size (vB HB))); replace Ah := Z.m (Kd.S_elder' (vS Ah) (Kd.R_base Be) hb); replace A0 := Z.m (Kd.Rb (vR A0) hb); replace A2 := kB A2 hb; replace A6 := kB A6 hb; replace A9 := kB A9 hb; replace A3 := kB A3 hb; replace HB := bB HB hb; clear hb Be; obtain ⟨BN, BZ, FQ⟩ := Kd.R_slice AJ.o; subst FQ) | ((with_reducible refine gu (b := .append) (xs := #[.tmp 23, .tmp 27]) rfl ?_); at_builtin; refine Kd.S_append (Kd.slice 3 (Kd.int .i64)) (w0 := w) w.heap.size rfl (.tmp 23) (.tmp 27) 54 43 (.slice none 0 0) 24 rfl Try.underlying54 info43 rfl (by decide) (by omega) u10 AP AS [.slice BN AS.length BZ] (fun _ => True) (fun k_ => some k_ = (.slice BN AS.length BZ : Value).ownBlock) rfl rfl ?aP (fun k_ hk_ => ((Kd.Rm (ok' := fun k_ => ((fun _ => True)) k_ ∧ some k_ ≠ (u10 : Value).ownBlock) (Kd.Ra (AJ.o) (Kd.S_typed Ah.o) (by decide)) (fun k_ hk => ⟨trivial, hk.2⟩))).1 k_ hk_.symm) ?aF ?aO ?aB ?aS ?aL ?_; (case aP => exact Kd.M_row (Kd.Rm (Kd.Rg rfl (Kd.Rm (ok' := fun k_ => ((fun _ => True)) k_ ∧ some k_ ≠ (u10 : Value).ownBlock) (Kd.Ra (AJ.o) (Kd.S_typed Ah.o) (by decide)) (fun k_ hk => ⟨trivial, hk.2⟩))) (fun _ h_ => h_))); (case aB => exact (vB HB)); (case aF => exact (fun _ _ => trivial)); (case aO => exact (by (with_reducible repeat (first | apply Kd.S_alloc | apply Kd.S_drewN | apply Kd.S_drew)); exact Kd.S_mono Ah.o (fun k_ hk => ⟨trivial, fun e_ => hk.2 e_⟩))); (case aS => exact (below_size (vB HB))); (case aL => have := Bj.o; omega); intro Bz HK ho hb hg hat; rw [← Bk.o] at ho; have Aj := Z.m (ho); replace A0 := Z.m (Kd.Ro (vR A0) (Kd.S_typed (vS Ah)) (by decide) hg); replace A2 := Z.m (qg (g := AO) (o := .cells #[.int .i64 a0_0, .int .i64 a0_1, .slice A0_2 l0_2.length c0_2] 32 (0, 0)) (vK A2) hg (Kd.S_ne Ah.o A2.o (by decide))); replace A6 := Z.m (qg (g := Ax) (o := .cells #[.int .i64 As, .int .i64 At, .int .i64 Au] 27 (0, 0)) (vK A6) hg (Kd.S_ne Ah.o A6.o (by decide))); replace A9 := Z.m (qg (g := Ay) (o := .cells #[.int .i64 Av, .int .i64 Aw, .slice none 0 0] 32 (0, 0)) (vK A9) hg (Kd.S_ne Ah.o A9.o (by decide))); replace A3 := Z.m (qg (g := AF) (o := .cells #[.int .i64 Ak, .int .i64 Al, u223002] 32 (0, 0)) (vK A3) hg (Kd.S_ne Ah.o A3.o (by decide))); replace HB := Z.m (hb); clear Ah AJ; clear ho hb hg hat; have Gt := A7.o; have GX := An.o; have Gu := A8.o; have GY := Aq.o; have E5 := bc0 A3; have E6 := bc1 A3; have E7 := bc2 A3; have EK := qz A3.o 0; have EL := qz A3.o 1; have EM := qz A3.o 2; obtain ⟨AT, AU, FR⟩ := Kd.R_slice A0.o; subst FR) | ((with_reducible refine gc (f := 83) rfl ?_); refine gA (some 32) _ #[.agg #[.int .i64 Ak, .int .i64 Al, .slice AT A5.length AU], .int .i64 Ac, .int .i64 Af] ?_ Try.func83; (with_reducible refine (spec_boAt.calls Ak Al _ _ A5 Ac Af AE AG _ ?side1 ?side2 FH.o).mono ?_); (case side1 => repeat (first | exact (Kd.RrZ A0.o).2.2 | (with_reducible refine Kd.C_alloc ?_ _) | (with_reducible refine Kd.C_drewN ?_ _) | (with_reducible refine Kd.C_drew ?_))); (case side2 => exact (Kd.RrZ A0.o).2.1); rintro e HL ⟨rfl, hb⟩; refine ⟨_, rfl, ?_⟩; replace A0 := Z.m (Kd.Rb (vR A0) hb); replace Aj := Z.m (Kd.S_below (vS Aj) hb); replace A2 := kB A2 hb; replace A6 := kB A6 hb; replace A9 := kB A9 hb; replace A3 := kB A3 hb; replace HB := bB HB hb; (try clear hb); (try clear C0); (try clear hk); (try clear hi)) | ((with_reducible refine gq (N := 13) rfl ?_); refine be (N := 13) (cs := #[.int .i64 0, .int .i64 0]) (t := 89) ?_; intro Ag hg HM hbox hb; have Ai := Z.m (hbox); have AW := gW (w := w) HB hg; have AZ := AW; have AC := neL A2 hg; have AM := neG A2 hg; have Ao := neL A6 hg; have Az := neG A6 hg; have Ar := neL A9 hg; have AA := neG A9 hg; have AD := neL A3 hg; have AN := neG A3 hg; replace A0 := Z.m (Kd.Rb (Kd.R_elderB (vR A0) Ag (Nat.le_of_eq hg.symm)) hb); replace Aj := Z.m (Kd.S_below (vS Aj) hb); replace A2 := kB A2 hb; replace A6 := kB A6 hb; replace A9 := kB A9 hb; replace A3 := kB A3 hb; replace HB := bB HB hb; clear hb hbox hg; have Gv := AM.o; have GZ := AC.o; have Gw := Az.o; have H0 := Ao.o; have Gx := AA.o; have H2 := Ar.o; have Gy := AN.o; have H3 := AD.o; have E8 := bc0 Ai; have E9 := bc1 Ai; have EN := qz Ai.o 0; have EO := qz Ai.o 1) | ((with_reducible refine gc (f := 84) rfl ?_); refine gA (some 43) _ #[.agg #[.int .i64 AE, .int .i64 AG], .int .i64 AQ] ?_ Try.func84; (with_reducible refine (spec_paGoes.calls k1 AE AG AQ AB _ FZ.o).mono ?_); rintro e HN ⟨rfl, hb⟩; refine ⟨_, rfl, ?_⟩; replace A0 := Z.m (Kd.Rb (by refine rK ?_; exact (Kd.Rm (rf (rf (Kd.Rm A0.o (fun k_ hk => (⟨hk, hk.2⟩ : _ ∧ k_ ≠ Ag))))) (fun _ h_ => h_.1))) hb); replace Aj := Z.m (Kd.S_below (by (with_reducible repeat (first | apply Kd.S_alloc | apply Kd.S_drewN | apply Kd.S_drew)); exact (Kd.S_mono (Kd.S_far (p := ⟨Ag, 1, none⟩) (Kd.S_far (p := ⟨Ag, 0, none⟩) (Kd.S_types Aj.o Ai.o (by decide)) (fun _ hk => hk.2) (.int .i64 AE)) (fun _ hk => hk.2) (.int .i64 AG)) (fun _ h_ => h_.1))) hb); replace A2 := Z.m (qb (g := AO) (o := .cells #[.int .i64 a0_0, .int .i64 a0_1, .slice A0_2 l0_2.length c0_2] 32 (0, 0)) (by refine bK ?_; (iterate 2 refine qF ?_ AC); exact A2.o) hb); replace A6 := Z.m (qb (g := Ax) (o := .cells #[.int .i64 As, .int .i64 At, .int .i64 Au] 27 (0, 0)) (by refine bK ?_; (iterate 2 refine qF ?_ Ao); exact A6.o) hb); replace A9 := Z.m (qb (g := Ay) (o := .cells #[.int .i64 Av, .int .i64 Aw, .slice none 0 0] 32 (0, 0)) (by refine bK ?_; (iterate 2 refine qF ?_ Ar); exact A9.o) hb); replace A3 := Z.m (qb (g := AF) (o := .cells #[.int .i64 Ak, .int .i64 Al, .slice AT A5.length AU] 32 (0, 0)) (by refine bK ?_; (iterate 2 refine qF ?_ AD); exact A3.o) hb); replace Ai := Z.m (qb (g := Ag) (o := .cells #[.int .i64 AE, .int .i64 AG] 89 (0, 0)) (by refine bK ?_; refine qp (cs := #[iV AE, iV 0]) ?_ 1 _ rfl; refine bK ?_; refine qp (cs := #[iV 0, iV 0]) ?_ 0 _ rfl; refine bK ?_; exact Ai.o) hb); replace HB := bB HB hb; (try clear hb); (try clear C0); (try clear hk); (try clear hi); have Ea := bc0 A3; have Eb := bc1 A3; have Ec := bc2 A3; have EP := qz A3.o 0; have EQ := qz A3.o 1; have ER := qz A3.o 2; have Ed := bc0 A2; have Ee := bc1 A2; have Ef := bc2 A2; have ES := qz A2.o 0; have ET := qz A2.o 1; have EU := qz A2.o 2) | ((with_reducible refine gc (f := 85) rfl ?_); refine gA (some 52) _ #[.agg #[.int .i64 Ak, .int .i64 Al, .slice AT A5.length AU], .slice A1 l1.length c1, .int .i64 (wrap64 ((wrap64 (Ac * a0_1)) + Af))] ?_ Try.func85; (with_reducible refine (spec_flPass.calls k1 Ak Al (fun k_ => some k_ = (.slice AT A5.length AU : Value).ownBlock) (.slice AT A5.length AU) A5 _ _ l1 (wrap64 ((wrap64 (Ac * a0_1)) + Af)) AI w _ ?side1 ?side2 ?side3 ?side4 G0.o).mono ?_); (case side1 => repeat (first | (with_reducible first | exact HB.o | apply qa | apply qn | apply qd | refine qx ?_ BB.o | refine qx ?_ BC.o | refine qx ?_ BD.o | refine qx ?_ BE.o | refine qx ?_ AZ.o) | exact HB.o)); (case side2 => exact Kd.Rg rfl A0.o); (case side3 => exact Kd.C_kept_came (Kd.heap_int .i64) G4.o (vB HB) (fun k_ hs_ => (fun e_ => Kd.R_base A0.o k_ e_.symm) hs_)); (case side4 => exact G2.o); rintro e Bh ⟨rfl, DB, hb, hkp⟩; refine ⟨_, rfl, ?_⟩; replace A2 := Z.m (qk (vK A2) hkp (fun hs_ => (fun e_ => (Kd.R_ne A0.o A2.o (by decide)) e_) hs_)); replace A6 := Z.m (qk (vK A6) hkp (fun hs_ => (fun e_ => (Kd.R_ne A0.o A6.o (by decide)) e_) hs_)); replace A9 := Z.m (qk (vK A9) hkp (fun hs_ => (fun e_ => (Kd.R_ne A0.o A9.o (by decide)) e_) hs_)); replace A3 := Z.m (qk (vK A3) hkp (fun hs_ => (fun e_ => (Kd.R_ne A0.o A3.o (by decide)) e_) hs_)); replace Aj := Z.m (Kd.S_mono (ok' := fun k_ => True) (Kd.S_keptB ((Kd.S_apart' Aj.o (Kd.Rt A0.o) (by decide))) hkp (fun k_ hk_ hs_ => (hk_.2) hs_)) (fun k_ hk_ => trivial)); replace Ai := Z.m (qk (vK Ai) hkp (fun hs_ => (fun e_ => (Kd.R_away A0.o (fun _ hk => hk.2)) e_) hs_)); replace A0 := Z.m (Kd.Re rfl DB (fun k_ e_ => A0.o.1 k_ e_)); replace HB := Z.m (hb); (try clear hb); (try clear hkp); (try clear DB); have C1 := bc0 A2; have C2 := bc1 A2; have C3 := bc2 A2; have C7 := qz A2.o 0; have C8 := qz A2.o 1; have C9 := qz A2.o 2) | ((with_reducible refine gc (f := 71) rfl ?_); refine gA (some 62) _ #[.int .i64 (wrap64 (Af + AB)), .int .i64 0, .int .i64 (wrap64 (a0_1 - 1))] ?_ Try.func71; (with_reducible refine (spec_l1In.calls (wrap64 (Af + AB)) 0 (wrap64 (a0_1 - 1)) false _ G1.o).mono ?_); rintro e w' ⟨rfl, ⟨nd, rfl⟩⟩; refine ⟨_, rfl, ?_⟩; (try (rw [drewN_self Bh]; generalize hq_ : World.drewN Bh _ = Bh; replace Aj : Z (Kd.S (Kd.slice 3 (Kd.int .i64)) 43 Bh w.heap.size (fun _ => True) Bz AK) := ⟨by rw [← hq_]; exact (vS Aj)⟩; replace A0 : Z (Kd.R k89 89 Bh w.heap.size (fun k_ => k_ ≠ Ag) (.slice AT A5.length AU) AI) := ⟨by rw [← hq_]; exact (by refine rK ?_; exact Kd.Rm A0.o (fun _ hk => hk.2))⟩; replace A2 : Z (Bh.heap[AO]? = some (.cells #[.int .i64 a0_0, .int .i64 a0_1, .slice A0_2 l0_2.length c0_2] 32 (0, 0))) := ⟨by rw [← hq_]; exact (vK A2)⟩; replace A6 : Z (Bh.heap[Ax]? = some (.cells #[.int .i64 As, .int .i64 At, .int .i64 Au] 27 (0, 0))) := ⟨by rw [← hq_]; exact (vK A6)⟩; replace A9 : Z (Bh.heap[Ay]? = some (.cells #[.int .i64 Av, .int .i64 Aw, .slice none 0 0] 32 (0, 0))) := ⟨by rw [← hq_]; exact (vK A9)⟩; replace A3 : Z (Bh.heap[AF]? = some (.cells #[.int .i64 Ak, .int .i64 Al, .slice AT A5.length AU] 32 (0, 0))) := ⟨by rw [← hq_]; exact (vK A3)⟩; replace Ai : Z (Bh.heap[Ag]? = some (.cells #[.int .i64 AE, .int .i64 AG] 89 (0, 0))) := ⟨by rw [← hq_]; exact (vK Ai)⟩; replace HB : Z (Below w.heap.size w Bh) := ⟨by rw [← hq_]; exact (vB HB)⟩; clear hq_))))
       replace A0 := Z.m (Kd.R_drew A0.o)
       replace Aj := Z.m (Kd.S_drew Aj.o)
       replace A2 := Z.m (blk_drew A2.o)
       replace A6 := Z.m (blk_drew A6.o)
       replace A9 := Z.m (blk_drew A9.o)
       replace A3 := Z.m (blk_drew A3.o)
       replace Ai := Z.m (blk_drew Ai.o)
       replace HB := Z.m (qd HB.o)
       refine start_ (n := 8) (S := fun w' => w'.cell? ⟨AF, 0, none⟩ = some (.int .i64 Ak) ∧ w'.cell? ⟨AF, 1, none⟩ = some (.int .i64 Al) ∧ w'.cell? ⟨AF, 2, none⟩ = some (.slice AT A5.length AU)) (ds := []) #[false, false, false, false, false, false, false, false] (by kernel_rfl) rfl rfl ⟨(ql A3.o 0).trans rfl, (ql A3.o 1).trans rfl, (ql A3.o 2).trans rfl⟩ (fun hHeld => ?_); refine with_tabW spec_flGo.tab16 spec_flGo.bits16 (fun HT_ HW_ => ?_)
       generalize Bh.drew = Bf at A0 Aj A2 A6 A9 A3 Ai HB hHeld ⊢
       refine pure_ (i := 0) (N := some 64) (v := ?_) (a' := ?_) #[true, false, false, false, false, false, false, false] rfl rfl (any_of HT_.o (by kernel_rfl)) (fun _ _ _ h => h) (Or.inl ⟨by rfl, ?_⟩) ?_ ?_
       rotate_left
       ·intro w'
        go_simp
        with_reducible rfl
       rotate_left
       ·simp only [Act.put, q1, q2, q3, i64_w, i32_w]
        rfl
       refine pure_ (i := 1) (N := some 65) (v := ?_) (a' := ?_) #[true, true, false, false, false, false, false, false] rfl rfl (any_of HT_.o (by kernel_rfl)) (fun _ _ _ h => h) (Or.inl ⟨by rfl, ?_⟩) ?_ ?_
       rotate_left
       ·intro w'
        go_simp
        with_reducible rfl
       rotate_left
       ·simp only [Act.put, q1, q2, q3, i64_w, i32_w]
        rfl
       refine pure_ (i := 2) (N := some 66) (v := ?_) (a' := ?_) #[true, true, true, false, false, false, false, false] rfl rfl (any_of HT_.o (by kernel_rfl)) (fun _ _ _ h => h) (Or.inl ⟨by rfl, ?_⟩) ?_ ?_
       rotate_left
       ·intro w'
        go_simp
        with_reducible rfl
       rotate_left
       ·simp only [Act.put, q1, q2, q3, i64_w, i32_w]
        rfl
       refine pure_ (i := 4) (N := some 68) (v := ?_) (a' := ?_) #[true, true, true, false, true, false, false, false] rfl rfl (any_of HT_.o (by kernel_rfl)) (fun _ _ _ h => h) (Or.inl ⟨by rfl, ?_⟩) ?_ ?_
       rotate_left
       ·intro w'
        go_simp
        with_reducible rfl
       rotate_left
       ·simp only [Act.put, q1, q2, q3, i64_w, i32_w]
        rfl
       refine take_ (i := 3) (N := some 67) (v := ?_) (a' := ?_) #[true, true, true, true, true, false, false, false] rfl rfl (take_ofW HT_.o HW_.o (by kernel_rfl)) (fun _ _ _ h => h) (Or.inl ⟨by rfl, ?_⟩) hHeld ?_ ?_
       rotate_left
       ·rintro w' ⟨s0, s1, s2⟩
        go_simp
        with_reducible rfl
       rotate_left
       ·simp only [Act.put, q1, q2, q3, i64_w, i32_w]
        rfl
       refine one_ (i := 5) (N := none) #[true, true, true, true, true, true, false, false] rfl rfl (one_of HT_.o (by kernel_rfl)) (by decide) (fun K hK => ?_)
       have H5 : Bf.cell? ⟨Ax, 0, none⟩ = some (.int .i64 As) := (ql A6.o 0).trans rfl
       have hfs102 := qz A6.o 0
       have CV := Aa.o
       have CW := Ae.o
       have CX := A7.o
       have CY := Az.o
       have Ce := Am.o
       have Cf := Ad.o
       have Cg := An.o
       have Ch := Ao.o
       have H6 : Bf.cell? ⟨Ax, 1, none⟩ = some (.int .i64 At) := (ql A6.o 1).trans rfl
       have hfs103 := qz A6.o 1
       have CZ := Aa.o
       have D0 := Ae.o
       have D1 := A7.o
       have D2 := Az.o
       have Ci := Am.o
       have Cj := Ad.o
       have Cl := An.o
       have Cm := Ao.o
       have H7 : Bf.cell? ⟨Ax, 2, none⟩ = some (.int .i64 Au) := (ql A6.o 2).trans rfl
       have hfs104 := qz A6.o 2
       have D3 := Aa.o
       have D4 := Ae.o
       have D5 := A7.o
       have D6 := Az.o
       have Cn := Am.o
       have Co := Ad.o
       have Cp := An.o
       have Cq := Ao.o
       refine skip_ (w1 := ?_) ?hwx ?hnx ?_ ?_; (case hwx => rfl); (case hnx => rfl)
       rotate_left
       ·go_simp
        rfl
       refine hK.out _ _ ⟨(cx A7.o ((cx A7.o ((cx A7.o (hHeld.1)))))), (cx A7.o ((cx A7.o ((cx A7.o (hHeld.2.1)))))), (cx A7.o ((cx A7.o ((cx A7.o (hHeld.2.2))))))⟩ (fun hHeld => ?_)
       clear hK K
       refine one_ (i := 6) (N := none) #[true, true, true, true, true, true, true, false] rfl rfl (one_of HT_.o (by kernel_rfl)) (by decide) (fun K hK => ?_)
       have H8 : Bf.cell? ⟨Ay, 0, none⟩ = some (.int .i64 Av) := (ql A9.o 0).trans rfl
       have hfs105 := qz A9.o 0
       have D7 := Ab.o
       have D8 := Ad.o
       have D9 := A8.o
       have Da := AA.o
       have Cr := Ap.o
       have Cs := Ae.o
       have Ct := Aq.o
       have Cu := Ar.o
       have H9 : Bf.cell? ⟨Ay, 1, none⟩ = some (.int .i64 Aw) := (ql A9.o 1).trans rfl
       have hfs106 := qz A9.o 1
       have Db := Ab.o
       have Dc := Ad.o
       have Dd := A8.o
       have De := AA.o
       have Cv := Ap.o
       have Cw := Ae.o
       have Cx := Aq.o
       have Cy := Ar.o
       have Ha : Bf.cell? ⟨Ay, 2, none⟩ = some (.slice none 0 0) := (ql A9.o 2).trans rfl
       have hfs107 := qz A9.o 2
       have Df := Ab.o
       have Dg := Ad.o
       have Dh := A8.o
       have Di := AA.o
       have Cz := Ap.o
       have CA := Ae.o
       have CB := Aq.o
       have CC := Ar.o
       refine skip_ (w1 := ?_) ?hwx ?hnx ?_ ?_; (case hwx => rfl); (case hnx => rfl)
       rotate_left
       ·go_simp
        rfl
       refine hK.out _ _ ⟨(cx A8.o ((cx A8.o ((cx A8.o (hHeld.1)))))), (cx A8.o ((cx A8.o ((cx A8.o (hHeld.2.1)))))), (cx A8.o ((cx A8.o ((cx A8.o (hHeld.2.2))))))⟩ (fun hHeld => ?_)
       clear hK K
       refine pure_ (i := 7) (N := some 8) (v := ?_) (a' := ?_) #[true, true, true, true, true, true, true, true] rfl rfl (any_of HT_.o (by kernel_rfl)) (fun _ _ _ h => h) (Or.inl ⟨by rfl, ?_⟩) ?_ ?_
       rotate_left
       ·intro w'
        go_simp
        with_reducible rfl
       rotate_left
       ·simp only [Act.put, q1, q2, q3, i64_w, i32_w]
        rfl
       refine done_ (done_of HT_.o (by kernel_rfl)) ?_
       try go_wp2
       refine bodyPost_ret (rl (rs := [.cell 6 27, .cell 7 32, .tmp 8]) rfl (by simp) (.cell Ax 27 #[.int .i64 3, .int .i64 Ac, .int .i64 (wrap64 (Af + AB))] (0, 0) _ rfl (by refine bK ?_; (iterate 3 refine qF ?_ Ad); apply st3; refine bK ?_; exact A6.o) Try.underlying27 rfl (by kernel_rfl) (.cell Ay 32 #[.int .i64 Ak, .int .i64 Al, .slice AT A5.length AU] (0, 0) _ rfl (by refine bK ?_; apply st3; refine bK ?_; (iterate 3 refine qF ?_ Ae); exact A9.o) Try.underlying32 rfl (by kernel_rfl) (.tmp .nil)))) rfl ?_
       exact ⟨_, _, by first | rfl | (simp [eN, eS] <;> rfl) | (simp [*, eN, eS] <;> rfl), by refine rK ?_; exact Kd.Rm (rf (rf (rf (rf1 (rf1 (rf1 (Kd.Ry (Kd.Ry A0.o A6.o (by decide)) A9.o (by decide)))))))) (fun _ hk => trivial), by (with_reducible repeat (first | apply Kd.S_alloc | apply Kd.S_drewN | apply Kd.S_drew)); exact Kd.S_mono (Kd.S_far (p := ⟨Ay, 2, none⟩) (Kd.S_far (p := ⟨Ay, 1, none⟩) (Kd.S_far (p := ⟨Ay, 0, none⟩) (Kd.S_far (p := ⟨Ax, 2, none⟩) (Kd.S_far (p := ⟨Ax, 1, none⟩) (Kd.S_far (p := ⟨Ax, 0, none⟩) (Kd.S_types (Kd.S_types Aj.o A6.o (by decide)) A9.o (by decide)) (fun _ hk => hk.1.2) (.int .i64 3)) (fun _ hk => hk.1.2) (.int .i64 Ac)) (fun _ hk => hk.1.2) (.int .i64 (wrap64 (Af + AB)))) (fun _ hk => hk.2) (.int .i64 Ak)) (fun _ hk => hk.2) (.int .i64 Al)) (fun _ hk => hk.2) (.slice AT A5.length AU)) (fun _ hk => trivial), vB HB⟩
    ·rw [if_neg c19] at H
     exact absurd H (by simp)
   ·rw [if_neg c18] at H
    have BU := decide_eq_false c18
    clear c18
    simp only [Option.some.injEq, Prod.mk.injEq] at H
    obtain ⟨rfl, rfl, rfl, rfl, rfl, rfl, rfl⟩ := H
    have FS := Aa.o
    have FV := Am.o
    have FT := Ab.o
    have FW := Ap.o
    have FU := AH.o
    have FX := AL.o
    have C4 := bc0 A2
    have C5 := bc1 A2
    have C6 := bc2 A2
    have Ca := qz A2.o 0
    have Cb := qz A2.o 1
    have Cd := qz A2.o 2
    try go_wp2
    replace Ah := Z.m (Kd.S_drew Ah.o)
    replace A0 := Z.m (Kd.R_drew A0.o)
    replace A2 := Z.m (blk_drew A2.o)
    replace A6 := Z.m (blk_drew A6.o)
    replace A9 := Z.m (blk_drew A9.o)
    replace A3 := Z.m (blk_drew A3.o)
    replace HB := Z.m (qd HB.o)
    obtain ⟨Bi, Bl, BF⟩ := Kd.R_slice A0.o
    (first | subst BF | (injection BF with f1_ f2_ f3_; have f4_ := f1_.symm; have f5_ := f3_.symm; clear f1_ f2_ f3_; subst f4_; subst f5_))
    refine start_ (n := 9) (S := fun w' => w'.cell? ⟨AO, 0, none⟩ = some (.int .i64 a0_0) ∧ w'.cell? ⟨AO, 1, none⟩ = some (.int .i64 a0_1) ∧ w'.cell? ⟨AO, 2, none⟩ = some (.slice A0_2 l0_2.length c0_2) ∧ w'.cell? ⟨AF, 0, none⟩ = some (.int .i64 Ak) ∧ w'.cell? ⟨AF, 1, none⟩ = some (.int .i64 Al) ∧ w'.cell? ⟨AF, 2, none⟩ = some (.slice Bi A5.length Bl)) (ds := []) #[false, false, false, false, false, false, false, false, false] (by kernel_rfl) rfl rfl ⟨(ql A2.o 0).trans rfl, (ql A2.o 1).trans rfl, (ql A2.o 2).trans rfl, (ql A3.o 0).trans rfl, (ql A3.o 1).trans rfl, (ql A3.o 2).trans rfl⟩ (fun hHeld => ?_); refine with_tabW spec_flGo.tab17 spec_flGo.bits17 (fun HT_ HW_ => ?_)
    generalize wr.drew = Bg at Ah A0 A2 A6 A9 A3 HB hHeld ⊢
    refine pure_ (i := 0) (N := some 69) (v := ?_) (a' := ?_) #[true, false, false, false, false, false, false, false, false] rfl rfl (any_of HT_.o (by kernel_rfl)) (fun _ _ _ h => h) (Or.inl ⟨by rfl, ?_⟩) ?_ ?_
    rotate_left
    ·intro w'
     go_simp
     with_reducible rfl
    rotate_left
    ·simp only [Act.put, q1, q2, q3, i64_w, i32_w]
     rfl
    refine pure_ (i := 2) (N := some 71) (v := ?_) (a' := ?_) #[true, false, true, false, false, false, false, false, false] rfl rfl (any_of HT_.o (by kernel_rfl)) (fun _ _ _ h => h) (Or.inl ⟨by rfl, ?_⟩) ?_ ?_
    rotate_left
    ·intro w'
     go_simp
     with_reducible rfl
    rotate_left
    ·simp only [Act.put, q1, q2, q3, i64_w, i32_w]
     rfl
    refine pure_ (i := 5) (N := some 74) (v := ?_) (a' := ?_) #[true, false, true, false, false, true, false, false, false] rfl rfl (any_of HT_.o (by kernel_rfl)) (fun _ _ _ h => h) (Or.inl ⟨by rfl, ?_⟩) ?_ ?_
    rotate_left
    ·intro w'
     go_simp
     with_reducible rfl
    rotate_left
    ·simp only [Act.put, q1, q2, q3, i64_w, i32_w]
     rfl
    refine take_ (i := 1) (N := some 70) (v := ?_) (a' := ?_) #[true, true, true, false, false, true, false, false, false] rfl rfl (take_ofW HT_.o HW_.o (by kernel_rfl)) (fun _ _ _ h => h) (Or.inl ⟨by rfl, ?_⟩) hHeld ?_ ?_
    rotate_left
    ·rintro w' ⟨s0, s1, s2, s3, s4, s5⟩
     go_simp
     with_reducible rfl
    rotate_left
    ·simp only [Act.put, q1, q2, q3, i64_w, i32_w]
     rfl
    refine pure_ (i := 3) (N := some 72) (v := ?_) (a' := ?_) #[true, true, true, true, false, true, false, false, false] rfl rfl (any_of HT_.o (by kernel_rfl)) (fun _ _ _ h => h) (Or.inl ⟨by rfl, ?_⟩) ?_ ?_
    rotate_left
    ·intro w'
     go_simp
     with_reducible rfl
    rotate_left
    ·simp only [Act.put, q1, q2, q3, i64_w, i32_w]
     rfl
    refine take_ (i := 4) (N := some 73) (v := ?_) (a' := ?_) #[true, true, true, true, true, true, false, false, false] rfl rfl (take_ofW HT_.o HW_.o (by kernel_rfl)) (fun _ _ _ h => h) (Or.inl ⟨by rfl, ?_⟩) hHeld ?_ ?_
    rotate_left
    ·rintro w' ⟨s0, s1, s2, s3, s4, s5⟩
     go_simp
     with_reducible rfl
    rotate_left
    ·simp only [Act.put, q1, q2, q3, i64_w, i32_w]
     rfl
    refine one_ (i := 6) (N := none) #[true, true, true, true, true, true, true, false, false] rfl rfl (one_of HT_.o (by kernel_rfl)) (by decide) (fun K hK => ?_)
    have Hb : Bg.cell? ⟨Ax, 0, none⟩ = some (.int .i64 As) := (ql A6.o 0).trans rfl
    have hfs113 := qz A6.o 0
    have Dj := Aa.o
    have Dk := Ae.o
    have Dl := A7.o
    have CD := Am.o
    have CE := Ad.o
    have CF := An.o
    have Hc : Bg.cell? ⟨Ax, 1, none⟩ = some (.int .i64 At) := (ql A6.o 1).trans rfl
    have hfs114 := qz A6.o 1
    have Dm := Aa.o
    have Dn := Ae.o
    have Do := A7.o
    have CG := Am.o
    have CH := Ad.o
    have CI := An.o
    have Hd : Bg.cell? ⟨Ax, 2, none⟩ = some (.int .i64 Au) := (ql A6.o 2).trans rfl
    have hfs115 := qz A6.o 2
    have Dp := Aa.o
    have Dq := Ae.o
    have Dr := A7.o
    have CJ := Am.o
    have CK := Ad.o
    have CL := An.o
    refine skip_ (w1 := ?_) ?hwx ?hnx ?_ ?_; (case hwx => rfl); (case hnx => rfl)
    rotate_left
    ·go_simp
     rfl
    refine hK.out _ _ ⟨(cx Aa.o ((cx Aa.o ((cx Aa.o (hHeld.1)))))), (cx Aa.o ((cx Aa.o ((cx Aa.o (hHeld.2.1)))))), (cx Aa.o ((cx Aa.o ((cx Aa.o (hHeld.2.2.1)))))), (cx A7.o ((cx A7.o ((cx A7.o (hHeld.2.2.2.1)))))), (cx A7.o ((cx A7.o ((cx A7.o (hHeld.2.2.2.2.1)))))), (cx A7.o ((cx A7.o ((cx A7.o (hHeld.2.2.2.2.2))))))⟩ (fun hHeld => ?_)
    clear hK K
    refine one_ (i := 7) (N := none) #[true, true, true, true, true, true, true, true, false] rfl rfl (one_of HT_.o (by kernel_rfl)) (by decide) (fun K hK => ?_)
    have He : Bg.cell? ⟨Ay, 0, none⟩ = some (.int .i64 Av) := (ql A9.o 0).trans rfl
    have hfs116 := qz A9.o 0
    have Ds := Ab.o
    have Dt := Ad.o
    have Du := A8.o
    have CM := Ap.o
    have CN := Ae.o
    have CO := Aq.o
    have Hf : Bg.cell? ⟨Ay, 1, none⟩ = some (.int .i64 Aw) := (ql A9.o 1).trans rfl
    have hfs117 := qz A9.o 1
    have Dv := Ab.o
    have Dw := Ad.o
    have Dx := A8.o
    have CP := Ap.o
    have CQ := Ae.o
    have CR := Aq.o
    have Hg : Bg.cell? ⟨Ay, 2, none⟩ = some (.slice none 0 0) := (ql A9.o 2).trans rfl
    have hfs119 := qz A9.o 2
    have Dy := Ab.o
    have Dz := Ad.o
    have DA := A8.o
    have CS := Ap.o
    have CT := Ae.o
    have CU := Aq.o
    refine skip_ (w1 := ?_) ?hwx ?hnx ?_ ?_; (case hwx => rfl); (case hnx => rfl)
    rotate_left
    ·go_simp
     rfl
    refine hK.out _ _ ⟨(cx Ab.o ((cx Ab.o ((cx Ab.o (hHeld.1)))))), (cx Ab.o ((cx Ab.o ((cx Ab.o (hHeld.2.1)))))), (cx Ab.o ((cx Ab.o ((cx Ab.o (hHeld.2.2.1)))))), (cx A8.o ((cx A8.o ((cx A8.o (hHeld.2.2.2.1)))))), (cx A8.o ((cx A8.o ((cx A8.o (hHeld.2.2.2.2.1)))))), (cx A8.o ((cx A8.o ((cx A8.o (hHeld.2.2.2.2.2))))))⟩ (fun hHeld => ?_)
    clear hK K
    refine pure_ (i := 8) (N := some 8) (v := ?_) (a' := ?_) #[true, true, true, true, true, true, true, true, true] rfl rfl (any_of HT_.o (by kernel_rfl)) (fun _ _ _ h => h) (Or.inl ⟨by rfl, ?_⟩) ?_ ?_
    rotate_left
    ·intro w'
     go_simp
     with_reducible rfl
    rotate_left
    ·simp only [Act.put, q1, q2, q3, i64_w, i32_w]
     rfl
    refine done_ (done_of HT_.o (by kernel_rfl)) ?_
    try go_wp2
    refine bodyPost_ret (rl (rs := [.cell 6 27, .cell 7 32, .tmp 8]) rfl (by simp) (.cell Ax 27 #[.int .i64 1, .int .i64 a0_0, .int .i64 Af] (0, 0) _ rfl (by refine bK ?_; (iterate 3 refine qF ?_ Ad); apply st3; refine bK ?_; exact A6.o) Try.underlying27 rfl (by kernel_rfl) (.cell Ay 32 #[.int .i64 Ak, .int .i64 Al, .slice Bi A5.length Bl] (0, 0) _ rfl (by refine bK ?_; apply st3; refine bK ?_; (iterate 3 refine qF ?_ Ae); exact A9.o) Try.underlying32 rfl (by kernel_rfl) (.tmp .nil)))) rfl ?_
    exact ⟨_, _, by first | rfl | (simp [eN, eS] <;> rfl) | (simp [*, eN, eS] <;> rfl), by refine rK ?_; exact Kd.Rm (rf (rf (rf (rf1 (rf1 (rf1 (Kd.Ry (Kd.Ry A0.o A6.o (by decide)) A9.o (by decide)))))))) (fun _ hk => trivial), by (with_reducible repeat (first | apply Kd.S_alloc | apply Kd.S_drewN | apply Kd.S_drew)); exact Kd.S_mono (Kd.S_far (p := ⟨Ay, 2, none⟩) (Kd.S_far (p := ⟨Ay, 1, none⟩) (Kd.S_far (p := ⟨Ay, 0, none⟩) (Kd.S_far (p := ⟨Ax, 2, none⟩) (Kd.S_far (p := ⟨Ax, 1, none⟩) (Kd.S_far (p := ⟨Ax, 0, none⟩) (Kd.S_types (Kd.S_types Ah.o A6.o (by decide)) A9.o (by decide)) (fun _ hk => hk.1.2) (.int .i64 1)) (fun _ hk => hk.1.2) (.int .i64 a0_0)) (fun _ hk => hk.1.2) (.int .i64 Af)) (fun _ hk => hk.2) (.int .i64 Ak)) (fun _ hk => hk.2) (.int .i64 Al)) (fun _ hk => hk.2) (.slice Bi A5.length Bl)) (fun _ hk => trivial), vB HB⟩

end Go.Proofs.Ytoklfgjemfojgaa.PAll
