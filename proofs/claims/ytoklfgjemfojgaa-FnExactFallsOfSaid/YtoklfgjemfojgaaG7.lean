/- Began as a text that print.sh wrote (of the functions named below); turned and shortened by this session. -/
import Derived.Test.YtoklfgjemfojgaaG0
import Derived.Test.YtoklfgjemfojgaaG5
import Derived.Test.YtoklfgjemfojgaaG6
namespace Go.Proofs.Ytoklfgjemfojgaa.PAll
open Go.RowKit Go.Proofs.YtoklfgjemfojgaaW.PrintWords Go.Proofs.YtoklfgjemfojgaaW.PrintLast Go.Proofs.YtoklfgjemfojgaaW.PrintMore
attribute [local go_sem] max2_int min2_int max_two min_two max_three min_three max_four min_four   -- for this text's walks alone
set_option linter.unusedVariables false
set_option linter.unusedSimpArgs false

/-! ### spec_flGo: function 63 -/
def spec_flGo.l0 : Nat → List Int → Int → List (List Int) → Int → Int → Int → Int → List (S89) → Int → Int → List (S89) → Option (Int × Int × Int × Int × Int × (List (S89)) × (List (List Int)))
 | 0, _, _, _, _, _, _, _, _, _, _, _ => none
 | k + 1, x1, x2, x10, x11, x12, x197000, x197001, x197002, x205000, x205001, x205002 => if x12 < x197000 then (if x10.length < 5864062014805 then ((some (x10 ++ [(([x12, x2] : List Int))] : List (List Int))).bind fun y208 => ((spec_boAt.f x205000 x205001 x205002 x12 x2).bind fun bt211 => (if bt211.1 = 5 then (some (2, x12, x2, x205000, x205001, x205002, y208)) else ((spec_paGoes.f k bt211.1 bt211.2 x11).bind fun t214 => ((spec_flPass.f k x205000 x205001 x205002 x1 (wrap64 ((wrap64 (x12 * x197001)) + x2))).bind fun t215 => ((spec_l1In.f (wrap64 (x2 + t214)) 0 (wrap64 (x197001 - 1))).bind fun t216 => (if t216 = true then (spec_flGo.l0 k x1 (wrap64 (x2 + t214)) y208 (wrap64 (-t214)) (wrap64 (x12 + 1)) x197000 x197001 x197002 x205000 x205001 t215) else (some (3, x12, wrap64 (x2 + t214), x205000, x205001, t215, y208))))))))) else (none)) else (some (1, x197000, x2, x205000, x205001, x205002, x10))
def spec_flGo.f (k : Nat) (a0_0 : Int) (a0_1 : Int) (l0_2 : List (S89)) (l1 : List Int) (a2 : Int) : Option (Int × Int × Int × Int × Int × (List (S89)) × (List (List Int))) := (spec_boOwn.f a0_0 a0_1 l0_2).bind fun bt199 => (spec_flGo.l0 k l1 a2 ([] : List (List Int)) 0 0 a0_0 a0_1 l0_2 bt199.1 bt199.2.1 bt199.2.2)
def spec_flGo.T10 : Bool × List (List Nat × List Nat) := (true, [([], []), ([], []), ([0, 1], [0, 1]), ([], []), ([], []), ([2, 0, 1, 2], [2]), ([3, 5, 0, 1, 2, 3, 5], [3]), ([4, 6, 0, 1, 2, 3, 4, 5, 6], [4])])
def spec_flGo.B10 : List Nat := [0, 0, 3, 0, 0, 7, 47, 127]
theorem spec_flGo.tab10 : rtab .any (opsOf Try.f63 10) = spec_flGo.T10 := by kernel_rfl
theorem spec_flGo.bits10 : waitsOk spec_flGo.T10.2 spec_flGo.B10 = true := by kernel_rfl
def spec_flGo.T16 : Bool × List (List Nat × List Nat) := (true, [([], []), ([], []), ([0, 1], [0, 1]), ([], []), ([], []), ([2, 0, 1, 2], [2]), ([3, 5, 0, 1, 2, 3, 5], [3]), ([4, 6, 0, 1, 2, 3, 4, 5, 6], [4])])
def spec_flGo.B16 : List Nat := [0, 0, 3, 0, 0, 7, 47, 127]
theorem spec_flGo.tab16 : rtab .any (opsOf Try.f63 16) = spec_flGo.T16 := by kernel_rfl
theorem spec_flGo.bits16 : waitsOk spec_flGo.T16.2 spec_flGo.B16 = true := by kernel_rfl
def spec_flGo.T17 : Bool × List (List Nat × List Nat) := (true, [([], []), ([0], [0]), ([], []), ([1, 2], [1, 2]), ([], []), ([], []), ([3, 0, 1, 2, 3], [3]), ([4, 6, 0, 1, 2, 3, 4, 6], [4]), ([5, 7, 0, 1, 2, 3, 4, 5, 6, 7], [5])])
def spec_flGo.B17 : List Nat := [0, 1, 0, 7, 0, 0, 15, 95, 255]
theorem spec_flGo.tab17 : rtab .any (opsOf Try.f63 17) = spec_flGo.T17 := by kernel_rfl
theorem spec_flGo.bits17 : waitsOk spec_flGo.T17.2 spec_flGo.B17 = true := by kernel_rfl
set_option maxHeartbeats 8000000 in
set_option maxRecDepth 100000 in
theorem spec_flGo.calls (k : Nat) (a0_0 : Int) (a0_1 : Int) (A0_2 : Option Addr) (c0_2 : Nat) (l0_2 : List (S89)) (A1 : Option Addr) (c1 : Nat) (l1 : List Int) (a2 : Int) (r1 : Int) (r2 : Int) (r3 : Int) (r4 : Int) (r5 : Int) (r6 : List (S89)) (r7 : List (List Int)) (w : World) (hr0_2 : Kd.C k89 w A0_2 l0_2.length l0_2) (hc0_2 : l0_2.length ≤ c0_2) (hr1 : Kd.C (Kd.int .i64) w A1 l1.length l1) (hc1 : l1.length ≤ c1) (h : spec_flGo.f k a0_0 a0_1 l0_2 l1 a2 = some (r1, r2, r3, r4, r5, r6, r7)) :
 Calls Try.prog 63 #[.agg #[.int .i64 a0_0, .int .i64 a0_1, .slice A0_2 l0_2.length c0_2], .slice A1 l1.length c1, .int .i64 a2] w fun e w' => ∃ v5_ v6_ : Value, e = .returned (.tuple #[.agg #[.int .i64 r1, .int .i64 r2, .int .i64 r3], .agg #[.int .i64 r4, .int .i64 r5, v5_], v6_]) ∧ Kd.R k89 89 w' w.heap.size (fun _ => True) v5_ r6 ∧ Kd.S (Kd.slice 3 (Kd.int .i64)) 43 w' w.heap.size (fun _ => True) v6_ r7 ∧ Below w.heap.size w w' := by
 have Hq := Try.underlying32
 have Hp := Try.underlying27
 have Hr := Try.underlying89
 have BR := Z.m hr0_2
 have BQ := Z.m hc0_2
 clear hr0_2 hc0_2
 have G2 := Z.m hr1
 have G0 := Z.m hc1
 clear hr1 hc1
 have HB := Z.m (Below.refl w.heap.size w)
 have H : ((spec_boOwn.f a0_0 a0_1 l0_2).bind fun bt199 => (spec_flGo.l0 k l1 a2 ([] : List (List Int)) 0 0 a0_0 a0_1 l0_2 bt199.1 bt199.2.1 bt199.2.2)) = some (r1, r2, r3, r4, r5, r6, r7) := h
 clear h
 replace H := Option.bind_eq_some_iff.mp H
 obtain ⟨⟨Ak, Al, Bw⟩, FW, H⟩ := H
 replace H : (spec_flGo.l0 k l1 a2 ([] : List (List Int)) 0 0 a0_0 a0_1 l0_2 Ak Al Bw) = some (r1, r2, r3, r4, r5, r6, r7) := H
 have A4 := Z.m FW
 clear FW
 have H' := Z.m H
 clear H
 go_enter Try.func63, Try.ntmps63
 go_wp2_with (first | ((with_reducible refine gq (N := 3) rfl ?_); refine be (N := 3) (cs := #[.int .i64 a0_0, .int .i64 a0_1, .slice A0_2 l0_2.length c0_2]) (t := 32) ?_; intro AO hg w5 hbox hb; have A2 := Z.m (hbox); have BM := gW (w := w) HB hg; have Bz := BM; replace HB := bB HB hb; clear hb hbox hg) | ((with_reducible refine gq (N := 6) rfl ?_); refine be (N := 6) (cs := #[.int .i64 0, .int .i64 0, .int .i64 0]) (t := 27) ?_; intro Ax hg w6 hbox hb; have A6 := Z.m (hbox); have BN := gW (w := w) HB hg; have BA := BN; have Aa := neL A2 hg; have Am := neG A2 hg; replace A2 := kB A2 hb; replace HB := bB HB hb; clear hb hbox hg) | ((with_reducible refine gq (N := 7) rfl ?_); refine be (N := 7) (cs := #[.int .i64 0, .int .i64 0, .slice none 0 0]) (t := 32) ?_; intro Ay hg w7 hbox hb; have A9 := Z.m (hbox); have BO := gW (w := w) HB hg; have BB := BO; have Ab := neL A2 hg; have Ap := neG A2 hg; have Ad := neL A6 hg; have Ae := neG A6 hg; replace A2 := kB A2 hb; replace A6 := kB A6 hb; replace HB := bB HB hb; clear hb hbox hg; have Hf := Aa.o; have Hh := Am.o; have Hg := Ab.o; have Hi := Ap.o; have Bk := bc0 A2; have Bl := bc1 A2; have Bm := bc2 A2; have Bq := qz A2.o 0; have Br := qz A2.o 1; have Bs := qz A2.o 2) | ((with_reducible refine gc (f := 82) rfl ?_); refine gA (some 16) _ #[.agg #[.int .i64 a0_0, .int .i64 a0_1, .slice A0_2 l0_2.length c0_2]] ?_ Try.func82; (with_reducible refine (spec_boOwn.calls a0_0 a0_1 _ _ l0_2 Ak Al Bw _ ?side1 ?side2 A4.o).mono ?_); (case side1 => repeat (first | exact (Kd.C_below BR.o HB.o) | (with_reducible refine Kd.C_alloc ?_ _) | (with_reducible refine Kd.C_drewN ?_ _) | (with_reducible refine Kd.C_drew ?_))); (case side2 => exact BQ.o); rintro e Hu ⟨Hs, rfl, H2, hb⟩; refine ⟨_, rfl, ?_⟩; have B0 := Z.m (Kd.R_lower H2 (below_size (vB HB))); replace A2 := kB A2 hb; replace A6 := kB A6 hb; replace A9 := kB A9 hb; replace HB := bB HB hb; (try clear hb); (try clear BY); (try clear hk); (try clear hi); (try clear H2)) | ((with_reducible refine gq (N := 9) rfl ?_); refine be (N := 9) (cs := #[.int .i64 0, .int .i64 0, .slice none 0 0]) (t := 32) ?_; intro AF hg Hv hbox hb; have A3 := Z.m (hbox); have BP := gW (w := w) HB hg; have BC := BP; have AH := neL A2 hg; have AL := neG A2 hg; have An := neL A6 hg; have A7 := neG A6 hg; have Aq := neL A9 hg; have A8 := neG A9 hg; replace B0 := Z.m (Kd.Rb (vR B0) hb); replace A2 := kB A2 hb; replace A6 := kB A6 hb; replace A9 := kB A9 hb; replace HB := bB HB hb; clear hb hbox hg; have G3 := AL.o; have Gx := AH.o; have G4 := A7.o; have Gy := An.o; have G5 := A8.o; have Gz := Aq.o; have Bn := bc0 A3; have Bo := bc1 A3; have Bp := bc2 A3; have Bt := qz A3.o 0; have Bu := qz A3.o 1; have Bv := qz A3.o 2; obtain ⟨FG, FH, FI⟩ := Kd.R_slice B0.o; subst FI))
 go_loopg [2, 10, 11, 12] k (fun kq v2 v10 v11 v12 w' => ∃ (Af : Int) (AP : List (List Int)) (AQ : Int) (Ac : Int) (As : Int) (At : Int) (Au : Int) (Av : Int) (Aw : Int) (A5 : List (S89)) (u205002 : Value), v2 = .int .i64 Af ∧ v11 = .int .i64 AQ ∧ v12 = .int .i64 Ac ∧ Z (spec_flGo.l0 kq l1 Af AP AQ Ac a0_0 a0_1 l0_2 Ak Al A5 = some (r1, r2, r3, r4, r5, r6, r7)) ∧ Z (kq ≤ k) ∧ Z (Kd.S (Kd.slice 3 (Kd.int .i64)) 43 w' w.heap.size (fun _ => True) v10 AP) ∧ Z (Kd.R k89 89 w' w.heap.size (fun _ => True) u205002 A5) ∧ Z (w'.heap[AO]? = some (.cells #[.int .i64 a0_0, .int .i64 a0_1, (.slice A0_2 l0_2.length c0_2)] 32 (0, 0))) ∧ Z (w'.heap[Ax]? = some (.cells #[.int .i64 As, .int .i64 At, .int .i64 Au] 27 (0, 0))) ∧ Z (w'.heap[Ay]? = some (.cells #[.int .i64 Av, .int .i64 Aw, (.slice none 0 0)] 32 (0, 0))) ∧ Z (w'.heap[AF]? = some (.cells #[.int .i64 Ak, .int .i64 Al, u205002] 32 (0, 0))) ∧ Z (Below w.heap.size w w'))
 case atStart => exact ⟨(a2), (([] : List (List Int))), (0), (0), (0), (0), (0), (0), (0), (Bw), (.slice FG Bw.length FH), (by first | rfl | (simp; done) | (simp [*]; done)), (by first | rfl | (simp; done) | (simp [*]; done)), (by first | rfl | (simp; done) | (simp [*]; done)), H', ⟨Nat.le_refl _⟩, ⟨by first | exact Kd.S_nil _ _ _ _ _ | exact Kd.N_nil _ _ _ _ _ | exact Kd.V_nil _ _ _ _ _ | exact Kd.Q_nil _ _ _ _ _ | exact Kd.R_nil _ _ _ _ _⟩, ⟨by refine rK ?_; exact Kd.Rm (rf (rf (rf (Kd.Ry B0.o A3.o (by decide))))) (fun _ hk => trivial)⟩, ⟨by refine bK ?_; (iterate 3 refine qF ?_ AH); exact A2.o⟩, ⟨by refine bK ?_; (iterate 3 refine qF ?_ An); exact A6.o⟩, ⟨by refine bK ?_; (iterate 3 refine qF ?_ Aq); exact A9.o⟩, ⟨by refine bK ?_; apply st3; refine bK ?_; exact A3.o⟩, ⟨vB HB⟩⟩
 case round =>
  clear H'
  (try clear Bk); (try clear Bl); (try clear Bm); (try clear Bn); (try clear Bo); (try clear Bp); (try clear Bq); (try clear Br)
  (try clear Bs); (try clear Bt); (try clear Bu); (try clear Bv)
  obtain ⟨Af, AP, AQ, Ac, As, At, Au, Av, Aw, A5, u205002, rfl, rfl, rfl, HA, G1, Ah, A0, A2, A6, A9, A3, HB⟩ := hrel
  cases gk with
  | zero => exact absurd HA.o (by simp [spec_flGo.l0])
  | succ k1 =>
   have H := HA.o
   clear HA
   simp only [spec_flGo.l0] at H
   by_cases c18 : Ac < a0_0
   ·rw [if_pos c18] at H
    have BS := decide_eq_true c18
    clear c18
    obtain ⟨AS, AX⟩ : ∃ y_ : List Int, y_ = (([Ac, Af] : List Int)) := ⟨_, rfl⟩
    replace H : (if AP.length < 5864062014805 then ((some (AP ++ [AS] : List (List Int))).bind fun AK => ((spec_boAt.f Ak Al A5 Ac Af).bind fun bt211 => (if bt211.1 = 5 then (some (2, Ac, Af, Ak, Al, A5, AK)) else ((spec_paGoes.f k1 bt211.1 bt211.2 AQ).bind fun AB => ((spec_flPass.f k1 Ak Al A5 l1 (wrap64 ((wrap64 (Ac * a0_1)) + Af))).bind fun AI => ((spec_l1In.f (wrap64 (Af + AB)) 0 (wrap64 (a0_1 - 1))).bind fun AR => (if AR = true then (spec_flGo.l0 k1 l1 (wrap64 (Af + AB)) AK (wrap64 (-AB)) (wrap64 (Ac + 1)) a0_0 a0_1 l0_2 Ak Al AI) else (some (3, Ac, wrap64 (Af + AB), Ak, Al, AI, AK))))))))) else (none)) = some (r1, r2, r3, r4, r5, r6, r7) := by first | (rw [AX]; with_reducible exact H) | (have H2_ := (Option.bind_some _ _).symm.trans H; rw [AX]; with_reducible exact H2_) | (have H2_ := (Option.bind_some _ _).symm.trans H; with_reducible exact H2_) | with_reducible exact H | (rw [AX]; exact H) | exact H
    have AV := Z.m AX
    clear AX
    by_cases c19 : AP.length < 5864062014805
    ·rw [if_pos c19] at H
     have Bh := Z.m c19
     clear c19
     obtain ⟨AK, AY⟩ : ∃ y_ : List (List Int), y_ = (AP ++ [AS]) := ⟨_, rfl⟩
     replace H : ((spec_boAt.f Ak Al A5 Ac Af).bind fun bt211 => (if bt211.1 = 5 then (some (2, Ac, Af, Ak, Al, A5, AK)) else ((spec_paGoes.f k1 bt211.1 bt211.2 AQ).bind fun AB => ((spec_flPass.f k1 Ak Al A5 l1 (wrap64 ((wrap64 (Ac * a0_1)) + Af))).bind fun AI => ((spec_l1In.f (wrap64 (Af + AB)) 0 (wrap64 (a0_1 - 1))).bind fun AR => (if AR = true then (spec_flGo.l0 k1 l1 (wrap64 (Af + AB)) AK (wrap64 (-AB)) (wrap64 (Ac + 1)) a0_0 a0_1 l0_2 Ak Al AI) else (some (3, Ac, wrap64 (Af + AB), Ak, Al, AI, AK)))))))) = some (r1, r2, r3, r4, r5, r6, r7) := by first | (rw [AY]; with_reducible exact H) | (have H2_ := (Option.bind_some _ _).symm.trans H; rw [AY]; with_reducible exact H2_) | (have H2_ := (Option.bind_some _ _).symm.trans H; with_reducible exact H2_) | with_reducible exact H | (rw [AY]; exact H) | exact H
     have Bi := Z.m AY
     clear AY
     replace H := Option.bind_eq_some_iff.mp H
     obtain ⟨⟨AE, AG⟩, BF, H⟩ := H
     replace H : (if AE = 5 then (some (2, Ac, Af, Ak, Al, A5, AK)) else ((spec_paGoes.f k1 AE AG AQ).bind fun AB => ((spec_flPass.f k1 Ak Al A5 l1 (wrap64 ((wrap64 (Ac * a0_1)) + Af))).bind fun AI => ((spec_l1In.f (wrap64 (Af + AB)) 0 (wrap64 (a0_1 - 1))).bind fun AR => (if AR = true then (spec_flGo.l0 k1 l1 (wrap64 (Af + AB)) AK (wrap64 (-AB)) (wrap64 (Ac + 1)) a0_0 a0_1 l0_2 Ak Al AI) else (some (3, Ac, wrap64 (Af + AB), Ak, Al, AI, AK))))))) = some (r1, r2, r3, r4, r5, r6, r7) := H
     have FF := Z.m BF
     clear BF
     by_cases c21 : AE = 5
     ·rw [if_pos c21] at H
      have BT := beq_iff_eq.mpr c21
      have BU := bne_eq_false_iff_eq.mpr c21
      clear c21
      simp only [Option.some.injEq, Prod.mk.injEq] at H
      obtain ⟨rfl, rfl, rfl, rfl, rfl, rfl, rfl⟩ := H
      have G6 := Aa.o
      have GA := Am.o
      have G7 := Ab.o
      have GB := Ap.o
      have G8 := AH.o
      have GC := AL.o
      have DB := bc0 A2
      have DC := bc1 A2
      have DD := bc2 A2
      have Ee := qz A2.o 0
      have Ef := qz A2.o 1
      have Eg := qz A2.o 2
      try go_wp2_with (first | ((with_reducible refine gq (N := 26) rfl ?_); refine Kd.R_lit (Kd.int .i64) _ 3 ?hg (N := 26) ?hd (xs := ([Ac, Af] : List Int)) (inner := [.int .i64 Ac, .int .i64 Af]) (ok := fun _ => True) (okp := fun _ => True) ?hr ?hp (fun _ hk => hk) trivial (Below.refl _ _) (Nat.le_refl _) (by simp) ?_; (case hd => rfl); (case hg => rfl); (case hr => first | (go_simp; done) | (go_simp; rfl)); (case hp => exact (Reps.one (show Kd.M (Kd.int .i64) _ _ _ Ac [.int .i64 Ac] from rfl) (Reps.one (show Kd.M (Kd.int .i64) _ _ _ Af [.int .i64 Af] from rfl) (Reps.none _ _)))); intro DA Hw Ba hb hg_ hnew_; clear hg_ hnew_; (first | rw [← AV.o] at Ba | (simp only [Int.reduceToNat] at Ba; rw [← AV.o] at Ba)); have AJ := Z.m (Kd.R_lower Ba (below_size (vB HB))); replace Ah := Z.m (Kd.S_elder' (vS Ah) (Kd.R_base Ba) hb); replace A0 := Z.m (Kd.Rb (vR A0) hb); replace A2 := kB A2 hb; replace A6 := kB A6 hb; replace A9 := kB A9 hb; replace A3 := kB A3 hb; replace HB := bB HB hb; clear hb Ba; obtain ⟨BJ, BV, FJ⟩ := Kd.R_slice AJ.o; subst FJ) | ((with_reducible refine gu (b := .append) (xs := #[.tmp 23, .tmp 27]) rfl ?_); at_builtin; refine Kd.S_append (Kd.slice 3 (Kd.int .i64)) (w0 := w) w.heap.size rfl (.tmp 23) (.tmp 27) 54 43 (.slice none 0 0) 24 rfl Try.underlying54 info43 rfl (by decide) (by omega) u10 AP AS [.slice BJ AS.length BV] (fun _ => True) (fun k_ => some k_ = (.slice BJ AS.length BV : Value).ownBlock) rfl rfl ?aP (fun k_ hk_ => ((Kd.Rm (ok' := fun k_ => ((fun _ => True)) k_ ∧ some k_ ≠ (u10 : Value).ownBlock) (Kd.Ra (AJ.o) (Kd.S_typed Ah.o) (by decide)) (fun k_ hk => ⟨trivial, hk.2⟩))).1 k_ hk_.symm) ?aF ?aO ?aB ?aS ?aL ?_; (case aP => exact Kd.M_row (Kd.Rm (Kd.Rg rfl (Kd.Rm (ok' := fun k_ => ((fun _ => True)) k_ ∧ some k_ ≠ (u10 : Value).ownBlock) (Kd.Ra (AJ.o) (Kd.S_typed Ah.o) (by decide)) (fun k_ hk => ⟨trivial, hk.2⟩))) (fun _ h_ => h_))); (case aB => exact (vB HB)); (case aF => exact (fun _ _ => trivial)); (case aO => exact (by (with_reducible repeat (first | apply Kd.S_alloc | apply Kd.S_drewN | apply Kd.S_drew)); exact Kd.S_mono Ah.o (fun k_ hk => ⟨trivial, fun e_ => hk.2 e_⟩))); (case aS => exact (below_size (vB HB))); (case aL => have := Bh.o; omega); intro Bx Hx ho hb hg hat; rw [← Bi.o] at ho; have Aj := Z.m (ho); replace A0 := Z.m (Kd.Ro (vR A0) (Kd.S_typed (vS Ah)) (by decide) hg); replace A2 := Z.m (qg (g := AO) (o := .cells #[.int .i64 a0_0, .int .i64 a0_1, .slice A0_2 l0_2.length c0_2] 32 (0, 0)) (vK A2) hg (Kd.S_ne Ah.o A2.o (by decide))); replace A6 := Z.m (qg (g := Ax) (o := .cells #[.int .i64 As, .int .i64 At, .int .i64 Au] 27 (0, 0)) (vK A6) hg (Kd.S_ne Ah.o A6.o (by decide))); replace A9 := Z.m (qg (g := Ay) (o := .cells #[.int .i64 Av, .int .i64 Aw, .slice none 0 0] 32 (0, 0)) (vK A9) hg (Kd.S_ne Ah.o A9.o (by decide))); replace A3 := Z.m (qg (g := AF) (o := .cells #[.int .i64 Ak, .int .i64 Al, u205002] 32 (0, 0)) (vK A3) hg (Kd.S_ne Ah.o A3.o (by decide))); replace HB := Z.m (hb); clear Ah AJ; clear ho hb hg hat; have G9 := A7.o; have GD := An.o; have Ga := A8.o; have GE := Aq.o; have DE := bc0 A3; have DF := bc1 A3; have DG := bc2 A3; have Eh := qz A3.o 0; have Ei := qz A3.o 1; have Ej := qz A3.o 2; obtain ⟨B2, B7, FL⟩ := Kd.R_slice A0.o; subst FL) | ((with_reducible refine gc (f := 83) rfl ?_); refine gA (some 32) _ #[.agg #[.int .i64 Ak, .int .i64 Al, .slice B2 A5.length B7], .int .i64 Ac, .int .i64 Af] ?_ Try.func83; (with_reducible refine (spec_boAt.calls Ak Al _ _ A5 Ac Af AE AG _ ?side1 ?side2 FF.o).mono ?_); (case side1 => repeat (first | exact (Kd.RrZ A0.o).2.2 | (with_reducible refine Kd.C_alloc ?_ _) | (with_reducible refine Kd.C_drewN ?_ _) | (with_reducible refine Kd.C_drew ?_))); (case side2 => exact (Kd.RrZ A0.o).2.1); rintro e Hy ⟨rfl, hb⟩; refine ⟨_, rfl, ?_⟩; replace A0 := Z.m (Kd.Rb (vR A0) hb); replace Aj := Z.m (Kd.S_below (vS Aj) hb); replace A2 := kB A2 hb; replace A6 := kB A6 hb; replace A9 := kB A9 hb; replace A3 := kB A3 hb; replace HB := bB HB hb; (try clear hb); (try clear BY); (try clear hk); (try clear hi)) | ((with_reducible refine gq (N := 13) rfl ?_); refine be (N := 13) (cs := #[.int .i64 0, .int .i64 0]) (t := 89) ?_; intro Ag hg By hbox hb; have Ai := Z.m (hbox); have AW := gW (w := w) HB hg; have AZ := AW; have AC := neL A2 hg; have AM := neG A2 hg; have Ao := neL A6 hg; have Az := neG A6 hg; have Ar := neL A9 hg; have AA := neG A9 hg; have AD := neL A3 hg; have AN := neG A3 hg; replace A0 := Z.m (Kd.Rb (Kd.R_elderB (vR A0) Ag (Nat.le_of_eq hg.symm)) hb); replace Aj := Z.m (Kd.S_below (vS Aj) hb); replace A2 := kB A2 hb; replace A6 := kB A6 hb; replace A9 := kB A9 hb; replace A3 := kB A3 hb; replace HB := bB HB hb; clear hb hbox hg; have Gb := AM.o; have GF := AC.o; have Gc := Az.o; have GG := Ao.o; have Gd := AA.o; have GH := Ar.o; have Ge := AN.o; have GI := AD.o; have DH := bc0 Ai; have DI := bc1 Ai; have Ek := qz Ai.o 0; have El := qz Ai.o 1))
      have n0_ : Z (Kd.R k89 89 ((By.setCell ⟨Ag, 0, none⟩ (.int .i64 AE)).setCell ⟨Ag, 1, none⟩ (.int .i64 AG)) w.heap.size (fun k_ => k_ ≠ Ag) (.slice B2 A5.length B7) A5) := ⟨by refine rK ?_; exact Kd.Rm (rf (rf (Kd.Rm A0.o (fun k_ hk => (⟨hk, hk.2⟩ : _ ∧ k_ ≠ Ag))))) (fun _ hk => hk.1.2)⟩
      have n1_ : Z (Kd.S (Kd.slice 3 (Kd.int .i64)) 43 ((By.setCell ⟨Ag, 0, none⟩ (.int .i64 AE)).setCell ⟨Ag, 1, none⟩ (.int .i64 AG)) w.heap.size (fun _ => True) Bx AK) := ⟨by (with_reducible repeat (first | apply Kd.S_alloc | apply Kd.S_drewN | apply Kd.S_drew)); exact Kd.S_mono (Kd.S_far (p := ⟨Ag, 1, none⟩) (Kd.S_far (p := ⟨Ag, 0, none⟩) (Kd.S_types Aj.o Ai.o (by decide)) (fun _ hk => hk.2) (.int .i64 AE)) (fun _ hk => hk.2) (.int .i64 AG)) (fun _ hk => trivial)⟩
      have n2_ : Z (((By.setCell ⟨Ag, 0, none⟩ (.int .i64 AE)).setCell ⟨Ag, 1, none⟩ (.int .i64 AG)).heap[AO]? = some (.cells #[.int .i64 a0_0, .int .i64 a0_1, .slice A0_2 l0_2.length c0_2] 32 (0, 0))) := ⟨by refine bK ?_; (iterate 2 refine qF ?_ AC); exact A2.o⟩
      have n3_ : Z (((By.setCell ⟨Ag, 0, none⟩ (.int .i64 AE)).setCell ⟨Ag, 1, none⟩ (.int .i64 AG)).heap[Ax]? = some (.cells #[.int .i64 As, .int .i64 At, .int .i64 Au] 27 (0, 0))) := ⟨by refine bK ?_; (iterate 2 refine qF ?_ Ao); exact A6.o⟩
      have n4_ : Z (((By.setCell ⟨Ag, 0, none⟩ (.int .i64 AE)).setCell ⟨Ag, 1, none⟩ (.int .i64 AG)).heap[Ay]? = some (.cells #[.int .i64 Av, .int .i64 Aw, .slice none 0 0] 32 (0, 0))) := ⟨by refine bK ?_; (iterate 2 refine qF ?_ Ar); exact A9.o⟩
      have n5_ : Z (((By.setCell ⟨Ag, 0, none⟩ (.int .i64 AE)).setCell ⟨Ag, 1, none⟩ (.int .i64 AG)).heap[AF]? = some (.cells #[.int .i64 Ak, .int .i64 Al, .slice B2 A5.length B7] 32 (0, 0))) := ⟨by refine bK ?_; (iterate 2 refine qF ?_ AD); exact A3.o⟩
      have n6_ : Z (((By.setCell ⟨Ag, 0, none⟩ (.int .i64 AE)).setCell ⟨Ag, 1, none⟩ (.int .i64 AG)).heap[Ag]? = some (.cells #[.int .i64 AE, .int .i64 AG] 89 (0, 0))) := ⟨by refine bK ?_; refine qp (cs := #[iV AE, iV 0]) ?_ 1 _ rfl; refine bK ?_; refine qp (cs := #[iV 0, iV 0]) ?_ 0 _ rfl; refine bK ?_; exact Ai.o⟩
      have n7_ : Z (Below w.heap.size w ((By.setCell ⟨Ag, 0, none⟩ (.int .i64 AE)).setCell ⟨Ag, 1, none⟩ (.int .i64 AG))) := ⟨vB HB⟩
      (try clear A0); (try clear Aj); (try clear A2); (try clear A6); (try clear A9); (try clear A3); (try clear Ai); (try clear HB)
      generalize ((By.setCell ⟨Ag, 0, none⟩ (.int .i64 AE)).setCell ⟨Ag, 1, none⟩ (.int .i64 AG)) = Ht at n0_ n1_ n2_ n3_ n4_ n5_ n6_ n7_ ⊢
      have A0 := n0_
      have Aj := n1_
      have A2 := n2_
      have A6 := n3_
      have A9 := n4_
      have A3 := n5_
      have Ai := n6_
      have HB := n7_
      clear n0_ n1_ n2_ n3_ n4_ n5_ n6_ n7_
      replace A0 := Z.m (Kd.R_drew A0.o)
      replace Aj := Z.m (Kd.S_drew Aj.o)
      replace A2 := Z.m (blk_drew A2.o)
      replace A6 := Z.m (blk_drew A6.o)
      replace A9 := Z.m (blk_drew A9.o)
      replace A3 := Z.m (blk_drew A3.o)
      replace Ai := Z.m (blk_drew Ai.o)
      replace HB := Z.m (qd HB.o)
      refine start_ (n := 8) (S := fun w' => w'.cell? ⟨AF, 0, none⟩ = some (.int .i64 Ak) ∧ w'.cell? ⟨AF, 1, none⟩ = some (.int .i64 Al) ∧ w'.cell? ⟨AF, 2, none⟩ = some (.slice B2 A5.length B7)) (ds := []) #[false, false, false, false, false, false, false, false] (by kernel_rfl) rfl rfl ⟨(ql A3.o 0).trans rfl, (ql A3.o 1).trans rfl, (ql A3.o 2).trans rfl⟩ (fun hHeld => ?_); refine with_tabW spec_flGo.tab10 spec_flGo.bits10 (fun HT_ HW_ => ?_)
      generalize Ht.drew = BE at A0 Aj A2 A6 A9 A3 Ai HB hHeld ⊢
      refine pure_ (i := 0) (N := some 36) (v := ?_) (a' := ?_) #[true, false, false, false, false, false, false, false] rfl rfl (any_of HT_.o (by kernel_rfl)) (fun _ _ _ h => h) (Or.inl ⟨by rfl, ?_⟩) ?_ ?_
      rotate_left
      ·intro w'
       go_simp
       with_reducible rfl
      rotate_left
      ·simp only [Act.put, q1, q2, q3, i64_w, i32_w]
       rfl
      refine pure_ (i := 1) (N := some 37) (v := ?_) (a' := ?_) #[true, true, false, false, false, false, false, false] rfl rfl (any_of HT_.o (by kernel_rfl)) (fun _ _ _ h => h) (Or.inl ⟨by rfl, ?_⟩) ?_ ?_
      rotate_left
      ·intro w'
       go_simp
       with_reducible rfl
      rotate_left
      ·simp only [Act.put, q1, q2, q3, i64_w, i32_w]
       rfl
      refine pure_ (i := 2) (N := some 38) (v := ?_) (a' := ?_) #[true, true, true, false, false, false, false, false] rfl rfl (any_of HT_.o (by kernel_rfl)) (fun _ _ _ h => h) (Or.inl ⟨by rfl, ?_⟩) ?_ ?_
      rotate_left
      ·intro w'
       go_simp
       with_reducible rfl
      rotate_left
      ·simp only [Act.put, q1, q2, q3, i64_w, i32_w]
       rfl
      refine pure_ (i := 4) (N := some 40) (v := ?_) (a' := ?_) #[true, true, true, false, true, false, false, false] rfl rfl (any_of HT_.o (by kernel_rfl)) (fun _ _ _ h => h) (Or.inl ⟨by rfl, ?_⟩) ?_ ?_
      rotate_left
      ·intro w'
       go_simp
       with_reducible rfl
      rotate_left
      ·simp only [Act.put, q1, q2, q3, i64_w, i32_w]
       rfl
      refine take_ (i := 3) (N := some 39) (v := ?_) (a' := ?_) #[true, true, true, true, true, false, false, false] rfl rfl (take_ofW HT_.o HW_.o (by kernel_rfl)) (fun _ _ _ h => h) (Or.inl ⟨by rfl, ?_⟩) hHeld ?_ ?_
      rotate_left
      ·rintro w' ⟨s0, s1, s2⟩
       go_simp
       with_reducible rfl
      rotate_left
      ·simp only [Act.put, q1, q2, q3, i64_w, i32_w]
       rfl
      refine one_ (i := 5) (N := none) #[true, true, true, true, true, true, false, false] rfl rfl (one_of HT_.o (by kernel_rfl)) (by decide) (fun K hK => ?_)
      have Hj : BE.cell? ⟨Ax, 0, none⟩ = some (.int .i64 As) := (ql A6.o 0).trans rfl
      have hfs43 := qz A6.o 0
      have Fh := Aa.o
      have Fi := Ae.o
      have Fj := A7.o
      have Fk := Az.o
      have ET := Am.o
      have EU := Ad.o
      have EV := An.o
      have EW := Ao.o
      have Hk : BE.cell? ⟨Ax, 1, none⟩ = some (.int .i64 At) := (ql A6.o 1).trans rfl
      have hfs44 := qz A6.o 1
      have Fl := Aa.o
      have Fm := Ae.o
      have Fn := A7.o
      have Fo := Az.o
      have EX := Am.o
      have EY := Ad.o
      have EZ := An.o
      have F0 := Ao.o
      have Hl : BE.cell? ⟨Ax, 2, none⟩ = some (.int .i64 Au) := (ql A6.o 2).trans rfl
      have hfs45 := qz A6.o 2
      have Fp := Aa.o
      have Fq := Ae.o
      have Fr := A7.o
      have Fs := Az.o
      have F1 := Am.o
      have F2 := Ad.o
      have F3 := An.o
      have F4 := Ao.o
      refine skip_ (w1 := ?_) ?hwx ?hnx ?_ ?_; (case hwx => rfl); (case hnx => rfl)
      rotate_left
      ·go_simp
       rfl
      refine hK.out _ _ ⟨(cx A7.o ((cx A7.o ((cx A7.o (hHeld.1)))))), (cx A7.o ((cx A7.o ((cx A7.o (hHeld.2.1)))))), (cx A7.o ((cx A7.o ((cx A7.o (hHeld.2.2))))))⟩ (fun hHeld => ?_)
      clear hK K
      refine one_ (i := 6) (N := none) #[true, true, true, true, true, true, true, false] rfl rfl (one_of HT_.o (by kernel_rfl)) (by decide) (fun K hK => ?_)
      have Hm : BE.cell? ⟨Ay, 0, none⟩ = some (.int .i64 Av) := (ql A9.o 0).trans rfl
      have hfs46 := qz A9.o 0
      have Ft := Ab.o
      have Fu := Ad.o
      have Fv := A8.o
      have Fw := AA.o
      have F5 := Ap.o
      have F6 := Ae.o
      have F7 := Aq.o
      have F8 := Ar.o
      have Hn : BE.cell? ⟨Ay, 1, none⟩ = some (.int .i64 Aw) := (ql A9.o 1).trans rfl
      have hfs47 := qz A9.o 1
      have Fx := Ab.o
      have Fy := Ad.o
      have Fz := A8.o
      have FA := AA.o
      have F9 := Ap.o
      have Fa := Ae.o
      have Fb := Aq.o
      have Fc := Ar.o
      have Ho : BE.cell? ⟨Ay, 2, none⟩ = some (.slice none 0 0) := (ql A9.o 2).trans rfl
      have hfs48 := qz A9.o 2
      have FB := Ab.o
      have FC := Ad.o
      have FD := A8.o
      have FE := AA.o
      have Fd := Ap.o
      have Fe := Ae.o
      have Ff := Aq.o
      have Fg := Ar.o
      refine skip_ (w1 := ?_) ?hwx ?hnx ?_ ?_; (case hwx => rfl); (case hnx => rfl)
      rotate_left
      ·go_simp
       rfl
      refine hK.out _ _ ⟨(cx A8.o ((cx A8.o ((cx A8.o (hHeld.1)))))), (cx A8.o ((cx A8.o ((cx A8.o (hHeld.2.1)))))), (cx A8.o ((cx A8.o ((cx A8.o (hHeld.2.2))))))⟩ (fun hHeld => ?_)
      clear hK K
      refine pure_ (i := 7) (N := some 8) (v := ?_) (a' := ?_) #[true, true, true, true, true, true, true, true] rfl rfl (any_of HT_.o (by kernel_rfl)) (fun _ _ _ h => h) (Or.inl ⟨by rfl, ?_⟩) ?_ ?_
      rotate_left
      ·intro w'
       go_simp
       with_reducible rfl
      rotate_left
      ·simp only [Act.put, q1, q2, q3, i64_w, i32_w]
       rfl
      refine done_ (done_of HT_.o (by kernel_rfl)) ?_
      try go_wp2
      refine bodyPost_ret (rl (rs := [.cell 6 27, .cell 7 32, .tmp 8]) rfl (by simp) (.cell Ax 27 #[.int .i64 2, .int .i64 Ac, .int .i64 Af] (0, 0) _ rfl (by refine bK ?_; (iterate 3 refine qF ?_ Ad); apply st3; refine bK ?_; exact A6.o) Try.underlying27 rfl (by kernel_rfl) (.cell Ay 32 #[.int .i64 Ak, .int .i64 Al, .slice B2 A5.length B7] (0, 0) _ rfl (by refine bK ?_; apply st3; refine bK ?_; (iterate 3 refine qF ?_ Ae); exact A9.o) Try.underlying32 rfl (by kernel_rfl) (.tmp .nil)))) rfl ?_
      exact ⟨_, _, by first | rfl | (simp [eN, eS] <;> rfl) | (simp [*, eN, eS] <;> rfl), by refine rK ?_; exact Kd.Rm (rf (rf (rf (rf1 (rf1 (rf1 (Kd.Ry (Kd.Ry A0.o A6.o (by decide)) A9.o (by decide)))))))) (fun _ hk => trivial), by (with_reducible repeat (first | apply Kd.S_alloc | apply Kd.S_drewN | apply Kd.S_drew)); exact Kd.S_mono (Kd.S_far (p := ⟨Ay, 2, none⟩) (Kd.S_far (p := ⟨Ay, 1, none⟩) (Kd.S_far (p := ⟨Ay, 0, none⟩) (Kd.S_far (p := ⟨Ax, 2, none⟩) (Kd.S_far (p := ⟨Ax, 1, none⟩) (Kd.S_far (p := ⟨Ax, 0, none⟩) (Kd.S_types (Kd.S_types Aj.o A6.o (by decide)) A9.o (by decide)) (fun _ hk => hk.1.2) (.int .i64 2)) (fun _ hk => hk.1.2) (.int .i64 Ac)) (fun _ hk => hk.1.2) (.int .i64 Af)) (fun _ hk => hk.2) (.int .i64 Ak)) (fun _ hk => hk.2) (.int .i64 Al)) (fun _ hk => hk.2) (.slice B2 A5.length B7)) (fun _ hk => trivial), vB HB⟩
     ·rw [if_neg c21] at H
      have BT := beq_eq_false_iff_ne.mpr c21
      have BU := bne_iff_ne.mpr c21
      replace H := Option.bind_eq_some_iff.mp H
      obtain ⟨AB, BG, H⟩ := H
      replace H : ((spec_flPass.f k1 Ak Al A5 l1 (wrap64 ((wrap64 (Ac * a0_1)) + Af))).bind fun AI => ((spec_l1In.f (wrap64 (Af + AB)) 0 (wrap64 (a0_1 - 1))).bind fun AR => (if AR = true then (spec_flGo.l0 k1 l1 (wrap64 (Af + AB)) AK (wrap64 (-AB)) (wrap64 (Ac + 1)) a0_0 a0_1 l0_2 Ak Al AI) else (some (3, Ac, wrap64 (Af + AB), Ak, Al, AI, AK))))) = some (r1, r2, r3, r4, r5, r6, r7) := H
      have FX := Z.m BG
      clear BG
      replace H := Option.bind_eq_some_iff.mp H
      obtain ⟨AI, BH, H⟩ := H
      replace H : ((spec_l1In.f (wrap64 (Af + AB)) 0 (wrap64 (a0_1 - 1))).bind fun AR => (if AR = true then (spec_flGo.l0 k1 l1 (wrap64 (Af + AB)) AK (wrap64 (-AB)) (wrap64 (Ac + 1)) a0_0 a0_1 l0_2 Ak Al AI) else (some (3, Ac, wrap64 (Af + AB), Ak, Al, AI, AK)))) = some (r1, r2, r3, r4, r5, r6, r7) := H
      have FY := Z.m BH
      clear BH
      replace H := Option.bind_eq_some_iff.mp H
      obtain ⟨AR, BI, H⟩ := H
      replace H : (if AR = true then (spec_flGo.l0 k1 l1 (wrap64 (Af + AB)) AK (wrap64 (-AB)) (wrap64 (Ac + 1)) a0_0 a0_1 l0_2 Ak Al AI) else (some (3, Ac, wrap64 (Af + AB), Ak, Al, AI, AK))) = some (r1, r2, r3, r4, r5, r6, r7) := H
      have FZ := Z.m BI
      clear BI
      by_cases c52 : AR = true
      ·subst c52
       have H1 : (spec_flGo.l0 k1 l1 (wrap64 (Af + AB)) AK (wrap64 (-AB)) (wrap64 (Ac + 1)) a0_0 a0_1 l0_2 Ak Al AI) = some (r1, r2, r3, r4, r5, r6, r7) := by rw [if_pos rfl] at H; exact H
       clear H
       have H := H1
       clear H1
       have H' := Z.m H
       clear H
       have Gf := Aa.o
       have GJ := Am.o
       have Gg := Ab.o
       have GK := Ap.o
       have Gh := AH.o
       have GL := AL.o
       have DJ := bc0 A2
       have DK := bc1 A2
       have DL := bc2 A2
       have Em := qz A2.o 0
       have En := qz A2.o 1
       have Eo := qz A2.o 2
       go_wp2_with (first | ((with_reducible refine gq (N := 26) rfl ?_); refine Kd.R_lit (Kd.int .i64) _ 3 ?hg (N := 26) ?hd (xs := ([Ac, Af] : List Int)) (inner := [.int .i64 Ac, .int .i64 Af]) (ok := fun _ => True) (okp := fun _ => True) ?hr ?hp (fun _ hk => hk) trivial (Below.refl _ _) (Nat.le_refl _) (by simp) ?_; (case hd => rfl); (case hg => rfl); (case hr => first | (go_simp; done) | (go_simp; rfl)); (case hp => exact (Reps.one (show Kd.M (Kd.int .i64) _ _ _ Ac [.int .i64 Ac] from rfl) (Reps.one (show Kd.M (Kd.int .i64) _ _ _ Af [.int .i64 Af] from rfl) (Reps.none _ _)))); intro DA Hz Bb hb hg_ hnew_; clear hg_ hnew_; (first | rw [← AV.o] at Bb | (simp only [Int.reduceToNat] at Bb; rw [← AV.o] at Bb)); have AJ := Z.m (Kd.R_lower Bb (below_size (vB HB))); replace Ah := Z.m (Kd.S_elder' (vS Ah) (Kd.R_base Bb) hb); replace A0 := Z.m (Kd.Rb (vR A0) hb); replace A2 := kB A2 hb; replace A6 := kB A6 hb; replace A9 := kB A9 hb; replace A3 := kB A3 hb; replace HB := bB HB hb; clear hb Bb; obtain ⟨BK, BW, FM⟩ := Kd.R_slice AJ.o; subst FM) | ((with_reducible refine gu (b := .append) (xs := #[.tmp 23, .tmp 27]) rfl ?_); at_builtin; refine Kd.S_append (Kd.slice 3 (Kd.int .i64)) (w0 := w) w.heap.size rfl (.tmp 23) (.tmp 27) 54 43 (.slice none 0 0) 24 rfl Try.underlying54 info43 rfl (by decide) (by omega) u10 AP AS [.slice BK AS.length BW] (fun _ => True) (fun k_ => some k_ = (.slice BK AS.length BW : Value).ownBlock) rfl rfl ?aP (fun k_ hk_ => ((Kd.Rm (ok' := fun k_ => ((fun _ => True)) k_ ∧ some k_ ≠ (u10 : Value).ownBlock) (Kd.Ra (AJ.o) (Kd.S_typed Ah.o) (by decide)) (fun k_ hk => ⟨trivial, hk.2⟩))).1 k_ hk_.symm) ?aF ?aO ?aB ?aS ?aL ?_; (case aP => exact Kd.M_row (Kd.Rm (Kd.Rg rfl (Kd.Rm (ok' := fun k_ => ((fun _ => True)) k_ ∧ some k_ ≠ (u10 : Value).ownBlock) (Kd.Ra (AJ.o) (Kd.S_typed Ah.o) (by decide)) (fun k_ hk => ⟨trivial, hk.2⟩))) (fun _ h_ => h_))); (case aB => exact (vB HB)); (case aF => exact (fun _ _ => trivial)); (case aO => exact (by (with_reducible repeat (first | apply Kd.S_alloc | apply Kd.S_drewN | apply Kd.S_drew)); exact Kd.S_mono Ah.o (fun k_ hk => ⟨trivial, fun e_ => hk.2 e_⟩))); (case aS => exact (below_size (vB HB))); (case aL => have := Bh.o; omega); intro Bx HC ho hb hg hat; rw [← Bi.o] at ho; have Aj := Z.m (ho); replace A0 := Z.m (Kd.Ro (vR A0) (Kd.S_typed (vS Ah)) (by decide) hg); replace A2 := Z.m (qg (g := AO) (o := .cells #[.int .i64 a0_0, .int .i64 a0_1, .slice A0_2 l0_2.length c0_2] 32 (0, 0)) (vK A2) hg (Kd.S_ne Ah.o A2.o (by decide))); replace A6 := Z.m (qg (g := Ax) (o := .cells #[.int .i64 As, .int .i64 At, .int .i64 Au] 27 (0, 0)) (vK A6) hg (Kd.S_ne Ah.o A6.o (by decide))); replace A9 := Z.m (qg (g := Ay) (o := .cells #[.int .i64 Av, .int .i64 Aw, .slice none 0 0] 32 (0, 0)) (vK A9) hg (Kd.S_ne Ah.o A9.o (by decide))); replace A3 := Z.m (qg (g := AF) (o := .cells #[.int .i64 Ak, .int .i64 Al, u205002] 32 (0, 0)) (vK A3) hg (Kd.S_ne Ah.o A3.o (by decide))); replace HB := Z.m (hb); clear Ah AJ; clear ho hb hg hat; have Gi := A7.o; have GM := An.o; have Gj := A8.o; have GN := Aq.o; have DM := bc0 A3; have DN := bc1 A3; have DO := bc2 A3; have Ep := qz A3.o 0; have Er := qz A3.o 1; have Es := qz A3.o 2; obtain ⟨B3, B8, FN⟩ := Kd.R_slice A0.o; subst FN) | ((with_reducible refine gc (f := 83) rfl ?_); refine gA (some 32) _ #[.agg #[.int .i64 Ak, .int .i64 Al, .slice B3 A5.length B8], .int .i64 Ac, .int .i64 Af] ?_ Try.func83; (with_reducible refine (spec_boAt.calls Ak Al _ _ A5 Ac Af AE AG _ ?side1 ?side2 FF.o).mono ?_); (case side1 => repeat (first | exact (Kd.RrZ A0.o).2.2 | (with_reducible refine Kd.C_alloc ?_ _) | (with_reducible refine Kd.C_drewN ?_ _) | (with_reducible refine Kd.C_drew ?_))); (case side2 => exact (Kd.RrZ A0.o).2.1); rintro e HD ⟨rfl, hb⟩; refine ⟨_, rfl, ?_⟩; replace A0 := Z.m (Kd.Rb (vR A0) hb); replace Aj := Z.m (Kd.S_below (vS Aj) hb); replace A2 := kB A2 hb; replace A6 := kB A6 hb; replace A9 := kB A9 hb; replace A3 := kB A3 hb; replace HB := bB HB hb; (try clear hb); (try clear BY); (try clear hk); (try clear hi)) | ((with_reducible refine gq (N := 13) rfl ?_); refine be (N := 13) (cs := #[.int .i64 0, .int .i64 0]) (t := 89) ?_; intro Ag hg HE hbox hb; have Ai := Z.m (hbox); have AW := gW (w := w) HB hg; have AZ := AW; have AC := neL A2 hg; have AM := neG A2 hg; have Ao := neL A6 hg; have Az := neG A6 hg; have Ar := neL A9 hg; have AA := neG A9 hg; have AD := neL A3 hg; have AN := neG A3 hg; replace A0 := Z.m (Kd.Rb (Kd.R_elderB (vR A0) Ag (Nat.le_of_eq hg.symm)) hb); replace Aj := Z.m (Kd.S_below (vS Aj) hb); replace A2 := kB A2 hb; replace A6 := kB A6 hb; replace A9 := kB A9 hb; replace A3 := kB A3 hb; replace HB := bB HB hb; clear hb hbox hg; have Gk := AM.o; have GO := AC.o; have Gl := Az.o; have GP := Ao.o; have Gm := AA.o; have GQ := Ar.o; have Gn := AN.o; have GR := AD.o; have DP := bc0 Ai; have DQ := bc1 Ai; have Et := qz Ai.o 0; have Eu := qz Ai.o 1) | ((with_reducible refine gc (f := 84) rfl ?_); refine gA (some 43) _ #[.agg #[.int .i64 AE, .int .i64 AG], .int .i64 AQ] ?_ Try.func84; (with_reducible refine (spec_paGoes.calls k1 AE AG AQ AB _ FX.o).mono ?_); rintro e HF ⟨rfl, hb⟩; refine ⟨_, rfl, ?_⟩; replace A0 := Z.m (Kd.Rb (by refine rK ?_; exact (Kd.Rm (rf (rf (Kd.Rm A0.o (fun k_ hk => (⟨hk, hk.2⟩ : _ ∧ k_ ≠ Ag))))) (fun _ h_ => h_.1))) hb); replace Aj := Z.m (Kd.S_below (by (with_reducible repeat (first | apply Kd.S_alloc | apply Kd.S_drewN | apply Kd.S_drew)); exact (Kd.S_mono (Kd.S_far (p := ⟨Ag, 1, none⟩) (Kd.S_far (p := ⟨Ag, 0, none⟩) (Kd.S_types Aj.o Ai.o (by decide)) (fun _ hk => hk.2) (.int .i64 AE)) (fun _ hk => hk.2) (.int .i64 AG)) (fun _ h_ => h_.1))) hb); replace A2 := Z.m (qb (g := AO) (o := .cells #[.int .i64 a0_0, .int .i64 a0_1, .slice A0_2 l0_2.length c0_2] 32 (0, 0)) (by refine bK ?_; (iterate 2 refine qF ?_ AC); exact A2.o) hb); replace A6 := Z.m (qb (g := Ax) (o := .cells #[.int .i64 As, .int .i64 At, .int .i64 Au] 27 (0, 0)) (by refine bK ?_; (iterate 2 refine qF ?_ Ao); exact A6.o) hb); replace A9 := Z.m (qb (g := Ay) (o := .cells #[.int .i64 Av, .int .i64 Aw, .slice none 0 0] 32 (0, 0)) (by refine bK ?_; (iterate 2 refine qF ?_ Ar); exact A9.o) hb); replace A3 := Z.m (qb (g := AF) (o := .cells #[.int .i64 Ak, .int .i64 Al, .slice B3 A5.length B8] 32 (0, 0)) (by refine bK ?_; (iterate 2 refine qF ?_ AD); exact A3.o) hb); replace Ai := Z.m (qb (g := Ag) (o := .cells #[.int .i64 AE, .int .i64 AG] 89 (0, 0)) (by refine bK ?_; refine qp (cs := #[iV AE, iV 0]) ?_ 1 _ rfl; refine bK ?_; refine qp (cs := #[iV 0, iV 0]) ?_ 0 _ rfl; refine bK ?_; exact Ai.o) hb); replace HB := bB HB hb; (try clear hb); (try clear BY); (try clear hk); (try clear hi); have DR := bc0 A3; have DS := bc1 A3; have DT := bc2 A3; have Ew := qz A3.o 0; have Ex := qz A3.o 1; have Ey := qz A3.o 2; have DU := bc0 A2; have DV := bc1 A2; have DW := bc2 A2; have Ez := qz A2.o 0; have EA := qz A2.o 1; have EB := qz A2.o 2) | ((with_reducible refine gc (f := 85) rfl ?_); refine gA (some 52) _ #[.agg #[.int .i64 Ak, .int .i64 Al, .slice B3 A5.length B8], .slice A1 l1.length c1, .int .i64 (wrap64 ((wrap64 (Ac * a0_1)) + Af))] ?_ Try.func85; (with_reducible refine (spec_flPass.calls k1 Ak Al (fun k_ => some k_ = (.slice B3 A5.length B8 : Value).ownBlock) (.slice B3 A5.length B8) A5 _ _ l1 (wrap64 ((wrap64 (Ac * a0_1)) + Af)) AI w _ ?side1 ?side2 ?side3 ?side4 FY.o).mono ?_); (case side1 => repeat (first | (with_reducible first | exact HB.o | apply qa | apply qn | apply qd | refine qx ?_ Bz.o | refine qx ?_ BA.o | refine qx ?_ BB.o | refine qx ?_ BC.o | refine qx ?_ AZ.o) | exact HB.o)); (case side2 => exact Kd.Rg rfl A0.o); (case side3 => exact Kd.C_kept_came (Kd.heap_int .i64) G2.o (vB HB) (fun k_ hs_ => (fun e_ => Kd.R_base A0.o k_ e_.symm) hs_)); (case side4 => exact G0.o); rintro e HG ⟨rfl, Dz, hb, hkp⟩; refine ⟨_, rfl, ?_⟩; replace A2 := Z.m (qk (vK A2) hkp (fun hs_ => (fun e_ => (Kd.R_ne A0.o A2.o (by decide)) e_) hs_)); replace A6 := Z.m (qk (vK A6) hkp (fun hs_ => (fun e_ => (Kd.R_ne A0.o A6.o (by decide)) e_) hs_)); replace A9 := Z.m (qk (vK A9) hkp (fun hs_ => (fun e_ => (Kd.R_ne A0.o A9.o (by decide)) e_) hs_)); replace A3 := Z.m (qk (vK A3) hkp (fun hs_ => (fun e_ => (Kd.R_ne A0.o A3.o (by decide)) e_) hs_)); replace Aj := Z.m (Kd.S_mono (ok' := fun k_ => True) (Kd.S_keptB ((Kd.S_apart' Aj.o (Kd.Rt A0.o) (by decide))) hkp (fun k_ hk_ hs_ => (hk_.2) hs_)) (fun k_ hk_ => trivial)); replace Ai := Z.m (qk (vK Ai) hkp (fun hs_ => (fun e_ => (Kd.R_away A0.o (fun _ hk => hk.2)) e_) hs_)); replace A0 := Z.m (Kd.Re rfl Dz (fun k_ e_ => A0.o.1 k_ e_)); replace HB := Z.m (hb); (try clear hb); (try clear hkp); (try clear Dz); have DX := bc0 A2; have DY := bc1 A2; have DZ := bc2 A2; have EC := qz A2.o 0; have ED := qz A2.o 1; have EE := qz A2.o 2) | ((with_reducible refine gc (f := 71) rfl ?_); refine gA (some 62) _ #[.int .i64 (wrap64 (Af + AB)), .int .i64 0, .int .i64 (wrap64 (a0_1 - 1))] ?_ Try.func71; (with_reducible refine (spec_l1In.calls (wrap64 (Af + AB)) 0 (wrap64 (a0_1 - 1)) true _ FZ.o).mono ?_); rintro e w' ⟨rfl, ⟨nd, rfl⟩⟩; refine ⟨_, rfl, ?_⟩))
       go_roundg k1
       case measure => have := G1.o; omega
       case rel => exact ⟨(wrap64 (Af + AB)), (AK), (wrap64 (-AB)), (wrap64 (Ac + 1)), (As), (At), (Au), (Av), (Aw), (AI), (.slice B3 A5.length B8), (by first | rfl | (simp; done) | (simp [*]; done)), (by first | rfl | (simp; done) | (simp [*]; done)), (by first | rfl | (simp; done) | (simp [*]; done)), H', ⟨by have := G1.o; omega⟩, ⟨vS Aj⟩, ⟨by refine rK ?_; exact Kd.Rm A0.o (fun _ hk => trivial)⟩, ⟨vK A2⟩, ⟨vK A6⟩, ⟨vK A9⟩, ⟨vK A3⟩, ⟨vB HB⟩⟩
      ·replace c52 := Bool.eq_false_iff.mpr c52
       subst c52
       have H1 : (some (3, Ac, wrap64 (Af + AB), Ak, Al, AI, AK)) = some (r1, r2, r3, r4, r5, r6, r7) := by rw [if_neg (show ¬ (false = true) by decide)] at H; exact H
       clear H
       have H := H1
       clear H1
       simp only [Option.some.injEq, Prod.mk.injEq] at H
       obtain ⟨rfl, rfl, rfl, rfl, rfl, rfl, rfl⟩ := H
       have Go := Aa.o
       have GS := Am.o
       have Gp := Ab.o
       have GT := Ap.o
       have Gq := AH.o
       have GU := AL.o
       have E0 := bc0 A2
       have E1 := bc1 A2
       have E2 := bc2 A2
       have EF := qz A2.o 0
       have EG := qz A2.o 1
       have EH := qz A2.o 2
       try go_wp2_with (first | ((with_reducible refine gq (N := 26) rfl ?_); refine Kd.R_lit (Kd.int .i64) _ 3 ?hg (N := 26) ?hd (xs := ([Ac, Af] : List Int)) (inner := [.int .i64 Ac, .int .i64 Af]) (ok := fun _ => True) (okp := fun _ => True) ?hr ?hp (fun _ hk => hk) trivial (Below.refl _ _) (Nat.le_refl _) (by simp) ?_; (case hd => rfl); (case hg => rfl); (case hr => first | (go_simp; done) | (go_simp; rfl)); (case hp => exact (Reps.one (show Kd.M (Kd.int .i64) _ _ _ Ac [.int .i64 Ac] from rfl) (Reps.one (show Kd.M (Kd.int .i64) _ _ _ Af [.int .i64 Af] from rfl) (Reps.none _ _)))); intro DA HH Bc hb hg_ hnew_; clear hg_ hnew_; (first | rw [← AV.o] at Bc | (simp only [Int.reduceToNat] at Bc; rw [← AV.o] at Bc)); have AJ := Z.m (Kd.R_lower Bc (below_size (vB HB))); replace Ah := Z.m (Kd.S_elder' (vS Ah) (Kd.R_base Bc) hb); replace A0 := Z.m (Kd.Rb (vR A0) hb); replace A2 := kB A2 hb; replace A6 := kB A6 hb; replace A9 := kB A9 hb; replace A3 := kB A3 hb; replace HB := bB HB hb; clear hb Bc; obtain ⟨BL, BX, FO⟩ := Kd.R_slice AJ.o; subst FO) | ((with_reducible refine gu (b := .append) (xs := #[.tmp 23, .tmp 27]) rfl ?_); at_builtin; refine Kd.S_append (Kd.slice 3 (Kd.int .i64)) (w0 := w) w.heap.size rfl (.tmp 23) (.tmp 27) 54 43 (.slice none 0 0) 24 rfl Try.underlying54 info43 rfl (by decide) (by omega) u10 AP AS [.slice BL AS.length BX] (fun _ => True) (fun k_ => some k_ = (.slice BL AS.length BX : Value).ownBlock) rfl rfl ?aP (fun k_ hk_ => ((Kd.Rm (ok' := fun k_ => ((fun _ => True)) k_ ∧ some k_ ≠ (u10 : Value).ownBlock) (Kd.Ra (AJ.o) (Kd.S_typed Ah.o) (by decide)) (fun k_ hk => ⟨trivial, hk.2⟩))).1 k_ hk_.symm) ?aF ?aO ?aB ?aS ?aL ?_; (case aP => exact Kd.M_row (Kd.Rm (Kd.Rg rfl (Kd.Rm (ok' := fun k_ => ((fun _ => True)) k_ ∧ some k_ ≠ (u10 : Value).ownBlock) (Kd.Ra (AJ.o) (Kd.S_typed Ah.o) (by decide)) (fun k_ hk => ⟨trivial, hk.2⟩))) (fun _ h_ => h_))); (case aB => exact (vB HB)); (case aF => exact (fun _ _ => trivial)); (case aO => exact (by (with_reducible repeat (first | apply Kd.S_alloc | apply Kd.S_drewN | apply Kd.S_drew)); exact Kd.S_mono Ah.o (fun k_ hk => ⟨trivial, fun e_ => hk.2 e_⟩))); (case aS => exact (below_size (vB HB))); (case aL => have := Bh.o; omega); intro Bx HI ho hb hg hat; rw [← Bi.o] at ho; have Aj := Z.m (ho); replace A0 := Z.m (Kd.Ro (vR A0) (Kd.S_typed (vS Ah)) (by decide) hg); replace A2 := Z.m (qg (g := AO) (o := .cells #[.int .i64 a0_0, .int .i64 a0_1, .slice A0_2 l0_2.length c0_2] 32 (0, 0)) (vK A2) hg (Kd.S_ne Ah.o A2.o (by decide))); replace A6 := Z.m (qg (g := Ax) (o := .cells #[.int .i64 As, .int .i64 At, .int .i64 Au] 27 (0, 0)) (vK A6) hg (Kd.S_ne Ah.o A6.o (by decide))); replace A9 := Z.m (qg (g := Ay) (o := .cells #[.int .i64 Av, .int .i64 Aw, .slice none 0 0] 32 (0, 0)) (vK A9) hg (Kd.S_ne Ah.o A9.o (by decide))); replace A3 := Z.m (qg (g := AF) (o := .cells #[.int .i64 Ak, .int .i64 Al, u205002] 32 (0, 0)) (vK A3) hg (Kd.S_ne Ah.o A3.o (by decide))); replace HB := Z.m (hb); clear Ah AJ; clear ho hb hg hat; have Gr := A7.o; have GV := An.o; have Gs := A8.o; have GW := Aq.o; have E3 := bc0 A3; have E4 := bc1 A3; have E5 := bc2 A3; have EI := qz A3.o 0; have EJ := qz A3.o 1; have EK := qz A3.o 2; obtain ⟨AT, AU, FP⟩ := Kd.R_slice A0.o; subst FP) | ((with_reducible refine gc (f := 83) rfl ?_); refine gA (some 32) _ #[.agg #[.int .i64 Ak, .int .i64 Al, .slice AT A5.length AU], .int .i64 Ac, .int .i64 Af] ?_ Try.func83; (with_reducible refine (spec_boAt.calls Ak Al _ _ A5 Ac Af AE AG _ ?side1 ?side2 FF.o).mono ?_); (case side1 => repeat (first | exact (Kd.RrZ A0.o).2.2 | (with_reducible refine Kd.C_alloc ?_ _) | (with_reducible refine Kd.C_drewN ?_ _) | (with_reducible refine Kd.C_drew ?_))); (case side2 => exact (Kd.RrZ A0.o).2.1); rintro e HJ ⟨rfl, hb⟩; refine ⟨_, rfl, ?_⟩; replace A0 := Z.m (Kd.Rb (vR A0) hb); replace Aj := Z.m (Kd.S_below (vS Aj) hb); replace A2 := kB A2 hb; replace A6 := kB A6 hb; replace A9 := kB A9 hb; replace A3 := kB A3 hb; replace HB := bB HB hb; (try clear hb); (try clear BY); (try clear hk); (try clear hi)) | ((with_reducible refine gq (N := 13) rfl ?_); refine be (N := 13) (cs := #[.int .i64 0, .int .i64 0]) (t := 89) ?_; intro Ag hg HK hbox hb; have Ai := Z.m (hbox); have AW := gW (w := w) HB hg; have AZ := AW; have AC := neL A2 hg; have AM := neG A2 hg; have Ao := neL A6 hg; have Az := neG A6 hg; have Ar := neL A9 hg; have AA := neG A9 hg; have AD := neL A3 hg; have AN := neG A3 hg; replace A0 := Z.m (Kd.Rb (Kd.R_elderB (vR A0) Ag (Nat.le_of_eq hg.symm)) hb); replace Aj := Z.m (Kd.S_below (vS Aj) hb); replace A2 := kB A2 hb; replace A6 := kB A6 hb; replace A9 := kB A9 hb; replace A3 := kB A3 hb; replace HB := bB HB hb; clear hb hbox hg; have Gt := AM.o; have GX := AC.o; have Gu := Az.o; have GY := Ao.o; have Gv := AA.o; have GZ := Ar.o; have Gw := AN.o; have H0 := AD.o; have E6 := bc0 Ai; have E7 := bc1 Ai; have EL := qz Ai.o 0; have EM := qz Ai.o 1) | ((with_reducible refine gc (f := 84) rfl ?_); refine gA (some 43) _ #[.agg #[.int .i64 AE, .int .i64 AG], .int .i64 AQ] ?_ Try.func84; (with_reducible refine (spec_paGoes.calls k1 AE AG AQ AB _ FX.o).mono ?_); rintro e HL ⟨rfl, hb⟩; refine ⟨_, rfl, ?_⟩; replace A0 := Z.m (Kd.Rb (by refine rK ?_; exact (Kd.Rm (rf (rf (Kd.Rm A0.o (fun k_ hk => (⟨hk, hk.2⟩ : _ ∧ k_ ≠ Ag))))) (fun _ h_ => h_.1))) hb); replace Aj := Z.m (Kd.S_below (by (with_reducible repeat (first | apply Kd.S_alloc | apply Kd.S_drewN | apply Kd.S_drew)); exact (Kd.S_mono (Kd.S_far (p := ⟨Ag, 1, none⟩) (Kd.S_far (p := ⟨Ag, 0, none⟩) (Kd.S_types Aj.o Ai.o (by decide)) (fun _ hk => hk.2) (.int .i64 AE)) (fun _ hk => hk.2) (.int .i64 AG)) (fun _ h_ => h_.1))) hb); replace A2 := Z.m (qb (g := AO) (o := .cells #[.int .i64 a0_0, .int .i64 a0_1, .slice A0_2 l0_2.length c0_2] 32 (0, 0)) (by refine bK ?_; (iterate 2 refine qF ?_ AC); exact A2.o) hb); replace A6 := Z.m (qb (g := Ax) (o := .cells #[.int .i64 As, .int .i64 At, .int .i64 Au] 27 (0, 0)) (by refine bK ?_; (iterate 2 refine qF ?_ Ao); exact A6.o) hb); replace A9 := Z.m (qb (g := Ay) (o := .cells #[.int .i64 Av, .int .i64 Aw, .slice none 0 0] 32 (0, 0)) (by refine bK ?_; (iterate 2 refine qF ?_ Ar); exact A9.o) hb); replace A3 := Z.m (qb (g := AF) (o := .cells #[.int .i64 Ak, .int .i64 Al, .slice AT A5.length AU] 32 (0, 0)) (by refine bK ?_; (iterate 2 refine qF ?_ AD); exact A3.o) hb); replace Ai := Z.m (qb (g := Ag) (o := .cells #[.int .i64 AE, .int .i64 AG] 89 (0, 0)) (by refine bK ?_; refine qp (cs := #[iV AE, iV 0]) ?_ 1 _ rfl; refine bK ?_; refine qp (cs := #[iV 0, iV 0]) ?_ 0 _ rfl; refine bK ?_; exact Ai.o) hb); replace HB := bB HB hb; (try clear hb); (try clear BY); (try clear hk); (try clear hi); have E8 := bc0 A3; have E9 := bc1 A3; have Ea := bc2 A3; have EN := qz A3.o 0; have EO := qz A3.o 1; have EP := qz A3.o 2; have Eb := bc0 A2; have Ec := bc1 A2; have Ed := bc2 A2; have EQ := qz A2.o 0; have ER := qz A2.o 1; have ES := qz A2.o 2) | ((with_reducible refine gc (f := 85) rfl ?_); refine gA (some 52) _ #[.agg #[.int .i64 Ak, .int .i64 Al, .slice AT A5.length AU], .slice A1 l1.length c1, .int .i64 (wrap64 ((wrap64 (Ac * a0_1)) + Af))] ?_ Try.func85; (with_reducible refine (spec_flPass.calls k1 Ak Al (fun k_ => some k_ = (.slice AT A5.length AU : Value).ownBlock) (.slice AT A5.length AU) A5 _ _ l1 (wrap64 ((wrap64 (Ac * a0_1)) + Af)) AI w _ ?side1 ?side2 ?side3 ?side4 FY.o).mono ?_); (case side1 => repeat (first | (with_reducible first | exact HB.o | apply qa | apply qn | apply qd | refine qx ?_ Bz.o | refine qx ?_ BA.o | refine qx ?_ BB.o | refine qx ?_ BC.o | refine qx ?_ AZ.o) | exact HB.o)); (case side2 => exact Kd.Rg rfl A0.o); (case side3 => exact Kd.C_kept_came (Kd.heap_int .i64) G2.o (vB HB) (fun k_ hs_ => (fun e_ => Kd.R_base A0.o k_ e_.symm) hs_)); (case side4 => exact G0.o); rintro e Bf ⟨rfl, Dz, hb, hkp⟩; refine ⟨_, rfl, ?_⟩; replace A2 := Z.m (qk (vK A2) hkp (fun hs_ => (fun e_ => (Kd.R_ne A0.o A2.o (by decide)) e_) hs_)); replace A6 := Z.m (qk (vK A6) hkp (fun hs_ => (fun e_ => (Kd.R_ne A0.o A6.o (by decide)) e_) hs_)); replace A9 := Z.m (qk (vK A9) hkp (fun hs_ => (fun e_ => (Kd.R_ne A0.o A9.o (by decide)) e_) hs_)); replace A3 := Z.m (qk (vK A3) hkp (fun hs_ => (fun e_ => (Kd.R_ne A0.o A3.o (by decide)) e_) hs_)); replace Aj := Z.m (Kd.S_mono (ok' := fun k_ => True) (Kd.S_keptB ((Kd.S_apart' Aj.o (Kd.Rt A0.o) (by decide))) hkp (fun k_ hk_ hs_ => (hk_.2) hs_)) (fun k_ hk_ => trivial)); replace Ai := Z.m (qk (vK Ai) hkp (fun hs_ => (fun e_ => (Kd.R_away A0.o (fun _ hk => hk.2)) e_) hs_)); replace A0 := Z.m (Kd.Re rfl Dz (fun k_ e_ => A0.o.1 k_ e_)); replace HB := Z.m (hb); (try clear hb); (try clear hkp); (try clear Dz); have BZ := bc0 A2; have C0 := bc1 A2; have C1 := bc2 A2; have C5 := qz A2.o 0; have C6 := qz A2.o 1; have C7 := qz A2.o 2) | ((with_reducible refine gc (f := 71) rfl ?_); refine gA (some 62) _ #[.int .i64 (wrap64 (Af + AB)), .int .i64 0, .int .i64 (wrap64 (a0_1 - 1))] ?_ Try.func71; (with_reducible refine (spec_l1In.calls (wrap64 (Af + AB)) 0 (wrap64 (a0_1 - 1)) false _ FZ.o).mono ?_); rintro e w' ⟨rfl, ⟨nd, rfl⟩⟩; refine ⟨_, rfl, ?_⟩; (try (rw [drewN_self Bf]; generalize hq_ : World.drewN Bf _ = Bf; replace Aj : Z (Kd.S (Kd.slice 3 (Kd.int .i64)) 43 Bf w.heap.size (fun _ => True) Bx AK) := ⟨by rw [← hq_]; exact (vS Aj)⟩; replace A0 : Z (Kd.R k89 89 Bf w.heap.size (fun k_ => k_ ≠ Ag) (.slice AT A5.length AU) AI) := ⟨by rw [← hq_]; exact (by refine rK ?_; exact Kd.Rm A0.o (fun _ hk => hk.2))⟩; replace A2 : Z (Bf.heap[AO]? = some (.cells #[.int .i64 a0_0, .int .i64 a0_1, .slice A0_2 l0_2.length c0_2] 32 (0, 0))) := ⟨by rw [← hq_]; exact (vK A2)⟩; replace A6 : Z (Bf.heap[Ax]? = some (.cells #[.int .i64 As, .int .i64 At, .int .i64 Au] 27 (0, 0))) := ⟨by rw [← hq_]; exact (vK A6)⟩; replace A9 : Z (Bf.heap[Ay]? = some (.cells #[.int .i64 Av, .int .i64 Aw, .slice none 0 0] 32 (0, 0))) := ⟨by rw [← hq_]; exact (vK A9)⟩; replace A3 : Z (Bf.heap[AF]? = some (.cells #[.int .i64 Ak, .int .i64 Al, .slice AT A5.length AU] 32 (0, 0))) := ⟨by rw [← hq_]; exact (vK A3)⟩; replace Ai : Z (Bf.heap[Ag]? = some (.cells #[.int .i64 AE, .int .i64 AG] 89 (0, 0))) := ⟨by rw [← hq_]; exact (vK Ai)⟩; replace HB : Z (Below w.heap.size w Bf) := ⟨by rw [← hq_]; exact (vB HB)⟩; clear hq_))))
       replace A0 := Z.m (Kd.R_drew A0.o)
       replace Aj := Z.m (Kd.S_drew Aj.o)
       replace A2 := Z.m (blk_drew A2.o)
       replace A6 := Z.m (blk_drew A6.o)
       replace A9 := Z.m (blk_drew A9.o)
       replace A3 := Z.m (blk_drew A3.o)
       replace Ai := Z.m (blk_drew Ai.o)
       replace HB := Z.m (qd HB.o)
       refine start_ (n := 8) (S := fun w' => w'.cell? ⟨AF, 0, none⟩ = some (.int .i64 Ak) ∧ w'.cell? ⟨AF, 1, none⟩ = some (.int .i64 Al) ∧ w'.cell? ⟨AF, 2, none⟩ = some (.slice AT A5.length AU)) (ds := []) #[false, false, false, false, false, false, false, false] (by kernel_rfl) rfl rfl ⟨(ql A3.o 0).trans rfl, (ql A3.o 1).trans rfl, (ql A3.o 2).trans rfl⟩ (fun hHeld => ?_); refine with_tabW spec_flGo.tab16 spec_flGo.bits16 (fun HT_ HW_ => ?_)
       generalize Bf.drew = Bd at A0 Aj A2 A6 A9 A3 Ai HB hHeld ⊢
       refine pure_ (i := 0) (N := some 64) (v := ?_) (a' := ?_) #[true, false, false, false, false, false, false, false] rfl rfl (any_of HT_.o (by kernel_rfl)) (fun _ _ _ h => h) (Or.inl ⟨by rfl, ?_⟩) ?_ ?_
       rotate_left
       ·intro w'
        go_simp
        with_reducible rfl
       rotate_left
       ·simp only [Act.put, q1, q2, q3, i64_w, i32_w]
        rfl
       refine pure_ (i := 1) (N := some 65) (v := ?_) (a' := ?_) #[true, true, false, false, false, false, false, false] rfl rfl (any_of HT_.o (by kernel_rfl)) (fun _ _ _ h => h) (Or.inl ⟨by rfl, ?_⟩) ?_ ?_
       rotate_left
       ·intro w'
        go_simp
        with_reducible rfl
       rotate_left
       ·simp only [Act.put, q1, q2, q3, i64_w, i32_w]
        rfl
       refine pure_ (i := 2) (N := some 66) (v := ?_) (a' := ?_) #[true, true, true, false, false, false, false, false] rfl rfl (any_of HT_.o (by kernel_rfl)) (fun _ _ _ h => h) (Or.inl ⟨by rfl, ?_⟩) ?_ ?_
       rotate_left
       ·intro w'
        go_simp
        with_reducible rfl
       rotate_left
       ·simp only [Act.put, q1, q2, q3, i64_w, i32_w]
        rfl
       refine pure_ (i := 4) (N := some 68) (v := ?_) (a' := ?_) #[true, true, true, false, true, false, false, false] rfl rfl (any_of HT_.o (by kernel_rfl)) (fun _ _ _ h => h) (Or.inl ⟨by rfl, ?_⟩) ?_ ?_
       rotate_left
       ·intro w'
        go_simp
        with_reducible rfl
       rotate_left
       ·simp only [Act.put, q1, q2, q3, i64_w, i32_w]
        rfl
       refine take_ (i := 3) (N := some 67) (v := ?_) (a' := ?_) #[true, true, true, true, true, false, false, false] rfl rfl (take_ofW HT_.o HW_.o (by kernel_rfl)) (fun _ _ _ h => h) (Or.inl ⟨by rfl, ?_⟩) hHeld ?_ ?_
       rotate_left
       ·rintro w' ⟨s0, s1, s2⟩
        go_simp
        with_reducible rfl
       rotate_left
       ·simp only [Act.put, q1, q2, q3, i64_w, i32_w]
        rfl
       refine one_ (i := 5) (N := none) #[true, true, true, true, true, true, false, false] rfl rfl (one_of HT_.o (by kernel_rfl)) (by decide) (fun K hK => ?_)
       have H3 : Bd.cell? ⟨Ax, 0, none⟩ = some (.int .i64 As) := (ql A6.o 0).trans rfl
       have hfs102 := qz A6.o 0
       have CT := Aa.o
       have CU := Ae.o
       have CV := A7.o
       have CW := Az.o
       have Cb := Am.o
       have Cd := Ad.o
       have Ce := An.o
       have Cf := Ao.o
       have H4 : Bd.cell? ⟨Ax, 1, none⟩ = some (.int .i64 At) := (ql A6.o 1).trans rfl
       have hfs103 := qz A6.o 1
       have CX := Aa.o
       have CY := Ae.o
       have CZ := A7.o
       have D0 := Az.o
       have Cg := Am.o
       have Ch := Ad.o
       have Ci := An.o
       have Cj := Ao.o
       have H5 : Bd.cell? ⟨Ax, 2, none⟩ = some (.int .i64 Au) := (ql A6.o 2).trans rfl
       have hfs104 := qz A6.o 2
       have D1 := Aa.o
       have D2 := Ae.o
       have D3 := A7.o
       have D4 := Az.o
       have Cl := Am.o
       have Cm := Ad.o
       have Cn := An.o
       have Co := Ao.o
       refine skip_ (w1 := ?_) ?hwx ?hnx ?_ ?_; (case hwx => rfl); (case hnx => rfl)
       rotate_left
       ·go_simp
        rfl
       refine hK.out _ _ ⟨(cx A7.o ((cx A7.o ((cx A7.o (hHeld.1)))))), (cx A7.o ((cx A7.o ((cx A7.o (hHeld.2.1)))))), (cx A7.o ((cx A7.o ((cx A7.o (hHeld.2.2))))))⟩ (fun hHeld => ?_)
       clear hK K
       refine one_ (i := 6) (N := none) #[true, true, true, true, true, true, true, false] rfl rfl (one_of HT_.o (by kernel_rfl)) (by decide) (fun K hK => ?_)
       have H6 : Bd.cell? ⟨Ay, 0, none⟩ = some (.int .i64 Av) := (ql A9.o 0).trans rfl
       have hfs105 := qz A9.o 0
       have D5 := Ab.o
       have D6 := Ad.o
       have D7 := A8.o
       have D8 := AA.o
       have Cp := Ap.o
       have Cq := Ae.o
       have Cr := Aq.o
       have Cs := Ar.o
       have H7 : Bd.cell? ⟨Ay, 1, none⟩ = some (.int .i64 Aw) := (ql A9.o 1).trans rfl
       have hfs106 := qz A9.o 1
       have D9 := Ab.o
       have Da := Ad.o
       have Db := A8.o
       have Dc := AA.o
       have Ct := Ap.o
       have Cu := Ae.o
       have Cv := Aq.o
       have Cw := Ar.o
       have H8 : Bd.cell? ⟨Ay, 2, none⟩ = some (.slice none 0 0) := (ql A9.o 2).trans rfl
       have hfs107 := qz A9.o 2
       have Dd := Ab.o
       have De := Ad.o
       have Df := A8.o
       have Dg := AA.o
       have Cx := Ap.o
       have Cy := Ae.o
       have Cz := Aq.o
       have CA := Ar.o
       refine skip_ (w1 := ?_) ?hwx ?hnx ?_ ?_; (case hwx => rfl); (case hnx => rfl)
       rotate_left
       ·go_simp
        rfl
       refine hK.out _ _ ⟨(cx A8.o ((cx A8.o ((cx A8.o (hHeld.1)))))), (cx A8.o ((cx A8.o ((cx A8.o (hHeld.2.1)))))), (cx A8.o ((cx A8.o ((cx A8.o (hHeld.2.2))))))⟩ (fun hHeld => ?_)
       clear hK K
       refine pure_ (i := 7) (N := some 8) (v := ?_) (a' := ?_) #[true, true, true, true, true, true, true, true] rfl rfl (any_of HT_.o (by kernel_rfl)) (fun _ _ _ h => h) (Or.inl ⟨by rfl, ?_⟩) ?_ ?_
       rotate_left
       ·intro w'
        go_simp
        with_reducible rfl
       rotate_left
       ·simp only [Act.put, q1, q2, q3, i64_w, i32_w]
        rfl
       refine done_ (done_of HT_.o (by kernel_rfl)) ?_
       try go_wp2
       refine bodyPost_ret (rl (rs := [.cell 6 27, .cell 7 32, .tmp 8]) rfl (by simp) (.cell Ax 27 #[.int .i64 3, .int .i64 Ac, .int .i64 (wrap64 (Af + AB))] (0, 0) _ rfl (by refine bK ?_; (iterate 3 refine qF ?_ Ad); apply st3; refine bK ?_; exact A6.o) Try.underlying27 rfl (by kernel_rfl) (.cell Ay 32 #[.int .i64 Ak, .int .i64 Al, .slice AT A5.length AU] (0, 0) _ rfl (by refine bK ?_; apply st3; refine bK ?_; (iterate 3 refine qF ?_ Ae); exact A9.o) Try.underlying32 rfl (by kernel_rfl) (.tmp .nil)))) rfl ?_
       exact ⟨_, _, by first | rfl | (simp [eN, eS] <;> rfl) | (simp [*, eN, eS] <;> rfl), by refine rK ?_; exact Kd.Rm (rf (rf (rf (rf1 (rf1 (rf1 (Kd.Ry (Kd.Ry A0.o A6.o (by decide)) A9.o (by decide)))))))) (fun _ hk => trivial), by (with_reducible repeat (first | apply Kd.S_alloc | apply Kd.S_drewN | apply Kd.S_drew)); exact Kd.S_mono (Kd.S_far (p := ⟨Ay, 2, none⟩) (Kd.S_far (p := ⟨Ay, 1, none⟩) (Kd.S_far (p := ⟨Ay, 0, none⟩) (Kd.S_far (p := ⟨Ax, 2, none⟩) (Kd.S_far (p := ⟨Ax, 1, none⟩) (Kd.S_far (p := ⟨Ax, 0, none⟩) (Kd.S_types (Kd.S_types Aj.o A6.o (by decide)) A9.o (by decide)) (fun _ hk => hk.1.2) (.int .i64 3)) (fun _ hk => hk.1.2) (.int .i64 Ac)) (fun _ hk => hk.1.2) (.int .i64 (wrap64 (Af + AB)))) (fun _ hk => hk.2) (.int .i64 Ak)) (fun _ hk => hk.2) (.int .i64 Al)) (fun _ hk => hk.2) (.slice AT A5.length AU)) (fun _ hk => trivial), vB HB⟩
    ·rw [if_neg c19] at H
     exact absurd H (by simp)
   ·rw [if_neg c18] at H
    have BS := decide_eq_false c18
    clear c18
    simp only [Option.some.injEq, Prod.mk.injEq] at H
    obtain ⟨rfl, rfl, rfl, rfl, rfl, rfl, rfl⟩ := H
    have FQ := Aa.o
    have FT := Am.o
    have FR := Ab.o
    have FU := Ap.o
    have FS := AH.o
    have FV := AL.o
    have C2 := bc0 A2
    have C3 := bc1 A2
    have C4 := bc2 A2
    have C8 := qz A2.o 0
    have C9 := qz A2.o 1
    have Ca := qz A2.o 2
    try go_wp2
    replace Ah := Z.m (Kd.S_drew Ah.o)
    replace A0 := Z.m (Kd.R_drew A0.o)
    replace A2 := Z.m (blk_drew A2.o)
    replace A6 := Z.m (blk_drew A6.o)
    replace A9 := Z.m (blk_drew A9.o)
    replace A3 := Z.m (blk_drew A3.o)
    replace HB := Z.m (qd HB.o)
    obtain ⟨Bg, Bj, BD⟩ := Kd.R_slice A0.o
    (first | subst BD | (injection BD with f1_ f2_ f3_; have f4_ := f1_.symm; have f5_ := f3_.symm; clear f1_ f2_ f3_; subst f4_; subst f5_))
    refine start_ (n := 9) (S := fun w' => w'.cell? ⟨AO, 0, none⟩ = some (.int .i64 a0_0) ∧ w'.cell? ⟨AO, 1, none⟩ = some (.int .i64 a0_1) ∧ w'.cell? ⟨AO, 2, none⟩ = some (.slice A0_2 l0_2.length c0_2) ∧ w'.cell? ⟨AF, 0, none⟩ = some (.int .i64 Ak) ∧ w'.cell? ⟨AF, 1, none⟩ = some (.int .i64 Al) ∧ w'.cell? ⟨AF, 2, none⟩ = some (.slice Bg A5.length Bj)) (ds := []) #[false, false, false, false, false, false, false, false, false] (by kernel_rfl) rfl rfl ⟨(ql A2.o 0).trans rfl, (ql A2.o 1).trans rfl, (ql A2.o 2).trans rfl, (ql A3.o 0).trans rfl, (ql A3.o 1).trans rfl, (ql A3.o 2).trans rfl⟩ (fun hHeld => ?_); refine with_tabW spec_flGo.tab17 spec_flGo.bits17 (fun HT_ HW_ => ?_)
    generalize wr.drew = Be at Ah A0 A2 A6 A9 A3 HB hHeld ⊢
    refine pure_ (i := 0) (N := some 69) (v := ?_) (a' := ?_) #[true, false, false, false, false, false, false, false, false] rfl rfl (any_of HT_.o (by kernel_rfl)) (fun _ _ _ h => h) (Or.inl ⟨by rfl, ?_⟩) ?_ ?_
    rotate_left
    ·intro w'
     go_simp
     with_reducible rfl
    rotate_left
    ·simp only [Act.put, q1, q2, q3, i64_w, i32_w]
     rfl
    refine pure_ (i := 2) (N := some 71) (v := ?_) (a' := ?_) #[true, false, true, false, false, false, false, false, false] rfl rfl (any_of HT_.o (by kernel_rfl)) (fun _ _ _ h => h) (Or.inl ⟨by rfl, ?_⟩) ?_ ?_
    rotate_left
    ·intro w'
     go_simp
     with_reducible rfl
    rotate_left
    ·simp only [Act.put, q1, q2, q3, i64_w, i32_w]
     rfl
    refine pure_ (i := 5) (N := some 74) (v := ?_) (a' := ?_) #[true, false, true, false, false, true, false, false, false] rfl rfl (any_of HT_.o (by kernel_rfl)) (fun _ _ _ h => h) (Or.inl ⟨by rfl, ?_⟩) ?_ ?_
    rotate_left
    ·intro w'
     go_simp
     with_reducible rfl
    rotate_left
    ·simp only [Act.put, q1, q2, q3, i64_w, i32_w]
     rfl
    refine take_ (i := 1) (N := some 70) (v := ?_) (a' := ?_) #[true, true, true, false, false, true, false, false, false] rfl rfl (take_ofW HT_.o HW_.o (by kernel_rfl)) (fun _ _ _ h => h) (Or.inl ⟨by rfl, ?_⟩) hHeld ?_ ?_
    rotate_left
    ·rintro w' ⟨s0, s1, s2, s3, s4, s5⟩
     go_simp
     with_reducible rfl
    rotate_left
    ·simp only [Act.put, q1, q2, q3, i64_w, i32_w]
     rfl
    refine pure_ (i := 3) (N := some 72) (v := ?_) (a' := ?_) #[true, true, true, true, false, true, false, false, false] rfl rfl (any_of HT_.o (by kernel_rfl)) (fun _ _ _ h => h) (Or.inl ⟨by rfl, ?_⟩) ?_ ?_
    rotate_left
    ·intro w'
     go_simp
     with_reducible rfl
    rotate_left
    ·simp only [Act.put, q1, q2, q3, i64_w, i32_w]
     rfl
    refine take_ (i := 4) (N := some 73) (v := ?_) (a' := ?_) #[true, true, true, true, true, true, false, false, false] rfl rfl (take_ofW HT_.o HW_.o (by kernel_rfl)) (fun _ _ _ h => h) (Or.inl ⟨by rfl, ?_⟩) hHeld ?_ ?_
    rotate_left
    ·rintro w' ⟨s0, s1, s2, s3, s4, s5⟩
     go_simp
     with_reducible rfl
    rotate_left
    ·simp only [Act.put, q1, q2, q3, i64_w, i32_w]
     rfl
    refine one_ (i := 6) (N := none) #[true, true, true, true, true, true, true, false, false] rfl rfl (one_of HT_.o (by kernel_rfl)) (by decide) (fun K hK => ?_)
    have H9 : Be.cell? ⟨Ax, 0, none⟩ = some (.int .i64 As) := (ql A6.o 0).trans rfl
    have hfs113 := qz A6.o 0
    have Dh := Aa.o
    have Di := Ae.o
    have Dj := A7.o
    have CB := Am.o
    have CC := Ad.o
    have CD := An.o
    have Ha : Be.cell? ⟨Ax, 1, none⟩ = some (.int .i64 At) := (ql A6.o 1).trans rfl
    have hfs114 := qz A6.o 1
    have Dk := Aa.o
    have Dl := Ae.o
    have Dm := A7.o
    have CE := Am.o
    have CF := Ad.o
    have CG := An.o
    have Hb : Be.cell? ⟨Ax, 2, none⟩ = some (.int .i64 Au) := (ql A6.o 2).trans rfl
    have hfs115 := qz A6.o 2
    have Dn := Aa.o
    have Do := Ae.o
    have Dp := A7.o
    have CH := Am.o
    have CI := Ad.o
    have CJ := An.o
    refine skip_ (w1 := ?_) ?hwx ?hnx ?_ ?_; (case hwx => rfl); (case hnx => rfl)
    rotate_left
    ·go_simp
     rfl
    refine hK.out _ _ ⟨(cx Aa.o ((cx Aa.o ((cx Aa.o (hHeld.1)))))), (cx Aa.o ((cx Aa.o ((cx Aa.o (hHeld.2.1)))))), (cx Aa.o ((cx Aa.o ((cx Aa.o (hHeld.2.2.1)))))), (cx A7.o ((cx A7.o ((cx A7.o (hHeld.2.2.2.1)))))), (cx A7.o ((cx A7.o ((cx A7.o (hHeld.2.2.2.2.1)))))), (cx A7.o ((cx A7.o ((cx A7.o (hHeld.2.2.2.2.2))))))⟩ (fun hHeld => ?_)
    clear hK K
    refine one_ (i := 7) (N := none) #[true, true, true, true, true, true, true, true, false] rfl rfl (one_of HT_.o (by kernel_rfl)) (by decide) (fun K hK => ?_)
    have Hc : Be.cell? ⟨Ay, 0, none⟩ = some (.int .i64 Av) := (ql A9.o 0).trans rfl
    have hfs116 := qz A9.o 0
    have Dq := Ab.o
    have Dr := Ad.o
    have Ds := A8.o
    have CK := Ap.o
    have CL := Ae.o
    have CM := Aq.o
    have Hd : Be.cell? ⟨Ay, 1, none⟩ = some (.int .i64 Aw) := (ql A9.o 1).trans rfl
    have hfs117 := qz A9.o 1
    have Dt := Ab.o
    have Du := Ad.o
    have Dv := A8.o
    have CN := Ap.o
    have CO := Ae.o
    have CP := Aq.o
    have He : Be.cell? ⟨Ay, 2, none⟩ = some (.slice none 0 0) := (ql A9.o 2).trans rfl
    have hfs119 := qz A9.o 2
    have Dw := Ab.o
    have Dx := Ad.o
    have Dy := A8.o
    have CQ := Ap.o
    have CR := Ae.o
    have CS := Aq.o
    refine skip_ (w1 := ?_) ?hwx ?hnx ?_ ?_; (case hwx => rfl); (case hnx => rfl)
    rotate_left
    ·go_simp
     rfl
    refine hK.out _ _ ⟨(cx Ab.o ((cx Ab.o ((cx Ab.o (hHeld.1)))))), (cx Ab.o ((cx Ab.o ((cx Ab.o (hHeld.2.1)))))), (cx Ab.o ((cx Ab.o ((cx Ab.o (hHeld.2.2.1)))))), (cx A8.o ((cx A8.o ((cx A8.o (hHeld.2.2.2.1)))))), (cx A8.o ((cx A8.o ((cx A8.o (hHeld.2.2.2.2.1)))))), (cx A8.o ((cx A8.o ((cx A8.o (hHeld.2.2.2.2.2))))))⟩ (fun hHeld => ?_)
    clear hK K
    refine pure_ (i := 8) (N := some 8) (v := ?_) (a' := ?_) #[true, true, true, true, true, true, true, true, true] rfl rfl (any_of HT_.o (by kernel_rfl)) (fun _ _ _ h => h) (Or.inl ⟨by rfl, ?_⟩) ?_ ?_
    rotate_left
    ·intro w'
     go_simp
     with_reducible rfl
    rotate_left
    ·simp only [Act.put, q1, q2, q3, i64_w, i32_w]
     rfl
    refine done_ (done_of HT_.o (by kernel_rfl)) ?_
    try go_wp2
    refine bodyPost_ret (rl (rs := [.cell 6 27, .cell 7 32, .tmp 8]) rfl (by simp) (.cell Ax 27 #[.int .i64 1, .int .i64 a0_0, .int .i64 Af] (0, 0) _ rfl (by refine bK ?_; (iterate 3 refine qF ?_ Ad); apply st3; refine bK ?_; exact A6.o) Try.underlying27 rfl (by kernel_rfl) (.cell Ay 32 #[.int .i64 Ak, .int .i64 Al, .slice Bg A5.length Bj] (0, 0) _ rfl (by refine bK ?_; apply st3; refine bK ?_; (iterate 3 refine qF ?_ Ae); exact A9.o) Try.underlying32 rfl (by kernel_rfl) (.tmp .nil)))) rfl ?_
    exact ⟨_, _, by first | rfl | (simp [eN, eS] <;> rfl) | (simp [*, eN, eS] <;> rfl), by refine rK ?_; exact Kd.Rm (rf (rf (rf (rf1 (rf1 (rf1 (Kd.Ry (Kd.Ry A0.o A6.o (by decide)) A9.o (by decide)))))))) (fun _ hk => trivial), by (with_reducible repeat (first | apply Kd.S_alloc | apply Kd.S_drewN | apply Kd.S_drew)); exact Kd.S_mono (Kd.S_far (p := ⟨Ay, 2, none⟩) (Kd.S_far (p := ⟨Ay, 1, none⟩) (Kd.S_far (p := ⟨Ay, 0, none⟩) (Kd.S_far (p := ⟨Ax, 2, none⟩) (Kd.S_far (p := ⟨Ax, 1, none⟩) (Kd.S_far (p := ⟨Ax, 0, none⟩) (Kd.S_types (Kd.S_types Ah.o A6.o (by decide)) A9.o (by decide)) (fun _ hk => hk.1.2) (.int .i64 1)) (fun _ hk => hk.1.2) (.int .i64 a0_0)) (fun _ hk => hk.1.2) (.int .i64 Af)) (fun _ hk => hk.2) (.int .i64 Ak)) (fun _ hk => hk.2) (.int .i64 Al)) (fun _ hk => hk.2) (.slice Bg A5.length Bj)) (fun _ hk => trivial), vB HB⟩

end Go.Proofs.Ytoklfgjemfojgaa.PAll
