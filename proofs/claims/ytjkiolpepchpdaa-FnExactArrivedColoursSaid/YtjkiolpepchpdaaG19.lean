/- Began as a text that print.sh wrote (of the functions named below); turned and shortened by this session. -/
import Derived.Test.YtjkiolpepchpdaaG0
import Derived.Test.YtjkiolpepchpdaaG12
import Derived.Test.YtjkiolpepchpdaaG16
import Derived.Test.YtjkiolpepchpdaaG18
namespace Go.Proofs.Ytjkiolpepchpdaa.PAll
open Go.RowKit Go.Proofs.YtjkiolpepchpdaaW.PrintWords Go.Proofs.YtjkiolpepchpdaaW.PrintLast Go.Proofs.YtjkiolpepchpdaaW.PrintMore
attribute [local go_sem] max2_int min2_int max_two min_two max_three min_three max_four min_four   -- for this text's walks alone
set_option linter.unusedVariables false
set_option linter.unusedSimpArgs false

/-! ### impl_runSteps: function 39 -/
def impl_runSteps.l0 : Nat → Int → List Int → List (S69) → Int → Int → List (S88) → Int → Int → Int → Int → Int → Option (Int × Int × (List (S88)) × Int × Int × Int × Int × Int × (List (S69)))
 | 0, _, _, _, _, _, _, _, _, _, _, _ => none
 | k + 1, x1, x7, x8, x442000, x442001, x442002, x442003, x442004, x442005, x442006, x442007 => if (x8.length : Int) < x1 then ((impl_canStep.f x442000 x442001 x442002 x442003 x442004 x442005 x442006 x442007).bind fun t448 => (if t448 = true then ((impl_stepOn.f k x442000 x442001 x442002 x442003 x442004 x442005 x442006 x442007 x7).bind fun bt449 => (if x8.length < 4398046511104 then (impl_runSteps.l0 k x1 x7 (x8 ++ [(⟨x442007, (⟨bt449.1, bt449.2.1, bt449.2.2.1⟩ : S52)⟩ : S69)]) x442000 x442001 bt449.2.2.2.2.2.2 x442003 x442004 bt449.2.2.2.1 bt449.2.2.2.2.1 bt449.2.2.2.2.2.1) else (none))) else (some (x442000, x442001, x442002, x442003, x442004, x442005, x442006, x442007, x8)))) else (some (x442000, x442001, x442002, x442003, x442004, x442005, x442006, x442007, x8))
def impl_runSteps.f (k : Nat) (a0_0 : Int) (a0_1 : Int) (l0_2 : List (S88)) (a0_3 : Int) (a0_4 : Int) (a0_5 : Int) (a0_6 : Int) (a0_7 : Int) (a1 : Int) : Option (Int × Int × (List (S88)) × Int × Int × Int × Int × Int × (List (S69))) := (impl_copyMachine.f a0_0 a0_1 l0_2 a0_3 a0_4 a0_5 a0_6 a0_7).bind fun bt431 => ((impl_groupNumbers.f k a0_0 a0_1 l0_2).bind fun t442 => (impl_runSteps.l0 k a1 t442 (([] : List (S69))) bt431.1 bt431.2.1 bt431.2.2.1 bt431.2.2.2.1 bt431.2.2.2.2.1 bt431.2.2.2.2.2.1 bt431.2.2.2.2.2.2.1 bt431.2.2.2.2.2.2.2))
set_option maxHeartbeats 8000000 in
set_option maxRecDepth 100000 in
theorem impl_runSteps.calls (k : Nat) (a0_0 : Int) (a0_1 : Int) (A0_2 : Option Addr) (c0_2 : Nat) (l0_2 : List (S88)) (a0_3 : Int) (a0_4 : Int) (a0_5 : Int) (a0_6 : Int) (a0_7 : Int) (a1 : Int) (r1 : Int) (r2 : Int) (r3 : List (S88)) (r4 : Int) (r5 : Int) (r6 : Int) (r7 : Int) (r8 : Int) (r9 : List (S69)) (w : World) (hr0_2 : Kd.C k88 w A0_2 l0_2.length l0_2) (hc0_2 : l0_2.length ≤ c0_2) (h : impl_runSteps.f k a0_0 a0_1 l0_2 a0_3 a0_4 a0_5 a0_6 a0_7 a1 = some (r1, r2, r3, r4, r5, r6, r7, r8, r9)) :
 Calls Try.prog 39 #[.agg #[.int .i64 a0_0, .int .i64 a0_1, .slice A0_2 l0_2.length c0_2, .int .i64 a0_3, .int .i64 a0_4, .int .i64 a0_5, .int .i64 a0_6, .int .i64 a0_7], .int .i64 a1] w fun e w' => ∃ v2_ v8_ : Value, e = .returned (.tuple #[.agg #[.int .i64 r1, .int .i64 r2, v2_, .int .i64 r4, .int .i64 r5, .int .i64 r6, .int .i64 r7, .int .i64 r8], v8_]) ∧ Kd.R k88 88 w' w.heap.size (fun _ => True) v2_ r3 ∧ Kd.R k69 69 w' w.heap.size (fun _ => True) v8_ r9 ∧ Below w.heap.size w w' := by
 have Ff := Try.underlying32
 have Fe := Try.underlying30
 have Fg := Try.underlying52
 have Fh := Try.underlying69
 have Bu := Z.m hr0_2
 have Bt := Z.m hc0_2
 clear hr0_2 hc0_2
 have HB := Z.m (Below.refl w.heap.size w)
 have H : ((impl_copyMachine.f a0_0 a0_1 l0_2 a0_3 a0_4 a0_5 a0_6 a0_7).bind fun bt431 => ((impl_groupNumbers.f k a0_0 a0_1 l0_2).bind fun Ai => (impl_runSteps.l0 k a1 Ai (([] : List (S69))) bt431.1 bt431.2.1 bt431.2.2.1 bt431.2.2.2.1 bt431.2.2.2.2.1 bt431.2.2.2.2.2.1 bt431.2.2.2.2.2.2.1 bt431.2.2.2.2.2.2.2))) = some (r1, r2, r3, r4, r5, r6, r7, r8, r9) := h
 clear h
 replace H := Option.bind_eq_some_iff.mp H
 obtain ⟨⟨Aa, Ab, AE, Ac, Ad, AL, AM, AN⟩, EC, H⟩ := H
 replace H : ((impl_groupNumbers.f k a0_0 a0_1 l0_2).bind fun Ai => (impl_runSteps.l0 k a1 Ai (([] : List (S69))) Aa Ab AE Ac Ad AL AM AN)) = some (r1, r2, r3, r4, r5, r6, r7, r8, r9) := H
 have A3 := Z.m EC
 clear EC
 replace H := Option.bind_eq_some_iff.mp H
 obtain ⟨Ai, ED, H⟩ := H
 replace H : (impl_runSteps.l0 k a1 Ai (([] : List (S69))) Aa Ab AE Ac Ad AL AM AN) = some (r1, r2, r3, r4, r5, r6, r7, r8, r9) := H
 have A4 := Z.m ED
 clear ED
 obtain ⟨C3, Ax⟩ : ∃ y_ : List (S69), y_ = (([] : List (S69))) := ⟨_, rfl⟩
 replace H : (impl_runSteps.l0 k a1 Ai C3 Aa Ab AE Ac Ad AL AM AN) = some (r1, r2, r3, r4, r5, r6, r7, r8, r9) := by first | (rw [Ax]; with_reducible exact H) | (have H2_ := (Option.bind_some _ _).symm.trans H; rw [Ax]; with_reducible exact H2_) | (have H2_ := (Option.bind_some _ _).symm.trans H; with_reducible exact H2_) | with_reducible exact H | (rw [Ax]; exact H) | exact H
 have Bv := Z.m Ax
 clear Ax
 have H' := Z.m H
 clear H
 go_enter Try.func39, Try.ntmps39
 go_wp2_with (first | ((with_reducible refine gq (N := 2) rfl ?_); refine be (N := 2) (cs := #[.int .i64 a0_0, .int .i64 a0_1, .slice A0_2 l0_2.length c0_2, .int .i64 a0_3, .int .i64 a0_4, .int .i64 a0_5, .int .i64 a0_6, .int .i64 a0_7]) (t := 32) ?_; intro As hg w5 hbox hb; have A2 := Z.m (hbox); have BR := gW (w := w) HB hg; have BP := BR; replace HB := bB HB hb; clear hb hbox hg) | ((with_reducible refine gq (N := 4) rfl ?_); refine be (N := 4) (cs := #[.int .i64 0, .int .i64 0, .slice none 0 0, .int .i64 0, .int .i64 0, .int .i64 0, .int .i64 0, .int .i64 0]) (t := 32) ?_; intro Am hg w6 hbox hb; have A1 := Z.m (hbox); have BS := gW (w := w) HB hg; have BQ := BS; have Ap := neL A2 hg; have Aq := neG A2 hg; replace A2 := kB A2 hb; replace HB := bB HB hb; clear hb hbox hg; have Fc := Ap.o; have Fd := Aq.o; have Bw := bc0 A2; have Bx := bc1 A2; have By := bc2 A2; have Bz := bc3 A2; have BA := bc4 A2; have BB := bc5 A2; have BC := bc6 A2; have BD := bc7 A2; have BE := qz A2.o 0; have BF := qz A2.o 1; have BG := qz A2.o 2; have BH := qz A2.o 3; have BI := qz A2.o 4; have BJ := qz A2.o 5; have BK := qz A2.o 6; have BL := qz A2.o 7) | ((with_reducible refine gc (f := 46) rfl ?_); refine gA (some 12) _ #[.agg #[.int .i64 a0_0, .int .i64 a0_1, .slice A0_2 l0_2.length c0_2, .int .i64 a0_3, .int .i64 a0_4, .int .i64 a0_5, .int .i64 a0_6, .int .i64 a0_7]] ?_ Try.func46; (with_reducible refine (impl_copyMachine.calls a0_0 a0_1 _ _ l0_2 a0_3 a0_4 a0_5 a0_6 a0_7 Aa Ab AE Ac Ad AL AM AN _ ?side1 ?side2 A3.o).mono ?_); (case side1 => repeat (first | exact (Kd.C_below Bu.o HB.o) | (with_reducible refine Kd.C_alloc ?_ _) | (with_reducible refine Kd.C_drewN ?_ _) | (with_reducible refine Kd.C_drew ?_))); (case side2 => exact Bt.o); rintro e w9 ⟨Fi, rfl, C1, hb⟩; refine ⟨_, rfl, ?_⟩; have Ar := Z.m (Kd.R_lower C1 (below_size (vB HB))); replace A2 := kB A2 hb; replace A1 := kB A1 hb; replace HB := bB HB hb; (try clear hb); (try clear Ez); (try clear hk); (try clear hi); (try clear C1)) | ((with_reducible refine gq (N := 6) rfl ?_); refine be (N := 6) (cs := #[.int .i64 0, .int .i64 0, .slice none 0 0, .int .i64 0, .int .i64 0, .int .i64 0, .int .i64 0, .int .i64 0]) (t := 32) ?_; intro An hg Fl hbox hb; have A0 := Z.m (hbox); have BT := gW (w := w) HB hg; have Bs := BT; have Ae := neL A2 hg; have Aj := neG A2 hg; have Af := neL A1 hg; have Ak := neG A1 hg; replace Ar := Z.m (Kd.Rb (vR Ar) hb); replace A2 := kB A2 hb; replace A1 := kB A1 hb; replace HB := bB HB hb; clear hb hbox hg; have EG := Aj.o; have ET := Ae.o; have EH := Ak.o; have EU := Af.o; have AQ := bc0 A0; have AR := bc1 A0; have AS := bc2 A0; have AT := bc3 A0; have AU := bc4 A0; have AV := bc5 A0; have AW := bc6 A0; have AX := bc7 A0; have Bb := qz A0.o 0; have Bc := qz A0.o 1; have Bd := qz A0.o 2; have Be := qz A0.o 3; have Bf := qz A0.o 4; have Bg := qz A0.o 5; have Bh := qz A0.o 6; have Bi := qz A0.o 7; obtain ⟨BO, C0, Ep⟩ := Kd.R_slice Ar.o; subst Ep; have AY := bc0 A2; have AZ := bc1 A2; have B0 := bc2 A2; have B2 := bc3 A2; have B3 := bc4 A2; have B7 := bc5 A2; have B8 := bc6 A2; have Ba := bc7 A2; have Bj := qz A2.o 0; have Bk := qz A2.o 1; have Bl := qz A2.o 2; have Bm := qz A2.o 3; have Bn := qz A2.o 4; have Bo := qz A2.o 5; have Bp := qz A2.o 6; have Bq := qz A2.o 7) | ((with_reducible refine gc (f := 48) rfl ?_); refine gA (some 15) _ #[.agg #[.int .i64 a0_0, .int .i64 a0_1, .slice A0_2 l0_2.length c0_2]] ?_ Try.func48; (with_reducible refine (impl_groupNumbers.calls k a0_0 a0_1 _ _ l0_2 Ai _ ?side1 ?side2 A4.o).mono ?_); (case side1 => exact Kd.C_below Bu.o (vB HB)); (case side2 => exact Bt.o); rintro e Fm ⟨EA, rfl, C1, hb⟩; refine ⟨_, rfl, ?_⟩; have AO := Z.m (Kd.R_lower C1 (below_size (vB HB))); replace Ar := Z.m (Kd.Rb (by refine rK ?_; exact (Kd.Rm (rf (rf (rf (rf (rf (rf (rf (rf (Kd.Ry Ar.o A0.o (by decide)))))))))) (fun _ h_ => h_.1))) hb); replace A2 := Z.m (qb (g := As) (o := .cells #[.int .i64 a0_0, .int .i64 a0_1, .slice A0_2 l0_2.length c0_2, .int .i64 a0_3, .int .i64 a0_4, .int .i64 a0_5, .int .i64 a0_6, .int .i64 a0_7] 32 (0, 0)) (by refine bK ?_; (iterate 8 refine qF ?_ Ae); exact A2.o) hb); replace A1 := Z.m (qb (g := Am) (o := .cells #[.int .i64 0, .int .i64 0, .slice none 0 0, .int .i64 0, .int .i64 0, .int .i64 0, .int .i64 0, .int .i64 0] 32 (0, 0)) (by refine bK ?_; (iterate 8 refine qF ?_ Af); exact A1.o) hb); replace A0 := Z.m (qb (g := An) (o := .cells #[.int .i64 Aa, .int .i64 Ab, .slice BO AE.length C0, .int .i64 Ac, .int .i64 Ad, .int .i64 AL, .int .i64 AM, .int .i64 AN] 32 (0, 0)) (by refine bK ?_; apply st8; refine bK ?_; exact A0.o) hb); replace HB := bB HB hb; (try clear hb); (try clear Ez); (try clear hk); (try clear hi); (try clear C1)) | ((with_reducible refine gq (N := 16) rfl ?_); refine Kd.R_lit k69 _ 69 ?hg (N := 16) ?hd (xs := ([] : List (S69))) (inner := []) (ok := fun _ => True) (okp := fun _ => True) ?hr ?hp (fun _ hk => hk) trivial (Below.refl _ _) (Nat.le_refl _) (by simp) ?_; (case hd => rfl); (case hg => rfl); (case hr => first | (go_simp; done) | (go_simp; rfl)); (case hp => exact (Reps.none _ _)); intro Fj Fn AP hb hg_ hnew_; clear hg_ hnew_; (first | rw [← Bv.o] at AP | (simp only [Int.reduceToNat] at AP; rw [← Bv.o] at AP)); have BV := Z.m (Kd.R_lower AP (below_size (vB HB))); replace Ar := Z.m (Kd.Rb (vR Ar) hb); replace AO := Z.m (Kd.Rb (vR AO) hb); replace A2 := kB A2 hb; replace A1 := kB A1 hb; replace A0 := kB A0 hb; replace HB := bB HB hb; clear hb AP))
 go_loopg [8] k (fun kq v8 w' => ∃ (Al : List (S69)) (A6 : List (S88)) (A8 : Int) (A9 : Int) (A7 : Int) (u442002 : Value), Z (impl_runSteps.l0 kq a1 Ai Al Aa Ab A6 Ac Ad A8 A9 A7 = some (r1, r2, r3, r4, r5, r6, r7, r8, r9)) ∧ Z (kq ≤ k) ∧ Z (Kd.R (Kd.int .i64) 3 w' w.heap.size (fun _ => True) EA Ai) ∧ Z (Kd.R k69 69 w' w.heap.size (fun _ => True) v8 Al) ∧ Z (Kd.R k88 88 w' w.heap.size (fun _ => True) u442002 A6) ∧ Z (w'.heap[As]? = some (.cells #[.int .i64 a0_0, .int .i64 a0_1, (.slice A0_2 l0_2.length c0_2), .int .i64 a0_3, .int .i64 a0_4, .int .i64 a0_5, .int .i64 a0_6, .int .i64 a0_7] 32 (0, 0))) ∧ Z (w'.heap[Am]? = some (.cells #[.int .i64 0, .int .i64 0, (.slice none 0 0), .int .i64 0, .int .i64 0, .int .i64 0, .int .i64 0, .int .i64 0] 32 (0, 0))) ∧ Z (w'.heap[An]? = some (.cells #[.int .i64 Aa, .int .i64 Ab, u442002, .int .i64 Ac, .int .i64 Ad, .int .i64 A8, .int .i64 A9, .int .i64 A7] 32 (0, 0))) ∧ Z (Below w.heap.size w w'))
 case atStart => exact ⟨(C3), (AE), (AL), (AM), (AN), (.slice BO AE.length C0), H', ⟨Nat.le_refl _⟩, ⟨vR AO⟩, ⟨vR BV⟩, ⟨vR Ar⟩, ⟨vK A2⟩, ⟨vK A1⟩, ⟨vK A0⟩, ⟨vB HB⟩⟩
 case round =>
  clear H'
  (try clear AQ); (try clear AR); (try clear AS); (try clear AT); (try clear AU); (try clear AV); (try clear AW); (try clear AX)
  (try clear AY); (try clear AZ); (try clear B0); (try clear B2); (try clear B3); (try clear B7); (try clear B8); (try clear Ba)
  (try clear Bw); (try clear Bx); (try clear By); (try clear Bz); (try clear BA); (try clear BB); (try clear BC); (try clear BD)
  (try clear Bb); (try clear Bc); (try clear Bd); (try clear Be); (try clear Bf); (try clear Bg); (try clear Bh); (try clear Bi)
  (try clear Bj); (try clear Bk); (try clear Bl); (try clear Bm); (try clear Bn); (try clear Bo); (try clear Bp); (try clear Bq)
  (try clear BE); (try clear BF); (try clear BG); (try clear BH); (try clear BI); (try clear BJ); (try clear BK); (try clear BL)
  obtain ⟨Al, A6, A8, A9, A7, u442002, HA, EF, Ao, Ah, A5, A2, A1, A0, HB⟩ := hrel
  cases gk with
  | zero => exact absurd HA.o (by simp [impl_runSteps.l0])
  | succ k1 =>
   have H := HA.o
   clear HA
   simp only [impl_runSteps.l0] at H
   by_cases c19 : (Al.length : Int) < a1
   ·rw [if_pos c19] at H
    have BZ := decide_eq_true c19
    clear c19
    replace H := Option.bind_eq_some_iff.mp H
    obtain ⟨C2, BM, H⟩ := H
    replace H : (if C2 = true then ((impl_stepOn.f k1 Aa Ab A6 Ac Ad A8 A9 A7 Ai).bind fun bt449 => (if Al.length < 4398046511104 then (impl_runSteps.l0 k1 a1 Ai (Al ++ [(⟨A7, (⟨bt449.1, bt449.2.1, bt449.2.2.1⟩ : S52)⟩ : S69)]) Aa Ab bt449.2.2.2.2.2.2 Ac Ad bt449.2.2.2.1 bt449.2.2.2.2.1 bt449.2.2.2.2.2.1) else (none))) else (some (Aa, Ab, A6, Ac, Ad, A8, A9, A7, Al))) = some (r1, r2, r3, r4, r5, r6, r7, r8, r9) := H
    have EB := Z.m BM
    clear BM
    by_cases c21 : C2 = true
    ·subst c21
     have H1 : ((impl_stepOn.f k1 Aa Ab A6 Ac Ad A8 A9 A7 Ai).bind fun bt449 => (if Al.length < 4398046511104 then (impl_runSteps.l0 k1 a1 Ai (Al ++ [(⟨A7, (⟨bt449.1, bt449.2.1, bt449.2.2.1⟩ : S52)⟩ : S69)]) Aa Ab bt449.2.2.2.2.2.2 Ac Ad bt449.2.2.2.1 bt449.2.2.2.2.1 bt449.2.2.2.2.2.1) else (none))) = some (r1, r2, r3, r4, r5, r6, r7, r8, r9) := by rw [if_pos rfl] at H; exact H
     clear H
     have H := H1
     clear H1
     replace H := Option.bind_eq_some_iff.mp H
     obtain ⟨⟨AF, AG, AH, Az, AA, AB, Br⟩, BN, H⟩ := H
     replace H : (if Al.length < 4398046511104 then (impl_runSteps.l0 k1 a1 Ai (Al ++ [(⟨A7, (⟨AF, AG, AH⟩ : S52)⟩ : S69)]) Aa Ab Br Ac Ad Az AA AB) else (none)) = some (r1, r2, r3, r4, r5, r6, r7, r8, r9) := H
     have F7 := Z.m BN
     clear BN
     by_cases c23 : Al.length < 4398046511104
     ·rw [if_pos c23] at H
      have BX := Z.m c23
      clear c23
      obtain ⟨C4, Ay⟩ : ∃ y_ : List (S69), y_ = (Al ++ [(⟨A7, (⟨AF, AG, AH⟩ : S52)⟩ : S69)]) := ⟨_, rfl⟩
      replace H : (impl_runSteps.l0 k1 a1 Ai C4 Aa Ab Br Ac Ad Az AA AB) = some (r1, r2, r3, r4, r5, r6, r7, r8, r9) := by first | (rw [Ay]; with_reducible exact H) | (have H2_ := (Option.bind_some _ _).symm.trans H; rw [Ay]; with_reducible exact H2_) | (have H2_ := (Option.bind_some _ _).symm.trans H; with_reducible exact H2_) | with_reducible exact H | (rw [Ay]; exact H) | exact H
      have BY := Z.m Ay
      clear Ay
      have H' := Z.m H
      clear H
      obtain ⟨Eh, El, Er⟩ := Kd.R_slice Ah.o
      subst Er
      have EI := Aj.o
      have EV := Ae.o
      have EJ := Ak.o
      have EW := Af.o
      have C5 := bc0 A0
      have C6 := bc1 A0
      have C7 := bc2 A0
      have C8 := bc3 A0
      have C9 := bc4 A0
      have Ca := bc5 A0
      have Cb := bc6 A0
      have Cd := bc7 A0
      have Dc := qz A0.o 0
      have Dd := qz A0.o 1
      have De := qz A0.o 2
      have Df := qz A0.o 3
      have Dg := qz A0.o 4
      have Dh := qz A0.o 5
      have Di := qz A0.o 6
      have Dj := qz A0.o 7
      obtain ⟨AC, AD, Es⟩ := Kd.R_slice A5.o
      subst Es
      go_wp2_with (first | (go_at_call 45; (with_reducible refine (impl_canStep.calls Aa Ab _ _ A6 Ac Ad A8 A9 A7 true _ ?side1 ?side2 EB.o).mono ?_); (case side1 => repeat (first | exact (Kd.RrZ A5.o).2.2 | (with_reducible refine Kd.C_alloc ?_ _) | (with_reducible refine Kd.C_drewN ?_ _) | (with_reducible refine Kd.C_drew ?_))); (case side2 => exact (Kd.RrZ A5.o).2.1); rintro e Fo ⟨rfl, hb⟩; replace Ao := Z.m (Kd.Rb (vR Ao) hb); replace Ah := Z.m (Kd.Rb (vR Ah) hb); replace A5 := Z.m (Kd.Rb (vR A5) hb); replace A2 := kB A2 hb; replace A1 := kB A1 hb; replace A0 := kB A0 hb; replace HB := bB HB hb; (try clear hb); (try clear Ez); (try clear hk); (try clear hi); have Ce := bc0 A0; have Cf := bc1 A0; have Cg := bc2 A0; have Ch := bc3 A0; have Ci := bc4 A0; have Cj := bc5 A0; have Cl := bc6 A0; have Cm := bc7 A0; have Dk := qz A0.o 0; have Dl := qz A0.o 1; have Dm := qz A0.o 2; have Dn := qz A0.o 3; have Do := qz A0.o 4; have Dp := qz A0.o 5; have Dq := qz A0.o 6; have Dr := qz A0.o 7; obtain ⟨Ei, Em, Et⟩ := Kd.R_slice Ao.o; subst Et) | ((with_reducible refine gc (f := 47) rfl ?_); refine gA (some 28) _ #[.pointer (some ⟨An, 0, none⟩), .slice Ei Ai.length Em] ?_ Try.func47; (with_reducible refine (impl_stepOn.calls k1 An Aa Ab (fun k_ => some k_ = (.slice AC A6.length AD : Value).ownBlock) (.slice AC A6.length AD) A6 Ac Ad A8 A9 A7 _ _ Ai AF AG AH Az AA AB Br w _ ?side1 ?side5 ?side6 ?side2 ?side3 ?side4 F7.o).mono ?_); (case side5 => exact vK A0); (case side6 => exact Bs.o); (case side1 => repeat (first | (with_reducible first | exact HB.o | apply qa | apply qn | apply qd | refine qx ?_ BP.o | refine qx ?_ BQ.o | refine qx ?_ Bs.o) | exact HB.o)); (case side2 => exact Kd.Rg rfl A5.o); (case side3 => exact Kd.Ck (Kd.Ry (Kd.Ra Ao.o (Kd.Rt A5.o) (by decide)) A0.o (by decide)) (fun k_ hk_ hs_ => Or.elim hs_ hk_.1.2 hk_.2)); (case side4 => exact (Kd.RrZ Ao.o).2.1); rintro e Fp ⟨rfl, hbx_, F6, hb, hkp⟩; refine ⟨_, rfl, ?_⟩; replace Ao := Z.m (Kd.Rm (ok' := fun k_ => True) (Kd.Rk (Kd.Ry (Kd.Ra Ao.o (Kd.Rt A5.o) (by decide)) A0.o (by decide)) hkp (fun k_ hk_ hs_ => Or.elim hs_ hk_.1.2 hk_.2)) (fun k_ hk_ => trivial)); replace Ah := Z.m (Kd.Rm (ok' := fun k_ => True) (Kd.Rk (Kd.Ry (Kd.Ra Ah.o (Kd.Rt A5.o) (by decide)) A0.o (by decide)) hkp (fun k_ hk_ hs_ => Or.elim hs_ hk_.1.2 hk_.2)) (fun k_ hk_ => trivial)); replace A2 := Z.m (qk (vK A2) hkp (fun hs_ => Or.elim hs_ (fun e_ => (Kd.R_ne A5.o A2.o (by decide)) e_) (fun e_ => Ae.o e_))); replace A1 := Z.m (qk (vK A1) hkp (fun hs_ => Or.elim hs_ (fun e_ => (Kd.R_ne A5.o A1.o (by decide)) e_) (fun e_ => Af.o e_))); replace A5 := Z.m (Kd.Re rfl F6 (fun k_ e_ => A5.o.1 k_ e_)); replace A0 := Z.m hbx_; replace HB := Z.m (hb); (try clear hbx_); (try clear hb); (try clear hkp); (try clear F6); have Cn := bc0 A0; have Co := bc1 A0; have Cp := bc2 A0; have Cq := bc3 A0; have Cr := bc4 A0; have Cs := bc5 A0; have Ct := bc6 A0; have Cu := bc7 A0; have Ds := qz A0.o 0; have Dt := qz A0.o 1; have Du := qz A0.o 2; have Dv := qz A0.o 3; have Dw := qz A0.o 4; have Dx := qz A0.o 5; have Dy := qz A0.o 6; have Dz := qz A0.o 7) | ((with_reducible refine gq (N := 10) rfl ?_); refine be (N := 10) (cs := #[.int .i64 0, .int .i64 0, .int .i64 0]) (t := 52) ?_; intro At hg Fq hbox hb; have Ag := Z.m (hbox); have BU := gW (w := w) HB hg; have EE := BU; have Au := Z.m ((by rw [hg]; exact Nat.ne_of_lt (qt (g := As) (o := .cells #[.int .i64 a0_0, .int .i64 a0_1, .slice A0_2 l0_2.length c0_2, .int .i64 a0_3, .int .i64 a0_4, .int .i64 a0_5, .int .i64 a0_6, .int .i64 a0_7] 32 (0, 0)) (by refine bK ?_; exact A2.o)) : As ≠ At)); have AI := Z.m ((by rw [hg]; exact Nat.ne_of_gt (qt (g := As) (o := .cells #[.int .i64 a0_0, .int .i64 a0_1, .slice A0_2 l0_2.length c0_2, .int .i64 a0_3, .int .i64 a0_4, .int .i64 a0_5, .int .i64 a0_6, .int .i64 a0_7] 32 (0, 0)) (by refine bK ?_; exact A2.o)) : At ≠ As)); have Av := Z.m ((by rw [hg]; exact Nat.ne_of_lt (qt (g := Am) (o := .cells #[.int .i64 0, .int .i64 0, .slice none 0 0, .int .i64 0, .int .i64 0, .int .i64 0, .int .i64 0, .int .i64 0] 32 (0, 0)) (by refine bK ?_; exact A1.o)) : Am ≠ At)); have AJ := Z.m ((by rw [hg]; exact Nat.ne_of_gt (qt (g := Am) (o := .cells #[.int .i64 0, .int .i64 0, .slice none 0 0, .int .i64 0, .int .i64 0, .int .i64 0, .int .i64 0, .int .i64 0] 32 (0, 0)) (by refine bK ?_; exact A1.o)) : At ≠ Am)); have Aw := Z.m ((by rw [hg]; exact Nat.ne_of_lt (qt (g := An) (o := .cells #[.int .i64 Aa, .int .i64 Ab, .slice AC A6.length AD, .int .i64 Ac, .int .i64 Ad, .int .i64 Az, .int .i64 AA, .int .i64 AB] 32 (0, 0)) (by refine bK ?_; exact A0.o)) : An ≠ At)); have AK := Z.m ((by rw [hg]; exact Nat.ne_of_gt (qt (g := An) (o := .cells #[.int .i64 Aa, .int .i64 Ab, .slice AC A6.length AD, .int .i64 Ac, .int .i64 Ad, .int .i64 Az, .int .i64 AA, .int .i64 AB] 32 (0, 0)) (by refine bK ?_; exact A0.o)) : At ≠ An)); replace Ao := Z.m (Kd.Rb (by refine rK ?_; exact Ao.o) hb); replace Ah := Z.m (Kd.Rb (by refine rK ?_; exact Ah.o) hb); replace A5 := Z.m (Kd.Rb (by refine rK ?_; exact A5.o) hb); replace A2 := Z.m (qb (g := As) (o := .cells #[.int .i64 a0_0, .int .i64 a0_1, .slice A0_2 l0_2.length c0_2, .int .i64 a0_3, .int .i64 a0_4, .int .i64 a0_5, .int .i64 a0_6, .int .i64 a0_7] 32 (0, 0)) (by refine bK ?_; exact A2.o) hb); replace A1 := Z.m (qb (g := Am) (o := .cells #[.int .i64 0, .int .i64 0, .slice none 0 0, .int .i64 0, .int .i64 0, .int .i64 0, .int .i64 0, .int .i64 0] 32 (0, 0)) (by refine bK ?_; exact A1.o) hb); replace A0 := Z.m (qb (g := An) (o := .cells #[.int .i64 Aa, .int .i64 Ab, .slice AC A6.length AD, .int .i64 Ac, .int .i64 Ad, .int .i64 Az, .int .i64 AA, .int .i64 AB] 32 (0, 0)) (by refine bK ?_; exact A0.o) hb); replace HB := bB HB hb; clear hb hbox hg; have EK := AI.o; have EX := Au.o; have EL := AJ.o; have EY := Av.o; have EM := AK.o; have EZ := Aw.o; have Cv := bc0 Ag; have Cw := bc1 Ag; have Cx := bc2 Ag; have DA := qz Ag.o 0; have DB := qz Ag.o 1; have DC := qz Ag.o 2) | ((with_reducible refine gu (b := .append) (xs := #[.tmp 29, .tmp 33]) rfl ?_); at_builtin; refine Kd.R_append k69 (w0 := w) w.heap.size rfl (.tmp 29) (.tmp 33) 63 69 (.agg #[(.int .i64 0), (.int .i64 0), (.int .i64 0), (.int .i64 0)]) 32 rfl Try.underlying63 info69 rfl (by decide) (by omega) (.slice Eh Al.length El) Al (⟨A7, (⟨AF, AG, AH⟩ : S52)⟩ : S69) [.int .i64 A7, .int .i64 AF, .int .i64 AG, .int .i64 AH] (fun _ => True) (fun _ => False) rfl (by first | (go_simp; done) | (go_simp; rfl)) ?aP (fun _ hk => hk.elim) ?aF ?aO ?aB ?aS ?aL ?_; (case aP => exact k69_mkM _ _ _ (⟨A7, (⟨AF, AG, AH⟩ : S52)⟩ : S69)); (case aB => exact (vB HB)); (case aF => exact (fun _ _ => trivial)); (case aO => exact (by refine rK ?_; exact Kd.Rm (rf (rf (rf (Kd.Ry Ah.o Ag.o (by decide))))) (fun _ hk => trivial))); (case aS => exact (below_size (vB HB))); (case aL => have := BX.o; omega); intro Fk Fr ho hb hg hat; rw [← BY.o] at ho; have BW := Z.m (ho); replace Ao := Z.m (Kd.Ro (by refine rK ?_; exact (Kd.Rm (rf (rf (rf (Kd.Ry Ao.o Ag.o (by decide))))) (fun _ h_ => h_.1))) (Kd.Rt (by refine rK ?_; exact (Kd.Rm (rf (rf (rf (Kd.Ry Ah.o Ag.o (by decide))))) (fun _ h_ => h_.1)))) (by decide) hg); replace A5 := Z.m (Kd.Ro (by refine rK ?_; exact (Kd.Rm (rf (rf (rf (Kd.Ry A5.o Ag.o (by decide))))) (fun _ h_ => h_.1))) (Kd.Rt (by refine rK ?_; exact (Kd.Rm (rf (rf (rf (Kd.Ry Ah.o Ag.o (by decide))))) (fun _ h_ => h_.1)))) (by decide) hg); replace A2 := Z.m (qg (g := As) (o := .cells #[.int .i64 a0_0, .int .i64 a0_1, .slice A0_2 l0_2.length c0_2, .int .i64 a0_3, .int .i64 a0_4, .int .i64 a0_5, .int .i64 a0_6, .int .i64 a0_7] 32 (0, 0)) (by refine bK ?_; (iterate 3 refine qF ?_ Au); exact A2.o) hg (Kd.R_ne Ah.o A2.o (by decide))); replace A1 := Z.m (qg (g := Am) (o := .cells #[.int .i64 0, .int .i64 0, .slice none 0 0, .int .i64 0, .int .i64 0, .int .i64 0, .int .i64 0, .int .i64 0] 32 (0, 0)) (by refine bK ?_; (iterate 3 refine qF ?_ Av); exact A1.o) hg (Kd.R_ne Ah.o A1.o (by decide))); replace A0 := Z.m (qg (g := An) (o := .cells #[.int .i64 Aa, .int .i64 Ab, .slice AC A6.length AD, .int .i64 Ac, .int .i64 Ad, .int .i64 Az, .int .i64 AA, .int .i64 AB] 32 (0, 0)) (by refine bK ?_; (iterate 3 refine qF ?_ Aw); exact A0.o) hg (Kd.R_ne Ah.o A0.o (by decide))); replace Ag := Z.m (qg (g := At) (o := .cells #[.int .i64 AF, .int .i64 AG, .int .i64 AH] 52 (0, 0)) (by refine bK ?_; apply st3; refine bK ?_; exact Ag.o) hg (Kd.R_ne Ah.o Ag.o (by decide))); replace HB := Z.m (hb); clear Ah; clear ho hb hg hat))
      go_roundg k1
      case measure => have := EF.o; omega
      case rel => exact ⟨(C4), (Br), (Az), (AA), (AB), (.slice AC A6.length AD), H', ⟨by have := EF.o; omega⟩, ⟨vR Ao⟩, ⟨vR BW⟩, ⟨vR A5⟩, ⟨vK A2⟩, ⟨vK A1⟩, ⟨vK A0⟩, ⟨vB HB⟩⟩
     ·rw [if_neg c23] at H
      exact absurd H (by simp)
    ·replace c21 := Bool.eq_false_iff.mpr c21
     subst c21
     have H1 : (some (Aa, Ab, A6, Ac, Ad, A8, A9, A7, Al)) = some (r1, r2, r3, r4, r5, r6, r7, r8, r9) := by rw [if_neg (show ¬ (false = true) by decide)] at H; exact H
     clear H
     have H := H1
     clear H1
     simp only [Option.some.injEq, Prod.mk.injEq] at H
     obtain ⟨rfl, rfl, rfl, rfl, rfl, rfl, rfl, rfl, rfl⟩ := H
     obtain ⟨F8, Fa, Eu⟩ := Kd.R_slice Ah.o
     subst Eu
     have EN := Aj.o
     have F0 := Ae.o
     have EO := Ak.o
     have F1 := Af.o
     have Cy := bc0 A0
     have Cz := bc1 A0
     have CA := bc2 A0
     have CB := bc3 A0
     have CC := bc4 A0
     have CD := bc5 A0
     have CE := bc6 A0
     have CF := bc7 A0
     have DD := qz A0.o 0
     have DE := qz A0.o 1
     have DF := qz A0.o 2
     have DG := qz A0.o 3
     have DH := qz A0.o 4
     have DI := qz A0.o 5
     have DJ := qz A0.o 6
     have DK := qz A0.o 7
     obtain ⟨Ej, En, Ew⟩ := Kd.R_slice A5.o
     subst Ew
     go_wp2_with (first | (go_at_call 45; (with_reducible refine (impl_canStep.calls Aa Ab _ _ A6 Ac Ad A8 A9 A7 false _ ?side1 ?side2 EB.o).mono ?_); (case side1 => repeat (first | exact (Kd.RrZ A5.o).2.2 | (with_reducible refine Kd.C_alloc ?_ _) | (with_reducible refine Kd.C_drewN ?_ _) | (with_reducible refine Kd.C_drew ?_))); (case side2 => exact (Kd.RrZ A5.o).2.1); rintro e Fs ⟨rfl, hb⟩; replace Ao := Z.m (Kd.Rb (vR Ao) hb); replace Ah := Z.m (Kd.Rb (vR Ah) hb); replace A5 := Z.m (Kd.Rb (vR A5) hb); replace A2 := kB A2 hb; replace A1 := kB A1 hb; replace A0 := kB A0 hb; replace HB := bB HB hb; (try clear hb); (try clear Ez); (try clear hk); (try clear hi); have CG := bc0 A0; have CH := bc1 A0; have CI := bc2 A0; have CJ := bc3 A0; have CK := bc4 A0; have CL := bc5 A0; have CM := bc6 A0; have CN := bc7 A0; have DL := qz A0.o 0; have DM := qz A0.o 1; have DN := qz A0.o 2; have DO := qz A0.o 3; have DP := qz A0.o 4; have DQ := qz A0.o 5; have DR := qz A0.o 6; have DS := qz A0.o 7; have EP := Aq.o; have F2 := Ap.o; have CO := bc0 A1; have CP := bc1 A1; have CQ := bc2 A1; have CR := bc3 A1; have CS := bc4 A1; have CT := bc5 A1; have CU := bc6 A1; have CV := bc7 A1; have DT := qz A1.o 0; have DU := qz A1.o 1; have DV := qz A1.o 2; have DW := qz A1.o 3; have DX := qz A1.o 4; have DY := qz A1.o 5; have DZ := qz A1.o 6; have E0 := qz A1.o 7))
     refine bodyPost_ret (results_ct rfl _ _ Am 32 #[.int .i64 Aa, .int .i64 Ab, .slice Ej A6.length En, .int .i64 Ac, .int .i64 Ad, .int .i64 A8, .int .i64 A9, .int .i64 A7] (0, 0) _ rfl (by refine bK ?_; apply st8; refine bK ?_; exact A1.o) Try.underlying32 rfl (by kernel_rfl)) rfl ?_
     exact ⟨_, _, by first | rfl | (simp [eN, eS] <;> rfl) | (simp [*, eN, eS] <;> rfl), by refine rK ?_; exact Kd.Rm (rf (rf (rf (rf (rf (rf (rf (rf (Kd.Ry A5.o A1.o (by decide)))))))))) (fun _ hk => trivial), by refine rK ?_; exact Kd.Rm (rf (rf (rf (rf (rf (rf (rf (rf (Kd.Ry Ah.o A1.o (by decide)))))))))) (fun _ hk => trivial), vB HB⟩
   ·rw [if_neg c19] at H
    have BZ := decide_eq_false c19
    clear c19
    simp only [Option.some.injEq, Prod.mk.injEq] at H
    obtain ⟨rfl, rfl, rfl, rfl, rfl, rfl, rfl, rfl, rfl⟩ := H
    obtain ⟨F9, Fb, Ex⟩ := Kd.R_slice Ah.o
    subst Ex
    have EQ := Aj.o
    have F3 := Ae.o
    have ER := Ak.o
    have F4 := Af.o
    have CW := bc0 A0
    have CX := bc1 A0
    have CY := bc2 A0
    have CZ := bc3 A0
    have D0 := bc4 A0
    have D1 := bc5 A0
    have D2 := bc6 A0
    have D3 := bc7 A0
    have E1 := qz A0.o 0
    have E2 := qz A0.o 1
    have E3 := qz A0.o 2
    have E4 := qz A0.o 3
    have E5 := qz A0.o 4
    have E6 := qz A0.o 5
    have E7 := qz A0.o 6
    have E8 := qz A0.o 7
    have ES := Aq.o
    have F5 := Ap.o
    have D4 := bc0 A1
    have D5 := bc1 A1
    have D6 := bc2 A1
    have D7 := bc3 A1
    have D8 := bc4 A1
    have D9 := bc5 A1
    have Da := bc6 A1
    have Db := bc7 A1
    have E9 := qz A1.o 0
    have Ea := qz A1.o 1
    have Eb := qz A1.o 2
    have Ec := qz A1.o 3
    have Ed := qz A1.o 4
    have Ee := qz A1.o 5
    have Ef := qz A1.o 6
    have Eg := qz A1.o 7
    obtain ⟨Ek, Eo, Ey⟩ := Kd.R_slice A5.o
    subst Ey
    go_wp2
    refine bodyPost_ret (results_ct rfl _ _ Am 32 #[.int .i64 Aa, .int .i64 Ab, .slice Ek A6.length Eo, .int .i64 Ac, .int .i64 Ad, .int .i64 A8, .int .i64 A9, .int .i64 A7] (0, 0) _ rfl (by refine bK ?_; apply st8; refine bK ?_; exact A1.o) Try.underlying32 rfl (by kernel_rfl)) rfl ?_
    exact ⟨_, _, by first | rfl | (simp [eN, eS] <;> rfl) | (simp [*, eN, eS] <;> rfl), by refine rK ?_; exact Kd.Rm (rf (rf (rf (rf (rf (rf (rf (rf (Kd.Ry A5.o A1.o (by decide)))))))))) (fun _ hk => trivial), by refine rK ?_; exact Kd.Rm (rf (rf (rf (rf (rf (rf (rf (rf (Kd.Ry Ah.o A1.o (by decide)))))))))) (fun _ hk => trivial), vB HB⟩

end Go.Proofs.Ytjkiolpepchpdaa.PAll
