/- Began as a text that print.sh wrote (of the functions named below); turned and shortened by this session. -/
import Derived.Test.YtlkiakpipcnijaaG0
import Derived.Test.YtlkiakpipcnijaaG11
import Derived.Test.YtlkiakpipcnijaaG12
import Derived.Test.YtlkiakpipcnijaaG13
namespace Go.Proofs.Ytlkiakpipcnijaa.PAll
open Go.RowKit Go.Proofs.YtlkiakpipcnijaaW.PrintWords Go.Proofs.YtlkiakpipcnijaaW.PrintLast Go.Proofs.YtlkiakpipcnijaaW.PrintMore
attribute [local go_sem] max2_int min2_int max_two min_two max_three min_three max_four min_four   -- for this text's walks alone
set_option linter.unusedVariables false
set_option linter.unusedSimpArgs false

/-! ### impl_LoneGears: function 40 -/
def impl_LoneGears.l0 : Nat → List Int → List Int → List Int → List (S71) → Int → Int → Option (List Int × Bool)
 | 0, _, _, _, _, _, _ => none
 | k + 1, x4, x5, x6, x18, x19, x20 => if x20 < x19 then (if 0 ≤ x20 then (if x20 < (x18.length : Int) then (if ((rd_T71 x18 x20).f0) = 6 then (if x20 < (x4.length : Int) then (if 0 ≤ (rd x4 x20) then (if (rd x4 x20) < (x5.length : Int) then (if (rd x5 (rd x4 x20)) = 1 then (if x6.length < 17592186044416 then (impl_LoneGears.l0 k x4 x5 (x6 ++ [x20]) x18 x19 (wrap64 (x20 + 1))) else (none)) else (impl_LoneGears.l0 k x4 x5 x6 x18 x19 (wrap64 (x20 + 1)))) else (none)) else (none)) else (none)) else (impl_LoneGears.l0 k x4 x5 x6 x18 x19 (wrap64 (x20 + 1)))) else (none)) else (none)) else (some (x6, true))
def impl_LoneGears.f (k : Nat) (a0_0 : Int) (a0_1 : Int) (l0_2 : List (S71)) : Option (List Int × Bool) := (impl_IsBoard.f k a0_0 a0_1 l0_2).bind fun t298 => (if t298 = true then ((impl_groupNumbers.f k a0_0 a0_1 l0_2).bind fun t299 => ((impl_gearCounts.f k a0_0 a0_1 l0_2).bind fun t302 => (impl_LoneGears.l0 k t299 t302 (([] : List Int)) l0_2 (l0_2.length : Int) 0))) else (some (([] : List Int), false)))
set_option maxHeartbeats 8000000 in
set_option maxRecDepth 100000 in
theorem impl_LoneGears.calls (k : Nat) (a0_0 : Int) (a0_1 : Int) (A0_2 : Option Addr) (c0_2 : Nat) (l0_2 : List (S71)) (r1 : List Int) (r2 : Bool) (w : World) (hr0_2 : Kd.C k71 w A0_2 l0_2.length l0_2) (hc0_2 : l0_2.length ≤ c0_2) (h : impl_LoneGears.f k a0_0 a0_1 l0_2 = some (r1, r2)) :
 Calls Try.prog 40 #[.agg #[.int .i64 a0_0, .int .i64 a0_1, .slice A0_2 l0_2.length c0_2]] w fun e w' => ∃ v0_ : Value, e = .returned (.tuple #[v0_, .bool r2]) ∧ Kd.R (Kd.int .i64) 3 w' w.heap.size (fun _ => True) v0_ r1 ∧ Below w.heap.size w w' := by
 have C3 := Try.underlying30
 have C4 := Try.underlying71
 have Aj := Z.m hr0_2
 have Ar := Z.m hc0_2
 clear hr0_2 hc0_2
 have HB := Z.m (Below.refl w.heap.size w)
 have H : ((impl_IsBoard.f k a0_0 a0_1 l0_2).bind fun AI => (if AI = true then ((impl_groupNumbers.f k a0_0 a0_1 l0_2).bind fun Aa => ((impl_gearCounts.f k a0_0 a0_1 l0_2).bind fun Ag => (impl_LoneGears.l0 k Aa Ag (([] : List Int)) l0_2 (l0_2.length : Int) 0))) else (some (([] : List Int), false)))) = some (r1, r2) := h
 clear h
 replace H := Option.bind_eq_some_iff.mp H
 obtain ⟨AI, BJ, H⟩ := H
 replace H : (if AI = true then ((impl_groupNumbers.f k a0_0 a0_1 l0_2).bind fun Aa => ((impl_gearCounts.f k a0_0 a0_1 l0_2).bind fun Ag => (impl_LoneGears.l0 k Aa Ag (([] : List Int)) l0_2 (l0_2.length : Int) 0))) else (some (([] : List Int), false))) = some (r1, r2) := H
 have A2 := Z.m BJ
 clear BJ
 by_cases c3 : AI = true
 ·subst c3
  have H1 : ((impl_groupNumbers.f k a0_0 a0_1 l0_2).bind fun Aa => ((impl_gearCounts.f k a0_0 a0_1 l0_2).bind fun Ag => (impl_LoneGears.l0 k Aa Ag (([] : List Int)) l0_2 (l0_2.length : Int) 0))) = some (r1, r2) := by rw [if_pos rfl] at H; exact H
  clear H
  have H := H1
  clear H1
  replace H := Option.bind_eq_some_iff.mp H
  obtain ⟨Aa, BK, H⟩ := H
  replace H : ((impl_gearCounts.f k a0_0 a0_1 l0_2).bind fun Ag => (impl_LoneGears.l0 k Aa Ag (([] : List Int)) l0_2 (l0_2.length : Int) 0)) = some (r1, r2) := H
  have A4 := Z.m BK
  clear BK
  replace H := Option.bind_eq_some_iff.mp H
  obtain ⟨Ag, BL, H⟩ := H
  replace H : (impl_LoneGears.l0 k Aa Ag (([] : List Int)) l0_2 (l0_2.length : Int) 0) = some (r1, r2) := H
  have A5 := Z.m BL
  clear BL
  obtain ⟨Bk, An⟩ : ∃ y_ : List Int, y_ = (([] : List Int)) := ⟨_, rfl⟩
  replace H : (impl_LoneGears.l0 k Aa Ag Bk l0_2 (l0_2.length : Int) 0) = some (r1, r2) := by first | (rw [An]; with_reducible exact H) | (have H2_ := (Option.bind_some _ _).symm.trans H; rw [An]; with_reducible exact H2_) | (have H2_ := (Option.bind_some _ _).symm.trans H; with_reducible exact H2_) | with_reducible exact H | (rw [An]; exact H) | exact H
  have AK := Z.m An
  clear An
  have H' := Z.m H
  clear H
  go_enter Try.func40, Try.ntmps40
  go_wp2_with (first | ((with_reducible refine gq (N := 1) rfl ?_); refine be (N := 1) (cs := #[.int .i64 a0_0, .int .i64 a0_1, .slice A0_2 l0_2.length c0_2]) (t := 30) ?_; intro Av hg w6 hbox hb; have A0 := Z.m (hbox); have At := gW (w := w) HB hg; have B2 := At; replace HB := bB HB hb; clear hb hbox hg; have AL := bc0 A0; have AM := bc1 A0; have AN := bc2 A0; have AR := qz A0.o 0; have AS := qz A0.o 1; have AT := qz A0.o 2) | ((with_reducible refine gc (f := 61) rfl ?_); refine gA (some 10) _ #[.agg #[.int .i64 a0_0, .int .i64 a0_1, .slice A0_2 l0_2.length c0_2]] ?_ Try.func61; (with_reducible refine (impl_IsBoard.calls k a0_0 a0_1 _ _ l0_2 true _ ?side1 ?side2 A2.o).mono ?_); (case side1 => repeat (first | exact (Kd.C_below Aj.o HB.o) | (with_reducible refine Kd.C_alloc ?_ _) | (with_reducible refine Kd.C_drewN ?_ _) | (with_reducible refine Kd.C_drew ?_))); (case side2 => exact Ar.o); rintro e w8 ⟨rfl, hb⟩; refine ⟨_, rfl, ?_⟩; replace A0 := kB A0 hb; replace HB := bB HB hb; (try clear hb); (try clear BI); (try clear hk); (try clear hi); have AO := bc0 A0; have AP := bc1 A0; have AQ := bc2 A0; have AU := qz A0.o 0; have AV := qz A0.o 1; have AW := qz A0.o 2) | ((with_reducible refine gc (f := 57) rfl ?_); refine gA (some 13) _ #[.agg #[.int .i64 a0_0, .int .i64 a0_1, .slice A0_2 l0_2.length c0_2]] ?_ Try.func57; (with_reducible refine (impl_groupNumbers.calls k a0_0 a0_1 _ _ l0_2 Aa _ ?side1 ?side2 A4.o).mono ?_); (case side1 => repeat (first | exact (Kd.C_below Aj.o HB.o) | (with_reducible refine Kd.C_alloc ?_ _) | (with_reducible refine Kd.C_drewN ?_ _) | (with_reducible refine Kd.C_drew ?_))); (case side2 => exact Ar.o); rintro e C7 ⟨AX, rfl, B0, hb⟩; refine ⟨_, rfl, ?_⟩; have Ai := Z.m (Kd.R_lower B0 (below_size (vB HB))); replace A0 := kB A0 hb; replace HB := bB HB hb; (try clear hb); (try clear BI); (try clear hk); (try clear hi); (try clear B0); have Aw := bc0 A0; have Ax := bc1 A0; have Ay := bc2 A0; have AC := qz A0.o 0; have AD := qz A0.o 1; have AE := qz A0.o 2) | ((with_reducible refine gc (f := 62) rfl ?_); refine gA (some 15) _ #[.agg #[.int .i64 a0_0, .int .i64 a0_1, .slice A0_2 l0_2.length c0_2]] ?_ Try.func62; (with_reducible refine (impl_gearCounts.calls k a0_0 a0_1 _ _ l0_2 Ag _ ?side1 ?side2 A5.o).mono ?_); (case side1 => repeat (first | exact (Kd.C_below Aj.o HB.o) | (with_reducible refine Kd.C_alloc ?_ _) | (with_reducible refine Kd.C_drewN ?_ _) | (with_reducible refine Kd.C_drew ?_))); (case side2 => exact Ar.o); rintro e C8 ⟨AY, rfl, B0, hb⟩; refine ⟨_, rfl, ?_⟩; have As := Z.m (Kd.R_lower (Kd.R_new' B0 (Kd.R_lt (vR Ai))) (below_size (vB HB))); replace Ai := Z.m (Kd.R_elder' (vR Ai) (Kd.R_base B0) hb); replace A0 := kB A0 hb; replace HB := bB HB hb; (try clear hb); (try clear BI); (try clear hk); (try clear hi); (try clear B0)) | ((with_reducible refine gq (N := 16) rfl ?_); refine Kd.R_lit (Kd.int .i64) _ 3 ?hg (N := 16) ?hd (xs := ([] : List Int)) (inner := []) (ok := fun _ => True) (okp := fun _ => True) ?hr ?hp (fun _ hk => hk) trivial (Below.refl _ _) (Nat.le_refl _) (by simp) ?_; (case hd => rfl); (case hg => rfl); (case hr => first | (go_simp; done) | (go_simp; rfl)); (case hp => exact (Reps.none _ _)); intro C5 C9 Aq hb hg_ hnew_; clear hg_ hnew_; (first | rw [← AK.o] at Aq | (simp only [Int.reduceToNat] at Aq; rw [← AK.o] at Aq)); have B7 := Z.m (Kd.R_lower (Kd.R_new' (Kd.R_new' Aq (Kd.R_lt (vR Ai))) (Kd.R_lt (vR As))) (below_size (vB HB))); replace Ai := Z.m (Kd.R_elder' (vR Ai) (Kd.R_base Aq) hb); replace As := Z.m (Kd.R_elder' (vR As) (Kd.R_base Aq) hb); replace A0 := kB A0 hb; replace HB := bB HB hb; clear hb Aq; have Az := bc0 A0; have AA := bc1 A0; have AB := bc2 A0; have AF := qz A0.o 0; have AG := qz A0.o 1; have AH := qz A0.o 2))
  go_loopg [6, 20] k (fun kq v6 v20 w' => ∃ (Ap : List Int) (A1 : Int), v20 = .int .i64 A1 ∧ Z (impl_LoneGears.l0 kq Aa Ag Ap l0_2 (l0_2.length : Int) A1 = some (r1, r2)) ∧ Z (kq ≤ k) ∧ Z (Kd.R (Kd.int .i64) 3 w' w.heap.size (fun k_ => some k_ ≠ (AY : Value).ownBlock ∧ some k_ ≠ (v6 : Value).ownBlock) AX Aa) ∧ Z (Kd.R (Kd.int .i64) 3 w' w.heap.size (fun k_ => some k_ ≠ (AX : Value).ownBlock ∧ some k_ ≠ (v6 : Value).ownBlock) AY Ag) ∧ Z (Kd.R (Kd.int .i64) 3 w' w.heap.size (fun k_ => some k_ ≠ (AX : Value).ownBlock ∧ some k_ ≠ (AY : Value).ownBlock) v6 Ap) ∧ Z (w'.heap[Av]? = some (.cells #[.int .i64 a0_0, .int .i64 a0_1, (.slice A0_2 l0_2.length c0_2)] 30 (0, 0))) ∧ Z (Below w.heap.size w w'))
  case atStart => exact ⟨(Bk), (0), (by first | rfl | (simp; done) | (simp [*]; done)), H', ⟨Nat.le_refl _⟩, ⟨by refine rK ?_; exact Kd.Rm Ai.o (fun _ hk => ⟨hk.1.2, hk.2⟩)⟩, ⟨by refine rK ?_; exact Kd.Rm As.o (fun _ hk => ⟨hk.1.2, hk.2⟩)⟩, ⟨by refine rK ?_; exact Kd.Rm B7.o (fun _ hk => ⟨hk.1.2, hk.2⟩)⟩, ⟨vK A0⟩, ⟨vB HB⟩⟩
  case round =>
   clear H'
   (try clear c3)
   (try clear Aw); (try clear Ax); (try clear Ay); (try clear Az); (try clear AA); (try clear AB); (try clear AL); (try clear AM)
   (try clear AN); (try clear AO); (try clear AP); (try clear AQ); (try clear AC); (try clear AD); (try clear AE); (try clear AF)
   (try clear AG); (try clear AH); (try clear AR); (try clear AS); (try clear AT); (try clear AU); (try clear AV); (try clear AW)
   obtain ⟨Ap, A1, rfl, HA, AZ, Ad, Ae, Ah, A0, HB⟩ := hrel
   cases gk with
   | zero => exact absurd HA.o (by simp [impl_LoneGears.l0])
   | succ k1 =>
    have H := HA.o
    clear HA
    simp only [impl_LoneGears.l0] at H
    by_cases c16 : A1 < (l0_2.length : Int)
    ·rw [if_pos c16] at H
     have Bd := decide_eq_true c16
     clear c16
     by_cases c17 : 0 ≤ A1
     ·rw [if_pos c17] at H
      have BM := decide_eq_true c17
      clear c17
      by_cases c18 : A1 < (l0_2.length : Int)
      ·rw [if_pos c18] at H
       have BN := decide_eq_true c18
       clear c18
       by_cases c19 : ((rd_T71 l0_2 A1).f0) = 6
       ·rw [if_pos c19] at H
        have Be := beq_iff_eq.mpr c19
        have Bf := bne_eq_false_iff_eq.mpr c19
        clear c19
        by_cases c20 : A1 < (Aa.length : Int)
        ·rw [if_pos c20] at H
         have BO := decide_eq_true c20
         clear c20
         by_cases c21 : 0 ≤ (rd Aa A1)
         ·rw [if_pos c21] at H
          have BP := decide_eq_true c21
          clear c21
          by_cases c22 : (rd Aa A1) < (Ag.length : Int)
          ·rw [if_pos c22] at H
           have BQ := decide_eq_true c22
           clear c22
           by_cases c23 : (rd Ag (rd Aa A1)) = 1
           ·rw [if_pos c23] at H
            have Bg := beq_iff_eq.mpr c23
            have Bh := bne_eq_false_iff_eq.mpr c23
            clear c23
            by_cases c24 : Ap.length < 17592186044416
            ·rw [if_pos c24] at H
             have Bb := Z.m c24
             clear c24
             obtain ⟨Bl, Ao⟩ : ∃ y_ : List Int, y_ = (Ap ++ [A1]) := ⟨_, rfl⟩
             replace H : (impl_LoneGears.l0 k1 Aa Ag Bl l0_2 (l0_2.length : Int) (wrap64 (A1 + 1))) = some (r1, r2) := by first | (rw [Ao]; with_reducible exact H) | (have H2_ := (Option.bind_some _ _).symm.trans H; rw [Ao]; with_reducible exact H2_) | (have H2_ := (Option.bind_some _ _).symm.trans H; with_reducible exact H2_) | with_reducible exact H | (rw [Ao]; exact H) | exact H
             have Bc := Z.m Ao
             clear Ao
             have H' := Z.m H
             clear H
             have p308 : 0 ≤ (A1 : Int) := ofD
             have q308 : A1 < (l0_2.length : Int) := ofD
             obtain ⟨Au, e308, A8, A9⟩ := at_T71 Aj.o A1 p308 q308
             cases e308
             replace A8 := (HB.o.cell (World.block_lt_of_cell? w _ A8)).trans A8
             replace A9 := (HB.o.cell (World.block_lt_of_cell? w _ A9)).trans A9
             replace p308 := eq_true p308
             replace q308 := eq_true q308
             go_wp2_with (first | ((with_reducible refine gq (N := 8) rfl ?_); refine be (N := 8) (cs := #[.int .i64 0, .int .i64 0]) (t := 71) ?_; intro A7 hg Ca hbox hb; have A3 := Z.m (hbox); have Am := gW (w := w) HB hg; have AJ := Am; have A6 := neL A0 hg; have Af := neG A0 hg; replace Ad := Z.m (Kd.Rb (vR Ad) hb); replace Ae := Z.m (Kd.Rb (vR Ae) hb); replace Ah := Z.m (Kd.Rb (vR Ah) hb); replace A0 := kB A0 hb; replace HB := bB HB hb; clear hb hbox hg; have BR := Af.o; have BU := A6.o; have Bm := bc0 A3; have Bn := bc1 A3; have Bv := qz A3.o 0; have Bw := qz A3.o 1; obtain ⟨BX, Bi, BE⟩ := Kd.R_slice Ad.o; subst BE; have p310 : 0 ≤ (A1 : Int) := ofD; have q310 : A1 < (Aa.length : Int) := ofD; obtain ⟨Ak, e310, Ab⟩ := Kd.at_int (Kd.RrZ Ad.o).2.2 A1 p310 q310; cases e310; have hn310_0 : Ak.block ≠ A7 := Kd.own_blk (Kd.R_ne Ad.o A3.o (by decide)); have hn310_1 : Ak.block ≠ A7 := Kd.own_blk (Kd.R_ne Ad.o A3.o (by decide)); replace Ab := (qc (p := ⟨A7, 0, none⟩) (by first | (rw [add_block]; exact hn310_0) | (show (Addr.add _ _).block ≠ _; rw [add_block]; exact hn310_0) | exact hn310_0) (.int .i64 ((rd_T71 l0_2 A1).f0))).trans Ab; replace Ab := (qc (p := ⟨A7, 1, none⟩) (by first | (rw [add_block]; exact hn310_1) | (show (Addr.add _ _).block ≠ _; rw [add_block]; exact hn310_1) | exact hn310_1) (.int .i64 ((rd_T71 l0_2 A1).f1))).trans Ab; clear hn310_0; clear hn310_1; replace p310 := eq_true p310; replace q310 := eq_true q310; obtain ⟨BY, Bj, BF⟩ := Kd.R_slice Ae.o; subst BF; have p311 : 0 ≤ ((rd Aa A1) : Int) := ofD; have q311 : (rd Aa A1) < (Ag.length : Int) := ofD; obtain ⟨Al, e311, Ac⟩ := Kd.at_int (Kd.RrZ Ae.o).2.2 (rd Aa A1) p311 q311; cases e311; have hn311_0 : Al.block ≠ A7 := Kd.own_blk (Kd.R_ne Ae.o A3.o (by decide)); have hn311_1 : Al.block ≠ A7 := Kd.own_blk (Kd.R_ne Ae.o A3.o (by decide)); replace Ac := (qc (p := ⟨A7, 0, none⟩) (by first | (rw [add_block]; exact hn311_0) | (show (Addr.add _ _).block ≠ _; rw [add_block]; exact hn311_0) | exact hn311_0) (.int .i64 ((rd_T71 l0_2 A1).f0))).trans Ac; replace Ac := (qc (p := ⟨A7, 1, none⟩) (by first | (rw [add_block]; exact hn311_1) | (show (Addr.add _ _).block ≠ _; rw [add_block]; exact hn311_1) | exact hn311_1) (.int .i64 ((rd_T71 l0_2 A1).f1))).trans Ac; clear hn311_0; clear hn311_1; replace p311 := eq_true p311; replace q311 := eq_true q311) | ((with_reducible refine gu (b := .append) (xs := #[.tmp 38, .tmp 40]) rfl ?_); at_builtin; refine Kd.R_append (Kd.int .i64) (w0 := w) w.heap.size rfl (.tmp 38) (.tmp 40) 38 3 (.int .i64 0) 8 rfl Try.underlying38 info3 rfl (by decide) (by omega) u6 Ap A1 [.int .i64 A1] (fun k_ => some k_ ≠ (.slice (some Ak) Aa.length Bi : Value).ownBlock ∧ some k_ ≠ (.slice (some Al) Ag.length Bj : Value).ownBlock) (fun _ => False) rfl (by first | (go_simp; done) | (go_simp; rfl)) ?aP (fun _ hk => hk.elim) ?aF ?aO ?aB ?aS ?aL ?_; (case aP => exact rfl); (case aB => exact (vB HB)); (case aF => exact (fun k_ hk => ⟨Kd.fresh' (Kd.R_lt (by refine rK ?_; exact (Kd.Rm (rf (rf (Kd.Ry Ad.o A3.o (by decide)))) (fun _ h_ => h_.1)))) k_ hk, Kd.fresh' (Kd.R_lt (by refine rK ?_; exact (Kd.Rm (rf (rf (Kd.Ry Ae.o A3.o (by decide)))) (fun _ h_ => h_.1)))) k_ hk⟩)); (case aO => exact (by refine rK ?_; exact Kd.Rm (rf (rf (Kd.Ry Ah.o A3.o (by decide)))) (fun _ hk => ⟨hk.1.1, hk.1.2⟩))); (case aS => exact (below_size (vB HB))); (case aL => have := Bb.o; omega); intro C6 Cb ho hb hg hat; rw [← Bc.o] at ho; have Ba := Z.m (ho); replace Ad := Z.m (Kd.R_after (ok := (fun k_ => some k_ ≠ (.slice (some Al) Ag.length Bj : Value).ownBlock)) (by refine rK ?_; exact Kd.Rm (rf (rf (Kd.Ry Ad.o A3.o (by decide)))) (fun _ hk => ⟨hk.1.1, hk.1.2⟩)) hg hat); replace Ae := Z.m (Kd.R_after (ok := (fun k_ => some k_ ≠ (.slice (some Ak) Aa.length Bi : Value).ownBlock)) (by refine rK ?_; exact Kd.Rm (rf (rf (Kd.Ry Ae.o A3.o (by decide)))) (fun _ hk => ⟨hk.1.1, hk.1.2⟩)) hg hat); replace A0 := Z.m (qg (g := Av) (o := .cells #[.int .i64 a0_0, .int .i64 a0_1, .slice (some Au) l0_2.length c0_2] 30 (0, 0)) (by refine bK ?_; (iterate 2 refine qF ?_ A6); exact A0.o) hg (Kd.R_ne Ah.o A0.o (by decide))); replace A3 := Z.m (qg (g := A7) (o := .cells #[.int .i64 ((rd_T71 l0_2 A1).f0), .int .i64 ((rd_T71 l0_2 A1).f1)] 71 (0, 0)) (by refine bK ?_; refine qp (cs := #[iV ((rd_T71 l0_2 A1).f0), iV 0]) ?_ 1 _ rfl; refine bK ?_; refine qp (cs := #[iV 0, iV 0]) ?_ 0 _ rfl; refine bK ?_; exact A3.o) hg (Kd.R_ne Ah.o A3.o (by decide))); replace HB := Z.m (hb); clear Ah; clear ho hb hg hat))
             go_roundg k1
             case measure => have := AZ.o; omega
             case rel => exact ⟨(Bl), (wrap64 (A1 + 1)), (by first | rfl | (simp; done) | (simp [*]; done)), H', ⟨by have := AZ.o; omega⟩, ⟨vR Ad⟩, ⟨vR Ae⟩, ⟨vR Ba⟩, ⟨vK A0⟩, ⟨vB HB⟩⟩
            ·rw [if_neg c24] at H
             exact absurd H (by simp)
           ·rw [if_neg c23] at H
            have Bg := beq_eq_false_iff_ne.mpr c23
            have Bh := bne_iff_ne.mpr c23
            have H' := Z.m H
            clear H
            have p308 : 0 ≤ (A1 : Int) := ofD
            have q308 : A1 < (l0_2.length : Int) := ofD
            obtain ⟨Au, e308, A8, A9⟩ := at_T71 Aj.o A1 p308 q308
            cases e308
            replace A8 := (HB.o.cell (World.block_lt_of_cell? w _ A8)).trans A8
            replace A9 := (HB.o.cell (World.block_lt_of_cell? w _ A9)).trans A9
            replace p308 := eq_true p308
            replace q308 := eq_true q308
            go_wp2_with (first | ((with_reducible refine gq (N := 8) rfl ?_); refine be (N := 8) (cs := #[.int .i64 0, .int .i64 0]) (t := 71) ?_; intro A7 hg Cd hbox hb; have A3 := Z.m (hbox); have Am := gW (w := w) HB hg; have AJ := Am; have A6 := neL A0 hg; have Af := neG A0 hg; replace Ad := Z.m (Kd.Rb (vR Ad) hb); replace Ae := Z.m (Kd.Rb (vR Ae) hb); replace Ah := Z.m (Kd.Rb (vR Ah) hb); replace A0 := kB A0 hb; replace HB := bB HB hb; clear hb hbox hg; have BS := Af.o; have BV := A6.o; have Bo := bc0 A3; have Bp := bc1 A3; have Bx := qz A3.o 0; have By := qz A3.o 1; obtain ⟨BZ, C1, BG⟩ := Kd.R_slice Ad.o; subst BG; have p310 : 0 ≤ (A1 : Int) := ofD; have q310 : A1 < (Aa.length : Int) := ofD; obtain ⟨Ak, e310, Ab⟩ := Kd.at_int (Kd.RrZ Ad.o).2.2 A1 p310 q310; cases e310; have hn310_0 : Ak.block ≠ A7 := Kd.own_blk (Kd.R_ne Ad.o A3.o (by decide)); have hn310_1 : Ak.block ≠ A7 := Kd.own_blk (Kd.R_ne Ad.o A3.o (by decide)); replace Ab := (qc (p := ⟨A7, 0, none⟩) (by first | (rw [add_block]; exact hn310_0) | (show (Addr.add _ _).block ≠ _; rw [add_block]; exact hn310_0) | exact hn310_0) (.int .i64 ((rd_T71 l0_2 A1).f0))).trans Ab; replace Ab := (qc (p := ⟨A7, 1, none⟩) (by first | (rw [add_block]; exact hn310_1) | (show (Addr.add _ _).block ≠ _; rw [add_block]; exact hn310_1) | exact hn310_1) (.int .i64 ((rd_T71 l0_2 A1).f1))).trans Ab; clear hn310_0; clear hn310_1; replace p310 := eq_true p310; replace q310 := eq_true q310; obtain ⟨C0, C2, BH⟩ := Kd.R_slice Ae.o; subst BH; have p311 : 0 ≤ ((rd Aa A1) : Int) := ofD; have q311 : (rd Aa A1) < (Ag.length : Int) := ofD; obtain ⟨Al, e311, Ac⟩ := Kd.at_int (Kd.RrZ Ae.o).2.2 (rd Aa A1) p311 q311; cases e311; have hn311_0 : Al.block ≠ A7 := Kd.own_blk (Kd.R_ne Ae.o A3.o (by decide)); have hn311_1 : Al.block ≠ A7 := Kd.own_blk (Kd.R_ne Ae.o A3.o (by decide)); replace Ac := (qc (p := ⟨A7, 0, none⟩) (by first | (rw [add_block]; exact hn311_0) | (show (Addr.add _ _).block ≠ _; rw [add_block]; exact hn311_0) | exact hn311_0) (.int .i64 ((rd_T71 l0_2 A1).f0))).trans Ac; replace Ac := (qc (p := ⟨A7, 1, none⟩) (by first | (rw [add_block]; exact hn311_1) | (show (Addr.add _ _).block ≠ _; rw [add_block]; exact hn311_1) | exact hn311_1) (.int .i64 ((rd_T71 l0_2 A1).f1))).trans Ac; clear hn311_0; clear hn311_1; replace p311 := eq_true p311; replace q311 := eq_true q311))
            go_roundg k1
            case measure => have := AZ.o; omega
            case rel => exact ⟨(Ap), (wrap64 (A1 + 1)), (by first | rfl | (simp; done) | (simp [*]; done)), H', ⟨by have := AZ.o; omega⟩, ⟨by refine rK ?_; exact Kd.Rm (rf (rf (Kd.Ry Ad.o A3.o (by decide)))) (fun _ hk => ⟨hk.1.1, hk.1.2⟩)⟩, ⟨by refine rK ?_; exact Kd.Rm (rf (rf (Kd.Ry Ae.o A3.o (by decide)))) (fun _ hk => ⟨hk.1.1, hk.1.2⟩)⟩, ⟨by refine rK ?_; exact Kd.Rm (rf (rf (Kd.Ry Ah.o A3.o (by decide)))) (fun _ hk => ⟨hk.1.1, hk.1.2⟩)⟩, ⟨by refine bK ?_; (iterate 2 refine qF ?_ A6); exact A0.o⟩, ⟨vB HB⟩⟩
          ·rw [if_neg c22] at H
           exact absurd H (by simp)
         ·rw [if_neg c21] at H
          exact absurd H (by simp)
        ·rw [if_neg c20] at H
         exact absurd H (by simp)
       ·rw [if_neg c19] at H
        have Be := beq_eq_false_iff_ne.mpr c19
        have Bf := bne_iff_ne.mpr c19
        have H' := Z.m H
        clear H
        have p308 : 0 ≤ (A1 : Int) := ofD
        have q308 : A1 < (l0_2.length : Int) := ofD
        obtain ⟨Au, e308, A8, A9⟩ := at_T71 Aj.o A1 p308 q308
        cases e308
        replace A8 := (HB.o.cell (World.block_lt_of_cell? w _ A8)).trans A8
        replace A9 := (HB.o.cell (World.block_lt_of_cell? w _ A9)).trans A9
        replace p308 := eq_true p308
        replace q308 := eq_true q308
        go_wp2_with (first | ((with_reducible refine gq (N := 8) rfl ?_); refine be (N := 8) (cs := #[.int .i64 0, .int .i64 0]) (t := 71) ?_; intro A7 hg Ce hbox hb; have A3 := Z.m (hbox); have Am := gW (w := w) HB hg; have AJ := Am; have A6 := neL A0 hg; have Af := neG A0 hg; replace Ad := Z.m (Kd.Rb (vR Ad) hb); replace Ae := Z.m (Kd.Rb (vR Ae) hb); replace Ah := Z.m (Kd.Rb (vR Ah) hb); replace A0 := kB A0 hb; replace HB := bB HB hb; clear hb hbox hg; have BT := Af.o; have BW := A6.o; have Bq := bc0 A3; have Br := bc1 A3; have Bz := qz A3.o 0; have BA := qz A3.o 1))
        go_roundg k1
        case measure => have := AZ.o; omega
        case rel => exact ⟨(Ap), (wrap64 (A1 + 1)), (by first | rfl | (simp; done) | (simp [*]; done)), H', ⟨by have := AZ.o; omega⟩, ⟨by refine rK ?_; exact Kd.Rm (rf (rf (Kd.Ry Ad.o A3.o (by decide)))) (fun _ hk => ⟨hk.1.1, hk.1.2⟩)⟩, ⟨by refine rK ?_; exact Kd.Rm (rf (rf (Kd.Ry Ae.o A3.o (by decide)))) (fun _ hk => ⟨hk.1.1, hk.1.2⟩)⟩, ⟨by refine rK ?_; exact Kd.Rm (rf (rf (Kd.Ry Ah.o A3.o (by decide)))) (fun _ hk => ⟨hk.1.1, hk.1.2⟩)⟩, ⟨by refine bK ?_; (iterate 2 refine qF ?_ A6); exact A0.o⟩, ⟨vB HB⟩⟩
      ·rw [if_neg c18] at H
       exact absurd H (by simp)
     ·rw [if_neg c17] at H
      exact absurd H (by simp)
    ·rw [if_neg c16] at H
     have Bd := decide_eq_false c16
     clear c16
     simp only [Option.some.injEq, Prod.mk.injEq] at H
     obtain ⟨rfl, rfl⟩ := H
     go_wp2
     go_ret2
     exact ⟨_, by first | rfl | (simp [eN, eS] <;> rfl) | (simp [*, eN, eS] <;> rfl), by refine rK ?_; exact Kd.Rm Ah.o (fun _ hk => trivial), vB HB⟩
 ·replace c3 := Bool.eq_false_iff.mpr c3
  subst c3
  have H1 : (some (([] : List Int), false)) = some (r1, r2) := by rw [if_neg (show ¬ (false = true) by decide)] at H; exact H
  clear H
  have H := H1
  clear H1
  simp only [Option.some.injEq, Prod.mk.injEq] at H
  obtain ⟨rfl, rfl⟩ := H
  go_enter Try.func40, Try.ntmps40
  go_wp2_with (first | ((with_reducible refine gq (N := 1) rfl ?_); refine be (N := 1) (cs := #[.int .i64 a0_0, .int .i64 a0_1, .slice A0_2 l0_2.length c0_2]) (t := 30) ?_; intro Av hg Cf hbox hb; have A0 := Z.m (hbox); have At := gW (w := w) HB hg; have B2 := At; replace HB := bB HB hb; clear hb hbox hg; have Bs := bc0 A0; have Bt := bc1 A0; have Bu := bc2 A0; have BB := qz A0.o 0; have BC := qz A0.o 1; have BD := qz A0.o 2) | ((with_reducible refine gc (f := 61) rfl ?_); refine gA (some 10) _ #[.agg #[.int .i64 a0_0, .int .i64 a0_1, .slice A0_2 l0_2.length c0_2]] ?_ Try.func61; (with_reducible refine (impl_IsBoard.calls k a0_0 a0_1 _ _ l0_2 false _ ?side1 ?side2 A2.o).mono ?_); (case side1 => repeat (first | exact (Kd.C_below Aj.o HB.o) | (with_reducible refine Kd.C_alloc ?_ _) | (with_reducible refine Kd.C_drewN ?_ _) | (with_reducible refine Kd.C_drew ?_))); (case side2 => exact Ar.o); rintro e Cg ⟨rfl, hb⟩; refine ⟨_, rfl, ?_⟩; replace A0 := kB A0 hb; replace HB := bB HB hb; (try clear hb); (try clear BI); (try clear hk); (try clear hi)))
  go_ret2
  exact ⟨_, by first | rfl | (simp [eN, eS] <;> rfl) | (simp [*, eN, eS] <;> rfl), by first | exact Kd.R_nil _ _ _ _ _ | exact Kd.N_nil _ _ _ _ _ | exact Kd.V_nil _ _ _ _ _ | exact Kd.Q_nil _ _ _ _ _ | exact Kd.S_nil _ _ _ _ _, vB HB⟩

end Go.Proofs.Ytlkiakpipcnijaa.PAll
