/- Began as a text that print.sh wrote (of the functions named below); turned and shortened by this session. -/
import Derived.Test.YtlkiakpipcnijaaG0
import Derived.Test.YtlkiakpipcnijaaG11
import Derived.Test.YtlkiakpipcnijaaG12
import Derived.Test.YtlkiakpipcnijaaG13
import Derived.Test.YtlkiakpipcnijaaG18
namespace Go.Proofs.Ytlkiakpipcnijaa.PAll
open Go.RowKit Go.Proofs.YtlkiakpipcnijaaW.PrintWords Go.Proofs.YtlkiakpipcnijaaW.PrintLast Go.Proofs.YtlkiakpipcnijaaW.PrintMore
attribute [local go_sem] max2_int min2_int max_two min_two max_three min_three max_four min_four   -- for this text's walks alone
set_option linter.unusedVariables false
set_option linter.unusedSimpArgs false

/-! ### impl_WithoutCogs: function 38 -/
def impl_WithoutCogs.l0 : Nat → List Int → List Int → List (S71) → Int → Int → Int → Int → List (S71) → Option (Int × Int × (List (S71)) × Bool)
 | 0, _, _, _, _, _, _, _, _ => none
 | k + 1, x5, x6, x20, x21, x22, x413000, x413001, x413002 => if x22 < x21 then (if 0 ≤ x22 then (if x22 < (x20.length : Int) then (if ((rd_T71 x20 x22).f0) = 7 then (if x22 < (x5.length : Int) then (if 0 ≤ (rd x5 x22) then (if (rd x5 x22) < (x6.length : Int) then (if (rd x6 (rd x5 x22)) ≤ 1 then (if x22 < (x413002.length : Int) then (impl_WithoutCogs.l0 k x5 x6 x20 x21 (wrap64 (x22 + 1)) x413000 x413001 (x413002.set (x22 : Int).toNat (⟨0, 0⟩ : S71))) else (none)) else (impl_WithoutCogs.l0 k x5 x6 x20 x21 (wrap64 (x22 + 1)) x413000 x413001 x413002)) else (none)) else (none)) else (none)) else (impl_WithoutCogs.l0 k x5 x6 x20 x21 (wrap64 (x22 + 1)) x413000 x413001 x413002)) else (none)) else (none)) else (some (x413000, x413001, x413002, true))
def impl_WithoutCogs.f (k : Nat) (a0_0 : Int) (a0_1 : Int) (l0_2 : List (S71)) : Option (Int × Int × (List (S71)) × Bool) := (impl_IsBoard.f k a0_0 a0_1 l0_2).bind fun t406 => (if t406 = true then ((impl_copyBoard.f a0_0 a0_1 l0_2).bind fun bt407 => ((impl_groupNumbers.f k a0_0 a0_1 l0_2).bind fun t413 => ((impl_gearCounts.f k a0_0 a0_1 l0_2).bind fun t416 => (impl_WithoutCogs.l0 k t413 t416 l0_2 (l0_2.length : Int) 0 bt407.1 bt407.2.1 bt407.2.2)))) else (some (0, 0, ([] : List (S71)), false)))
set_option maxHeartbeats 8000000 in
set_option maxRecDepth 100000 in
theorem impl_WithoutCogs.calls (k : Nat) (a0_0 : Int) (a0_1 : Int) (A0_2 : Option Addr) (c0_2 : Nat) (l0_2 : List (S71)) (r1 : Int) (r2 : Int) (r3 : List (S71)) (r4 : Bool) (w : World) (hr0_2 : Kd.C k71 w A0_2 l0_2.length l0_2) (hc0_2 : l0_2.length ≤ c0_2) (h : impl_WithoutCogs.f k a0_0 a0_1 l0_2 = some (r1, r2, r3, r4)) :
 Calls Try.prog 38 #[.agg #[.int .i64 a0_0, .int .i64 a0_1, .slice A0_2 l0_2.length c0_2]] w fun e w' => ∃ v2_ : Value, e = .returned (.tuple #[.agg #[.int .i64 r1, .int .i64 r2, v2_], .bool r4]) ∧ Kd.R k71 71 w' w.heap.size (fun _ => True) v2_ r3 ∧ Below w.heap.size w w' := by
 have E3 := Try.underlying30
 have E4 := Try.underlying71
 have Ay := Z.m hr0_2
 have AD := Z.m hc0_2
 clear hr0_2 hc0_2
 have HB := Z.m (Below.refl w.heap.size w)
 have H : ((impl_IsBoard.f k a0_0 a0_1 l0_2).bind fun BC => (if BC = true then ((impl_copyBoard.f a0_0 a0_1 l0_2).bind fun bt407 => ((impl_groupNumbers.f k a0_0 a0_1 l0_2).bind fun Ah => ((impl_gearCounts.f k a0_0 a0_1 l0_2).bind fun Al => (impl_WithoutCogs.l0 k Ah Al l0_2 (l0_2.length : Int) 0 bt407.1 bt407.2.1 bt407.2.2)))) else (some (0, 0, ([] : List (S71)), false)))) = some (r1, r2, r3, r4) := h
 clear h
 replace H := Option.bind_eq_some_iff.mp H
 obtain ⟨BC, D7, H⟩ := H
 replace H : (if BC = true then ((impl_copyBoard.f a0_0 a0_1 l0_2).bind fun bt407 => ((impl_groupNumbers.f k a0_0 a0_1 l0_2).bind fun Ah => ((impl_gearCounts.f k a0_0 a0_1 l0_2).bind fun Al => (impl_WithoutCogs.l0 k Ah Al l0_2 (l0_2.length : Int) 0 bt407.1 bt407.2.1 bt407.2.2)))) else (some (0, 0, ([] : List (S71)), false))) = some (r1, r2, r3, r4) := H
 have A2 := Z.m D7
 clear D7
 by_cases c3 : BC = true
 ·subst c3
  have H1 : ((impl_copyBoard.f a0_0 a0_1 l0_2).bind fun bt407 => ((impl_groupNumbers.f k a0_0 a0_1 l0_2).bind fun Ah => ((impl_gearCounts.f k a0_0 a0_1 l0_2).bind fun Al => (impl_WithoutCogs.l0 k Ah Al l0_2 (l0_2.length : Int) 0 bt407.1 bt407.2.1 bt407.2.2)))) = some (r1, r2, r3, r4) := by rw [if_pos rfl] at H; exact H
  clear H
  have H := H1
  clear H1
  replace H := Option.bind_eq_some_iff.mp H
  obtain ⟨⟨AA, AB, AG⟩, D8, H⟩ := H
  replace H : ((impl_groupNumbers.f k a0_0 a0_1 l0_2).bind fun Ah => ((impl_gearCounts.f k a0_0 a0_1 l0_2).bind fun Al => (impl_WithoutCogs.l0 k Ah Al l0_2 (l0_2.length : Int) 0 AA AB AG))) = some (r1, r2, r3, r4) := H
  have A4 := Z.m D8
  clear D8
  replace H := Option.bind_eq_some_iff.mp H
  obtain ⟨Ah, D9, H⟩ := H
  replace H : ((impl_gearCounts.f k a0_0 a0_1 l0_2).bind fun Al => (impl_WithoutCogs.l0 k Ah Al l0_2 (l0_2.length : Int) 0 AA AB AG)) = some (r1, r2, r3, r4) := H
  have A5 := Z.m D9
  clear D9
  replace H := Option.bind_eq_some_iff.mp H
  obtain ⟨Al, Da, H⟩ := H
  replace H : (impl_WithoutCogs.l0 k Ah Al l0_2 (l0_2.length : Int) 0 AA AB AG) = some (r1, r2, r3, r4) := H
  have A6 := Z.m Da
  clear Da
  have H' := Z.m H
  clear H
  go_enter Try.func38, Try.ntmps38
  go_wp2_with (first | ((with_reducible refine gq (N := 1) rfl ?_); refine be (N := 1) (cs := #[.int .i64 a0_0, .int .i64 a0_1, .slice A0_2 l0_2.length c0_2]) (t := 30) ?_; intro AE hg w7 hbox hb; have A0 := Z.m (hbox); have AN := gW (w := w) HB hg; have BQ := AN; replace HB := bB HB hb; clear hb hbox hg) | ((with_reducible refine gq (N := 2) rfl ?_); refine be (N := 2) (cs := #[.int .i64 0, .int .i64 0, .slice none 0 0]) (t := 30) ?_; intro Az hg w8 hbox hb; have A7 := Z.m (hbox); have AO := gW (w := w) HB hg; have BR := AO; have Ao := neL A0 hg; have Aq := neG A0 hg; replace A0 := kB A0 hb; replace HB := bB HB hb; clear hb hbox hg; have E1 := Ao.o; have E2 := Aq.o; have AU := bc0 A0; have AV := bc1 A0; have AW := bc2 A0; have Bj := qz A0.o 0; have Bk := qz A0.o 1; have Bl := qz A0.o 2) | ((with_reducible refine gc (f := 61) rfl ?_); refine gA (some 10) _ #[.agg #[.int .i64 a0_0, .int .i64 a0_1, .slice A0_2 l0_2.length c0_2]] ?_ Try.func61; (with_reducible refine (impl_IsBoard.calls k a0_0 a0_1 _ _ l0_2 true _ ?side1 ?side2 A2.o).mono ?_); (case side1 => repeat (first | exact (Kd.C_below Ay.o HB.o) | (with_reducible refine Kd.C_alloc ?_ _) | (with_reducible refine Kd.C_drewN ?_ _) | (with_reducible refine Kd.C_drew ?_))); (case side2 => exact AD.o); rintro e E7 ⟨rfl, hb⟩; refine ⟨_, rfl, ?_⟩; replace A0 := kB A0 hb; replace A7 := kB A7 hb; replace HB := bB HB hb; (try clear hb); (try clear C7); (try clear hk); (try clear hi); have AX := bc0 A0; have AY := bc1 A0; have AZ := bc2 A0; have Bm := qz A0.o 0; have Bn := qz A0.o 1; have Bo := qz A0.o 2) | ((with_reducible refine gc (f := 72) rfl ?_); refine gA (some 14) _ #[.agg #[.int .i64 a0_0, .int .i64 a0_1, .slice A0_2 l0_2.length c0_2]] ?_ Try.func72; (with_reducible refine (impl_copyBoard.calls a0_0 a0_1 _ _ l0_2 AA AB AG _ ?side1 ?side2 A4.o).mono ?_); (case side1 => repeat (first | exact (Kd.C_below Ay.o HB.o) | (with_reducible refine Kd.C_alloc ?_ _) | (with_reducible refine Kd.C_drewN ?_ _) | (with_reducible refine Kd.C_drew ?_))); (case side2 => exact AD.o); rintro e E8 ⟨E5, rfl, BB, hb⟩; refine ⟨_, rfl, ?_⟩; have Ax := Z.m (Kd.R_lower BB (below_size (vB HB))); replace A0 := kB A0 hb; replace A7 := kB A7 hb; replace HB := bB HB hb; (try clear hb); (try clear C7); (try clear hk); (try clear hi); (try clear BB)) | ((with_reducible refine gq (N := 4) rfl ?_); refine be (N := 4) (cs := #[.int .i64 0, .int .i64 0, .slice none 0 0]) (t := 30) ?_; intro AK hg E9 hbox hb; have A9 := Z.m (hbox); have BS := gW (w := w) HB hg; have Db := BS; have Ap := neL A0 hg; have Au := neG A0 hg; have Ar := neL A7 hg; have Av := neG A7 hg; replace Ax := Z.m (Kd.Rb (vR Ax) hb); replace A0 := kB A0 hb; replace A7 := kB A7 hb; replace HB := bB HB hb; clear hb hbox hg; have Di := Au.o; have Dz := Ap.o; have Dj := Av.o; have DA := Ar.o; have B0 := bc0 A9; have B2 := bc1 A9; have B7 := bc2 A9; have Bp := qz A9.o 0; have Bq := qz A9.o 1; have Br := qz A9.o 2; obtain ⟨BO, C1, CW⟩ := Kd.R_slice Ax.o; subst CW; have Ba := bc0 A0; have Bb := bc1 A0; have Bc := bc2 A0; have Bs := qz A0.o 0; have Bt := qz A0.o 1; have Bu := qz A0.o 2) | ((with_reducible refine gc (f := 57) rfl ?_); refine gA (some 16) _ #[.agg #[.int .i64 a0_0, .int .i64 a0_1, .slice A0_2 l0_2.length c0_2]] ?_ Try.func57; (with_reducible refine (impl_groupNumbers.calls k a0_0 a0_1 _ _ l0_2 Ah _ ?side1 ?side2 A5.o).mono ?_); (case side1 => exact Kd.C_below Ay.o (vB HB)); (case side2 => exact AD.o); rintro e Ea ⟨BD, rfl, BB, hb⟩; refine ⟨_, rfl, ?_⟩; have AI := Z.m (Kd.R_lower BB (below_size (vB HB))); replace Ax := Z.m (Kd.Rb (by refine rK ?_; exact (Kd.Rm (rf (rf (rf (Kd.Ry Ax.o A9.o (by decide))))) (fun _ h_ => h_.1))) hb); replace A0 := Z.m (qb (g := AE) (o := .cells #[.int .i64 a0_0, .int .i64 a0_1, .slice A0_2 l0_2.length c0_2] 30 (0, 0)) (by refine bK ?_; (iterate 3 refine qF ?_ Ap); exact A0.o) hb); replace A7 := Z.m (qb (g := Az) (o := .cells #[.int .i64 0, .int .i64 0, .slice none 0 0] 30 (0, 0)) (by refine bK ?_; (iterate 3 refine qF ?_ Ar); exact A7.o) hb); replace A9 := Z.m (qb (g := AK) (o := .cells #[.int .i64 AA, .int .i64 AB, .slice BO AG.length C1] 30 (0, 0)) (by refine bK ?_; apply st3; refine bK ?_; exact A9.o) hb); replace HB := bB HB hb; (try clear hb); (try clear C7); (try clear hk); (try clear hi); (try clear BB); have Bd := bc0 A0; have Be := bc1 A0; have Bf := bc2 A0; have Bv := qz A0.o 0; have Bw := qz A0.o 1; have Bx := qz A0.o 2) | ((with_reducible refine gc (f := 62) rfl ?_); refine gA (some 18) _ #[.agg #[.int .i64 a0_0, .int .i64 a0_1, .slice A0_2 l0_2.length c0_2]] ?_ Try.func62; (with_reducible refine (impl_gearCounts.calls k a0_0 a0_1 _ _ l0_2 Al _ ?side1 ?side2 A6.o).mono ?_); (case side1 => repeat (first | exact (Kd.C_below Ay.o HB.o) | (with_reducible refine Kd.C_alloc ?_ _) | (with_reducible refine Kd.C_drewN ?_ _) | (with_reducible refine Kd.C_drew ?_))); (case side2 => exact AD.o); rintro e Eb ⟨BE, rfl, BB, hb⟩; refine ⟨_, rfl, ?_⟩; have BU := Z.m (Kd.R_lower (Kd.R_new' BB (Kd.R_lt (vR AI))) (below_size (vB HB))); replace Ax := Z.m (Kd.Rb (vR Ax) hb); replace AI := Z.m (Kd.R_elder' (vR AI) (Kd.R_base BB) hb); replace A0 := kB A0 hb; replace A7 := kB A7 hb; replace A9 := kB A9 hb; replace HB := bB HB hb; (try clear hb); (try clear C7); (try clear hk); (try clear hi); (try clear BB); have Bg := bc0 A0; have Bh := bc1 A0; have Bi := bc2 A0; have By := qz A0.o 0; have Bz := qz A0.o 1; have BA := qz A0.o 2))
  go_loopg [22] k (fun kq v22 w' => ∃ (A1 : Int) (A8 : List (S71)) (u413002 : Value), v22 = .int .i64 A1 ∧ Z (impl_WithoutCogs.l0 kq Ah Al l0_2 (l0_2.length : Int) A1 AA AB A8 = some (r1, r2, r3, r4)) ∧ Z (kq ≤ k) ∧ Z (Kd.R (Kd.int .i64) 3 w' w.heap.size (fun k_ => some k_ ≠ (BE : Value).ownBlock) BD Ah) ∧ Z (Kd.R (Kd.int .i64) 3 w' w.heap.size (fun k_ => some k_ ≠ (BD : Value).ownBlock) BE Al) ∧ Z (Kd.R k71 71 w' w.heap.size (fun _ => True) u413002 A8) ∧ Z (w'.heap[AE]? = some (.cells #[.int .i64 a0_0, .int .i64 a0_1, (.slice A0_2 l0_2.length c0_2)] 30 (0, 0))) ∧ Z (w'.heap[Az]? = some (.cells #[.int .i64 0, .int .i64 0, (.slice none 0 0)] 30 (0, 0))) ∧ Z (w'.heap[AK]? = some (.cells #[.int .i64 AA, .int .i64 AB, u413002] 30 (0, 0))) ∧ Z (Below w.heap.size w w'))
  case atStart => exact ⟨(0), (AG), (.slice BO AG.length C1), (by first | rfl | (simp; done) | (simp [*]; done)), H', ⟨Nat.le_refl _⟩, ⟨by refine rK ?_; exact Kd.Rm AI.o (fun _ hk => hk.2)⟩, ⟨by refine rK ?_; exact Kd.Rm BU.o (fun _ hk => hk.2)⟩, ⟨vR Ax⟩, ⟨vK A0⟩, ⟨vK A7⟩, ⟨vK A9⟩, ⟨vB HB⟩⟩
  case round =>
   clear H'
   (try clear c3)
   (try clear AU); (try clear AV); (try clear AW); (try clear AX); (try clear AY); (try clear AZ); (try clear B0); (try clear B2)
   (try clear B7); (try clear Ba); (try clear Bb); (try clear Bc); (try clear Bd); (try clear Be); (try clear Bf); (try clear Bg)
   (try clear Bh); (try clear Bi); (try clear Bj); (try clear Bk); (try clear Bl); (try clear Bm); (try clear Bn); (try clear Bo)
   (try clear Bp); (try clear Bq); (try clear Br); (try clear Bs); (try clear Bt); (try clear Bu); (try clear Bv); (try clear Bw)
   (try clear Bx); (try clear By); (try clear Bz); (try clear BA)
   obtain ⟨A1, A8, u413002, rfl, HA, BN, Am, An, A3, A0, A7, A9, HB⟩ := hrel
   cases gk with
   | zero => exact absurd HA.o (by simp [impl_WithoutCogs.l0])
   | succ k1 =>
    have H := HA.o
    clear HA
    simp only [impl_WithoutCogs.l0] at H
    by_cases c24 : A1 < (l0_2.length : Int)
    ·rw [if_pos c24] at H
     have BX := decide_eq_true c24
     clear c24
     by_cases c25 : 0 ≤ A1
     ·rw [if_pos c25] at H
      have Dc := decide_eq_true c25
      clear c25
      by_cases c26 : A1 < (l0_2.length : Int)
      ·rw [if_pos c26] at H
       have Dd := decide_eq_true c26
       clear c26
       by_cases c27 : ((rd_T71 l0_2 A1).f0) = 7
       ·rw [if_pos c27] at H
        have BY := beq_iff_eq.mpr c27
        have BZ := bne_eq_false_iff_eq.mpr c27
        clear c27
        by_cases c28 : A1 < (Ah.length : Int)
        ·rw [if_pos c28] at H
         have De := decide_eq_true c28
         clear c28
         by_cases c29 : 0 ≤ (rd Ah A1)
         ·rw [if_pos c29] at H
          have Df := decide_eq_true c29
          clear c29
          by_cases c30 : (rd Ah A1) < (Al.length : Int)
          ·rw [if_pos c30] at H
           have Dg := decide_eq_true c30
           clear c30
           by_cases c31 : (rd Al (rd Ah A1)) ≤ 1
           ·rw [if_pos c31] at H
            have C0 := decide_eq_true c31
            clear c31
            by_cases c32 : A1 < (A8.length : Int)
            ·rw [if_pos c32] at H
             have Dh := decide_eq_true c32
             clear c32
             obtain ⟨BM, AF⟩ : ∃ y_ : List (S71), y_ = (A8.set (A1 : Int).toNat (⟨0, 0⟩ : S71)) := ⟨_, rfl⟩
             replace H : (impl_WithoutCogs.l0 k1 Ah Al l0_2 (l0_2.length : Int) (wrap64 (A1 + 1)) AA AB BM) = some (r1, r2, r3, r4) := by first | (rw [AF]; with_reducible exact H) | (have H2_ := (Option.bind_some _ _).symm.trans H; rw [AF]; with_reducible exact H2_) | (have H2_ := (Option.bind_some _ _).symm.trans H; with_reducible exact H2_) | with_reducible exact H | (rw [AF]; exact H) | exact H
             have BW := Z.m AF
             clear AF
             have H' := Z.m H
             clear H
             have p419 : 0 ≤ (A1 : Int) := ofD
             have q419 : A1 < (l0_2.length : Int) := ofD
             obtain ⟨AJ, e419, Af, Ag⟩ := at_T71 Ay.o A1 p419 q419
             cases e419
             replace Af := (HB.o.cell (World.block_lt_of_cell? w _ Af)).trans Af
             replace Ag := (HB.o.cell (World.block_lt_of_cell? w _ Ag)).trans Ag
             replace p419 := eq_true p419
             replace q419 := eq_true q419
             go_wp2_with (first | ((with_reducible refine gq (N := 8) rfl ?_); refine be (N := 8) (cs := #[.int .i64 0, .int .i64 0]) (t := 71) ?_; intro Ab hg E6 hbox hb; have Aa := Z.m (hbox); have AC := gW (w := w) HB hg; have BF := AC; have Ac := neL A0 hg; have Ai := neG A0 hg; have Ad := neL A7 hg; have Aj := neG A7 hg; have Ae := neL A9 hg; have Ak := neG A9 hg; replace Am := Z.m (Kd.Rb (vR Am) hb); replace An := Z.m (Kd.Rb (vR An) hb); replace A3 := Z.m (Kd.Rb (Kd.R_elderB (vR A3) Ab (Nat.le_of_eq hg.symm)) hb); replace A0 := kB A0 hb; replace A7 := kB A7 hb; replace A9 := kB A9 hb; replace HB := bB HB hb; clear hb hbox hg; have Dk := Ai.o; have DB := Ac.o; have Dl := Aj.o; have DC := Ad.o; have Dm := Ak.o; have DD := Ae.o; have C8 := bc0 Aa; have C9 := bc1 Aa; have Cx := qz Aa.o 0; have Cy := qz Aa.o 1) | ((with_reducible refine gt (t := 71) (p := 8) rfl ?_); refine store_event (t := 71) (p := 8) (v := ?vo_w39) (w1 := ((E6.setCell ⟨Ab, 0, none⟩ (.int .i64 ((rd_T71 l0_2 A1).f0))).setCell ⟨Ab, 1, none⟩ (.int .i64 ((rd_T71 l0_2 A1).f1)))) ?hg ?ho ?hn ?hr ?_; (case ho => rfl); (case hg => rfl); (case hn => rfl); (case hr => first | (go_simp; done) | (go_simp; rfl)); intro AH hw; replace Am : Z (Kd.R (Kd.int .i64) 3 AH w.heap.size (fun k_ => some k_ ≠ (BE : Value).ownBlock) BD Ah) := ⟨(by rw [hw]; exact (by refine rK ?_; exact Kd.Rm (rf (rf (Kd.Ry Am.o Aa.o (by decide)))) (fun _ hk => hk.1)))⟩; replace An : Z (Kd.R (Kd.int .i64) 3 AH w.heap.size (fun k_ => some k_ ≠ (BD : Value).ownBlock) BE Al) := ⟨(by rw [hw]; exact (by refine rK ?_; exact Kd.Rm (rf (rf (Kd.Ry An.o Aa.o (by decide)))) (fun _ hk => hk.1)))⟩; replace A3 : Z (Kd.R k71 71 AH w.heap.size (fun k_ => k_ ≠ Ab) u413002 A8) := ⟨(by rw [hw]; exact (by refine rK ?_; exact Kd.Rm (rf (rf (Kd.Rm A3.o (fun k_ hk => (⟨hk, hk.2⟩ : _ ∧ k_ ≠ Ab))))) (fun _ hk => hk.1.2)))⟩; replace A0 : Z (AH.heap[AE]? = some (.cells #[.int .i64 a0_0, .int .i64 a0_1, .slice (some AJ) l0_2.length c0_2] 30 (0, 0))) := ⟨(by rw [hw]; exact (by refine bK ?_; (iterate 2 refine qF ?_ Ac); exact A0.o))⟩; replace A7 : Z (AH.heap[Az]? = some (.cells #[.int .i64 0, .int .i64 0, .slice none 0 0] 30 (0, 0))) := ⟨(by rw [hw]; exact (by refine bK ?_; (iterate 2 refine qF ?_ Ad); exact A7.o))⟩; replace A9 : Z (AH.heap[AK]? = some (.cells #[.int .i64 AA, .int .i64 AB, u413002] 30 (0, 0))) := ⟨(by rw [hw]; exact (by refine bK ?_; (iterate 2 refine qF ?_ Ae); exact A9.o))⟩; replace Aa : Z (AH.heap[Ab]? = some (.cells #[.int .i64 ((rd_T71 l0_2 A1).f0), .int .i64 ((rd_T71 l0_2 A1).f1)] 71 (0, 0))) := ⟨(by rw [hw]; exact (by refine bK ?_; refine qp (cs := #[iV ((rd_T71 l0_2 A1).f0), iV 0]) ?_ 1 _ rfl; refine bK ?_; refine qp (cs := #[iV 0, iV 0]) ?_ 0 _ rfl; refine bK ?_; exact Aa.o))⟩; replace HB : Z (Below w.heap.size w AH) := ⟨(by rw [hw]; exact (vB HB))⟩; clear hw; have Ca := bc0 Aa; have Cb := bc1 Aa; have Cz := qz Aa.o 0; have CA := qz Aa.o 1; obtain ⟨DQ, DX, CX⟩ := Kd.R_slice Am.o; subst CX; have p421 : 0 ≤ (A1 : Int) := ofD; have q421 : A1 < (Ah.length : Int) := ofD; obtain ⟨AP, e421, As⟩ := Kd.at_int (Kd.RrZ Am.o).2.2 A1 p421 q421; cases e421; replace p421 := eq_true p421; replace q421 := eq_true q421; obtain ⟨DR, DY, CY⟩ := Kd.R_slice An.o; subst CY; have p422 : 0 ≤ ((rd Ah A1) : Int) := ofD; have q422 : (rd Ah A1) < (Al.length : Int) := ofD; obtain ⟨AQ, e422, At⟩ := Kd.at_int (Kd.RrZ An.o).2.2 (rd Ah A1) p422 q422; cases e422; replace p422 := eq_true p422; replace q422 := eq_true q422; have Dn := Au.o; have DE := Ap.o; have Do := Av.o; have DF := Ar.o; have Cd := bc0 A9; have Ce := bc1 A9; have Cf := bc2 A9; have CB := qz A9.o 0; have CC := qz A9.o 1; have CD := qz A9.o 2; have p33 : 0 ≤ (A1 : Int) := ofD; have q33 : (A1 : Int) < ((A8.length : Int) : Int) := ofD; obtain ⟨Aw, AM, C2, C3, gl33, cl33, BT⟩ := Kd.R_form A3.o (by omega); (first | cases C2 | (injection C2 with ea_ en_ ec_; (first | subst ea_ | (injection ea_ with ea_; subst ea_)); subst ec_; clear en_)); have BP := Z.m C3; have DU := Z.m BT; clear C3 gl33 BT; obtain ⟨DV, C6, C4, AR, AS⟩ := Kd.R_elem A3.o z71 (A1 : Int) p33 q33; obtain rfl := k71_openM C4; have D4 : AH.cell? ⟨Aw, (A1 : Int).toNat * 2, none⟩ = some (.int .i64 ((rd_T71 A8 A1).f0)) := AR 0 _ rfl; have D5 : AH.cell? ⟨Aw, (A1 : Int).toNat * 2 + 1, none⟩ = some (.int .i64 ((rd_T71 A8 A1).f1)) := AR 1 _ rfl; have D2 : AH.frozen? ⟨Aw, (A1 : Int).toNat * 2, none⟩ = false := AS 0; have D3 : AH.frozen? ⟨Aw, (A1 : Int).toNat * 2 + 1, none⟩ = false := AS 1; (try clear C6); (try clear AR); (try clear AS); (try clear C4); replace p33 := eq_true p33; replace q33 := eq_true q33; have BV := Z.m (show Kd.R k71 71 AH w.heap.size (fun k_ => k_ ≠ Ab) (.slice (some ⟨Aw, 0, none⟩) A8.length AM) A8 from (vR A3)); obtain ⟨DW, BG, C5, AL, AT⟩ := Kd.R_elem BV.o z71 (A1 : Int) (ofD) (by have h_ : (A1 : Int) < ((A8.length : Int) : Int) := ofD; first | exact h_ | (have e_ := (Kd.RrZ A3.o).1; omega) | simpa using h_); obtain rfl := k71_openM C5; have BH := Kd.R_seg BV.o (A1 : Int) (ofD) (by have h_ : (A1 : Int) < ((A8.length : Int) : Int) := ofD; first | exact h_ | (have e_ := (Kd.RrZ A3.o).1; omega) | simpa using h_) (seg := [.int .i64 0, .int .i64 0]) (j := 0) BG AL (show 2 ≤ 2 from by decide) (x' := (⟨0, 0⟩ : S71)) (k71_mkM _ _ _ (⟨0, 0⟩ : S71) ) (fun _ hk => hk); have BK := AL 0 _ rfl; (try simp only [show (k71).sz = 2 from rfl, Nat.mul_one, Nat.add_zero] at BK); have BI := AT 0; (try simp only [show (k71).sz = 2 from rfl, Nat.mul_one, Nat.add_zero] at BI); have BL := AL 1 _ rfl; (try simp only [show (k71).sz = 2 from rfl, Nat.mul_one, Nat.add_zero] at BL); have BJ := AT 1; (try simp only [show (k71).sz = 2 from rfl, Nat.mul_one, Nat.add_zero] at BJ); (try clear BG); (try clear AL); (try clear AT); (try clear C5)) | ((with_reducible refine gt (t := 71) (p := 44) rfl ?_); refine store_event (t := 71) (p := 44) (v := ?vo_w47) (w1 := ((AH.setCell ⟨Aw, (A1 : Int).toNat * 2, none⟩ (.int .i64 0)).setCell ⟨Aw, (A1 : Int).toNat * 2 + 1, none⟩ (.int .i64 0))) ?hg ?ho ?hn ?hr ?_; (case ho => rfl); (case hg => rfl); (case hn => rfl); (case hr => first | (go_simp; done) | (go_simp; rfl)); intro D6 hw; have hg : AH.grownBy D6 (some Aw) := (by rw [hw]; exact BH.2); have hp_ : Kd.R k71 71 D6 w.heap.size (fun k_ => k_ ≠ Ab) (.slice (some ⟨Aw, 0, none⟩) A8.length AM) BM := (by rw [hw, BW.o]; exact BH.1); clear BH; replace Am := Z.m (Kd.Ro (v := (.slice (some ⟨Aw, 0, none⟩) A8.length AM)) (vR Am) (Kd.Rt A3.o) (by decide) hg); replace An := Z.m (Kd.Ro (v := (.slice (some ⟨Aw, 0, none⟩) A8.length AM)) (vR An) (Kd.Rt A3.o) (by decide) hg); replace A0 := Z.m (qg (g := AE) (o := .cells #[.int .i64 a0_0, .int .i64 a0_1, .slice (some AJ) l0_2.length c0_2] 30 (0, 0)) (vK A0) hg (Kd.R_ne A3.o A0.o (by decide))); replace A7 := Z.m (qg (g := Az) (o := .cells #[.int .i64 0, .int .i64 0, .slice none 0 0] 30 (0, 0)) (vK A7) hg (Kd.R_ne A3.o A7.o (by decide))); replace A9 := Z.m (qg (g := AK) (o := .cells #[.int .i64 AA, .int .i64 AB, .slice (some ⟨Aw, 0, none⟩) A8.length AM] 30 (0, 0)) (vK A9) hg (Kd.R_ne A3.o A9.o (by decide))); replace Aa := Z.m (qg (g := Ab) (o := .cells #[.int .i64 ((rd_T71 l0_2 A1).f0), .int .i64 ((rd_T71 l0_2 A1).f1)] 71 (0, 0)) (vK Aa) hg (Kd.R_away A3.o (fun _ hk => hk))); replace A3 := Z.m (hp_); replace HB := Z.m ((by rw [hw]; exact qx (qx (HB.o) BP.o) BP.o : Below w.heap.size w D6)); clear hg hw hp_))
             go_roundg k1
             case measure => have := BN.o; omega
             case rel => exact ⟨(wrap64 (A1 + 1)), (BM), (.slice (some ⟨Aw, 0, none⟩) A8.length AM), (by first | rfl | (simp; done) | (simp [*]; done)), H', ⟨by have := BN.o; omega⟩, ⟨vR Am⟩, ⟨vR An⟩, ⟨by refine rK ?_; exact Kd.Rm A3.o (fun _ hk => trivial)⟩, ⟨vK A0⟩, ⟨vK A7⟩, ⟨vK A9⟩, ⟨vB HB⟩⟩
            ·rw [if_neg c32] at H
             exact absurd H (by simp)
           ·rw [if_neg c31] at H
            have C0 := decide_eq_false c31
            clear c31
            have H' := Z.m H
            clear H
            have p419 : 0 ≤ (A1 : Int) := ofD
            have q419 : A1 < (l0_2.length : Int) := ofD
            obtain ⟨AJ, e419, Af, Ag⟩ := at_T71 Ay.o A1 p419 q419
            cases e419
            replace Af := (HB.o.cell (World.block_lt_of_cell? w _ Af)).trans Af
            replace Ag := (HB.o.cell (World.block_lt_of_cell? w _ Ag)).trans Ag
            replace p419 := eq_true p419
            replace q419 := eq_true q419
            go_wp2_with (first | ((with_reducible refine gq (N := 8) rfl ?_); refine be (N := 8) (cs := #[.int .i64 0, .int .i64 0]) (t := 71) ?_; intro Ab hg Ec hbox hb; have Aa := Z.m (hbox); have AC := gW (w := w) HB hg; have BF := AC; have Ac := neL A0 hg; have Ai := neG A0 hg; have Ad := neL A7 hg; have Aj := neG A7 hg; have Ae := neL A9 hg; have Ak := neG A9 hg; replace Am := Z.m (Kd.Rb (vR Am) hb); replace An := Z.m (Kd.Rb (vR An) hb); replace A3 := Z.m (Kd.Rb (Kd.R_elderB (vR A3) Ab (Nat.le_of_eq hg.symm)) hb); replace A0 := kB A0 hb; replace A7 := kB A7 hb; replace A9 := kB A9 hb; replace HB := bB HB hb; clear hb hbox hg; have Dp := Ai.o; have DG := Ac.o; have Dq := Aj.o; have DH := Ad.o; have Dr := Ak.o; have DI := Ae.o; have Cg := bc0 Aa; have Ch := bc1 Aa; have CE := qz Aa.o 0; have CF := qz Aa.o 1; obtain ⟨DS, DZ, CZ⟩ := Kd.R_slice Am.o; subst CZ; have p421 : 0 ≤ (A1 : Int) := ofD; have q421 : A1 < (Ah.length : Int) := ofD; obtain ⟨AP, e421, As⟩ := Kd.at_int (Kd.RrZ Am.o).2.2 A1 p421 q421; cases e421; have hn421_0 : AP.block ≠ Ab := Kd.own_blk (Kd.R_ne Am.o Aa.o (by decide)); have hn421_1 : AP.block ≠ Ab := Kd.own_blk (Kd.R_ne Am.o Aa.o (by decide)); replace As := (qc (p := ⟨Ab, 0, none⟩) (by first | (rw [add_block]; exact hn421_0) | (show (Addr.add _ _).block ≠ _; rw [add_block]; exact hn421_0) | exact hn421_0) (.int .i64 ((rd_T71 l0_2 A1).f0))).trans As; replace As := (qc (p := ⟨Ab, 1, none⟩) (by first | (rw [add_block]; exact hn421_1) | (show (Addr.add _ _).block ≠ _; rw [add_block]; exact hn421_1) | exact hn421_1) (.int .i64 ((rd_T71 l0_2 A1).f1))).trans As; clear hn421_0; clear hn421_1; replace p421 := eq_true p421; replace q421 := eq_true q421; obtain ⟨DT, E0, D0⟩ := Kd.R_slice An.o; subst D0; have p422 : 0 ≤ ((rd Ah A1) : Int) := ofD; have q422 : (rd Ah A1) < (Al.length : Int) := ofD; obtain ⟨AQ, e422, At⟩ := Kd.at_int (Kd.RrZ An.o).2.2 (rd Ah A1) p422 q422; cases e422; have hn422_0 : AQ.block ≠ Ab := Kd.own_blk (Kd.R_ne An.o Aa.o (by decide)); have hn422_1 : AQ.block ≠ Ab := Kd.own_blk (Kd.R_ne An.o Aa.o (by decide)); replace At := (qc (p := ⟨Ab, 0, none⟩) (by first | (rw [add_block]; exact hn422_0) | (show (Addr.add _ _).block ≠ _; rw [add_block]; exact hn422_0) | exact hn422_0) (.int .i64 ((rd_T71 l0_2 A1).f0))).trans At; replace At := (qc (p := ⟨Ab, 1, none⟩) (by first | (rw [add_block]; exact hn422_1) | (show (Addr.add _ _).block ≠ _; rw [add_block]; exact hn422_1) | exact hn422_1) (.int .i64 ((rd_T71 l0_2 A1).f1))).trans At; clear hn422_0; clear hn422_1; replace p422 := eq_true p422; replace q422 := eq_true q422))
            go_roundg k1
            case measure => have := BN.o; omega
            case rel => exact ⟨(wrap64 (A1 + 1)), (A8), (u413002), (by first | rfl | (simp; done) | (simp [*]; done)), H', ⟨by have := BN.o; omega⟩, ⟨by refine rK ?_; exact Kd.Rm (rf (rf (Kd.Ry Am.o Aa.o (by decide)))) (fun _ hk => hk.1)⟩, ⟨by refine rK ?_; exact Kd.Rm (rf (rf (Kd.Ry An.o Aa.o (by decide)))) (fun _ hk => hk.1)⟩, ⟨by refine rK ?_; exact Kd.Rm (rf (rf (Kd.Rm A3.o (fun k_ hk => (⟨hk, hk.2⟩ : _ ∧ k_ ≠ Ab))))) (fun _ hk => trivial)⟩, ⟨by refine bK ?_; (iterate 2 refine qF ?_ Ac); exact A0.o⟩, ⟨by refine bK ?_; (iterate 2 refine qF ?_ Ad); exact A7.o⟩, ⟨by refine bK ?_; (iterate 2 refine qF ?_ Ae); exact A9.o⟩, ⟨vB HB⟩⟩
          ·rw [if_neg c30] at H
           exact absurd H (by simp)
         ·rw [if_neg c29] at H
          exact absurd H (by simp)
        ·rw [if_neg c28] at H
         exact absurd H (by simp)
       ·rw [if_neg c27] at H
        have BY := beq_eq_false_iff_ne.mpr c27
        have BZ := bne_iff_ne.mpr c27
        have H' := Z.m H
        clear H
        have p419 : 0 ≤ (A1 : Int) := ofD
        have q419 : A1 < (l0_2.length : Int) := ofD
        obtain ⟨AJ, e419, Af, Ag⟩ := at_T71 Ay.o A1 p419 q419
        cases e419
        replace Af := (HB.o.cell (World.block_lt_of_cell? w _ Af)).trans Af
        replace Ag := (HB.o.cell (World.block_lt_of_cell? w _ Ag)).trans Ag
        replace p419 := eq_true p419
        replace q419 := eq_true q419
        go_wp2_with (first | ((with_reducible refine gq (N := 8) rfl ?_); refine be (N := 8) (cs := #[.int .i64 0, .int .i64 0]) (t := 71) ?_; intro Ab hg Ed hbox hb; have Aa := Z.m (hbox); have AC := gW (w := w) HB hg; have BF := AC; have Ac := neL A0 hg; have Ai := neG A0 hg; have Ad := neL A7 hg; have Aj := neG A7 hg; have Ae := neL A9 hg; have Ak := neG A9 hg; replace Am := Z.m (Kd.Rb (vR Am) hb); replace An := Z.m (Kd.Rb (vR An) hb); replace A3 := Z.m (Kd.Rb (Kd.R_elderB (vR A3) Ab (Nat.le_of_eq hg.symm)) hb); replace A0 := kB A0 hb; replace A7 := kB A7 hb; replace A9 := kB A9 hb; replace HB := bB HB hb; clear hb hbox hg; have Ds := Ai.o; have DJ := Ac.o; have Dt := Aj.o; have DK := Ad.o; have Du := Ak.o; have DL := Ae.o; have Ci := bc0 Aa; have Cj := bc1 Aa; have CG := qz Aa.o 0; have CH := qz Aa.o 1))
        go_roundg k1
        case measure => have := BN.o; omega
        case rel => exact ⟨(wrap64 (A1 + 1)), (A8), (u413002), (by first | rfl | (simp; done) | (simp [*]; done)), H', ⟨by have := BN.o; omega⟩, ⟨by refine rK ?_; exact Kd.Rm (rf (rf (Kd.Ry Am.o Aa.o (by decide)))) (fun _ hk => hk.1)⟩, ⟨by refine rK ?_; exact Kd.Rm (rf (rf (Kd.Ry An.o Aa.o (by decide)))) (fun _ hk => hk.1)⟩, ⟨by refine rK ?_; exact Kd.Rm (rf (rf (Kd.Rm A3.o (fun k_ hk => (⟨hk, hk.2⟩ : _ ∧ k_ ≠ Ab))))) (fun _ hk => trivial)⟩, ⟨by refine bK ?_; (iterate 2 refine qF ?_ Ac); exact A0.o⟩, ⟨by refine bK ?_; (iterate 2 refine qF ?_ Ad); exact A7.o⟩, ⟨by refine bK ?_; (iterate 2 refine qF ?_ Ae); exact A9.o⟩, ⟨vB HB⟩⟩
      ·rw [if_neg c26] at H
       exact absurd H (by simp)
     ·rw [if_neg c25] at H
      exact absurd H (by simp)
    ·rw [if_neg c24] at H
     have BX := decide_eq_false c24
     clear c24
     simp only [Option.some.injEq, Prod.mk.injEq] at H
     obtain ⟨rfl, rfl, rfl, rfl⟩ := H
     have Dv := Au.o
     have DM := Ap.o
     have Dw := Av.o
     have DN := Ar.o
     have Cl := bc0 A9
     have Cm := bc1 A9
     have Cn := bc2 A9
     have CI := qz A9.o 0
     have CJ := qz A9.o 1
     have CK := qz A9.o 2
     have Dx := Aq.o
     have DO := Ao.o
     have Co := bc0 A7
     have Cp := bc1 A7
     have Cq := bc2 A7
     have CL := qz A7.o 0
     have CM := qz A7.o 1
     have CN := qz A7.o 2
     obtain ⟨CU, CV, D1⟩ := Kd.R_slice A3.o
     subst D1
     go_wp2
     refine bodyPost_ret (results_ct rfl _ _ Az 30 #[.int .i64 AA, .int .i64 AB, .slice CU A8.length CV] (0, 0) _ rfl (by refine bK ?_; apply st3; refine bK ?_; exact A7.o) Try.underlying30 rfl (by kernel_rfl)) rfl ?_
     exact ⟨_, by first | rfl | (simp [eN, eS] <;> rfl) | (simp [*, eN, eS] <;> rfl), by refine rK ?_; exact Kd.Rm (rf (rf (rf (Kd.Ry A3.o A7.o (by decide))))) (fun _ hk => trivial), vB HB⟩
 ·replace c3 := Bool.eq_false_iff.mpr c3
  subst c3
  have H1 : (some (0, 0, ([] : List (S71)), false)) = some (r1, r2, r3, r4) := by rw [if_neg (show ¬ (false = true) by decide)] at H; exact H
  clear H
  have H := H1
  clear H1
  simp only [Option.some.injEq, Prod.mk.injEq] at H
  obtain ⟨rfl, rfl, rfl, rfl⟩ := H
  go_enter Try.func38, Try.ntmps38
  go_wp2_with (first | ((with_reducible refine gq (N := 1) rfl ?_); refine be (N := 1) (cs := #[.int .i64 a0_0, .int .i64 a0_1, .slice A0_2 l0_2.length c0_2]) (t := 30) ?_; intro AE hg Ee hbox hb; have A0 := Z.m (hbox); have AN := gW (w := w) HB hg; have BQ := AN; replace HB := bB HB hb; clear hb hbox hg) | ((with_reducible refine gq (N := 2) rfl ?_); refine be (N := 2) (cs := #[.int .i64 0, .int .i64 0, .slice none 0 0]) (t := 30) ?_; intro Az hg Ef hbox hb; have A7 := Z.m (hbox); have AO := gW (w := w) HB hg; have BR := AO; have Ao := neL A0 hg; have Aq := neG A0 hg; replace A0 := kB A0 hb; replace HB := bB HB hb; clear hb hbox hg; have Dy := Ao.o; have DP := Aq.o; have Cr := bc0 A0; have Cs := bc1 A0; have Ct := bc2 A0; have CO := qz A0.o 0; have CP := qz A0.o 1; have CQ := qz A0.o 2) | ((with_reducible refine gc (f := 61) rfl ?_); refine gA (some 10) _ #[.agg #[.int .i64 a0_0, .int .i64 a0_1, .slice A0_2 l0_2.length c0_2]] ?_ Try.func61; (with_reducible refine (impl_IsBoard.calls k a0_0 a0_1 _ _ l0_2 false _ ?side1 ?side2 A2.o).mono ?_); (case side1 => repeat (first | exact (Kd.C_below Ay.o HB.o) | (with_reducible refine Kd.C_alloc ?_ _) | (with_reducible refine Kd.C_drewN ?_ _) | (with_reducible refine Kd.C_drew ?_))); (case side2 => exact AD.o); rintro e Eg ⟨rfl, hb⟩; refine ⟨_, rfl, ?_⟩; replace A0 := kB A0 hb; replace A7 := kB A7 hb; replace HB := bB HB hb; (try clear hb); (try clear C7); (try clear hk); (try clear hi); have Cu := bc0 A7; have Cv := bc1 A7; have Cw := bc2 A7; have CR := qz A7.o 0; have CS := qz A7.o 1; have CT := qz A7.o 2))
  refine bodyPost_ret (results_ct rfl _ _ Az 30 #[.int .i64 0, .int .i64 0, .slice none 0 0] (0, 0) _ rfl (by refine bK ?_; apply st3; refine bK ?_; exact A7.o) Try.underlying30 rfl (by kernel_rfl)) rfl ?_
  exact ⟨_, by first | rfl | (simp [eN, eS] <;> rfl) | (simp [*, eN, eS] <;> rfl), by first | exact Kd.R_nil _ _ _ _ _ | exact Kd.N_nil _ _ _ _ _ | exact Kd.V_nil _ _ _ _ _ | exact Kd.Q_nil _ _ _ _ _ | exact Kd.S_nil _ _ _ _ _, vB HB⟩

end Go.Proofs.Ytlkiakpipcnijaa.PAll
