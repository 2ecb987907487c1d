/- Began as a text that print.sh wrote (of the functions named below); turned and shortened by this session. -/
import Derived.Test.YtlkiakpipcnijaaG0
import Derived.Test.YtlkiakpipcnijaaG6
import Derived.Test.YtlkiakpipcnijaaG16
namespace Go.Proofs.Ytlkiakpipcnijaa.PAll
open Go.RowKit Go.Proofs.YtlkiakpipcnijaaW.PrintWords Go.Proofs.YtlkiakpipcnijaaW.PrintLast Go.Proofs.YtlkiakpipcnijaaW.PrintMore
attribute [local go_sem] max2_int min2_int max_two min_two max_three min_three max_four min_four   -- for this text's walks alone
set_option linter.unusedVariables false
set_option linter.unusedSimpArgs false

/-! ### spec_paTurn: function 86 -/
def spec_paTurn.f (a0_0 : Int) (a0_1 : Int) : Option (Int × Int) := some (a0_0, wrap64 (1 - a0_1))
set_option maxHeartbeats 8000000 in
set_option maxRecDepth 100000 in
theorem spec_paTurn.calls (a0_0 : Int) (a0_1 : Int) (r1 : Int) (r2 : Int) (w : World) (h : spec_paTurn.f a0_0 a0_1 = some (r1, r2)) :
 Calls Try.prog 86 #[.agg #[.int .i64 a0_0, .int .i64 a0_1]] w fun e w' => e = .returned (.agg #[.int .i64 r1, .int .i64 r2]) ∧ Below w.heap.size w w' := by
 have Ak := Try.underlying71
 have HB := Z.m (Below.refl w.heap.size w)
 have H : (some (a0_0, wrap64 (1 - a0_1))) = some (r1, r2) := h
 clear h
 simp only [Option.some.injEq, Prod.mk.injEq] at H
 obtain ⟨rfl, rfl⟩ := H
 go_enter Try.func86, Try.ntmps86
 go_wp2_with (first | ((with_reducible refine gq (N := 1) rfl ?_); refine be (N := 1) (cs := #[.int .i64 a0_0, .int .i64 a0_1]) (t := 71) ?_; intro Ah hg w2 hbox hb; have A0 := Z.m (hbox); have A4 := gW (w := w) HB hg; have Af := A4; replace HB := bB HB hb; clear hb hbox hg) | ((with_reducible refine gq (N := 2) rfl ?_); refine be (N := 2) (cs := #[.int .i64 0, .int .i64 0]) (t := 71) ?_; intro A6 hg w3 hbox hb; have A1 := Z.m (hbox); have A5 := gW (w := w) HB hg; have Ag := A5; have A2 := neL A0 hg; have A3 := neG A0 hg; replace A0 := kB A0 hb; replace HB := bB HB hb; clear hb hbox hg; have Ai := A2.o; have Aj := A3.o; have A7 := bc0 A0; have A8 := bc1 A0; have Ab := qz A0.o 0; have Ac := qz A0.o 1; have A9 := bc0 A1; have Aa := bc1 A1; have Ad := qz A1.o 0; have Ae := qz A1.o 1))
 refine bodyPost_ret (results_cell_row rfl _ _ A6 71 #[.int .i64 a0_0, .int .i64 (wrap64 (1 - a0_1))] (0, 0) _ rfl (by refine bK ?_; refine qp (cs := #[iV a0_0, iV 0]) ?_ 1 _ rfl; refine bK ?_; refine qp (cs := #[iV 0, iV 0]) ?_ 0 _ rfl; refine bK ?_; exact A1.o) Try.underlying71 rfl (by kernel_rfl)) rfl ?_
 exact ⟨by first | rfl | (simp [eN, eS] <;> rfl) | (simp [*, eN, eS] <;> rfl), vB HB⟩

/-! ### spec_ggTurn: function 71 -/
def spec_ggTurn.l0 : Nat → Int → List Int → Int → Int → Int → Int → List (S71) → Int → Int → List (S71) → Option (Int × Int × (List (S71)))
 | 0, _, _, _, _, _, _, _, _, _, _ => none
 | k + 1, x1, x11, x12, x13, x720000, x720001, x720002, x727000, x727001, x727002 => if x13 < x12 then (if 0 ≤ x13 then (if x13 < (x11.length : Int) then (if (rd x11 x13) = x1 then (if x13 < (x720002.length : Int) then (if ((rd_T71 x720002 x13).f0) = 6 then ((spec_paTurn.f ((rd_T71 x720002 x13).f0) ((rd_T71 x720002 x13).f1)).bind fun bt733 => (if x13 < (x727002.length : Int) then (spec_ggTurn.l0 k x1 x11 x12 (wrap64 (x13 + 1)) x720000 x720001 x720002 x727000 x727001 (x727002.set (x13 : Int).toNat (⟨bt733.1, bt733.2⟩ : S71))) else (none))) else (spec_ggTurn.l0 k x1 x11 x12 (wrap64 (x13 + 1)) x720000 x720001 x720002 x727000 x727001 x727002)) else (none)) else (spec_ggTurn.l0 k x1 x11 x12 (wrap64 (x13 + 1)) x720000 x720001 x720002 x727000 x727001 x727002)) else (none)) else (none)) else (some (x727000, x727001, x727002))
def spec_ggTurn.f (k : Nat) (a0_0 : Int) (a0_1 : Int) (l0_2 : List (S71)) (a1 : Int) : Option (Int × Int × (List (S71))) := (spec_boOwn.f a0_0 a0_1 l0_2).bind fun bt721 => ((spec_ggGroups.f k a0_0 a0_1 l0_2).bind fun t727 => (spec_ggTurn.l0 k a1 t727 (t727.length : Int) 0 a0_0 a0_1 l0_2 bt721.1 bt721.2.1 bt721.2.2))
def spec_ggTurn.T6 : Bool × List (List Nat × List Nat) := (true, [([], []), ([0], [0]), ([], []), ([], []), ([3], [3]), ([], []), ([4, 5], [4, 5]), ([6], [6]), ([7], [7]), ([1, 2, 0, 1, 2, 3, 4, 5, 6, 7, 8], [1, 2]), ([9, 8, 8, 0, 1, 2, 3, 4, 5, 6, 7, 8], [8, 9])])
def spec_ggTurn.B6 : List Nat := [0, 1, 0, 0, 8, 0, 56, 120, 248, 511, 1023]
theorem spec_ggTurn.tab6 : rtab .any (opsOf Try.f71 6) = spec_ggTurn.T6 := by kernel_rfl
theorem spec_ggTurn.bits6 : waitsOk spec_ggTurn.T6.2 spec_ggTurn.B6 = true := by kernel_rfl
set_option maxHeartbeats 8000000 in
set_option maxRecDepth 100000 in
theorem spec_ggTurn.calls (k : Nat) (a0_0 : Int) (a0_1 : Int) (A0_2 : Option Addr) (c0_2 : Nat) (l0_2 : List (S71)) (a1 : Int) (r1 : Int) (r2 : Int) (r3 : List (S71)) (w : World) (hr0_2 : Kd.C k71 w A0_2 l0_2.length l0_2) (hc0_2 : l0_2.length ≤ c0_2) (h : spec_ggTurn.f k a0_0 a0_1 l0_2 a1 = some (r1, r2, r3)) :
 Calls Try.prog 71 #[.agg #[.int .i64 a0_0, .int .i64 a0_1, .slice A0_2 l0_2.length c0_2], .int .i64 a1] w fun e w' => ∃ v2_ : Value, e = .returned (.agg #[.int .i64 r1, .int .i64 r2, v2_]) ∧ Kd.R k71 71 w' w.heap.size (fun _ => True) v2_ r3 ∧ Below w.heap.size w w' := by
 have CD := Try.underlying30
 have CE := Try.underlying71
 have Ao := Z.m hr0_2
 have AM := Z.m hc0_2
 clear hr0_2 hc0_2
 have HB := Z.m (Below.refl w.heap.size w)
 have H : ((spec_boOwn.f a0_0 a0_1 l0_2).bind fun bt721 => ((spec_ggGroups.f k a0_0 a0_1 l0_2).bind fun A8 => (spec_ggTurn.l0 k a1 A8 (A8.length : Int) 0 a0_0 a0_1 l0_2 bt721.1 bt721.2.1 bt721.2.2))) = some (r1, r2, r3) := h
 clear h
 replace H := Option.bind_eq_some_iff.mp H
 obtain ⟨⟨Aj, Ak, Aw⟩, C3, H⟩ := H
 replace H : ((spec_ggGroups.f k a0_0 a0_1 l0_2).bind fun A8 => (spec_ggTurn.l0 k a1 A8 (A8.length : Int) 0 a0_0 a0_1 l0_2 Aj Ak Aw)) = some (r1, r2, r3) := H
 have A3 := Z.m C3
 clear C3
 replace H := Option.bind_eq_some_iff.mp H
 obtain ⟨A8, C4, H⟩ := H
 replace H : (spec_ggTurn.l0 k a1 A8 (A8.length : Int) 0 a0_0 a0_1 l0_2 Aj Ak Aw) = some (r1, r2, r3) := H
 have A4 := Z.m C4
 clear C4
 have H' := Z.m H
 clear H
 go_enter Try.func71, Try.ntmps71
 go_wp2_with (first | ((with_reducible refine gq (N := 2) rfl ?_); refine be (N := 2) (cs := #[.int .i64 a0_0, .int .i64 a0_1, .slice A0_2 l0_2.length c0_2]) (t := 30) ?_; intro Ap hg w5 hbox hb; have A1 := Z.m (hbox); have B2 := gW (w := w) HB hg; have C5 := B2; replace HB := bB HB hb; clear hb hbox hg) | ((with_reducible refine gq (N := 4) rfl ?_); refine be (N := 4) (cs := #[.int .i64 0, .int .i64 0, .slice none 0 0]) (t := 30) ?_; intro Ax hg w6 hbox hb; have A7 := Z.m (hbox); have B7 := gW (w := w) HB hg; have C6 := B7; have Ad := neL A1 hg; have Ae := neG A1 hg; replace A1 := kB A1 hb; replace HB := bB HB hb; clear hb hbox hg; have CB := Ad.o; have CC := Ae.o; have AS := bc0 A1; have AT := bc1 A1; have AU := bc2 A1; have AV := qz A1.o 0; have AW := qz A1.o 1; have AX := qz A1.o 2) | ((with_reducible refine gc (f := 75) rfl ?_); refine gA (some 9) _ #[.agg #[.int .i64 a0_0, .int .i64 a0_1, .slice A0_2 l0_2.length c0_2]] ?_ Try.func75; (with_reducible refine (spec_boOwn.calls a0_0 a0_1 _ _ l0_2 Aj Ak Aw _ ?side1 ?side2 A3.o).mono ?_); (case side1 => repeat (first | exact (Kd.C_below Ao.o HB.o) | (with_reducible refine Kd.C_alloc ?_ _) | (with_reducible refine Kd.C_drewN ?_ _) | (with_reducible refine Kd.C_drew ?_))); (case side2 => exact AM.o); rintro e w9 ⟨CF, rfl, Bq, hb⟩; refine ⟨_, rfl, ?_⟩; have Al := Z.m (Kd.R_lower Bq (below_size (vB HB))); replace A1 := kB A1 hb; replace A7 := kB A7 hb; replace HB := bB HB hb; (try clear hb); (try clear CA); (try clear hk); (try clear hi); (try clear Bq)) | ((with_reducible refine gq (N := 5) rfl ?_); refine be (N := 5) (cs := #[.int .i64 0, .int .i64 0, .slice none 0 0]) (t := 30) ?_; intro Aq hg CH hbox hb; have A6 := Z.m (hbox); have Ba := gW (w := w) HB hg; have C7 := Ba; have A9 := neL A1 hg; have Af := neG A1 hg; have Ai := neL A7 hg; have Am := neG A7 hg; replace Al := Z.m (Kd.Rb (vR Al) hb); replace A1 := kB A1 hb; replace A7 := kB A7 hb; replace HB := bB HB hb; clear hb hbox hg; have Cd := Af.o; have Cn := A9.o; have Ce := Am.o; have Co := Ai.o; have AA := bc0 A6; have AB := bc1 A6; have AC := bc2 A6; have AG := qz A6.o 0; have AH := qz A6.o 1; have AI := qz A6.o 2; obtain ⟨B0, Bj, BW⟩ := Kd.R_slice Al.o; subst BW; have AD := bc0 A1; have AE := bc1 A1; have AF := bc2 A1; have AJ := qz A1.o 0; have AK := qz A1.o 1; have AL := qz A1.o 2) | ((with_reducible refine gc (f := 54) rfl ?_); refine gA (some 11) _ #[.agg #[.int .i64 a0_0, .int .i64 a0_1, .slice A0_2 l0_2.length c0_2]] ?_ Try.func54; (with_reducible refine (spec_ggGroups.calls k a0_0 a0_1 _ _ l0_2 A8 _ ?side1 ?side2 A4.o).mono ?_); (case side1 => exact Kd.C_below Ao.o (vB HB)); (case side2 => exact AM.o); rintro e CI ⟨CG, rfl, Bq, hb⟩; refine ⟨_, rfl, ?_⟩; have AN := Z.m (Kd.R_lower Bq (below_size (vB HB))); replace Al := Z.m (Kd.Rb (by refine rK ?_; exact (Kd.Rm (rf (rf (rf (Kd.Ry Al.o A6.o (by decide))))) (fun _ h_ => h_.1))) hb); replace A1 := Z.m (qb (g := Ap) (o := .cells #[.int .i64 a0_0, .int .i64 a0_1, .slice A0_2 l0_2.length c0_2] 30 (0, 0)) (by refine bK ?_; (iterate 3 refine qF ?_ A9); exact A1.o) hb); replace A7 := Z.m (qb (g := Ax) (o := .cells #[.int .i64 0, .int .i64 0, .slice none 0 0] 30 (0, 0)) (by refine bK ?_; (iterate 3 refine qF ?_ Ai); exact A7.o) hb); replace A6 := Z.m (qb (g := Aq) (o := .cells #[.int .i64 Aj, .int .i64 Ak, .slice B0 Aw.length Bj] 30 (0, 0)) (by refine bK ?_; apply st3; refine bK ?_; exact A6.o) hb); replace HB := bB HB hb; (try clear hb); (try clear CA); (try clear hk); (try clear hi); (try clear Bq); obtain ⟨BQ, BT, BX⟩ := Kd.R_slice AN.o; subst BX))
 go_loopg [13] k (fun kq v13 w' => ∃ (A0 : Int) (A5 : List (S71)) (u727002 : Value), v13 = .int .i64 A0 ∧ Z (spec_ggTurn.l0 kq a1 A8 (A8.length : Int) A0 a0_0 a0_1 l0_2 Aj Ak A5 = some (r1, r2, r3)) ∧ Z (kq ≤ k) ∧ Z (Kd.R (Kd.int .i64) 3 w' w.heap.size (fun _ => True) (.slice BQ A8.length BT) A8) ∧ Z (Kd.R k71 71 w' w.heap.size (fun _ => True) u727002 A5) ∧ Z (w'.heap[Ap]? = some (.cells #[.int .i64 a0_0, .int .i64 a0_1, (.slice A0_2 l0_2.length c0_2)] 30 (0, 0))) ∧ Z (w'.heap[Ax]? = some (.cells #[.int .i64 0, .int .i64 0, (.slice none 0 0)] 30 (0, 0))) ∧ Z (w'.heap[Aq]? = some (.cells #[.int .i64 Aj, .int .i64 Ak, u727002] 30 (0, 0))) ∧ Z (Below w.heap.size w w'))
 case atStart => exact ⟨(0), (Aw), (.slice B0 Aw.length Bj), (by first | rfl | (simp; done) | (simp [*]; done)), H', ⟨Nat.le_refl _⟩, ⟨vR AN⟩, ⟨vR Al⟩, ⟨vK A1⟩, ⟨vK A7⟩, ⟨vK A6⟩, ⟨vB HB⟩⟩
 case round =>
  clear H'
  (try clear AA); (try clear AB); (try clear AC); (try clear AD); (try clear AE); (try clear AF); (try clear AS); (try clear AT)
  (try clear AU); (try clear AG); (try clear AH); (try clear AI); (try clear AJ); (try clear AK); (try clear AL); (try clear AV)
  (try clear AW); (try clear AX)
  obtain ⟨A0, A5, u727002, rfl, HA, AY, Ac, A2, A1, A7, A6, HB⟩ := hrel
  cases gk with
  | zero => exact absurd HA.o (by simp [spec_ggTurn.l0])
  | succ k1 =>
   have H := HA.o
   clear HA
   simp only [spec_ggTurn.l0] at H
   by_cases c18 : A0 < (A8.length : Int)
   ·rw [if_pos c18] at H
    have Be := decide_eq_true c18
    clear c18
    by_cases c19 : 0 ≤ A0
    ·rw [if_pos c19] at H
     have C8 := decide_eq_true c19
     clear c19
     by_cases c20 : A0 < (A8.length : Int)
     ·rw [if_pos c20] at H
      have C9 := decide_eq_true c20
      clear c20
      by_cases c21 : (rd A8 A0) = a1
      ·rw [if_pos c21] at H
       have Bf := beq_iff_eq.mpr c21
       have Bg := bne_eq_false_iff_eq.mpr c21
       clear c21
       by_cases c22 : A0 < (l0_2.length : Int)
       ·rw [if_pos c22] at H
        have Ca := decide_eq_true c22
        clear c22
        by_cases c23 : ((rd_T71 l0_2 A0).f0) = 6
        ·rw [if_pos c23] at H
         have Bh := beq_iff_eq.mpr c23
         have Bi := bne_eq_false_iff_eq.mpr c23
         clear c23
         replace H := Option.bind_eq_some_iff.mp H
         obtain ⟨⟨At, Au⟩, AZ, H⟩ := H
         replace H : (if A0 < (A5.length : Int) then (spec_ggTurn.l0 k1 a1 A8 (A8.length : Int) (wrap64 (A0 + 1)) a0_0 a0_1 l0_2 Aj Ak (A5.set (A0 : Int).toNat (⟨At, Au⟩ : S71))) else (none)) = some (r1, r2, r3) := H
         have Cw := Z.m AZ
         clear AZ
         by_cases c25 : A0 < (A5.length : Int)
         ·rw [if_pos c25] at H
          have Cb := decide_eq_true c25
          clear c25
          obtain ⟨Br, Ar⟩ : ∃ y_ : List (S71), y_ = (A5.set (A0 : Int).toNat (⟨At, Au⟩ : S71)) := ⟨_, rfl⟩
          replace H : (spec_ggTurn.l0 k1 a1 A8 (A8.length : Int) (wrap64 (A0 + 1)) a0_0 a0_1 l0_2 Aj Ak Br) = some (r1, r2, r3) := by first | (rw [Ar]; with_reducible exact H) | (have H2_ := (Option.bind_some _ _).symm.trans H; rw [Ar]; with_reducible exact H2_) | (have H2_ := (Option.bind_some _ _).symm.trans H; with_reducible exact H2_) | with_reducible exact H | (rw [Ar]; exact H) | exact H
          have Bc := Z.m Ar
          clear Ar
          have H' := Z.m H
          clear H
          have p730 : 0 ≤ (A0 : Int) := ofD
          have q730 : A0 < (A8.length : Int) := ofD
          obtain ⟨AO, e730, Av⟩ := Kd.at_int (Kd.RrZ Ac.o).2.2 A0 p730 q730
          cases e730
          replace p730 := eq_true p730
          replace q730 := eq_true q730
          have Cf := Ad.o
          have Cp := Ae.o
          have Cg := A9.o
          have Cq := Af.o
          have Bs := bc0 A1
          have Bt := bc1 A1
          have Bu := bc2 A1
          have BE := qz A1.o 0
          have BF := qz A1.o 1
          have BG := qz A1.o 2
          have p731 : 0 ≤ (A0 : Int) := ofD
          have q731 : A0 < (l0_2.length : Int) := ofD
          obtain ⟨An, e731, Aa, Ab⟩ := at_T71 Ao.o A0 p731 q731
          cases e731
          replace Aa := (HB.o.cell (World.block_lt_of_cell? w _ Aa)).trans Aa
          replace Ab := (HB.o.cell (World.block_lt_of_cell? w _ Ab)).trans Ab
          replace p731 := eq_true p731
          replace q731 := eq_true q731
          try go_wp2
          replace Ac := Z.m (Kd.R_drew Ac.o)
          replace A2 := Z.m (Kd.R_drew A2.o)
          replace A1 := Z.m (blk_drew A1.o)
          replace A7 := Z.m (blk_drew A7.o)
          replace A6 := Z.m (blk_drew A6.o)
          replace HB := Z.m (qd HB.o)
          have p732 : 0 ≤ (A0 : Int) := ofD
          have q732 : A0 < (l0_2.length : Int) := ofD
          obtain ⟨Bd, e732, Ag, Ah⟩ := at_T71 Ao.o A0 p732 q732
          have hw732_1 := Ah
          have hw732_0 := Ag
          obtain rfl : An = Bd := (by injection e732)
          replace Ag := (HB.o.cell (World.block_lt_of_cell? w _ Ag)).trans Ag
          replace Ah := (HB.o.cell (World.block_lt_of_cell? w _ Ah)).trans Ah
          replace p732 := eq_true p732
          replace q732 := eq_true q732
          refine start_ (n := 11) (S := fun w' => w'.cell? ⟨Aq, 0, none⟩ = some (.int .i64 Aj) ∧ w'.cell? ⟨Aq, 1, none⟩ = some (.int .i64 Ak) ∧ w'.cell? ⟨Aq, 2, none⟩ = some (u727002) ∧ w'.cell? ⟨Ap, 0, none⟩ = some (.int .i64 a0_0) ∧ w'.cell? ⟨Ap, 1, none⟩ = some (.int .i64 a0_1) ∧ w'.cell? ⟨Ap, 2, none⟩ = some (.slice (some An) l0_2.length c0_2) ∧ w'.cell? (An.add ((A0).toNat * 2)) = some (.int .i64 ((rd_T71 l0_2 A0).f0)) ∧ w'.cell? ⟨(An.add ((A0).toNat * 2)).block, (An.add ((A0).toNat * 2)).off + 1, none⟩ = some (.int .i64 ((rd_T71 l0_2 A0).f1))) (ds := [10]) #[false, false, false, false, false, false, false, false, false, false, false] (by kernel_rfl) rfl rfl ⟨(ql A6.o 0).trans rfl, (ql A6.o 1).trans rfl, (ql A6.o 2).trans rfl, (ql A1.o 0).trans rfl, (ql A1.o 1).trans rfl, (ql A1.o 2).trans rfl, ((HB.o.cell (World.block_lt_of_cell? w _ hw732_0)).trans hw732_0), ((HB.o.cell (World.block_lt_of_cell? w _ hw732_1)).trans hw732_1)⟩ (fun hHeld => ?_); refine with_tabW spec_ggTurn.tab6 spec_ggTurn.bits6 (fun HT_ HW_ => ?_)
          generalize wr.drew = CJ at Ac A2 A1 A7 A6 HB Ag Ah hHeld ⊢
          refine pure_ (i := 0) (N := some 30) (v := ?_) (a' := ?_) #[true, false, false, false, false, false, false, false, false, false, false] rfl rfl (any_of HT_.o (by kernel_rfl)) (fun _ _ _ h => h) (Or.inl ⟨by rfl, ?_⟩) ?_ ?_
          rotate_left
          ·intro w'
           go_simp
           with_reducible rfl
          rotate_left
          ·simp only [Act.put, q1, q2, q3, i64_w, i32_w]
           rfl
          refine pure_ (i := 2) (N := some 32) (v := ?_) (a' := ?_) #[true, false, true, false, false, false, false, false, false, false, false] rfl rfl (any_of HT_.o (by kernel_rfl)) (fun _ _ _ h => h) (Or.inl ⟨by rfl, ?_⟩) ?_ ?_
          rotate_left
          ·intro w'
           go_simp
           with_reducible rfl
          rotate_left
          ·simp only [Act.put, q1, q2, q3, i64_w, i32_w]
           rfl
          refine pure_ (i := 3) (N := some 33) (v := ?_) (a' := ?_) #[true, false, true, true, false, false, false, false, false, false, false] rfl rfl (any_of HT_.o (by kernel_rfl)) (fun _ _ _ h => h) (Or.inl ⟨by rfl, ?_⟩) ?_ ?_
          rotate_left
          ·intro w'
           go_simp
           with_reducible rfl
          rotate_left
          ·simp only [Act.put, q1, q2, q3, i64_w, i32_w]
           rfl
          refine pure_ (i := 5) (N := some 35) (v := ?_) (a' := ?_) #[true, false, true, true, false, true, false, false, false, false, false] rfl rfl (any_of HT_.o (by kernel_rfl)) (fun _ _ _ h => h) (Or.inl ⟨by rfl, ?_⟩) ?_ ?_
          rotate_left
          ·intro w'
           go_simp
           with_reducible rfl
          rotate_left
          ·simp only [Act.put, q1, q2, q3, i64_w, i32_w]
           rfl
          refine take_ (i := 1) (N := some 31) (v := ?_) (a' := ?_) #[true, true, true, true, false, true, false, false, false, false, false] rfl rfl (take_ofW HT_.o HW_.o (by kernel_rfl)) (fun _ _ _ h => h) (Or.inl ⟨by rfl, ?_⟩) hHeld ?_ ?_
          rotate_left
          ·rintro w' ⟨s0, s1, s2, s3, s4, s5, s6, s7⟩
           go_simp
           with_reducible rfl
          rotate_left
          ·simp only [Act.put, q1, q2, q3, i64_w, i32_w]
           rfl
          refine take_ (i := 4) (N := some 34) (v := ?_) (a' := ?_) #[true, true, true, true, true, true, false, false, false, false, false] rfl rfl (take_ofW HT_.o HW_.o (by kernel_rfl)) (fun _ _ _ h => h) (Or.inl ⟨by rfl, ?_⟩) hHeld ?_ ?_
          rotate_left
          ·rintro w' ⟨s0, s1, s2, s3, s4, s5, s6, s7⟩
           go_simp
           with_reducible rfl
          rotate_left
          ·simp only [Act.put, q1, q2, q3, i64_w, i32_w]
           rfl
          refine pure_ (i := 6) (N := some 36) (v := ?_) (a' := ?_) #[true, true, true, true, true, true, true, false, false, false, false] rfl rfl (any_of HT_.o (by kernel_rfl)) (fun _ _ _ h => h) (Or.inl ⟨by rfl, ?_⟩) ?_ ?_
          rotate_left
          ·intro w'
           go_simp
           with_reducible rfl
          rotate_left
          ·simp only [Act.put, q1, q2, q3, i64_w, i32_w]
           rfl
          refine take_ (i := 7) (N := some 37) (v := ?_) (a' := ?_) #[true, true, true, true, true, true, true, true, false, false, false] rfl rfl (take_ofW HT_.o HW_.o (by kernel_rfl)) (fun _ _ _ h => h) (Or.inl ⟨by rfl, ?_⟩) hHeld ?_ ?_
          rotate_left
          ·rintro w' ⟨s0, s1, s2, s3, s4, s5, s6, s7⟩
           go_simp
           with_reducible rfl
          rotate_left
          ·simp only [Act.put, q1, q2, q3, i64_w, i32_w]
           rfl
          refine one_ (i := 8) (N := some 38) #[true, true, true, true, true, true, true, true, true, false, false] rfl rfl (one_of HT_.o (by kernel_rfl)) (by decide) (fun K hK => ?_)
          refine goes_ Try.func86 (by kernel_rfl) rfl #[.agg #[.int .i64 ((rd_T71 l0_2 A0).f0), .int .i64 ((rd_T71 l0_2 A0).f1)]] (by rfl) rfl rfl (by (try simp only [List.map_toArray, List.map_cons, List.map_nil]); first | done | rfl | (simp only [List.length_drop, List.length_take]; rfl)) ?_
          with_reducible refine (spec_paTurn.calls ((rd_T71 l0_2 A0).f0) ((rd_T71 l0_2 A0).f1) At Au _ Cw.o).mono ?_
          rintro e CK ⟨rfl, hb⟩
          refine ⟨_, rfl, ?_⟩
          replace Ac := Z.m (Kd.Rb (vR Ac) hb)
          replace A2 := Z.m (Kd.Rb (vR A2) hb)
          replace A1 := kB A1 hb
          replace A7 := kB A7 hb
          replace A6 := kB A6 hb
          replace HB := bB HB hb
          (try clear hb)
          have p26 : 0 ≤ (A0 : Int) := ofD
          have q26 : (A0 : Int) < ((A5.length : Int) : Int) := ofD
          obtain ⟨As, BU, Bk, Bl, gl26, cl26, Bb⟩ := Kd.R_form A2.o (by omega)
          (first | cases Bk | (injection Bk with ea_ en_ ec_; (first | subst ea_ | (injection ea_ with ea_; subst ea_)); subst ec_; clear en_))
          have Cx := Z.m Bl
          have BS := Z.m Bb
          clear Bl gl26 Bb
          obtain ⟨Cy, Bo, Bm, Ay, Az⟩ := Kd.R_elem A2.o z71 (A0 : Int) p26 q26
          obtain rfl := k71_openM Bm
          have C1 : World.cell? _ ⟨As, (A0 : Int).toNat * 2, none⟩ = some (.int .i64 ((rd_T71 A5 A0).f0)) := Ay 0 _ rfl
          have C2 : World.cell? _ ⟨As, (A0 : Int).toNat * 2 + 1, none⟩ = some (.int .i64 ((rd_T71 A5 A0).f1)) := Ay 1 _ rfl
          have BZ : World.frozen? _ ⟨As, (A0 : Int).toNat * 2, none⟩ = false := Az 0
          have C0 : World.frozen? _ ⟨As, (A0 : Int).toNat * 2 + 1, none⟩ = false := Az 1
          (try clear Bo); (try clear Ay); (try clear Az); (try clear Bm)
          replace p26 := eq_true p26
          replace q26 := eq_true q26
          obtain ⟨Cz, AQ, Bn, AP, Bp⟩ := Kd.R_elem A2.o z71 (A0 : Int) (ofD) (by have h_ : (A0 : Int) < ((A5.length : Int) : Int) := ofD; first | exact h_ | (have e_ := (Kd.RrZ A2.o).1; omega) | simpa using h_)
          obtain rfl := k71_openM Bn
          have AR := (Kd.R_seg A2.o (A0 : Int) (ofD) (by have h_ : (A0 : Int) < ((A5.length : Int) : Int) := ofD; first | exact h_ | (have e_ := (Kd.RrZ A2.o).1; omega) | simpa using h_) (seg := [.int .i64 At, .int .i64 Au]) (j := 0) AQ AP (show 2 ≤ 2 from by decide) (x' := (⟨At, Au⟩ : S71)) (k71_mkM _ _ _ (⟨At, Au⟩ : S71) ) (fun _ hk => hk)).1
          rw [← Bc.o] at AR
          have HQ32 := Z.m AR
          (try clear AQ); (try clear AP); (try clear Bp); (try clear Bn); (try clear AR)
          refine hK.out _ _ ⟨(ql A6.o 0).trans rfl, (ql A6.o 1).trans rfl, (ql A6.o 2).trans rfl, (ql A1.o 0).trans rfl, (ql A1.o 1).trans rfl, (ql A1.o 2).trans rfl, ((HB.o.cell (World.block_lt_of_cell? w _ hw732_0)).trans hw732_0), ((HB.o.cell (World.block_lt_of_cell? w _ hw732_1)).trans hw732_1)⟩ (fun hHeld => ?_)
          clear hK K
          refine norm_ (a' := ?_) ?_ ?_
          rotate_left
          ·show Act.put _ (some 38) _ = _
           simp only [Act.put, q1, q2, q3, i64_w, i32_w]
           rfl
          refine pure_ (i := 9) (N := some 39) (v := ?_) (a' := ?_) #[true, true, true, true, true, true, true, true, true, true, false] rfl rfl (any_of HT_.o (by kernel_rfl)) (fun _ _ _ h => h) (Or.inl ⟨by rfl, ?_⟩) ?_ ?_
          rotate_left
          ·intro w'
           go_simp
           with_reducible rfl
          rotate_left
          ·simp only [Act.put, q1, q2, q3, i64_w, i32_w]
           rfl
          refine last_ (i := 10) (N := none) #[true, true, true, true, true, true, true, true, true, true, true] rfl rfl (one_of HT_.o (by kernel_rfl)) (by decide) (fun K hK => ?_)
          refine skip_ (w1 := ?_) ?hwx ?hnx ?_ ?_; (case hwx => rfl); (case hnx => rfl)
          rotate_left
          ·go_simp
           rfl
          refine hK.out _ _ ?_
          clear hK K
          refine done_ (done_of HT_.o (by kernel_rfl)) ?_
          try go_wp2
          go_roundg k1
          case measure => have := AY.o; omega
          case rel => exact ⟨(wrap64 (A0 + 1)), (Br), (.slice (some ⟨As, 0, none⟩) A5.length BU), (by first | rfl | (simp; done) | (simp [*]; done)), H', ⟨by have := AY.o; omega⟩, ⟨by refine rK ?_; exact Kd.Rm (Kd.Rf (p := ⟨As, (A0 : Int).toNat * 2 + 1, none⟩) (Kd.Rf (p := ⟨As, (A0 : Int).toNat * 2, none⟩) (Kd.Ry Ac.o BS.o (by decide)) (fun _ hk => hk.2) (.int .i64 At)) (fun _ hk => hk.2) (.int .i64 Au)) (fun _ hk => trivial)⟩, ⟨vR HQ32⟩, ⟨by refine bK ?_; refine qf ?_ (by have h_ := Kd.R_ne A2.o A1.o (by decide); intro e_; exact h_ (by rw [e_]; rfl)) _; refine bK ?_; refine qf ?_ (by have h_ := Kd.R_ne A2.o A1.o (by decide); intro e_; exact h_ (by rw [e_]; rfl)) _; refine bK ?_; exact A1.o⟩, ⟨by refine bK ?_; refine qf ?_ (by have h_ := Kd.R_ne A2.o A7.o (by decide); intro e_; exact h_ (by rw [e_]; rfl)) _; refine bK ?_; refine qf ?_ (by have h_ := Kd.R_ne A2.o A7.o (by decide); intro e_; exact h_ (by rw [e_]; rfl)) _; refine bK ?_; exact A7.o⟩, ⟨by refine bK ?_; refine qf ?_ (by have h_ := Kd.R_ne A2.o A6.o (by decide); intro e_; exact h_ (by rw [e_]; rfl)) _; refine bK ?_; refine qf ?_ (by have h_ := Kd.R_ne A2.o A6.o (by decide); intro e_; exact h_ (by rw [e_]; rfl)) _; refine bK ?_; exact A6.o⟩, ⟨vB HB⟩⟩
         ·rw [if_neg c25] at H
          exact absurd H (by simp)
        ·rw [if_neg c23] at H
         have Bh := beq_eq_false_iff_ne.mpr c23
         have Bi := bne_iff_ne.mpr c23
         have H' := Z.m H
         clear H
         have p730 : 0 ≤ (A0 : Int) := ofD
         have q730 : A0 < (A8.length : Int) := ofD
         obtain ⟨AO, e730, Av⟩ := Kd.at_int (Kd.RrZ Ac.o).2.2 A0 p730 q730
         cases e730
         replace p730 := eq_true p730
         replace q730 := eq_true q730
         have Ch := Ad.o
         have Cr := Ae.o
         have Ci := A9.o
         have Cs := Af.o
         have Bv := bc0 A1
         have Bw := bc1 A1
         have Bx := bc2 A1
         have BH := qz A1.o 0
         have BI := qz A1.o 1
         have BJ := qz A1.o 2
         have p731 : 0 ≤ (A0 : Int) := ofD
         have q731 : A0 < (l0_2.length : Int) := ofD
         obtain ⟨An, e731, Aa, Ab⟩ := at_T71 Ao.o A0 p731 q731
         cases e731
         replace Aa := (HB.o.cell (World.block_lt_of_cell? w _ Aa)).trans Aa
         replace Ab := (HB.o.cell (World.block_lt_of_cell? w _ Ab)).trans Ab
         replace p731 := eq_true p731
         replace q731 := eq_true q731
         go_wp2
         go_roundg k1
         case measure => have := AY.o; omega
         case rel => exact ⟨(wrap64 (A0 + 1)), (A5), (u727002), (by first | rfl | (simp; done) | (simp [*]; done)), H', ⟨by have := AY.o; omega⟩, ⟨vR Ac⟩, ⟨vR A2⟩, ⟨vK A1⟩, ⟨vK A7⟩, ⟨vK A6⟩, ⟨vB HB⟩⟩
       ·rw [if_neg c22] at H
        exact absurd H (by simp)
      ·rw [if_neg c21] at H
       have Bf := beq_eq_false_iff_ne.mpr c21
       have Bg := bne_iff_ne.mpr c21
       have H' := Z.m H
       clear H
       have p730 : 0 ≤ (A0 : Int) := ofD
       have q730 : A0 < (A8.length : Int) := ofD
       obtain ⟨AO, e730, Av⟩ := Kd.at_int (Kd.RrZ Ac.o).2.2 A0 p730 q730
       cases e730
       replace p730 := eq_true p730
       replace q730 := eq_true q730
       go_wp2
       go_roundg k1
       case measure => have := AY.o; omega
       case rel => exact ⟨(wrap64 (A0 + 1)), (A5), (u727002), (by first | rfl | (simp; done) | (simp [*]; done)), H', ⟨by have := AY.o; omega⟩, ⟨vR Ac⟩, ⟨vR A2⟩, ⟨vK A1⟩, ⟨vK A7⟩, ⟨vK A6⟩, ⟨vB HB⟩⟩
     ·rw [if_neg c20] at H
      exact absurd H (by simp)
    ·rw [if_neg c19] at H
     exact absurd H (by simp)
   ·rw [if_neg c18] at H
    have Be := decide_eq_false c18
    clear c18
    simp only [Option.some.injEq, Prod.mk.injEq] at H
    obtain ⟨rfl, rfl, rfl⟩ := H
    have Cj := Af.o
    have Ct := A9.o
    have Cl := Am.o
    have Cu := Ai.o
    have By := bc0 A6
    have Bz := bc1 A6
    have BA := bc2 A6
    have BK := qz A6.o 0
    have BL := qz A6.o 1
    have BM := qz A6.o 2
    have Cm := Ae.o
    have Cv := Ad.o
    have BB := bc0 A7
    have BC := bc1 A7
    have BD := bc2 A7
    have BN := qz A7.o 0
    have BO := qz A7.o 1
    have BP := qz A7.o 2
    obtain ⟨BR, BV, BY⟩ := Kd.R_slice A2.o
    subst BY
    go_wp2
    refine bodyPost_ret (results_cell_row rfl _ _ Ax 30 #[.int .i64 Aj, .int .i64 Ak, .slice BR A5.length BV] (0, 0) _ rfl (by refine bK ?_; apply st3; refine bK ?_; exact A7.o) Try.underlying30 rfl (by kernel_rfl)) rfl ?_
    exact ⟨_, by first | rfl | (simp [eN, eS] <;> rfl) | (simp [*, eN, eS] <;> rfl), by refine rK ?_; exact Kd.Rm (rf (rf (rf (Kd.Ry A2.o A7.o (by decide))))) (fun _ hk => trivial), vB HB⟩

end Go.Proofs.Ytlkiakpipcnijaa.PAll
