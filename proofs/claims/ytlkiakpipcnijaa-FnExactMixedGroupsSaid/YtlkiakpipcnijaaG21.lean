/- Began as a text that print.sh wrote (of the functions named below); turned and shortened by this session. -/
import Derived.Test.YtlkiakpipcnijaaG0
import Derived.Test.YtlkiakpipcnijaaG7
import Derived.Test.YtlkiakpipcnijaaG8
import Derived.Test.YtlkiakpipcnijaaG11
import Derived.Test.YtlkiakpipcnijaaG12
import Derived.Test.YtlkiakpipcnijaaG13
namespace Go.Proofs.Ytlkiakpipcnijaa.PAll
open Go.RowKit Go.Proofs.YtlkiakpipcnijaaW.PrintWords Go.Proofs.YtlkiakpipcnijaaW.PrintLast Go.Proofs.YtlkiakpipcnijaaW.PrintMore
attribute [local go_sem] max2_int min2_int max_two min_two max_three min_three max_four min_four   -- for this text's walks alone
set_option linter.unusedVariables false
set_option linter.unusedSimpArgs false

/-! ### spec_MixedGroups: function 43 -/
def spec_MixedGroups.l0 : Nat → List Int → List (List Int) → Int → Int → Option (List Int × Bool)
 | 0, _, _, _, _ => none
 | k + 1, x4, x11, x12, x13 => if x13 < x12 then (if 0 ≤ x13 then (if x13 < (x11.length : Int) then (if 0 < ((rd_L3 x11 x13).length : Int) then (if (rd (rd_L3 x11 x13) 0) > 0 then (if 1 < ((rd_L3 x11 x13).length : Int) then (if (rd (rd_L3 x11 x13) 1) > 0 then (if x4.length < 17592186044416 then (spec_MixedGroups.l0 k (x4 ++ [x13]) x11 x12 (wrap64 (x13 + 1))) else (none)) else (spec_MixedGroups.l0 k x4 x11 x12 (wrap64 (x13 + 1)))) else (none)) else (spec_MixedGroups.l0 k x4 x11 x12 (wrap64 (x13 + 1)))) else (none)) else (none)) else (none)) else (some (x4, true))
def spec_MixedGroups.f (k : Nat) (a0_0 : Int) (a0_1 : Int) (l0_2 : List (S71)) : Option (List Int × Bool) := (spec_boGood.f k a0_0 a0_1 l0_2).bind fun t479 => (if t479 = true then ((spec_ggGears.f k a0_0 a0_1 l0_2).bind fun t480 => (spec_MixedGroups.l0 k ([] : List Int) t480 (t480.length : Int) 0)) else (some (([] : List Int), false)))
set_option maxHeartbeats 8000000 in
set_option maxRecDepth 100000 in
theorem spec_MixedGroups.calls (k : Nat) (a0_0 : Int) (a0_1 : Int) (A0_2 : Option Addr) (c0_2 : Nat) (l0_2 : List (S71)) (r1 : List Int) (r2 : Bool) (w : World) (hr0_2 : Kd.C k71 w A0_2 l0_2.length l0_2) (hc0_2 : l0_2.length ≤ c0_2) (h : spec_MixedGroups.f k a0_0 a0_1 l0_2 = some (r1, r2)) :
 Calls Try.prog 43 #[.agg #[.int .i64 a0_0, .int .i64 a0_1, .slice A0_2 l0_2.length c0_2]] w fun e w' => ∃ v0_ : Value, e = .returned (.tuple #[v0_, .bool r2]) ∧ Kd.R (Kd.int .i64) 3 w' w.heap.size (fun _ => True) v0_ r1 ∧ Below w.heap.size w w' := by
 have Bc := Try.underlying30
 have Ak := Z.m hr0_2
 have Aj := Z.m hc0_2
 clear hr0_2 hc0_2
 have HB := Z.m (Below.refl w.heap.size w)
 have H : ((spec_boGood.f k a0_0 a0_1 l0_2).bind fun Ao => (if Ao = true then ((spec_ggGears.f k a0_0 a0_1 l0_2).bind fun A3 => (spec_MixedGroups.l0 k ([] : List Int) A3 (A3.length : Int) 0)) else (some (([] : List Int), false)))) = some (r1, r2) := h
 clear h
 replace H := Option.bind_eq_some_iff.mp H
 obtain ⟨Ao, AV, H⟩ := H
 replace H : (if Ao = true then ((spec_ggGears.f k a0_0 a0_1 l0_2).bind fun A3 => (spec_MixedGroups.l0 k ([] : List Int) A3 (A3.length : Int) 0)) else (some (([] : List Int), false))) = some (r1, r2) := H
 have A2 := Z.m AV
 clear AV
 by_cases c3 : Ao = true
 ·subst c3
  have H1 : ((spec_ggGears.f k a0_0 a0_1 l0_2).bind fun A3 => (spec_MixedGroups.l0 k ([] : List Int) A3 (A3.length : Int) 0)) = some (r1, r2) := by rw [if_pos rfl] at H; exact H
  clear H
  have H := H1
  clear H1
  replace H := Option.bind_eq_some_iff.mp H
  obtain ⟨A3, AW, H⟩ := H
  replace H : (spec_MixedGroups.l0 k ([] : List Int) A3 (A3.length : Int) 0) = some (r1, r2) := H
  have A4 := Z.m AW
  clear AW
  have H' := Z.m H
  clear H
  go_enter Try.func43, Try.ntmps43
  go_wp2_with (first | ((with_reducible refine gq (N := 1) rfl ?_); refine be (N := 1) (cs := #[.int .i64 a0_0, .int .i64 a0_1, .slice A0_2 l0_2.length c0_2]) (t := 30) ?_; intro An hg w5 hbox hb; have A1 := Z.m (hbox); have Ai := gW (w := w) HB hg; have AE := Ai; replace HB := bB HB hb; clear hb hbox hg; have Ar := bc0 A1; have As := bc1 A1; have At := bc2 A1; have Ax := qz A1.o 0; have Ay := qz A1.o 1; have Az := qz A1.o 2) | ((with_reducible refine gc (f := 59) rfl ?_); refine gA (some 8) _ #[.agg #[.int .i64 a0_0, .int .i64 a0_1, .slice A0_2 l0_2.length c0_2]] ?_ Try.func59; (with_reducible refine (spec_boGood.calls k a0_0 a0_1 _ _ l0_2 true _ ?side1 ?side2 A2.o).mono ?_); (case side1 => repeat (first | exact (Kd.C_below Ak.o HB.o) | (with_reducible refine Kd.C_alloc ?_ _) | (with_reducible refine Kd.C_drewN ?_ _) | (with_reducible refine Kd.C_drew ?_))); (case side2 => exact Aj.o); rintro e w7 ⟨rfl, hb⟩; refine ⟨_, rfl, ?_⟩; replace A1 := kB A1 hb; replace HB := bB HB hb; (try clear hb); (try clear Ba); (try clear hk); (try clear hi); have Au := bc0 A1; have Av := bc1 A1; have Aw := bc2 A1; have AA := qz A1.o 0; have AB := qz A1.o 1; have AC := qz A1.o 2) | ((with_reducible refine gc (f := 68) rfl ?_); refine gA (some 11) _ #[.agg #[.int .i64 a0_0, .int .i64 a0_1, .slice A0_2 l0_2.length c0_2]] ?_ Try.func68; (with_reducible refine (spec_ggGears.calls k a0_0 a0_1 _ _ l0_2 A3 _ ?side1 ?side2 A4.o).mono ?_); (case side1 => repeat (first | exact (Kd.C_below Ak.o HB.o) | (with_reducible refine Kd.C_alloc ?_ _) | (with_reducible refine Kd.C_drewN ?_ _) | (with_reducible refine Kd.C_drew ?_))); (case side2 => exact Aj.o); rintro e w9 ⟨Bd, rfl, Bb, hb⟩; refine ⟨_, rfl, ?_⟩; have Ap := Z.m (Kd.S_lower Bb (below_size (vB HB))); replace A1 := kB A1 hb; replace HB := bB HB hb; (try clear hb); (try clear Ba); (try clear hk); (try clear hi); (try clear Bb); obtain ⟨AT, AL, AU⟩ := Kd.S_slice Ap.o; subst AU))
  go_loopg [4, 13] k (fun kq v4 v13 w' => ∃ (Ad : List Int) (A0 : Int), v13 = .int .i64 A0 ∧ Z (spec_MixedGroups.l0 kq Ad A3 (A3.length : Int) A0 = some (r1, r2)) ∧ Z (kq ≤ k) ∧ Z (Kd.R (Kd.int .i64) 3 w' w.heap.size (fun _ => True) v4 Ad) ∧ Z (Kd.S (Kd.slice 3 (Kd.int .i64)) 38 w' w.heap.size (fun k_ => some k_ ≠ (v4 : Value).ownBlock) (.slice AT A3.length AL) A3) ∧ Z (w'.heap[An]? = some (.cells #[.int .i64 a0_0, .int .i64 a0_1, (.slice A0_2 l0_2.length c0_2)] 30 (0, 0))) ∧ Z (Below w.heap.size w w'))
  case atStart => exact ⟨(([] : List Int)), (0), (by first | rfl | (simp; done) | (simp [*]; done)), H', ⟨Nat.le_refl _⟩, ⟨by first | exact Kd.R_nil _ _ _ _ _ | exact Kd.N_nil _ _ _ _ _ | exact Kd.V_nil _ _ _ _ _ | exact Kd.Q_nil _ _ _ _ _ | exact Kd.S_nil _ _ _ _ _⟩, ⟨by (with_reducible repeat (first | apply Kd.S_alloc | apply Kd.S_drewN | apply Kd.S_drew)); exact Kd.S_mono Ap.o (fun _ hk => (by simp [Value.ownBlock]))⟩, ⟨vK A1⟩, ⟨vB HB⟩⟩
  case round =>
   clear H'
   (try clear c3)
   (try clear Ar); (try clear As); (try clear At); (try clear Au); (try clear Av); (try clear Aw); (try clear Ax); (try clear Ay)
   (try clear Az); (try clear AA); (try clear AB); (try clear AC)
   obtain ⟨Ad, A0, rfl, HA, AD, Ag, A6, A1, HB⟩ := hrel
   cases gk with
   | zero => exact absurd HA.o (by simp [spec_MixedGroups.l0])
   | succ k1 =>
    have H := HA.o
    clear HA
    simp only [spec_MixedGroups.l0] at H
    by_cases c11 : A0 < (A3.length : Int)
    ·rw [if_pos c11] at H
     have AI := decide_eq_true c11
     clear c11
     by_cases c12 : 0 ≤ A0
     ·rw [if_pos c12] at H
      have AX := decide_eq_true c12
      clear c12
      by_cases c13 : A0 < (A3.length : Int)
      ·rw [if_pos c13] at H
       have AY := decide_eq_true c13
       clear c13
       by_cases c14 : 0 < ((rd_L3 A3 A0).length : Int)
       ·rw [if_pos c14] at H
        have AZ := decide_eq_true c14
        have B0 : decide (0 < (rd_L3 A3 A0).length) = true := decide_eq_true (by omega)
        clear c14
        by_cases c15 : (rd (rd_L3 A3 A0) 0) > 0
        ·rw [if_pos c15] at H
         have AJ := decide_eq_true c15
         clear c15
         by_cases c16 : 1 < ((rd_L3 A3 A0).length : Int)
         ·rw [if_pos c16] at H
          have B2 := decide_eq_true c16
          have B7 : decide (1 < (rd_L3 A3 A0).length) = true := decide_eq_true (by omega)
          clear c16
          by_cases c17 : (rd (rd_L3 A3 A0) 1) > 0
          ·rw [if_pos c17] at H
           have AK := decide_eq_true c17
           clear c17
           by_cases c18 : Ad.length < 17592186044416
           ·rw [if_pos c18] at H
            have AG := Z.m c18
            clear c18
            obtain ⟨AM, Ac⟩ : ∃ y_ : List Int, y_ = (Ad ++ [A0]) := ⟨_, rfl⟩
            replace H : (spec_MixedGroups.l0 k1 AM A3 (A3.length : Int) (wrap64 (A0 + 1))) = some (r1, r2) := by first | (rw [Ac]; with_reducible exact H) | (have H2_ := (Option.bind_some _ _).symm.trans H; rw [Ac]; with_reducible exact H2_) | (have H2_ := (Option.bind_some _ _).symm.trans H; with_reducible exact H2_) | with_reducible exact H | (rw [Ac]; exact H) | exact H
            have AH := Z.m Ac
            clear Ac
            have H' := Z.m H
            clear H
            have p483 : 0 ≤ (A0 : Int) := ofD
            have q483 : A0 < (A3.length : Int) := ofD
            obtain ⟨Al, Ah, c483_0, e483, Aa, A7, hi483_0⟩ := at_L3 (Kd.S_reads' A6.o).2.2 A0 p483 q483
            cases e483
            obtain ⟨Aq, hce483, hMe483, A9⟩ := Kd.S_get A6.o [] A0 p483 (by first | exact q483 | exact ofD | (have e_ := (Kd.S_reads' A6.o).1; omega))
            obtain ⟨ve483_0, rfl, ge483_0⟩ := hMe483
            have hv483_0 := A9 0 _ rfl
            rw [Nat.add_zero, show ((Kd.slice 3 (Kd.int .i64))).sz = 1 from rfl, Nat.mul_one] at hv483_0
            replace hv483_0 := Option.some.inj (hv483_0.symm.trans Aa)
            rw [hv483_0] at ge483_0
            have HL483_0 := Z.m (show Kd.R (Kd.int .i64) 3 _ _ _ _ (rd_L3 A3 A0) from ge483_0)
            clear hv483_0 ge483_0
            clear A9 hce483
            have A5 := Z.m hi483_0
            have Ae := Z.m A7
            clear hi483_0 A7
            replace p483 := eq_true p483
            replace q483 := eq_true q483
            have p484 : 0 ≤ (0 : Int) := (by omega)
            have q484 : 0 < ((rd_L3 A3 A0).length : Int) := ofD
            obtain ⟨Af, e484, A8⟩ := Kd.at_int (by repeat (first | (with_reducible exact A5.o) | (with_reducible refine Kd.C_alloc ?_ _) | (with_reducible refine Kd.C_drewN ?_ _) | (with_reducible refine Kd.C_drew ?_) | exact A5.o)) 0 p484 q484
            cases e484
            have qi484 : (0 < (rd_L3 A3 A0).length) = True := eq_true (by omega)
            (try rw [show ((0 : Int)).toNat = 0 from rfl] at A8)
            (try rw [Addr.add_zero'] at A8)
            replace p484 := eq_true p484
            replace q484 := eq_true q484
            have p485 : 0 ≤ (1 : Int) := (by omega)
            have q485 : 1 < ((rd_L3 A3 A0).length : Int) := ofD
            obtain ⟨Am, e485, Ab⟩ := Kd.at_int (by repeat (first | (with_reducible exact A5.o) | (with_reducible refine Kd.C_alloc ?_ _) | (with_reducible refine Kd.C_drewN ?_ _) | (with_reducible refine Kd.C_drew ?_) | exact A5.o)) 1 p485 q485
            obtain rfl : Af = Am := (by injection e485)
            (try simp only [show (1 : Int).toNat = 1 from rfl, Nat.reduceMul, Nat.reduceEqDiff, Go.Addr.add, ↓reduceIte] at Ab)
            have qi485 : (1 < (rd_L3 A3 A0).length) = True := eq_true (by omega)
            (try rw [show ((1 : Int)).toNat = 1 from rfl] at Ab)
            replace p485 := eq_true p485
            replace q485 := eq_true q485
            go_wp2_with (first | ((with_reducible refine gu (b := .append) (xs := #[.tmp 28, .tmp 30]) rfl ?_); at_builtin; refine Kd.R_append (Kd.int .i64) (w0 := w) w.heap.size rfl (.tmp 28) (.tmp 30) 38 3 (.int .i64 0) 8 rfl Try.underlying38 info3 rfl (by decide) (by omega) u4 Ad A0 [.int .i64 A0] (fun _ => True) (fun _ => False) rfl rfl ?aP (fun _ hk => hk.elim) ?aF ?aO ?aB ?aS ?aL ?_; (case aP => exact rfl); (case aB => exact (vB HB)); (case aF => exact (fun _ _ => trivial)); (case aO => exact (vR Ag)); (case aS => exact (below_size (vB HB))); (case aL => have := AG.o; omega); intro Be Bf ho hb hg hat; rw [← AH.o] at ho; have AF := Z.m (ho); replace A6 := Z.m (Kd.S_after (ok := (fun _ => True)) (by (with_reducible repeat (first | apply Kd.S_alloc | apply Kd.S_drewN | apply Kd.S_drew)); exact Kd.S_mono A6.o (fun _ hk => ⟨trivial, hk⟩)) hg hat); replace A1 := Z.m (qg (g := An) (o := .cells #[.int .i64 a0_0, .int .i64 a0_1, .slice A0_2 l0_2.length c0_2] 30 (0, 0)) (vK A1) hg (Kd.R_ne Ag.o A1.o (by decide))); replace HL483_0 := Z.m (Kd.R_after (ok := (fun k_ => some k_ ≠ (.slice (some Al) A3.length AL : Value).ownBlock)) (by refine rK ?_; exact Kd.Rm HL483_0.o (fun _ hk => ⟨hk.2, hk.1⟩)) hg hat); replace HB := Z.m (hb); clear Ag; clear ho hb hg hat))
            go_roundg k1
            case measure => have := AD.o; omega
            case rel => exact ⟨(AM), (wrap64 (A0 + 1)), (by first | rfl | (simp; done) | (simp [*]; done)), H', ⟨by have := AD.o; omega⟩, ⟨vR AF⟩, ⟨by (with_reducible repeat (first | apply Kd.S_alloc | apply Kd.S_drewN | apply Kd.S_drew)); exact Kd.S_mono A6.o (fun _ hk => hk.2)⟩, ⟨vK A1⟩, ⟨vB HB⟩⟩
           ·rw [if_neg c18] at H
            exact absurd H (by simp)
          ·rw [if_neg c17] at H
           have AK := decide_eq_false c17
           clear c17
           have H' := Z.m H
           clear H
           have p483 : 0 ≤ (A0 : Int) := ofD
           have q483 : A0 < (A3.length : Int) := ofD
           obtain ⟨Al, Ah, c483_0, e483, Aa, A7, hi483_0⟩ := at_L3 (Kd.S_reads' A6.o).2.2 A0 p483 q483
           cases e483
           obtain ⟨Aq, hce483, hMe483, A9⟩ := Kd.S_get A6.o [] A0 p483 (by first | exact q483 | exact ofD | (have e_ := (Kd.S_reads' A6.o).1; omega))
           obtain ⟨ve483_0, rfl, ge483_0⟩ := hMe483
           have hv483_0 := A9 0 _ rfl
           rw [Nat.add_zero, show ((Kd.slice 3 (Kd.int .i64))).sz = 1 from rfl, Nat.mul_one] at hv483_0
           replace hv483_0 := Option.some.inj (hv483_0.symm.trans Aa)
           rw [hv483_0] at ge483_0
           have HL483_0 := Z.m (show Kd.R (Kd.int .i64) 3 _ _ _ _ (rd_L3 A3 A0) from ge483_0)
           clear hv483_0 ge483_0
           clear A9 hce483
           have A5 := Z.m hi483_0
           have Ae := Z.m A7
           clear hi483_0 A7
           replace p483 := eq_true p483
           replace q483 := eq_true q483
           have p484 : 0 ≤ (0 : Int) := (by omega)
           have q484 : 0 < ((rd_L3 A3 A0).length : Int) := ofD
           obtain ⟨Af, e484, A8⟩ := Kd.at_int (by repeat (first | (with_reducible exact A5.o) | (with_reducible refine Kd.C_alloc ?_ _) | (with_reducible refine Kd.C_drewN ?_ _) | (with_reducible refine Kd.C_drew ?_) | exact A5.o)) 0 p484 q484
           cases e484
           have qi484 : (0 < (rd_L3 A3 A0).length) = True := eq_true (by omega)
           (try rw [show ((0 : Int)).toNat = 0 from rfl] at A8)
           (try rw [Addr.add_zero'] at A8)
           replace p484 := eq_true p484
           replace q484 := eq_true q484
           have p485 : 0 ≤ (1 : Int) := (by omega)
           have q485 : 1 < ((rd_L3 A3 A0).length : Int) := ofD
           obtain ⟨Am, e485, Ab⟩ := Kd.at_int (by repeat (first | (with_reducible exact A5.o) | (with_reducible refine Kd.C_alloc ?_ _) | (with_reducible refine Kd.C_drewN ?_ _) | (with_reducible refine Kd.C_drew ?_) | exact A5.o)) 1 p485 q485
           obtain rfl : Af = Am := (by injection e485)
           (try simp only [show (1 : Int).toNat = 1 from rfl, Nat.reduceMul, Nat.reduceEqDiff, Go.Addr.add, ↓reduceIte] at Ab)
           have qi485 : (1 < (rd_L3 A3 A0).length) = True := eq_true (by omega)
           (try rw [show ((1 : Int)).toNat = 1 from rfl] at Ab)
           replace p485 := eq_true p485
           replace q485 := eq_true q485
           go_wp2
           go_roundg k1
           case measure => have := AD.o; omega
           case rel => exact ⟨(Ad), (wrap64 (A0 + 1)), (by first | rfl | (simp; done) | (simp [*]; done)), H', ⟨by have := AD.o; omega⟩, ⟨vR Ag⟩, ⟨vS A6⟩, ⟨vK A1⟩, ⟨vB HB⟩⟩
         ·rw [if_neg c16] at H
          exact absurd H (by simp)
        ·rw [if_neg c15] at H
         have AJ := decide_eq_false c15
         clear c15
         have H' := Z.m H
         clear H
         have p483 : 0 ≤ (A0 : Int) := ofD
         have q483 : A0 < (A3.length : Int) := ofD
         obtain ⟨Al, Ah, c483_0, e483, Aa, A7, hi483_0⟩ := at_L3 (Kd.S_reads' A6.o).2.2 A0 p483 q483
         cases e483
         obtain ⟨Aq, hce483, hMe483, A9⟩ := Kd.S_get A6.o [] A0 p483 (by first | exact q483 | exact ofD | (have e_ := (Kd.S_reads' A6.o).1; omega))
         obtain ⟨ve483_0, rfl, ge483_0⟩ := hMe483
         have hv483_0 := A9 0 _ rfl
         rw [Nat.add_zero, show ((Kd.slice 3 (Kd.int .i64))).sz = 1 from rfl, Nat.mul_one] at hv483_0
         replace hv483_0 := Option.some.inj (hv483_0.symm.trans Aa)
         rw [hv483_0] at ge483_0
         have HL483_0 := Z.m (show Kd.R (Kd.int .i64) 3 _ _ _ _ (rd_L3 A3 A0) from ge483_0)
         clear hv483_0 ge483_0
         clear A9 hce483
         have A5 := Z.m hi483_0
         have Ae := Z.m A7
         clear hi483_0 A7
         replace p483 := eq_true p483
         replace q483 := eq_true q483
         have p484 : 0 ≤ (0 : Int) := (by omega)
         have q484 : 0 < ((rd_L3 A3 A0).length : Int) := ofD
         obtain ⟨Af, e484, A8⟩ := Kd.at_int (by repeat (first | (with_reducible exact A5.o) | (with_reducible refine Kd.C_alloc ?_ _) | (with_reducible refine Kd.C_drewN ?_ _) | (with_reducible refine Kd.C_drew ?_) | exact A5.o)) 0 p484 q484
         cases e484
         have qi484 : (0 < (rd_L3 A3 A0).length) = True := eq_true (by omega)
         (try rw [show ((0 : Int)).toNat = 0 from rfl] at A8)
         (try rw [Addr.add_zero'] at A8)
         replace p484 := eq_true p484
         replace q484 := eq_true q484
         go_wp2
         go_roundg k1
         case measure => have := AD.o; omega
         case rel => exact ⟨(Ad), (wrap64 (A0 + 1)), (by first | rfl | (simp; done) | (simp [*]; done)), H', ⟨by have := AD.o; omega⟩, ⟨vR Ag⟩, ⟨vS A6⟩, ⟨vK A1⟩, ⟨vB HB⟩⟩
       ·rw [if_neg c14] at H
        exact absurd H (by simp)
      ·rw [if_neg c13] at H
       exact absurd H (by simp)
     ·rw [if_neg c12] at H
      exact absurd H (by simp)
    ·rw [if_neg c11] at H
     have AI := decide_eq_false c11
     clear c11
     simp only [Option.some.injEq, Prod.mk.injEq] at H
     obtain ⟨rfl, rfl⟩ := H
     go_wp2
     go_ret2
     exact ⟨_, by first | rfl | (simp [eN, eS] <;> rfl) | (simp [*, eN, eS] <;> rfl), vR Ag, vB HB⟩
 ·replace c3 := Bool.eq_false_iff.mpr c3
  subst c3
  have H1 : (some (([] : List Int), false)) = some (r1, r2) := by rw [if_neg (show ¬ (false = true) by decide)] at H; exact H
  clear H
  have H := H1
  clear H1
  simp only [Option.some.injEq, Prod.mk.injEq] at H
  obtain ⟨rfl, rfl⟩ := H
  go_enter Try.func43, Try.ntmps43
  go_wp2_with (first | ((with_reducible refine gq (N := 1) rfl ?_); refine be (N := 1) (cs := #[.int .i64 a0_0, .int .i64 a0_1, .slice A0_2 l0_2.length c0_2]) (t := 30) ?_; intro An hg Bg hbox hb; have A1 := Z.m (hbox); have Ai := gW (w := w) HB hg; have AE := Ai; replace HB := bB HB hb; clear hb hbox hg; have AN := bc0 A1; have AO := bc1 A1; have AP := bc2 A1; have AQ := qz A1.o 0; have AR := qz A1.o 1; have AS := qz A1.o 2) | ((with_reducible refine gc (f := 59) rfl ?_); refine gA (some 8) _ #[.agg #[.int .i64 a0_0, .int .i64 a0_1, .slice A0_2 l0_2.length c0_2]] ?_ Try.func59; (with_reducible refine (spec_boGood.calls k a0_0 a0_1 _ _ l0_2 false _ ?side1 ?side2 A2.o).mono ?_); (case side1 => repeat (first | exact (Kd.C_below Ak.o HB.o) | (with_reducible refine Kd.C_alloc ?_ _) | (with_reducible refine Kd.C_drewN ?_ _) | (with_reducible refine Kd.C_drew ?_))); (case side2 => exact Aj.o); rintro e Bh ⟨rfl, hb⟩; refine ⟨_, rfl, ?_⟩; replace A1 := kB A1 hb; replace HB := bB HB hb; (try clear hb); (try clear Ba); (try clear hk); (try clear hi)))
  go_ret2
  exact ⟨_, by first | rfl | (simp [eN, eS] <;> rfl) | (simp [*, eN, eS] <;> rfl), by first | exact Kd.R_nil _ _ _ _ _ | exact Kd.N_nil _ _ _ _ _ | exact Kd.V_nil _ _ _ _ _ | exact Kd.Q_nil _ _ _ _ _ | exact Kd.S_nil _ _ _ _ _, vB HB⟩

/-! ### impl_MixedGroups: function 44 -/
mutual
def impl_MixedGroups.l0 : Nat → List Int → List Int → List (S71) → Int → Int → Option (List Int × Bool)
 | 0, _, _, _, _, _ => none
 | k + 1, x4, x5, x21, x22, x23 => if x23 < x22 then (if 0 ≤ x23 then (if x23 < (x21.length : Int) then (if ((rd_T71 x21 x23).f0) = 6 then (if x23 < (x4.length : Int) then (if 0 ≤ (rd x4 x23) then (if (rd x4 x23) < (x5.length : Int) then (impl_MixedGroups.l0 k x4 (x5.set ((rd x4 x23) : Int).toNat (Go.bits .or .i64 (rd x5 (rd x4 x23)) (wrap64 (1 + ((rd_T71 x21 x23).f1))))) x21 x22 (wrap64 (x23 + 1))) else (none)) else (none)) else (none)) else (impl_MixedGroups.l0 k x4 x5 x21 x22 (wrap64 (x23 + 1)))) else (none)) else (none)) else (impl_MixedGroups.l1 k (([] : List Int)) x5 (x5.length : Int) 0)
def impl_MixedGroups.l1 : Nat → List Int → List Int → Int → Int → Option (List Int × Bool)
 | 0, _, _, _, _ => none
 | k + 1, x8, x45, x46, x47 => if x47 < x46 then (if 0 ≤ x47 then (if x47 < (x45.length : Int) then (if (rd x45 x47) = 3 then (if x8.length < 17592186044416 then (impl_MixedGroups.l1 k (x8 ++ [x47]) x45 x46 (wrap64 (x47 + 1))) else (none)) else (impl_MixedGroups.l1 k x8 x45 x46 (wrap64 (x47 + 1)))) else (none)) else (none)) else (some (x8, true))
end
def impl_MixedGroups.f (k : Nat) (a0_0 : Int) (a0_1 : Int) (l0_2 : List (S71)) : Option (List Int × Bool) := (impl_IsBoard.f k a0_0 a0_1 l0_2).bind fun t490 => (if t490 = true then ((impl_groupNumbers.f k a0_0 a0_1 l0_2).bind fun t491 => ((impl_gearCounts.f k a0_0 a0_1 l0_2).bind fun t494 => (if 0 ≤ (t494.length : Int) then (if ((t494.length : Int) : Int).toNat ≤ 35184372088832 then (impl_MixedGroups.l0 k t491 (List.replicate ((t494.length : Int) : Int).toNat 0) l0_2 (l0_2.length : Int) 0) else (none)) else (none)))) else (some (([] : List Int), false)))
def impl_MixedGroups.T9 : Bool × List (List Nat × List Nat) := (true, [([], []), ([], []), ([], []), ([1, 2], [1, 2]), ([3], [3]), ([0, 4], [0, 4]), ([5], [5]), ([], []), ([7], [7]), ([8], [8]), ([6, 9], [6, 9]), ([0, 4, 0, 1, 2, 3, 4, 5, 6, 7, 8, 9, 10], [0, 4]), ([11, 10, 0, 1, 2, 3, 4, 5, 6, 7, 8, 9, 10], [10, 11])])
def impl_MixedGroups.B9 : List Nat := [0, 0, 0, 6, 14, 31, 63, 0, 128, 384, 1023, 2047, 4095]
theorem impl_MixedGroups.tab9 : rtab .any (opsOf Try.f44 9) = impl_MixedGroups.T9 := by kernel_rfl
theorem impl_MixedGroups.bits9 : waitsOk impl_MixedGroups.T9.2 impl_MixedGroups.B9 = true := by kernel_rfl
set_option maxHeartbeats 8000000 in
set_option maxRecDepth 100000 in
theorem impl_MixedGroups.calls (k : Nat) (a0_0 : Int) (a0_1 : Int) (A0_2 : Option Addr) (c0_2 : Nat) (l0_2 : List (S71)) (r1 : List Int) (r2 : Bool) (w : World) (hr0_2 : Kd.C k71 w A0_2 l0_2.length l0_2) (hc0_2 : l0_2.length ≤ c0_2) (h : impl_MixedGroups.f k a0_0 a0_1 l0_2 = some (r1, r2)) :
 Calls Try.prog 44 #[.agg #[.int .i64 a0_0, .int .i64 a0_1, .slice A0_2 l0_2.length c0_2]] w fun e w' => ∃ v0_ : Value, e = .returned (.tuple #[v0_, .bool r2]) ∧ Kd.R (Kd.int .i64) 3 w' w.heap.size (fun _ => True) v0_ r1 ∧ Below w.heap.size w w' := by
 have Cv := Try.underlying30
 have Cw := Try.underlying71
 have Aj := Z.m hr0_2
 have At := Z.m hc0_2
 clear hr0_2 hc0_2
 have HB := Z.m (Below.refl w.heap.size w)
 have H : ((impl_IsBoard.f k a0_0 a0_1 l0_2).bind fun AS => (if AS = true then ((impl_groupNumbers.f k a0_0 a0_1 l0_2).bind fun A3 => ((impl_gearCounts.f k a0_0 a0_1 l0_2).bind fun A9 => (if 0 ≤ (A9.length : Int) then (if ((A9.length : Int) : Int).toNat ≤ 35184372088832 then (impl_MixedGroups.l0 k A3 (List.replicate ((A9.length : Int) : Int).toNat 0) l0_2 (l0_2.length : Int) 0) else (none)) else (none)))) else (some (([] : List Int), false)))) = some (r1, r2) := h
 clear h
 replace H := Option.bind_eq_some_iff.mp H
 obtain ⟨AS, C6, H⟩ := H
 replace H : (if AS = true then ((impl_groupNumbers.f k a0_0 a0_1 l0_2).bind fun A3 => ((impl_gearCounts.f k a0_0 a0_1 l0_2).bind fun A9 => (if 0 ≤ (A9.length : Int) then (if ((A9.length : Int) : Int).toNat ≤ 35184372088832 then (impl_MixedGroups.l0 k A3 (List.replicate ((A9.length : Int) : Int).toNat 0) l0_2 (l0_2.length : Int) 0) else (none)) else (none)))) else (some (([] : List Int), false))) = some (r1, r2) := H
 have A2 := Z.m C6
 clear C6
 by_cases c3 : AS = true
 ·subst c3
  have H1 : ((impl_groupNumbers.f k a0_0 a0_1 l0_2).bind fun A3 => ((impl_gearCounts.f k a0_0 a0_1 l0_2).bind fun A9 => (if 0 ≤ (A9.length : Int) then (if ((A9.length : Int) : Int).toNat ≤ 35184372088832 then (impl_MixedGroups.l0 k A3 (List.replicate ((A9.length : Int) : Int).toNat 0) l0_2 (l0_2.length : Int) 0) else (none)) else (none)))) = some (r1, r2) := by rw [if_pos rfl] at H; exact H
  clear H
  have H := H1
  clear H1
  replace H := Option.bind_eq_some_iff.mp H
  obtain ⟨A3, C7, H⟩ := H
  replace H : ((impl_gearCounts.f k a0_0 a0_1 l0_2).bind fun A9 => (if 0 ≤ (A9.length : Int) then (if ((A9.length : Int) : Int).toNat ≤ 35184372088832 then (impl_MixedGroups.l0 k A3 (List.replicate ((A9.length : Int) : Int).toNat 0) l0_2 (l0_2.length : Int) 0) else (none)) else (none))) = some (r1, r2) := H
  have A4 := Z.m C7
  clear C7
  replace H := Option.bind_eq_some_iff.mp H
  obtain ⟨A9, C8, H⟩ := H
  replace H : (if 0 ≤ (A9.length : Int) then (if ((A9.length : Int) : Int).toNat ≤ 35184372088832 then (impl_MixedGroups.l0 k A3 (List.replicate ((A9.length : Int) : Int).toNat 0) l0_2 (l0_2.length : Int) 0) else (none)) else (none)) = some (r1, r2) := H
  have A5 := Z.m C8
  clear C8
  by_cases c6 : 0 ≤ (A9.length : Int)
  ·rw [if_pos c6] at H
   have BZ := eq_true c6
   have C0 := decide_eq_true c6
   clear c6
   by_cases c7 : ((A9.length : Int) : Int).toNat ≤ 35184372088832
   ·rw [if_pos c7] at H
    have C1 := eq_true c7
    have C2 := decide_eq_true c7
    clear c7
    obtain ⟨BF, Am⟩ : ∃ y_ : List Int, y_ = (List.replicate ((A9.length : Int) : Int).toNat 0) := ⟨_, rfl⟩
    replace H : (impl_MixedGroups.l0 k A3 BF l0_2 (l0_2.length : Int) 0) = some (r1, r2) := by first | (rw [Am]; with_reducible exact H) | (have H2_ := (Option.bind_some _ _).symm.trans H; rw [Am]; with_reducible exact H2_) | (have H2_ := (Option.bind_some _ _).symm.trans H; with_reducible exact H2_) | with_reducible exact H | (rw [Am]; exact H) | exact H
    have AW := Z.m Am
    clear Am
    have H' := Z.m H
    clear H
    go_enter Try.func44, Try.ntmps44
    go_wp2_with (first | ((with_reducible refine gq (N := 1) rfl ?_); refine be (N := 1) (cs := #[.int .i64 a0_0, .int .i64 a0_1, .slice A0_2 l0_2.length c0_2]) (t := 30) ?_; intro Al hg w8 hbox hb; have A0 := Z.m (hbox); have Aw := gW (w := w) HB hg; have Bm := Aw; replace HB := bB HB hb; clear hb hbox hg; have Bb := bc0 A0; have Bc := bc1 A0; have Bd := bc2 A0; have Bf := qz A0.o 0; have Bg := qz A0.o 1; have Bh := qz A0.o 2) | ((with_reducible refine gc (f := 61) rfl ?_); refine gA (some 12) _ #[.agg #[.int .i64 a0_0, .int .i64 a0_1, .slice A0_2 l0_2.length c0_2]] ?_ Try.func61; (with_reducible refine (impl_IsBoard.calls k a0_0 a0_1 _ _ l0_2 true _ ?side1 ?side2 A2.o).mono ?_); (case side1 => repeat (first | exact (Kd.C_below Aj.o HB.o) | (with_reducible refine Kd.C_alloc ?_ _) | (with_reducible refine Kd.C_drewN ?_ _) | (with_reducible refine Kd.C_drew ?_))); (case side2 => exact At.o); rintro e CB ⟨rfl, hb⟩; refine ⟨_, rfl, ?_⟩; replace A0 := kB A0 hb; replace HB := bB HB hb; (try clear hb); (try clear C5); (try clear hk); (try clear hi); have Az := bc0 A0; have AA := bc1 A0; have AB := bc2 A0; have AI := qz A0.o 0; have AJ := qz A0.o 1; have AK := qz A0.o 2) | ((with_reducible refine gc (f := 57) rfl ?_); refine gA (some 15) _ #[.agg #[.int .i64 a0_0, .int .i64 a0_1, .slice A0_2 l0_2.length c0_2]] ?_ Try.func57; (with_reducible refine (impl_groupNumbers.calls k a0_0 a0_1 _ _ l0_2 A3 _ ?side1 ?side2 A4.o).mono ?_); (case side1 => repeat (first | exact (Kd.C_below Aj.o HB.o) | (with_reducible refine Kd.C_alloc ?_ _) | (with_reducible refine Kd.C_drewN ?_ _) | (with_reducible refine Kd.C_drew ?_))); (case side2 => exact At.o); rintro e CC ⟨AT, rfl, Bj, hb⟩; refine ⟨_, rfl, ?_⟩; have Ah := Z.m (Kd.R_lower Bj (below_size (vB HB))); replace A0 := kB A0 hb; replace HB := bB HB hb; (try clear hb); (try clear C5); (try clear hk); (try clear hi); (try clear Bj); have AC := bc0 A0; have AD := bc1 A0; have AE := bc2 A0; have AL := qz A0.o 0; have AM := qz A0.o 1; have AN := qz A0.o 2) | ((with_reducible refine gc (f := 62) rfl ?_); refine gA (some 17) _ #[.agg #[.int .i64 a0_0, .int .i64 a0_1, .slice A0_2 l0_2.length c0_2]] ?_ Try.func62; (with_reducible refine (impl_gearCounts.calls k a0_0 a0_1 _ _ l0_2 A9 _ ?side1 ?side2 A5.o).mono ?_); (case side1 => repeat (first | exact (Kd.C_below Aj.o HB.o) | (with_reducible refine Kd.C_alloc ?_ _) | (with_reducible refine Kd.C_drewN ?_ _) | (with_reducible refine Kd.C_drew ?_))); (case side2 => exact At.o); rintro e CD ⟨Cx, rfl, Bj, hb⟩; refine ⟨_, rfl, ?_⟩; have Au := Z.m (Kd.R_lower (Kd.R_new' Bj (Kd.R_lt (vR Ah))) (below_size (vB HB))); replace Ah := Z.m (Kd.R_elder' (vR Ah) (Kd.R_base Bj) hb); replace A0 := kB A0 hb; replace HB := bB HB hb; (try clear hb); (try clear C5); (try clear hk); (try clear hi); (try clear Bj); obtain ⟨Cn, Cr, C3⟩ := Kd.R_slice Au.o; subst C3) | ((with_reducible refine gq (N := 19) rfl ?_); refine Kd.R_make (Kd.int .i64) _ 3 rfl (N := 19) rfl 38 _ _ rfl (A9.length : Int) rfl rfl Try.underlying38 (.int .i64 0) 8 info3 rfl (by decide) (by omega) 0 (ok := fun _ => True) (okp := fun _ => True) rfl (fun _ hk => hk) trivial (ofD) (Nat.le_trans (Nat.mul_le_mul_right _ (ofD : (A9.length : Int).toNat ≤ 35184372088832)) (by omega)) (Below.refl _ _) (Nat.le_refl _) ?_; intro AU CE Aq hb hg_ hnew_; clear hg_ hnew_; (first | rw [← AW.o] at Aq | (simp only [Int.reduceToNat] at Aq; rw [← AW.o] at Aq)); have Bp := Z.m (Kd.R_lower (Kd.R_new' (Kd.R_new' Aq (Kd.R_lt (vR Ah))) (Kd.R_lt (vR Au))) (below_size (vB HB))); replace Ah := Z.m (Kd.R_elder' (vR Ah) (Kd.R_base Aq) hb); replace Au := Z.m (Kd.R_elder' (vR Au) (Kd.R_base Aq) hb); replace A0 := kB A0 hb; replace HB := bB HB hb; clear hb Aq; have AF := bc0 A0; have AG := bc1 A0; have AH := bc2 A0; have AO := qz A0.o 0; have AP := qz A0.o 1; have AQ := qz A0.o 2))
    go_loopg [23] k (fun kq v23 w' => ∃ (A8 : List Int) (A1 : Int), v23 = .int .i64 A1 ∧ Z (impl_MixedGroups.l0 kq A3 A8 l0_2 (l0_2.length : Int) A1 = some (r1, r2)) ∧ Z (kq ≤ k) ∧ Z (Kd.R (Kd.int .i64) 3 w' w.heap.size (fun k_ => some k_ ≠ (AU : Value).ownBlock) AT A3) ∧ Z (Kd.R (Kd.int .i64) 3 w' w.heap.size (fun k_ => some k_ ≠ (AT : Value).ownBlock) AU A8) ∧ Z (w'.heap[Al]? = some (.cells #[.int .i64 a0_0, .int .i64 a0_1, (.slice A0_2 l0_2.length c0_2)] 30 (0, 0))) ∧ Z (Below w.heap.size w w'))
    case atStart => exact ⟨(BF), (0), (by first | rfl | (simp; done) | (simp [*]; done)), H', ⟨Nat.le_refl _⟩, ⟨by refine rK ?_; exact Kd.Rm Ah.o (fun _ hk => hk.2)⟩, ⟨by refine rK ?_; exact Kd.Rm Bp.o (fun _ hk => hk.1.2)⟩, ⟨vK A0⟩, ⟨vB HB⟩⟩
    case round =>
     clear H'
     (try clear c3); (try clear BZ); (try clear C0); (try clear C1); (try clear C2)
     (try clear Az); (try clear AA); (try clear AB); (try clear AC); (try clear AD); (try clear AE); (try clear AF); (try clear AG)
     (try clear AH); (try clear Bb); (try clear Bc); (try clear Bd); (try clear AI); (try clear AJ); (try clear AK); (try clear AL)
     (try clear AM); (try clear AN); (try clear AO); (try clear AP); (try clear AQ); (try clear Bf); (try clear Bg); (try clear Bh)
     obtain ⟨A8, A1, rfl, HA, AV, Af, Ab, A0, HB⟩ := hrel
     cases gk with
     | zero => exact absurd HA.o (by simp [impl_MixedGroups.l0])
     | succ k1 =>
      have H := HA.o
      clear HA
      simp only [impl_MixedGroups.l0] at H
      by_cases c19 : A1 < (l0_2.length : Int)
      ·rw [if_pos c19] at H
       have B0 := decide_eq_true c19
       clear c19
       by_cases c20 : 0 ≤ A1
       ·rw [if_pos c20] at H
        have Ca := decide_eq_true c20
        clear c20
        by_cases c21 : A1 < (l0_2.length : Int)
        ·rw [if_pos c21] at H
         have Cb := decide_eq_true c21
         clear c21
         by_cases c22 : ((rd_T71 l0_2 A1).f0) = 6
         ·rw [if_pos c22] at H
          have Bw := beq_iff_eq.mpr c22
          have Bx := bne_eq_false_iff_eq.mpr c22
          clear c22
          by_cases c23 : A1 < (A3.length : Int)
          ·rw [if_pos c23] at H
           have Cd := decide_eq_true c23
           clear c23
           by_cases c24 : 0 ≤ (rd A3 A1)
           ·rw [if_pos c24] at H
            have Ce := decide_eq_true c24
            clear c24
            by_cases c25 : (rd A3 A1) < (A8.length : Int)
            ·rw [if_pos c25] at H
             have Cf := decide_eq_true c25
             clear c25
             obtain ⟨BG, An⟩ : ∃ y_ : List Int, y_ = (A8.set ((rd A3 A1) : Int).toNat (Go.bits .or .i64 (rd A8 (rd A3 A1)) (wrap64 (1 + ((rd_T71 l0_2 A1).f1))))) := ⟨_, rfl⟩
             replace H : (impl_MixedGroups.l0 k1 A3 BG l0_2 (l0_2.length : Int) (wrap64 (A1 + 1))) = some (r1, r2) := by first | (rw [An]; with_reducible exact H) | (have H2_ := (Option.bind_some _ _).symm.trans H; rw [An]; with_reducible exact H2_) | (have H2_ := (Option.bind_some _ _).symm.trans H; with_reducible exact H2_) | with_reducible exact H | (rw [An]; exact H) | exact H
             have Bt := Z.m An
             clear An
             have H' := Z.m H
             clear H
             have p500 : 0 ≤ (A1 : Int) := ofD
             have q500 : A1 < (l0_2.length : Int) := ofD
             obtain ⟨AY, e500, Ad, Ae⟩ := at_T71 Aj.o A1 p500 q500
             cases e500
             replace Ad := (HB.o.cell (World.block_lt_of_cell? w _ Ad)).trans Ad
             replace Ae := (HB.o.cell (World.block_lt_of_cell? w _ Ae)).trans Ae
             replace p500 := eq_true p500
             replace q500 := eq_true q500
             try go_wp2_with (first | ((with_reducible refine gq (N := 7) rfl ?_); refine be (N := 7) (cs := #[.int .i64 0, .int .i64 0]) (t := 71) ?_; intro Aa hg Bk hbox hb; have A6 := Z.m (hbox); have Ax := gW (w := w) HB hg; have Bn := Ax; have Ac := neL A0 hg; have Ag := neG A0 hg; replace Af := Z.m (Kd.Rb (vR Af) hb); replace Ab := Z.m (Kd.Rb (vR Ab) hb); replace A0 := kB A0 hb; replace HB := bB HB hb; clear hb hbox hg; have Ci := Ag.o; have Cl := Ac.o; have BK := bc0 A6; have BL := bc1 A6; have BR := qz A6.o 0; have BS := qz A6.o 1))
             have n0_ : Z (Kd.R (Kd.int .i64) 3 ((Bk.setCell ⟨Aa, 0, none⟩ (.int .i64 ((rd_T71 l0_2 A1).f0))).setCell ⟨Aa, 1, none⟩ (.int .i64 ((rd_T71 l0_2 A1).f1))) w.heap.size (fun k_ => some k_ ≠ (AU : Value).ownBlock) AT A3) := ⟨by refine rK ?_; exact Kd.Rm (rf (rf (Kd.Ry Af.o A6.o (by decide)))) (fun _ hk => hk.1)⟩
             have n1_ : Z (Kd.R (Kd.int .i64) 3 ((Bk.setCell ⟨Aa, 0, none⟩ (.int .i64 ((rd_T71 l0_2 A1).f0))).setCell ⟨Aa, 1, none⟩ (.int .i64 ((rd_T71 l0_2 A1).f1))) w.heap.size (fun k_ => some k_ ≠ (AT : Value).ownBlock) AU A8) := ⟨by refine rK ?_; exact Kd.Rm (rf (rf (Kd.Ry Ab.o A6.o (by decide)))) (fun _ hk => hk.1)⟩
             have n2_ : Z (((Bk.setCell ⟨Aa, 0, none⟩ (.int .i64 ((rd_T71 l0_2 A1).f0))).setCell ⟨Aa, 1, none⟩ (.int .i64 ((rd_T71 l0_2 A1).f1))).heap[Al]? = some (.cells #[.int .i64 a0_0, .int .i64 a0_1, .slice (some AY) l0_2.length c0_2] 30 (0, 0))) := ⟨by refine bK ?_; (iterate 2 refine qF ?_ Ac); exact A0.o⟩
             have n3_ : Z (((Bk.setCell ⟨Aa, 0, none⟩ (.int .i64 ((rd_T71 l0_2 A1).f0))).setCell ⟨Aa, 1, none⟩ (.int .i64 ((rd_T71 l0_2 A1).f1))).heap[Aa]? = some (.cells #[.int .i64 ((rd_T71 l0_2 A1).f0), .int .i64 ((rd_T71 l0_2 A1).f1)] 71 (0, 0))) := ⟨by refine bK ?_; refine qp (cs := #[iV ((rd_T71 l0_2 A1).f0), iV 0]) ?_ 1 _ rfl; refine bK ?_; refine qp (cs := #[iV 0, iV 0]) ?_ 0 _ rfl; refine bK ?_; exact A6.o⟩
             have n4_ : Z (Below w.heap.size w ((Bk.setCell ⟨Aa, 0, none⟩ (.int .i64 ((rd_T71 l0_2 A1).f0))).setCell ⟨Aa, 1, none⟩ (.int .i64 ((rd_T71 l0_2 A1).f1)))) := ⟨vB HB⟩
             (try clear Af); (try clear Ab); (try clear A0); (try clear A6); (try clear HB)
             generalize ((Bk.setCell ⟨Aa, 0, none⟩ (.int .i64 ((rd_T71 l0_2 A1).f0))).setCell ⟨Aa, 1, none⟩ (.int .i64 ((rd_T71 l0_2 A1).f1))) = CA at n0_ n1_ n2_ n3_ n4_ ⊢
             have Af := n0_
             have Ab := n1_
             have A0 := n2_
             have A6 := n3_
             have HB := n4_
             clear n0_ n1_ n2_ n3_ n4_
             replace Af := Z.m (Kd.R_drew Af.o)
             replace Ab := Z.m (Kd.R_drew Ab.o)
             replace A0 := Z.m (blk_drew A0.o)
             replace A6 := Z.m (blk_drew A6.o)
             replace HB := Z.m (qd HB.o)
             obtain ⟨Co, Ct, BC⟩ := Kd.R_slice Af.o
             (first | subst BC | (injection BC with f1_ f2_ f3_; have f4_ := f1_.symm; have f5_ := f3_.symm; clear f1_ f2_ f3_; subst f4_; subst f5_))
             have p502 : 0 ≤ (A1 : Int) := ofD
             have q502 : A1 < (A3.length : Int) := ofD
             obtain ⟨Bv, e502, Av⟩ := Kd.at_int (Kd.RrZ Af.o).2.2 A1 p502 q502
             cases e502
             replace p502 := eq_true p502
             replace q502 := eq_true q502
             obtain ⟨Cp, Cu, BD⟩ := Kd.R_slice Ab.o
             (first | subst BD | (injection BD with f1_ f2_ f3_; have f4_ := f1_.symm; have f5_ := f3_.symm; clear f1_ f2_ f3_; subst f4_; subst f5_))
             have p503 : 0 ≤ ((rd A3 A1) : Int) := ofD
             have q503 : (rd A3 A1) < (A8.length : Int) := ofD
             obtain ⟨C9, e503, Ak⟩ := Kd.at_int (Kd.RrZ Ab.o).2.2 (rd A3 A1) p503 q503
             cases e503
             replace p503 := eq_true p503
             replace q503 := eq_true q503
             have p26 : 0 ≤ ((rd A3 A1) : Int) := ofD
             have q26 : ((rd A3 A1) : Int) < ((A8.length : Int) : Int) := ofD
             obtain ⟨Ba, Cs, BB, BE, gl26, cl26, Bo⟩ := Kd.R_form Ab.o (by omega)
             (first | cases BB | (injection BB with ea_ en_ ec_; (first | subst ea_ | (injection ea_ with ea_; subst ea_)); subst ec_; clear en_))
             have Cq := Z.m BE
             have BY := Z.m Bo
             clear BE gl26 Bo
             (first | simp only [add_plain] at Ak | skip)
             obtain ⟨Bi, Be⟩ := Kd.R_celln 0 Ab.o ((rd A3 A1) : Int) p26 q26
             replace p26 := eq_true p26
             replace q26 := eq_true q26
             have B2 := Kd.R_putn Ab.o ((rd A3 A1) : Int) (Go.bits .or .i64 (rd A8 (rd A3 A1)) (wrap64 (1 + ((rd_T71 l0_2 A1).f1))))
             rw [← Bt.o] at B2
             have HQ34 := Z.m B2
             clear B2
             refine start_ (n := 13) (S := fun w' => w'.cell? ⟨Aa, 0, none⟩ = some (.int .i64 ((rd_T71 l0_2 A1).f0)) ∧ w'.cell? ⟨Aa, 1, none⟩ = some (.int .i64 ((rd_T71 l0_2 A1).f1)) ∧ w'.cell? (Bv.add (A1).toNat) = some (.int .i64 (rd A3 A1)) ∧ w'.cell? ⟨Ba, ((rd A3 A1)).toNat, none⟩ = some (.int .i64 (rd A8 (rd A3 A1)))) (ds := [12]) #[false, false, false, false, false, false, false, false, false, false, false, false, false] (by kernel_rfl) rfl rfl ⟨(ql A6.o 0).trans rfl, (ql A6.o 1).trans rfl, Av, Ak⟩ (fun hHeld => ?_); refine with_tabW impl_MixedGroups.tab9 impl_MixedGroups.bits9 (fun HT_ HW_ => ?_)
             generalize CA.drew = CF at Af Ab A0 A6 HB BY HQ34 Be Bi Av Ak hHeld ⊢
             refine pure_ (i := 0) (N := some 31) (v := ?_) (a' := ?_) #[true, false, false, false, false, false, false, false, false, false, false, false, false] rfl rfl (any_of HT_.o (by kernel_rfl)) (fun _ _ _ h => h) (Or.inl ⟨by rfl, ?_⟩) ?_ ?_
             rotate_left
             ·intro w'
              go_simp
              with_reducible rfl
             rotate_left
             ·simp only [Act.put, q1, q2, q3, i64_w, i32_w]
              rfl
             refine pure_ (i := 1) (N := some 32) (v := ?_) (a' := ?_) #[true, true, false, false, false, false, false, false, false, false, false, false, false] rfl rfl (any_of HT_.o (by kernel_rfl)) (fun _ _ _ h => h) (Or.inl ⟨by rfl, ?_⟩) ?_ ?_
             rotate_left
             ·intro w'
              go_simp
              with_reducible rfl
             rotate_left
             ·simp only [Act.put, q1, q2, q3, i64_w, i32_w]
              rfl
             refine pure_ (i := 2) (N := some 33) (v := ?_) (a' := ?_) #[true, true, true, false, false, false, false, false, false, false, false, false, false] rfl rfl (any_of HT_.o (by kernel_rfl)) (fun _ _ _ h => h) (Or.inl ⟨by rfl, ?_⟩) ?_ ?_
             rotate_left
             ·intro w'
              go_simp
              with_reducible rfl
             rotate_left
             ·simp only [Act.put, q1, q2, q3, i64_w, i32_w]
              rfl
             refine pure_ (i := 3) (N := some 34) (v := ?_) (a' := ?_) #[true, true, true, true, false, false, false, false, false, false, false, false, false] rfl rfl (any_of HT_.o (by kernel_rfl)) (fun _ _ _ h => h) (Or.inl ⟨by rfl, ?_⟩) ?_ ?_
             rotate_left
             ·intro w'
              go_simp
              with_reducible rfl
             rotate_left
             ·simp only [Act.put, q1, q2, q3, i64_w, i32_w]
              rfl
             refine pure_ (i := 7) (N := some 38) (v := ?_) (a' := ?_) #[true, true, true, true, false, false, false, true, false, false, false, false, false] rfl rfl (any_of HT_.o (by kernel_rfl)) (fun _ _ _ h => h) (Or.inl ⟨by rfl, ?_⟩) ?_ ?_
             rotate_left
             ·intro w'
              go_simp
              with_reducible rfl
             rotate_left
             ·simp only [Act.put, q1, q2, q3, i64_w, i32_w]
              rfl
             refine take_ (i := 4) (N := some 35) (v := ?_) (a' := ?_) #[true, true, true, true, true, false, false, true, false, false, false, false, false] rfl rfl (take_ofW HT_.o HW_.o (by kernel_rfl)) (fun _ _ _ h => h) (Or.inl ⟨by rfl, ?_⟩) hHeld ?_ ?_
             rotate_left
             ·rintro w' ⟨s0, s1, s2, s3⟩
              go_simp
              with_reducible rfl
             rotate_left
             ·simp only [Act.put, q1, q2, q3, i64_w, i32_w]
              rfl
             refine pure_ (i := 5) (N := some 36) (v := ?_) (a' := ?_) #[true, true, true, true, true, true, false, true, false, false, false, false, false] rfl rfl (any_of HT_.o (by kernel_rfl)) (fun _ _ _ h => h) (Or.inl ⟨by rfl, ?_⟩) ?_ ?_
             rotate_left
             ·intro w'
              go_simp
              with_reducible rfl
             rotate_left
             ·simp only [Act.put, q1, q2, q3, i64_w, i32_w]
              rfl
             refine take_ (i := 6) (N := some 37) (v := ?_) (a' := ?_) #[true, true, true, true, true, true, true, true, false, false, false, false, false] rfl rfl (take_ofW HT_.o HW_.o (by kernel_rfl)) (fun _ _ _ h => h) (Or.inl ⟨by rfl, ?_⟩) hHeld ?_ ?_
             rotate_left
             ·rintro w' ⟨s0, s1, s2, s3⟩
              go_simp
              with_reducible rfl
             rotate_left
             ·simp only [Act.put, q1, q2, q3, i64_w, i32_w]
              rfl
             refine take_ (i := 8) (N := some 39) (v := ?_) (a' := ?_) #[true, true, true, true, true, true, true, true, true, false, false, false, false] rfl rfl (take_ofW HT_.o HW_.o (by kernel_rfl)) (fun _ _ _ h => h) (Or.inl ⟨by rfl, ?_⟩) hHeld ?_ ?_
             rotate_left
             ·rintro w' ⟨s0, s1, s2, s3⟩
              go_simp
              with_reducible rfl
             rotate_left
             ·simp only [Act.put, q1, q2, q3, i64_w, i32_w]
              rfl
             refine pure_ (i := 9) (N := some 40) (v := ?_) (a' := ?_) #[true, true, true, true, true, true, true, true, true, true, false, false, false] rfl rfl (any_of HT_.o (by kernel_rfl)) (fun _ _ _ h => h) (Or.inl ⟨by rfl, ?_⟩) ?_ ?_
             rotate_left
             ·intro w'
              go_simp
              with_reducible rfl
             rotate_left
             ·simp only [Act.put, q1, q2, q3, i64_w, i32_w]
              rfl
             refine pure_ (i := 10) (N := some 41) (v := ?_) (a' := ?_) #[true, true, true, true, true, true, true, true, true, true, true, false, false] rfl rfl (any_of HT_.o (by kernel_rfl)) (fun _ _ _ h => h) (Or.inl ⟨by rfl, ?_⟩) ?_ ?_
             rotate_left
             ·intro w'
              go_simp
              with_reducible rfl
             rotate_left
             ·simp only [Act.put, q1, q2, q3, i64_w, i32_w]
              rfl
             refine pure_ (i := 11) (N := some 42) (v := ?_) (a' := ?_) #[true, true, true, true, true, true, true, true, true, true, true, true, false] rfl rfl (any_of HT_.o (by kernel_rfl)) (fun _ _ _ h => h) (Or.inl ⟨by rfl, ?_⟩) ?_ ?_
             rotate_left
             ·intro w'
              go_simp
              with_reducible rfl
             rotate_left
             ·simp only [Act.put, q1, q2, q3, i64_w, i32_w]
              rfl
             refine last_ (i := 12) (N := none) #[true, true, true, true, true, true, true, true, true, true, true, true, true] rfl rfl (one_of HT_.o (by kernel_rfl)) (by decide) (fun K hK => ?_)
             refine skip_ (w1 := ?_) ?hwx ?hnx ?_ ?_; (case hwx => rfl); (case hnx => rfl)
             rotate_left
             ·go_simp
              rfl
             refine hK.out _ _ ?_
             clear hK K
             refine done_ (done_of HT_.o (by kernel_rfl)) ?_
             try go_wp2
             go_roundg k1
             case measure => have := AV.o; omega
             case rel => exact ⟨(BG), (wrap64 (A1 + 1)), (by first | rfl | (simp; done) | (simp [*]; done)), H', ⟨by have := AV.o; omega⟩, ⟨by refine rK ?_; exact Kd.Rm (Kd.Rf (p := ⟨Ba, ((rd A3 A1) : Int).toNat, none⟩) (Kd.Rm Af.o (fun k_ hk => (⟨hk, fun e_ => hk (by rw [e_]; rfl)⟩ : _ ∧ k_ ≠ Ba))) (fun _ hk => hk.2) (.int .i64 (Go.bits .or .i64 (rd A8 (rd A3 A1)) (wrap64 (1 + ((rd_T71 l0_2 A1).f1)))))) (fun _ hk => hk.1)⟩, ⟨vR HQ34⟩, ⟨by refine bK ?_; refine qf ?_ (by have h_ := Kd.R_ne Ab.o A0.o (by decide); intro e_; exact h_ (by rw [e_]; rfl)) _; refine bK ?_; exact A0.o⟩, ⟨vB HB⟩⟩
            ·rw [if_neg c25] at H
             exact absurd H (by simp)
           ·rw [if_neg c24] at H
            exact absurd H (by simp)
          ·rw [if_neg c23] at H
           exact absurd H (by simp)
         ·rw [if_neg c22] at H
          have Bw := beq_eq_false_iff_ne.mpr c22
          have Bx := bne_iff_ne.mpr c22
          have H' := Z.m H
          clear H
          have p500 : 0 ≤ (A1 : Int) := ofD
          have q500 : A1 < (l0_2.length : Int) := ofD
          obtain ⟨AY, e500, Ad, Ae⟩ := at_T71 Aj.o A1 p500 q500
          cases e500
          replace Ad := (HB.o.cell (World.block_lt_of_cell? w _ Ad)).trans Ad
          replace Ae := (HB.o.cell (World.block_lt_of_cell? w _ Ae)).trans Ae
          replace p500 := eq_true p500
          replace q500 := eq_true q500
          go_wp2_with (first | ((with_reducible refine gq (N := 7) rfl ?_); refine be (N := 7) (cs := #[.int .i64 0, .int .i64 0]) (t := 71) ?_; intro Aa hg CG hbox hb; have A6 := Z.m (hbox); have Ax := gW (w := w) HB hg; have Bn := Ax; have Ac := neL A0 hg; have Ag := neG A0 hg; replace Af := Z.m (Kd.Rb (vR Af) hb); replace Ab := Z.m (Kd.Rb (vR Ab) hb); replace A0 := kB A0 hb; replace HB := bB HB hb; clear hb hbox hg; have Cj := Ag.o; have Cm := Ac.o; have BM := bc0 A6; have BN := bc1 A6; have BT := qz A6.o 0; have BU := qz A6.o 1))
          go_roundg k1
          case measure => have := AV.o; omega
          case rel => exact ⟨(A8), (wrap64 (A1 + 1)), (by first | rfl | (simp; done) | (simp [*]; done)), H', ⟨by have := AV.o; omega⟩, ⟨by refine rK ?_; exact Kd.Rm (rf (rf (Kd.Ry Af.o A6.o (by decide)))) (fun _ hk => hk.1)⟩, ⟨by refine rK ?_; exact Kd.Rm (rf (rf (Kd.Ry Ab.o A6.o (by decide)))) (fun _ hk => hk.1)⟩, ⟨by refine bK ?_; (iterate 2 refine qF ?_ Ac); exact A0.o⟩, ⟨vB HB⟩⟩
        ·rw [if_neg c21] at H
         exact absurd H (by simp)
       ·rw [if_neg c20] at H
        exact absurd H (by simp)
      ·rw [if_neg c19] at H
       have B0 := decide_eq_false c19
       clear c19
       obtain ⟨BH, Ao⟩ : ∃ y_ : List Int, y_ = (([] : List Int)) := ⟨_, rfl⟩
       replace H : (impl_MixedGroups.l1 k1 BH A8 (A8.length : Int) 0) = some (r1, r2) := by first | (rw [Ao]; with_reducible exact H) | (have H2_ := (Option.bind_some _ _).symm.trans H; rw [Ao]; with_reducible exact H2_) | (have H2_ := (Option.bind_some _ _).symm.trans H; with_reducible exact H2_) | with_reducible exact H | (rw [Ao]; exact H) | exact H
       have AX := Z.m Ao
       clear Ao
       have H' := Z.m H
       clear H
       go_wp2_with (first | ((with_reducible refine gq (N := 44) rfl ?_); refine Kd.R_lit (Kd.int .i64) _ 3 ?hg (N := 44) ?hd (xs := ([] : List Int)) (inner := []) (ok := fun _ => True) (okp := fun _ => True) ?hr ?hp (fun _ hk => hk) trivial (Below.refl _ _) (Nat.le_refl _) (by simp) ?_; (case hd => rfl); (case hg => rfl); (case hr => first | (go_simp; done) | (go_simp; rfl)); (case hp => exact (Reps.none _ _)); intro Cy CH Ar hb hg_ hnew_; clear hg_ hnew_; (first | rw [← AX.o] at Ar | (simp only [Int.reduceToNat] at Ar; rw [← AX.o] at Ar)); have Bq := Z.m (Kd.R_lower (Kd.R_new' (Kd.R_new' Ar (Kd.R_lt (vR Af))) (Kd.R_lt (vR Ab))) (below_size (vB HB))); replace Af := Z.m (Kd.R_elder' (vR Af) (Kd.R_base Ar) hb); replace Ab := Z.m (Kd.R_elder' (vR Ab) (Kd.R_base Ar) hb); replace A0 := kB A0 hb; replace HB := bB HB hb; clear hb Ar; obtain ⟨Bl, B7, C4⟩ := Kd.R_slice Ab.o; subst C4))
       go_loopg [8, 47] k1 (fun kq v8 v47 w' => ∃ (As : List Int) (A7 : Int), v47 = .int .i64 A7 ∧ Z (impl_MixedGroups.l1 kq As A8 (A8.length : Int) A7 = some (r1, r2)) ∧ Z (kq ≤ k1) ∧ Z (Kd.R (Kd.int .i64) 3 w' w.heap.size (fun k_ => some k_ ≠ ((.slice Bl A8.length B7) : Value).ownBlock) v8 As) ∧ Z (Kd.R (Kd.int .i64) 3 w' w.heap.size (fun k_ => some k_ ≠ (v8 : Value).ownBlock) (.slice Bl A8.length B7) A8) ∧ Z (w'.heap[Al]? = some (.cells #[.int .i64 a0_0, .int .i64 a0_1, (.slice A0_2 l0_2.length c0_2)] 30 (0, 0))) ∧ Z (Below w.heap.size w w'))
       case atStart => exact ⟨(BH), (0), (by first | rfl | (simp; done) | (simp [*]; done)), H', ⟨Nat.le_refl _⟩, ⟨by refine rK ?_; exact Kd.Rm Bq.o (fun _ hk => hk.2)⟩, ⟨by refine rK ?_; exact Kd.Rm Ab.o (fun _ hk => hk.2)⟩, ⟨vK A0⟩, ⟨vB HB⟩⟩
       case round =>
        clear H'
        (try clear B0)
        obtain ⟨As, A7, rfl, HA, BJ, Ay, Ai, A0, HB⟩ := hrel
        cases gk with
        | zero => exact absurd HA.o (by simp [impl_MixedGroups.l1])
        | succ k2 =>
         have H := HA.o
         clear HA
         simp only [impl_MixedGroups.l1] at H
         by_cases c41 : A7 < (A8.length : Int)
         ·rw [if_pos c41] at H
          have By := decide_eq_true c41
          clear c41
          by_cases c42 : 0 ≤ A7
          ·rw [if_pos c42] at H
           have Cg := decide_eq_true c42
           clear c42
           by_cases c43 : A7 < (A8.length : Int)
           ·rw [if_pos c43] at H
            have Ch := decide_eq_true c43
            clear c43
            by_cases c44 : (rd A8 A7) = 3
            ·rw [if_pos c44] at H
             have Bz := beq_iff_eq.mpr c44
             have BA := bne_eq_false_iff_eq.mpr c44
             clear c44
             by_cases c45 : As.length < 17592186044416
             ·rw [if_pos c45] at H
              have Bs := Z.m c45
              clear c45
              obtain ⟨BI, Ap⟩ : ∃ y_ : List Int, y_ = (As ++ [A7]) := ⟨_, rfl⟩
              replace H : (impl_MixedGroups.l1 k2 BI A8 (A8.length : Int) (wrap64 (A7 + 1))) = some (r1, r2) := by first | (rw [Ap]; with_reducible exact H) | (have H2_ := (Option.bind_some _ _).symm.trans H; rw [Ap]; with_reducible exact H2_) | (have H2_ := (Option.bind_some _ _).symm.trans H; with_reducible exact H2_) | with_reducible exact H | (rw [Ap]; exact H) | exact H
              have Bu := Z.m Ap
              clear Ap
              have H' := Z.m H
              clear H
              have p508 : 0 ≤ (A7 : Int) := ofD
              have q508 : A7 < (A8.length : Int) := ofD
              obtain ⟨AZ, e508, AR⟩ := Kd.at_int (Kd.RrZ Ai.o).2.2 A7 p508 q508
              cases e508
              replace p508 := eq_true p508
              replace q508 := eq_true q508
              go_wp2_with (first | ((with_reducible refine gu (b := .append) (xs := #[.tmp 54, .tmp 56]) rfl ?_); at_builtin; refine Kd.R_append (Kd.int .i64) (w0 := w) w.heap.size rfl (.tmp 54) (.tmp 56) 38 3 (.int .i64 0) 8 rfl Try.underlying38 info3 rfl (by decide) (by omega) u8 As A7 [.int .i64 A7] (fun k_ => some k_ ≠ (.slice (some AZ) A8.length B7 : Value).ownBlock) (fun _ => False) rfl rfl ?aP (fun _ hk => hk.elim) ?aF ?aO ?aB ?aS ?aL ?_; (case aP => exact rfl); (case aB => exact (vB HB)); (case aF => exact (fun k_ hk => Kd.fresh' (Kd.R_lt (vR Ai)) k_ hk)); (case aO => exact (vR Ay)); (case aS => exact (below_size (vB HB))); (case aL => have := Bs.o; omega); intro Cz CI ho hb hg hat; rw [← Bu.o] at ho; have Br := Z.m (ho); replace Ai := Z.m (Kd.R_after (ok := (fun _ => True)) (by refine rK ?_; exact Kd.Rm Ai.o (fun _ hk => ⟨trivial, hk⟩)) hg hat); replace A0 := Z.m (qg (g := Al) (o := .cells #[.int .i64 a0_0, .int .i64 a0_1, .slice A0_2 l0_2.length c0_2] 30 (0, 0)) (vK A0) hg (Kd.R_ne Ay.o A0.o (by decide))); replace HB := Z.m (hb); clear Ay; clear ho hb hg hat))
              go_roundg k2
              case measure => have := AV.o; have := BJ.o; omega
              case rel => exact ⟨(BI), (wrap64 (A7 + 1)), (by first | rfl | (simp; done) | (simp [*]; done)), H', ⟨by have := AV.o; have := BJ.o; omega⟩, ⟨vR Br⟩, ⟨by refine rK ?_; exact Kd.Rm Ai.o (fun _ hk => hk.2)⟩, ⟨vK A0⟩, ⟨vB HB⟩⟩
             ·rw [if_neg c45] at H
              exact absurd H (by simp)
            ·rw [if_neg c44] at H
             have Bz := beq_eq_false_iff_ne.mpr c44
             have BA := bne_iff_ne.mpr c44
             have H' := Z.m H
             clear H
             have p508 : 0 ≤ (A7 : Int) := ofD
             have q508 : A7 < (A8.length : Int) := ofD
             obtain ⟨AZ, e508, AR⟩ := Kd.at_int (Kd.RrZ Ai.o).2.2 A7 p508 q508
             cases e508
             replace p508 := eq_true p508
             replace q508 := eq_true q508
             go_wp2
             go_roundg k2
             case measure => have := AV.o; have := BJ.o; omega
             case rel => exact ⟨(As), (wrap64 (A7 + 1)), (by first | rfl | (simp; done) | (simp [*]; done)), H', ⟨by have := AV.o; have := BJ.o; omega⟩, ⟨vR Ay⟩, ⟨vR Ai⟩, ⟨vK A0⟩, ⟨vB HB⟩⟩
           ·rw [if_neg c43] at H
            exact absurd H (by simp)
          ·rw [if_neg c42] at H
           exact absurd H (by simp)
         ·rw [if_neg c41] at H
          have By := decide_eq_false c41
          clear c41
          simp only [Option.some.injEq, Prod.mk.injEq] at H
          obtain ⟨rfl, rfl⟩ := H
          go_wp2
          go_ret2
          exact ⟨_, by first | rfl | (simp [eN, eS] <;> rfl) | (simp [*, eN, eS] <;> rfl), by refine rK ?_; exact Kd.Rm Ay.o (fun _ hk => trivial), vB HB⟩
   ·rw [if_neg c7] at H
    exact absurd H (by simp)
  ·rw [if_neg c6] at H
   exact absurd H (by simp)
 ·replace c3 := Bool.eq_false_iff.mpr c3
  subst c3
  have H1 : (some (([] : List Int), false)) = some (r1, r2) := by rw [if_neg (show ¬ (false = true) by decide)] at H; exact H
  clear H
  have H := H1
  clear H1
  simp only [Option.some.injEq, Prod.mk.injEq] at H
  obtain ⟨rfl, rfl⟩ := H
  go_enter Try.func44, Try.ntmps44
  go_wp2_with (first | ((with_reducible refine gq (N := 1) rfl ?_); refine be (N := 1) (cs := #[.int .i64 a0_0, .int .i64 a0_1, .slice A0_2 l0_2.length c0_2]) (t := 30) ?_; intro Al hg CJ hbox hb; have A0 := Z.m (hbox); have Aw := gW (w := w) HB hg; have Bm := Aw; replace HB := bB HB hb; clear hb hbox hg; have BO := bc0 A0; have BP := bc1 A0; have BQ := bc2 A0; have BV := qz A0.o 0; have BW := qz A0.o 1; have BX := qz A0.o 2) | ((with_reducible refine gc (f := 61) rfl ?_); refine gA (some 12) _ #[.agg #[.int .i64 a0_0, .int .i64 a0_1, .slice A0_2 l0_2.length c0_2]] ?_ Try.func61; (with_reducible refine (impl_IsBoard.calls k a0_0 a0_1 _ _ l0_2 false _ ?side1 ?side2 A2.o).mono ?_); (case side1 => repeat (first | exact (Kd.C_below Aj.o HB.o) | (with_reducible refine Kd.C_alloc ?_ _) | (with_reducible refine Kd.C_drewN ?_ _) | (with_reducible refine Kd.C_drew ?_))); (case side2 => exact At.o); rintro e CK ⟨rfl, hb⟩; refine ⟨_, rfl, ?_⟩; replace A0 := kB A0 hb; replace HB := bB HB hb; (try clear hb); (try clear C5); (try clear hk); (try clear hi)))
  go_ret2
  exact ⟨_, by first | rfl | (simp [eN, eS] <;> rfl) | (simp [*, eN, eS] <;> rfl), by first | exact Kd.R_nil _ _ _ _ _ | exact Kd.N_nil _ _ _ _ _ | exact Kd.V_nil _ _ _ _ _ | exact Kd.Q_nil _ _ _ _ _ | exact Kd.S_nil _ _ _ _ _, vB HB⟩

end Go.Proofs.Ytlkiakpipcnijaa.PAll
