/- Began as a text that print.sh wrote (of the functions named below); turned and shortened by this session. -/
import Derived.Test.YtoklfgjemfojgaaG0
import Derived.Test.YtoklfgjemfojgaaG16
import Derived.Test.YtoklfgjemfojgaaG18
namespace Go.Proofs.Ytoklfgjemfojgaa.PAll
open Go.RowKit Go.Proofs.YtoklfgjemfojgaaW.PrintWords Go.Proofs.YtoklfgjemfojgaaW.PrintLast Go.Proofs.YtoklfgjemfojgaaW.PrintMore
attribute [local go_sem] max2_int min2_int max_two min_two max_three min_three max_four min_four   -- for this text's walks alone
set_option linter.unusedVariables false
set_option linter.unusedSimpArgs false

/-! ### laws_heldCellS: function 61 -/
def laws_heldCellS.l0 : Nat → List (S89) → Int → Int → Option (Int)
 | 0, _, _, _ => none
 | k + 1, x0, x1, x5 => if x5 < (x0.length : Int) then (if 0 ≤ x5 then (if ((rd_T89 x0 x5).f0) = x1 then (if ((rd_T89 x0 x5).f1) = (wrap64 (x1 + 1)) then (laws_heldCellS.l0 k x0 (wrap64 ((wrap64 (x1 + 1)) + 1)) (wrap64 (x5 + 1))) else (some (-1))) else (some (-1))) else (none)) else (some x1)
def laws_heldCellS.f (k : Nat) (l0 : List (S89)) (a1 : Int) : Option (Int) := laws_heldCellS.l0 k l0 a1 0
set_option maxHeartbeats 8000000 in
set_option maxRecDepth 100000 in
theorem laws_heldCellS.calls (k : Nat) (A0 : Option Addr) (c0 : Nat) (l0 : List (S89)) (a1 : Int) (r : Int) (w : World) (hr0 : Kd.C k89 w A0 l0.length l0) (hc0 : l0.length ≤ c0) (h : laws_heldCellS.f k l0 a1 = some r) :
 Calls Try.prog 61 #[.slice A0 l0.length c0, .int .i64 a1] w fun e w' => e = .returned (.int .i64 r) ∧ Drawn0 w w' := by
 have A9 := Z.m hr0
 have Ah := Z.m hc0
 clear hr0 hc0
 have H : (laws_heldCellS.l0 k l0 a1 0) = some r := h
 clear h
 have H' := Z.m H
 clear H
 go_enter Try.func61, Try.ntmps61
 go_wp2
 go_loopg [1, 5] k (fun kq v1 v5 w' => ∃ (A6 : Int) (A1 : Int), v1 = .int .i64 A6 ∧ v5 = .int .i64 A1 ∧ Z (laws_heldCellS.l0 kq l0 A6 A1 = some r) ∧ Z (kq ≤ k) ∧ Drawn0 w w')
 case atStart => exact ⟨(a1), (0), (by first | rfl | (simp; done) | (simp [*]; done)), (by first | rfl | (simp; done) | (simp [*]; done)), H', ⟨Nat.le_refl _⟩, by repeat (first | exact Drawn0.refl _ | apply Drawn0.step)⟩
 case round =>
  clear H'
  obtain ⟨A6, A1, rfl, rfl, HA, Af, ⟨m1, rfl⟩⟩ := hrel
  cases gk with
  | zero => exact absurd HA.o (by simp [laws_heldCellS.l0])
  | succ k1 =>
   have H := HA.o
   clear HA
   simp only [laws_heldCellS.l0] at H
   by_cases c3 : A1 < (l0.length : Int)
   ·rw [if_pos c3] at H
    have Aa := decide_eq_true c3
    clear c3
    by_cases c4 : 0 ≤ A1
    ·rw [if_pos c4] at H
     have Ag := decide_eq_true c4
     clear c4
     by_cases c5 : ((rd_T89 l0 A1).f0) = A6
     ·rw [if_pos c5] at H
      have Ab := beq_iff_eq.mpr c5
      have Ac := bne_eq_false_iff_eq.mpr c5
      clear c5
      by_cases c6 : ((rd_T89 l0 A1).f1) = (wrap64 (A6 + 1))
      ·rw [if_pos c6] at H
       have Ad := beq_iff_eq.mpr c6
       have Ae := bne_eq_false_iff_eq.mpr c6
       clear c6
       have H' := Z.m H
       clear H
       have p1040 : 0 ≤ (A1 : Int) := ofD
       have q1040 : A1 < (l0.length : Int) := ofD
       obtain ⟨A2, e1040, A3, A4⟩ := at_T89 A9.o A1 p1040 q1040
       cases e1040
       replace p1040 := eq_true p1040
       replace q1040 := eq_true q1040
       have p1041 : 0 ≤ (A1 : Int) := ofD
       have q1041 : A1 < (l0.length : Int) := ofD
       obtain ⟨A5, e1041, A7, A8⟩ := at_T89 A9.o A1 p1041 q1041
       obtain rfl : A2 = A5 := (by injection e1041)
       replace p1041 := eq_true p1041
       replace q1041 := eq_true q1041
       go_wp2
       go_roundg k1
       case measure => have := Af.o; omega
       case rel => exact ⟨(wrap64 ((wrap64 (A6 + 1)) + 1)), (wrap64 (A1 + 1)), (by first | rfl | (simp; done) | (simp [*]; done)), (by first | rfl | (simp; done) | (simp [*]; done)), H', ⟨by have := Af.o; omega⟩, by repeat (first | exact Drawn0.refl _ | apply Drawn0.step)⟩
      ·rw [if_neg c6] at H
       have Ad := beq_eq_false_iff_ne.mpr c6
       have Ae := bne_iff_ne.mpr c6
       obtain rfl := Option.some.inj H
       have p1040 : 0 ≤ (A1 : Int) := ofD
       have q1040 : A1 < (l0.length : Int) := ofD
       obtain ⟨A2, e1040, A3, A4⟩ := at_T89 A9.o A1 p1040 q1040
       cases e1040
       replace p1040 := eq_true p1040
       replace q1040 := eq_true q1040
       have p1041 : 0 ≤ (A1 : Int) := ofD
       have q1041 : A1 < (l0.length : Int) := ofD
       obtain ⟨A5, e1041, A7, A8⟩ := at_T89 A9.o A1 p1041 q1041
       obtain rfl : A2 = A5 := (by injection e1041)
       replace p1041 := eq_true p1041
       replace q1041 := eq_true q1041
       go_wp2
       go_ret
       exact ⟨by first | rfl | (simp; done) | (simp [*]; done), by repeat (first | exact Drawn0.refl _ | apply Drawn0.step)⟩
     ·rw [if_neg c5] at H
      have Ab := beq_eq_false_iff_ne.mpr c5
      have Ac := bne_iff_ne.mpr c5
      obtain rfl := Option.some.inj H
      have p1040 : 0 ≤ (A1 : Int) := ofD
      have q1040 : A1 < (l0.length : Int) := ofD
      obtain ⟨A2, e1040, A3, A4⟩ := at_T89 A9.o A1 p1040 q1040
      cases e1040
      replace p1040 := eq_true p1040
      replace q1040 := eq_true q1040
      go_wp2
      go_ret
      exact ⟨by first | rfl | (simp; done) | (simp [*]; done), by repeat (first | exact Drawn0.refl _ | apply Drawn0.step)⟩
    ·rw [if_neg c4] at H
     exact absurd H (by simp)
   ·rw [if_neg c3] at H
    have Aa := decide_eq_false c3
    clear c3
    obtain rfl := Option.some.inj H
    go_wp2
    go_ret
    exact ⟨by first | rfl | (simp; done) | (simp [*]; done), by repeat (first | exact Drawn0.refl _ | apply Drawn0.step)⟩

/-! ### laws_heldBoard: function 24 -/
def laws_heldBoard.f (k : Nat) (a0_0 : Int) (a0_1 : Int) (l0_2 : List (S89)) (a1 : Int) : Option (Int) := (laws_heldCellS.f k l0_2 a1).bind fun t1043 => (if t1043 < 0 then (some (-1)) else (some t1043))
set_option maxHeartbeats 8000000 in
set_option maxRecDepth 100000 in
theorem laws_heldBoard.calls (k : Nat) (a0_0 : Int) (a0_1 : Int) (A0_2 : Option Addr) (c0_2 : Nat) (l0_2 : List (S89)) (a1 : Int) (r : Int) (w : World) (hr0_2 : Kd.C k89 w A0_2 l0_2.length l0_2) (hc0_2 : l0_2.length ≤ c0_2) (h : laws_heldBoard.f k a0_0 a0_1 l0_2 a1 = some r) :
 Calls Try.prog 24 #[.agg #[.int .i64 a0_0, .int .i64 a0_1, .slice A0_2 l0_2.length c0_2], .int .i64 a1] w fun e w' => e = .returned (.int .i64 r) ∧ Below w.heap.size w w' := by
 have Am := Try.underlying32
 have A5 := Z.m hr0_2
 have A4 := Z.m hc0_2
 clear hr0_2 hc0_2
 have HB := Z.m (Below.refl w.heap.size w)
 have H : ((laws_heldCellS.f k l0_2 a1).bind fun A1 => (if A1 < 0 then (some (-1)) else (some A1))) = some r := h
 clear h
 replace H := Option.bind_eq_some_iff.mp H
 obtain ⟨A1, Al, H⟩ := H
 replace H : (if A1 < 0 then (some (-1)) else (some A1)) = some r := H
 have A3 := Z.m Al
 clear Al
 by_cases c4 : A1 < 0
 ·rw [if_pos c4] at H
  have A8 := decide_eq_true c4
  clear c4
  obtain rfl := Option.some.inj H
  go_enter Try.func24, Try.ntmps24
  go_wp2_with (first | ((with_reducible refine gq (N := 2) rfl ?_); refine be (N := 2) (cs := #[.int .i64 a0_0, .int .i64 a0_1, .slice A0_2 l0_2.length c0_2]) (t := 32) ?_; intro A7 hg w5 hbox hb; have A0 := Z.m (hbox); have A2 := gW (w := w) HB hg; have A6 := A2; replace HB := bB HB hb; clear hb hbox hg; have A9 := bc0 A0; have Aa := bc1 A0; have Ab := bc2 A0; have Af := qz A0.o 0; have Ag := qz A0.o 1; have Ah := qz A0.o 2) | ((with_reducible refine gc (f := 61) rfl ?_); refine gA (some 8) _ #[.slice A0_2 l0_2.length c0_2, .int .i64 a1] ?_ Try.func61; (with_reducible refine (laws_heldCellS.calls k _ _ l0_2 a1 A1 _ ?side1 ?side2 A3.o).mono ?_); (case side1 => repeat (first | exact (Kd.C_below A5.o HB.o) | (with_reducible refine Kd.C_alloc ?_ _) | (with_reducible refine Kd.C_drewN ?_ _) | (with_reducible refine Kd.C_drew ?_))); (case side2 => exact A4.o); rintro e w' ⟨rfl, ⟨nd, rfl⟩⟩; refine ⟨_, rfl, ?_⟩))
  go_ret
  exact ⟨by first | rfl | (simp [eN, eS] <;> rfl) | (simp [*, eN, eS] <;> rfl), vB HB⟩
 ·rw [if_neg c4] at H
  have A8 := decide_eq_false c4
  clear c4
  obtain rfl := Option.some.inj H
  go_enter Try.func24, Try.ntmps24
  go_wp2_with (first | ((with_reducible refine gq (N := 2) rfl ?_); refine be (N := 2) (cs := #[.int .i64 a0_0, .int .i64 a0_1, .slice A0_2 l0_2.length c0_2]) (t := 32) ?_; intro A7 hg w7 hbox hb; have A0 := Z.m (hbox); have A2 := gW (w := w) HB hg; have A6 := A2; replace HB := bB HB hb; clear hb hbox hg; have Ac := bc0 A0; have Ad := bc1 A0; have Ae := bc2 A0; have Ai := qz A0.o 0; have Aj := qz A0.o 1; have Ak := qz A0.o 2) | ((with_reducible refine gc (f := 61) rfl ?_); refine gA (some 8) _ #[.slice A0_2 l0_2.length c0_2, .int .i64 a1] ?_ Try.func61; (with_reducible refine (laws_heldCellS.calls k _ _ l0_2 a1 A1 _ ?side1 ?side2 A3.o).mono ?_); (case side1 => repeat (first | exact (Kd.C_below A5.o HB.o) | (with_reducible refine Kd.C_alloc ?_ _) | (with_reducible refine Kd.C_drewN ?_ _) | (with_reducible refine Kd.C_drew ?_))); (case side2 => exact A4.o); rintro e w' ⟨rfl, ⟨nd, rfl⟩⟩; refine ⟨_, rfl, ?_⟩))
  go_ret
  exact ⟨by first | rfl | (simp [eN, eS] <;> rfl) | (simp [*, eN, eS] <;> rfl), vB HB⟩

/-! ### spec_FallsOf: function 44 -/
def spec_FallsOf.f (k : Nat) (a0_0 : Int) (a0_1 : Int) (l0_2 : List (S89)) (l1 : List Int) : Option ((List (S27)) × Int × Int × (List (S89)) × Bool) := (spec_flColumns.f k a0_0 a0_1 l0_2 l1).bind fun t1046 => (if t1046 = true then ((spec_flAll.f k a0_0 a0_1 l0_2 l1).bind fun bt1047 => (some (bt1047.1, bt1047.2.1, bt1047.2.2.1, bt1047.2.2.2, true))) else (some (([] : List (S27)), 0, 0, ([] : List (S89)), false)))
set_option maxHeartbeats 8000000 in
set_option maxRecDepth 100000 in
theorem spec_FallsOf.calls (k : Nat) (a0_0 : Int) (a0_1 : Int) (A0_2 : Option Addr) (c0_2 : Nat) (l0_2 : List (S89)) (A1 : Option Addr) (c1 : Nat) (l1 : List Int) (r1 : List (S27)) (r2 : Int) (r3 : Int) (r4 : List (S89)) (r5 : Bool) (w : World) (hr0_2 : Kd.C k89 w A0_2 l0_2.length l0_2) (hc0_2 : l0_2.length ≤ c0_2) (hr1 : Kd.C (Kd.int .i64) w A1 l1.length l1) (hc1 : l1.length ≤ c1) (h : spec_FallsOf.f k a0_0 a0_1 l0_2 l1 = some (r1, r2, r3, r4, r5)) :
 Calls Try.prog 44 #[.agg #[.int .i64 a0_0, .int .i64 a0_1, .slice A0_2 l0_2.length c0_2], .slice A1 l1.length c1] w fun e w' => ∃ v0_ v3_ : Value, e = .returned (.tuple #[v0_, .agg #[.int .i64 r2, .int .i64 r3, v3_], .bool r5]) ∧ Kd.R k27 27 w' w.heap.size (fun _ => True) v0_ r1 ∧ Kd.R k89 89 w' w.heap.size (fun _ => True) v3_ r4 ∧ Below w.heap.size w w' := by
 have BE := Try.underlying32
 have Ap := Z.m hr0_2
 have Ao := Z.m hc0_2
 clear hr0_2 hc0_2
 have Be := Z.m hr1
 have Bd := Z.m hc1
 clear hr1 hc1
 have HB := Z.m (Below.refl w.heap.size w)
 have H : ((spec_flColumns.f k a0_0 a0_1 l0_2 l1).bind fun An => (if An = true then ((spec_flAll.f k a0_0 a0_1 l0_2 l1).bind fun bt1047 => (some (bt1047.1, bt1047.2.1, bt1047.2.2.1, bt1047.2.2.2, true))) else (some (([] : List (S27)), 0, 0, ([] : List (S89)), false)))) = some (r1, r2, r3, r4, r5) := h
 clear h
 replace H := Option.bind_eq_some_iff.mp H
 obtain ⟨An, Bn, H⟩ := H
 replace H : (if An = true then ((spec_flAll.f k a0_0 a0_1 l0_2 l1).bind fun bt1047 => (some (bt1047.1, bt1047.2.1, bt1047.2.2.1, bt1047.2.2.2, true))) else (some (([] : List (S27)), 0, 0, ([] : List (S89)), false))) = some (r1, r2, r3, r4, r5) := H
 have A3 := Z.m Bn
 clear Bn
 by_cases c4 : An = true
 ·subst c4
  have H1 : ((spec_flAll.f k a0_0 a0_1 l0_2 l1).bind fun bt1047 => (some (bt1047.1, bt1047.2.1, bt1047.2.2.1, bt1047.2.2.2, true))) = some (r1, r2, r3, r4, r5) := by rw [if_pos rfl] at H; exact H
  clear H
  have H := H1
  clear H1
  replace H := Option.bind_eq_some_iff.mp H
  obtain ⟨⟨Ar, Ae, Af, Ab⟩, Bo, H⟩ := H
  replace H : (some (Ar, Ae, Af, Ab, true)) = some (r1, r2, r3, r4, r5) := H
  have A5 := Z.m Bo
  clear Bo
  simp only [Option.some.injEq, Prod.mk.injEq] at H
  obtain ⟨rfl, rfl, rfl, rfl, rfl⟩ := H
  go_enter Try.func44, Try.ntmps44
  try go_wp2_with (first | ((with_reducible refine gq (N := 2) rfl ?_); refine be (N := 2) (cs := #[.int .i64 a0_0, .int .i64 a0_1, .slice A0_2 l0_2.length c0_2]) (t := 32) ?_; intro Aq hg w6 hbox hb; have A0 := Z.m (hbox); have Al := gW (w := w) HB hg; have As := Al; replace HB := bB HB hb; clear hb hbox hg) | ((with_reducible refine gq (N := 5) rfl ?_); refine be (N := 5) (cs := #[.int .i64 0, .int .i64 0, .slice none 0 0]) (t := 32) ?_; intro Ag hg w7 hbox hb; have A2 := Z.m (hbox); have Am := gW (w := w) HB hg; have At := Am; have A8 := neL A0 hg; have A9 := neG A0 hg; replace A0 := kB A0 hb; replace HB := bB HB hb; clear hb hbox hg; have Bz := A8.o; have BA := A9.o; have Bg := bc0 A0; have Bh := bc1 A0; have Bi := bc2 A0; have Bj := qz A0.o 0; have Bk := qz A0.o 1; have Bl := qz A0.o 2) | ((with_reducible refine gc (f := 65) rfl ?_); refine gA (some 11) _ #[.agg #[.int .i64 a0_0, .int .i64 a0_1, .slice A0_2 l0_2.length c0_2], .slice A1 l1.length c1] ?_ Try.func65; (with_reducible refine (spec_flColumns.calls k a0_0 a0_1 _ _ l0_2 _ _ l1 true _ ?side1 ?side2 ?side3 ?side4 A3.o).mono ?_); (case side1 => repeat (first | exact (Kd.C_below Ap.o HB.o) | (with_reducible refine Kd.C_alloc ?_ _) | (with_reducible refine Kd.C_drewN ?_ _) | (with_reducible refine Kd.C_drew ?_))); (case side2 => exact Ao.o); (case side3 => repeat (first | exact (Kd.C_below Be.o HB.o) | (with_reducible refine Kd.C_alloc ?_ _) | (with_reducible refine Kd.C_drewN ?_ _) | (with_reducible refine Kd.C_drew ?_))); (case side4 => exact Bd.o); rintro e BG ⟨rfl, hb⟩; refine ⟨_, rfl, ?_⟩; replace A0 := kB A0 hb; replace A2 := kB A2 hb; replace HB := bB HB hb; (try clear hb); (try clear Bp); (try clear hk); (try clear hi); have Ax := bc0 A0; have Ay := bc1 A0; have Az := bc2 A0; have AJ := qz A0.o 0; have AK := qz A0.o 1; have AL := qz A0.o 2) | ((with_reducible refine gc (f := 66) rfl ?_); refine gA (some 17) _ #[.agg #[.int .i64 a0_0, .int .i64 a0_1, .slice A0_2 l0_2.length c0_2], .slice A1 l1.length c1] ?_ Try.func66; (with_reducible refine (spec_flAll.calls k a0_0 a0_1 _ _ l0_2 _ _ l1 Ar Ae Af Ab _ ?side1 ?side2 ?side3 ?side4 A5.o).mono ?_); (case side1 => repeat (first | exact (Kd.C_below Ap.o HB.o) | (with_reducible refine Kd.C_alloc ?_ _) | (with_reducible refine Kd.C_drewN ?_ _) | (with_reducible refine Kd.C_drew ?_))); (case side2 => exact Ao.o); (case side3 => repeat (first | exact (Kd.C_below Be.o HB.o) | (with_reducible refine Kd.C_alloc ?_ _) | (with_reducible refine Kd.C_drewN ?_ _) | (with_reducible refine Kd.C_drew ?_))); (case side4 => exact Bd.o); rintro e BH ⟨Aw, By, rfl, Bw, Bx, hb⟩; refine ⟨_, rfl, ?_⟩; have Ad := Z.m (Kd.R_lower Bw (below_size (vB HB))); have Ac := Z.m (Kd.R_lower Bx (below_size (vB HB))); replace A0 := kB A0 hb; replace A2 := kB A2 hb; replace HB := bB HB hb; (try clear hb); (try clear Bp); (try clear hk); (try clear hi); (try clear Bw); (try clear Bx)) | ((with_reducible refine gq (N := 8) rfl ?_); refine be (N := 8) (cs := #[.int .i64 0, .int .i64 0, .slice none 0 0]) (t := 32) ?_; intro A6 hg Av hbox hb; have A7 := Z.m (hbox); have Au := gW (w := w) HB hg; have Bc := Au; have Ah := neL A0 hg; have Ak := neG A0 hg; have Aa := neL A2 hg; have A4 := neG A2 hg; replace Ad := Z.m (Kd.Rb (vR Ad) hb); replace Ac := Z.m (Kd.Rb (vR Ac) hb); replace A0 := kB A0 hb; replace A2 := kB A2 hb; replace HB := bB HB hb; clear hb hbox hg; have Bq := Ak.o; have Bt := Ah.o; have Br := A4.o; have Bu := Aa.o; have AA := bc0 A7; have AB := bc1 A7; have AC := bc2 A7; have AM := qz A7.o 0; have AN := qz A7.o 1; have AO := qz A7.o 2; obtain ⟨Ai, Aj, Bf⟩ := Kd.R_slice Ac.o; subst Bf))
  have n0_ : Z (Kd.R k27 27 (((Av.setCell ⟨A6, 0, none⟩ (.int .i64 Ae)).setCell ⟨A6, 1, none⟩ (.int .i64 Af)).setCell ⟨A6, 2, none⟩ (.slice Ai Ab.length Aj)) w.heap.size (fun _ => True) Aw Ar) := ⟨by refine rK ?_; exact Kd.Rm (rf (rf (rf (Kd.Ry Ad.o A7.o (by decide))))) (fun _ hk => trivial)⟩
  have n1_ : Z (Kd.R k89 89 (((Av.setCell ⟨A6, 0, none⟩ (.int .i64 Ae)).setCell ⟨A6, 1, none⟩ (.int .i64 Af)).setCell ⟨A6, 2, none⟩ (.slice Ai Ab.length Aj)) w.heap.size (fun _ => True) (.slice Ai Ab.length Aj) Ab) := ⟨by refine rK ?_; exact Kd.Rm (rf (rf (rf (Kd.Ry Ac.o A7.o (by decide))))) (fun _ hk => trivial)⟩
  have n2_ : Z ((((Av.setCell ⟨A6, 0, none⟩ (.int .i64 Ae)).setCell ⟨A6, 1, none⟩ (.int .i64 Af)).setCell ⟨A6, 2, none⟩ (.slice Ai Ab.length Aj)).heap[Aq]? = some (.cells #[.int .i64 a0_0, .int .i64 a0_1, .slice A0_2 l0_2.length c0_2] 32 (0, 0))) := ⟨by refine bK ?_; (iterate 3 refine qF ?_ Ah); exact A0.o⟩
  have n3_ : Z ((((Av.setCell ⟨A6, 0, none⟩ (.int .i64 Ae)).setCell ⟨A6, 1, none⟩ (.int .i64 Af)).setCell ⟨A6, 2, none⟩ (.slice Ai Ab.length Aj)).heap[Ag]? = some (.cells #[.int .i64 0, .int .i64 0, .slice none 0 0] 32 (0, 0))) := ⟨by refine bK ?_; (iterate 3 refine qF ?_ Aa); exact A2.o⟩
  have n4_ : Z ((((Av.setCell ⟨A6, 0, none⟩ (.int .i64 Ae)).setCell ⟨A6, 1, none⟩ (.int .i64 Af)).setCell ⟨A6, 2, none⟩ (.slice Ai Ab.length Aj)).heap[A6]? = some (.cells #[.int .i64 Ae, .int .i64 Af, .slice Ai Ab.length Aj] 32 (0, 0))) := ⟨by refine bK ?_; apply st3; refine bK ?_; exact A7.o⟩
  have n5_ : Z (Below w.heap.size w (((Av.setCell ⟨A6, 0, none⟩ (.int .i64 Ae)).setCell ⟨A6, 1, none⟩ (.int .i64 Af)).setCell ⟨A6, 2, none⟩ (.slice Ai Ab.length Aj))) := ⟨vB HB⟩
  (try clear Ad); (try clear Ac); (try clear A0); (try clear A2); (try clear A7); (try clear HB)
  generalize (((Av.setCell ⟨A6, 0, none⟩ (.int .i64 Ae)).setCell ⟨A6, 1, none⟩ (.int .i64 Af)).setCell ⟨A6, 2, none⟩ (.slice Ai Ab.length Aj)) = BF at n0_ n1_ n2_ n3_ n4_ n5_ ⊢
  have Ad := n0_
  have Ac := n1_
  have A0 := n2_
  have A2 := n3_
  have A7 := n4_
  have HB := n5_
  clear n0_ n1_ n2_ n3_ n4_ n5_
  replace Ad := Z.m (Kd.R_drew Ad.o)
  replace Ac := Z.m (Kd.R_drew Ac.o)
  replace A0 := Z.m (blk_drew A0.o)
  replace A2 := Z.m (blk_drew A2.o)
  replace A7 := Z.m (blk_drew A7.o)
  replace HB := Z.m (qd HB.o)
  refine start_ (n := 5) (S := fun w' => w'.cell? ⟨A6, 0, none⟩ = some (.int .i64 Ae) ∧ w'.cell? ⟨A6, 1, none⟩ = some (.int .i64 Af) ∧ w'.cell? ⟨A6, 2, none⟩ = some (.slice Ai Ab.length Aj)) (ds := []) #[false, false, false, false, false] (by kernel_rfl) rfl rfl ⟨(ql A7.o 0).trans rfl, (ql A7.o 1).trans rfl, (ql A7.o 2).trans rfl⟩ (fun hHeld => ?_)
  generalize BF.drew = Bm at Ad Ac A0 A2 A7 HB hHeld ⊢
  refine pure_ (i := 0) (N := some 20) (v := ?_) (a' := ?_) #[true, false, false, false, false] rfl rfl (by kernel_rfl) (fun _ _ _ h => h) (Or.inl ⟨by rfl, ?_⟩) ?_ ?_
  rotate_left
  ·intro w'
   go_simp
   with_reducible rfl
  rotate_left
  ·simp only [Act.put, q1, q2, q3, i64_w, i32_w]
   rfl
  refine pure_ (i := 2) (N := some 4) (v := ?_) (a' := ?_) #[true, false, true, false, false] rfl rfl (by kernel_rfl) (fun _ _ _ h => h) (Or.inl ⟨by rfl, ?_⟩) ?_ ?_
  rotate_left
  ·intro w'
   go_simp
   with_reducible rfl
  rotate_left
  ·simp only [Act.put, q1, q2, q3, i64_w, i32_w]
   rfl
  refine take_ (i := 1) (N := some 21) (v := ?_) (a' := ?_) #[true, true, true, false, false] rfl rfl (by kernel_rfl) (fun _ _ _ h => h) (Or.inl ⟨by rfl, ?_⟩) hHeld ?_ ?_
  rotate_left
  ·rintro w' ⟨s0, s1, s2⟩
   go_simp
   with_reducible rfl
  rotate_left
  ·simp only [Act.put, q1, q2, q3, i64_w, i32_w]
   rfl
  refine one_ (i := 3) (N := none) #[true, true, true, true, false] rfl rfl (by kernel_rfl) (by decide) (fun K hK => ?_)
  have BB : Bm.cell? ⟨Ag, 0, none⟩ = some (.int .i64 0) := (ql A2.o 0).trans rfl
  have hfs20 := qz A2.o 0
  have B2 := A8.o
  have B3 := A4.o
  have AV := A9.o
  have AW := Aa.o
  have BC : Bm.cell? ⟨Ag, 1, none⟩ = some (.int .i64 0) := (ql A2.o 1).trans rfl
  have hfs21 := qz A2.o 1
  have B7 := A8.o
  have B8 := A4.o
  have AX := A9.o
  have AY := Aa.o
  have BD : Bm.cell? ⟨Ag, 2, none⟩ = some (.slice none 0 0) := (ql A2.o 2).trans rfl
  have hfs22 := qz A2.o 2
  have Ba := A8.o
  have Bb := A4.o
  have AZ := A9.o
  have B0 := Aa.o
  refine skip_ (w1 := ?_) ?hwx ?hnx ?_ ?_; (case hwx => rfl); (case hnx => rfl)
  rotate_left
  ·go_simp
   rfl
  refine hK.out _ _ ⟨(cx A4.o ((cx A4.o ((cx A4.o (hHeld.1)))))), (cx A4.o ((cx A4.o ((cx A4.o (hHeld.2.1)))))), (cx A4.o ((cx A4.o ((cx A4.o (hHeld.2.2))))))⟩ (fun hHeld => ?_)
  clear hK K
  refine pure_ (i := 4) (N := some 6) (v := ?_) (a' := ?_) #[true, true, true, true, true] rfl rfl (by kernel_rfl) (fun _ _ _ h => h) (Or.inl ⟨by rfl, ?_⟩) ?_ ?_
  rotate_left
  ·intro w'
   go_simp
   with_reducible rfl
  rotate_left
  ·simp only [Act.put, q1, q2, q3, i64_w, i32_w]
   rfl
  refine done_ (by kernel_rfl) ?_
  try go_wp2
  refine bodyPost_ret (rl (rs := [.tmp 4, .cell 5 32, .tmp 6]) rfl (by simp) (.tmp (.cell Ag 32 #[.int .i64 Ae, .int .i64 Af, .slice Ai Ab.length Aj] (0, 0) _ rfl (by refine bK ?_; apply st3; refine bK ?_; exact A2.o) Try.underlying32 rfl (by kernel_rfl) (.tmp .nil)))) rfl ?_
  exact ⟨_, _, by first | rfl | (simp [eN, eS] <;> rfl) | (simp [*, eN, eS] <;> rfl), by refine rK ?_; exact Kd.Rm (rf (rf (rf (Kd.Ry Ad.o A2.o (by decide))))) (fun _ hk => trivial), by refine rK ?_; exact Kd.Rm (rf (rf (rf (Kd.Ry Ac.o A2.o (by decide))))) (fun _ hk => trivial), vB HB⟩
 ·replace c4 := Bool.eq_false_iff.mpr c4
  subst c4
  have H1 : (some (([] : List (S27)), 0, 0, ([] : List (S89)), false)) = some (r1, r2, r3, r4, r5) := by rw [if_neg (show ¬ (false = true) by decide)] at H; exact H
  clear H
  have H := H1
  clear H1
  simp only [Option.some.injEq, Prod.mk.injEq] at H
  obtain ⟨rfl, rfl, rfl, rfl, rfl⟩ := H
  go_enter Try.func44, Try.ntmps44
  go_wp2_with (first | ((with_reducible refine gq (N := 2) rfl ?_); refine be (N := 2) (cs := #[.int .i64 a0_0, .int .i64 a0_1, .slice A0_2 l0_2.length c0_2]) (t := 32) ?_; intro Aq hg BI hbox hb; have A0 := Z.m (hbox); have Al := gW (w := w) HB hg; have As := Al; replace HB := bB HB hb; clear hb hbox hg) | ((with_reducible refine gq (N := 5) rfl ?_); refine be (N := 5) (cs := #[.int .i64 0, .int .i64 0, .slice none 0 0]) (t := 32) ?_; intro Ag hg BJ hbox hb; have A2 := Z.m (hbox); have Am := gW (w := w) HB hg; have At := Am; have A8 := neL A0 hg; have A9 := neG A0 hg; replace A0 := kB A0 hb; replace HB := bB HB hb; clear hb hbox hg; have Bs := A8.o; have Bv := A9.o; have AD := bc0 A0; have AE := bc1 A0; have AF := bc2 A0; have AP := qz A0.o 0; have AQ := qz A0.o 1; have AR := qz A0.o 2) | ((with_reducible refine gc (f := 65) rfl ?_); refine gA (some 11) _ #[.agg #[.int .i64 a0_0, .int .i64 a0_1, .slice A0_2 l0_2.length c0_2], .slice A1 l1.length c1] ?_ Try.func65; (with_reducible refine (spec_flColumns.calls k a0_0 a0_1 _ _ l0_2 _ _ l1 false _ ?side1 ?side2 ?side3 ?side4 A3.o).mono ?_); (case side1 => repeat (first | exact (Kd.C_below Ap.o HB.o) | (with_reducible refine Kd.C_alloc ?_ _) | (with_reducible refine Kd.C_drewN ?_ _) | (with_reducible refine Kd.C_drew ?_))); (case side2 => exact Ao.o); (case side3 => repeat (first | exact (Kd.C_below Be.o HB.o) | (with_reducible refine Kd.C_alloc ?_ _) | (with_reducible refine Kd.C_drewN ?_ _) | (with_reducible refine Kd.C_drew ?_))); (case side4 => exact Bd.o); rintro e BK ⟨rfl, hb⟩; refine ⟨_, rfl, ?_⟩; replace A0 := kB A0 hb; replace A2 := kB A2 hb; replace HB := bB HB hb; (try clear hb); (try clear Bp); (try clear hk); (try clear hi); have AG := bc0 A2; have AH := bc1 A2; have AI := bc2 A2; have AS := qz A2.o 0; have AT := qz A2.o 1; have AU := qz A2.o 2))
  refine bodyPost_ret (rl (rs := [.tmp 4, .cell 5 32, .tmp 6]) rfl (by simp) (.tmp (.cell Ag 32 #[.int .i64 0, .int .i64 0, .slice none 0 0] (0, 0) _ rfl (by refine bK ?_; apply st3; refine bK ?_; exact A2.o) Try.underlying32 rfl (by kernel_rfl) (.tmp .nil)))) rfl ?_
  exact ⟨_, _, by first | rfl | (simp [eN, eS] <;> rfl) | (simp [*, eN, eS] <;> rfl), by first | exact Kd.R_nil _ _ _ _ _ | exact Kd.N_nil _ _ _ _ _ | exact Kd.V_nil _ _ _ _ _ | exact Kd.Q_nil _ _ _ _ _ | exact Kd.S_nil _ _ _ _ _, by first | exact Kd.R_nil _ _ _ _ _ | exact Kd.N_nil _ _ _ _ _ | exact Kd.V_nil _ _ _ _ _ | exact Kd.Q_nil _ _ _ _ _ | exact Kd.S_nil _ _ _ _ _, vB HB⟩

/-! ### impl_FallsOf: function 45 -/
def impl_FallsOf.f (k : Nat) (a0_0 : Int) (a0_1 : Int) (l0_2 : List (S89)) (l1 : List Int) : Option ((List (S27)) × Int × Int × (List (S89)) × Bool) := (impl_validEntries.f k a0_0 a0_1 l0_2 l1).bind fun t1058 => (if t1058 = true then ((impl_dropAll.f k a0_0 a0_1 l0_2 l1).bind fun bt1059 => (some (bt1059.1, bt1059.2.1, bt1059.2.2.1, bt1059.2.2.2, true))) else (some (([] : List (S27)), 0, 0, ([] : List (S89)), false)))
set_option maxHeartbeats 8000000 in
set_option maxRecDepth 100000 in
theorem impl_FallsOf.calls (k : Nat) (a0_0 : Int) (a0_1 : Int) (A0_2 : Option Addr) (c0_2 : Nat) (l0_2 : List (S89)) (A1 : Option Addr) (c1 : Nat) (l1 : List Int) (r1 : List (S27)) (r2 : Int) (r3 : Int) (r4 : List (S89)) (r5 : Bool) (w : World) (hr0_2 : Kd.C k89 w A0_2 l0_2.length l0_2) (hc0_2 : l0_2.length ≤ c0_2) (hr1 : Kd.C (Kd.int .i64) w A1 l1.length l1) (hc1 : l1.length ≤ c1) (h : impl_FallsOf.f k a0_0 a0_1 l0_2 l1 = some (r1, r2, r3, r4, r5)) :
 Calls Try.prog 45 #[.agg #[.int .i64 a0_0, .int .i64 a0_1, .slice A0_2 l0_2.length c0_2], .slice A1 l1.length c1] w fun e w' => ∃ v0_ v3_ : Value, e = .returned (.tuple #[v0_, .agg #[.int .i64 r2, .int .i64 r3, v3_], .bool r5]) ∧ Kd.R k27 27 w' w.heap.size (fun _ => True) v0_ r1 ∧ Kd.R k89 89 w' w.heap.size (fun _ => True) v3_ r4 ∧ Below w.heap.size w w' := by
 have BE := Try.underlying32
 have Ap := Z.m hr0_2
 have Ao := Z.m hc0_2
 clear hr0_2 hc0_2
 have Be := Z.m hr1
 have Bd := Z.m hc1
 clear hr1 hc1
 have HB := Z.m (Below.refl w.heap.size w)
 have H : ((impl_validEntries.f k a0_0 a0_1 l0_2 l1).bind fun An => (if An = true then ((impl_dropAll.f k a0_0 a0_1 l0_2 l1).bind fun bt1059 => (some (bt1059.1, bt1059.2.1, bt1059.2.2.1, bt1059.2.2.2, true))) else (some (([] : List (S27)), 0, 0, ([] : List (S89)), false)))) = some (r1, r2, r3, r4, r5) := h
 clear h
 replace H := Option.bind_eq_some_iff.mp H
 obtain ⟨An, Bn, H⟩ := H
 replace H : (if An = true then ((impl_dropAll.f k a0_0 a0_1 l0_2 l1).bind fun bt1059 => (some (bt1059.1, bt1059.2.1, bt1059.2.2.1, bt1059.2.2.2, true))) else (some (([] : List (S27)), 0, 0, ([] : List (S89)), false))) = some (r1, r2, r3, r4, r5) := H
 have A3 := Z.m Bn
 clear Bn
 by_cases c4 : An = true
 ·subst c4
  have H1 : ((impl_dropAll.f k a0_0 a0_1 l0_2 l1).bind fun bt1059 => (some (bt1059.1, bt1059.2.1, bt1059.2.2.1, bt1059.2.2.2, true))) = some (r1, r2, r3, r4, r5) := by rw [if_pos rfl] at H; exact H
  clear H
  have H := H1
  clear H1
  replace H := Option.bind_eq_some_iff.mp H
  obtain ⟨⟨Ar, Ae, Af, Ab⟩, Bo, H⟩ := H
  replace H : (some (Ar, Ae, Af, Ab, true)) = some (r1, r2, r3, r4, r5) := H
  have A5 := Z.m Bo
  clear Bo
  simp only [Option.some.injEq, Prod.mk.injEq] at H
  obtain ⟨rfl, rfl, rfl, rfl, rfl⟩ := H
  go_enter Try.func45, Try.ntmps45
  try go_wp2_with (first | ((with_reducible refine gq (N := 2) rfl ?_); refine be (N := 2) (cs := #[.int .i64 a0_0, .int .i64 a0_1, .slice A0_2 l0_2.length c0_2]) (t := 32) ?_; intro Aq hg w6 hbox hb; have A0 := Z.m (hbox); have Al := gW (w := w) HB hg; have As := Al; replace HB := bB HB hb; clear hb hbox hg) | ((with_reducible refine gq (N := 5) rfl ?_); refine be (N := 5) (cs := #[.int .i64 0, .int .i64 0, .slice none 0 0]) (t := 32) ?_; intro Ag hg w7 hbox hb; have A2 := Z.m (hbox); have Am := gW (w := w) HB hg; have At := Am; have A8 := neL A0 hg; have A9 := neG A0 hg; replace A0 := kB A0 hb; replace HB := bB HB hb; clear hb hbox hg; have Bz := A8.o; have BA := A9.o; have Bg := bc0 A0; have Bh := bc1 A0; have Bi := bc2 A0; have Bj := qz A0.o 0; have Bk := qz A0.o 1; have Bl := qz A0.o 2) | ((with_reducible refine gc (f := 67) rfl ?_); refine gA (some 11) _ #[.agg #[.int .i64 a0_0, .int .i64 a0_1, .slice A0_2 l0_2.length c0_2], .slice A1 l1.length c1] ?_ Try.func67; (with_reducible refine (impl_validEntries.calls k a0_0 a0_1 _ _ l0_2 _ _ l1 true _ ?side1 ?side2 ?side3 ?side4 A3.o).mono ?_); (case side1 => repeat (first | exact (Kd.C_below Ap.o HB.o) | (with_reducible refine Kd.C_alloc ?_ _) | (with_reducible refine Kd.C_drewN ?_ _) | (with_reducible refine Kd.C_drew ?_))); (case side2 => exact Ao.o); (case side3 => repeat (first | exact (Kd.C_below Be.o HB.o) | (with_reducible refine Kd.C_alloc ?_ _) | (with_reducible refine Kd.C_drewN ?_ _) | (with_reducible refine Kd.C_drew ?_))); (case side4 => exact Bd.o); rintro e BG ⟨rfl, hb⟩; refine ⟨_, rfl, ?_⟩; replace A0 := kB A0 hb; replace A2 := kB A2 hb; replace HB := bB HB hb; (try clear hb); (try clear Bp); (try clear hk); (try clear hi); have Ax := bc0 A0; have Ay := bc1 A0; have Az := bc2 A0; have AJ := qz A0.o 0; have AK := qz A0.o 1; have AL := qz A0.o 2) | ((with_reducible refine gc (f := 68) rfl ?_); refine gA (some 17) _ #[.agg #[.int .i64 a0_0, .int .i64 a0_1, .slice A0_2 l0_2.length c0_2], .slice A1 l1.length c1] ?_ Try.func68; (with_reducible refine (impl_dropAll.calls k a0_0 a0_1 _ _ l0_2 _ _ l1 Ar Ae Af Ab _ ?side1 ?side2 ?side3 ?side4 A5.o).mono ?_); (case side1 => repeat (first | exact (Kd.C_below Ap.o HB.o) | (with_reducible refine Kd.C_alloc ?_ _) | (with_reducible refine Kd.C_drewN ?_ _) | (with_reducible refine Kd.C_drew ?_))); (case side2 => exact Ao.o); (case side3 => repeat (first | exact (Kd.C_below Be.o HB.o) | (with_reducible refine Kd.C_alloc ?_ _) | (with_reducible refine Kd.C_drewN ?_ _) | (with_reducible refine Kd.C_drew ?_))); (case side4 => exact Bd.o); rintro e BH ⟨Aw, By, rfl, Bw, Bx, hb⟩; refine ⟨_, rfl, ?_⟩; have Ad := Z.m (Kd.R_lower Bw (below_size (vB HB))); have Ac := Z.m (Kd.R_lower Bx (below_size (vB HB))); replace A0 := kB A0 hb; replace A2 := kB A2 hb; replace HB := bB HB hb; (try clear hb); (try clear Bp); (try clear hk); (try clear hi); (try clear Bw); (try clear Bx)) | ((with_reducible refine gq (N := 8) rfl ?_); refine be (N := 8) (cs := #[.int .i64 0, .int .i64 0, .slice none 0 0]) (t := 32) ?_; intro A6 hg Av hbox hb; have A7 := Z.m (hbox); have Au := gW (w := w) HB hg; have Bc := Au; have Ah := neL A0 hg; have Ak := neG A0 hg; have Aa := neL A2 hg; have A4 := neG A2 hg; replace Ad := Z.m (Kd.Rb (vR Ad) hb); replace Ac := Z.m (Kd.Rb (vR Ac) hb); replace A0 := kB A0 hb; replace A2 := kB A2 hb; replace HB := bB HB hb; clear hb hbox hg; have Bq := Ak.o; have Bt := Ah.o; have Br := A4.o; have Bu := Aa.o; have AA := bc0 A7; have AB := bc1 A7; have AC := bc2 A7; have AM := qz A7.o 0; have AN := qz A7.o 1; have AO := qz A7.o 2; obtain ⟨Ai, Aj, Bf⟩ := Kd.R_slice Ac.o; subst Bf))
  have n0_ : Z (Kd.R k27 27 (((Av.setCell ⟨A6, 0, none⟩ (.int .i64 Ae)).setCell ⟨A6, 1, none⟩ (.int .i64 Af)).setCell ⟨A6, 2, none⟩ (.slice Ai Ab.length Aj)) w.heap.size (fun _ => True) Aw Ar) := ⟨by refine rK ?_; exact Kd.Rm (rf (rf (rf (Kd.Ry Ad.o A7.o (by decide))))) (fun _ hk => trivial)⟩
  have n1_ : Z (Kd.R k89 89 (((Av.setCell ⟨A6, 0, none⟩ (.int .i64 Ae)).setCell ⟨A6, 1, none⟩ (.int .i64 Af)).setCell ⟨A6, 2, none⟩ (.slice Ai Ab.length Aj)) w.heap.size (fun _ => True) (.slice Ai Ab.length Aj) Ab) := ⟨by refine rK ?_; exact Kd.Rm (rf (rf (rf (Kd.Ry Ac.o A7.o (by decide))))) (fun _ hk => trivial)⟩
  have n2_ : Z ((((Av.setCell ⟨A6, 0, none⟩ (.int .i64 Ae)).setCell ⟨A6, 1, none⟩ (.int .i64 Af)).setCell ⟨A6, 2, none⟩ (.slice Ai Ab.length Aj)).heap[Aq]? = some (.cells #[.int .i64 a0_0, .int .i64 a0_1, .slice A0_2 l0_2.length c0_2] 32 (0, 0))) := ⟨by refine bK ?_; (iterate 3 refine qF ?_ Ah); exact A0.o⟩
  have n3_ : Z ((((Av.setCell ⟨A6, 0, none⟩ (.int .i64 Ae)).setCell ⟨A6, 1, none⟩ (.int .i64 Af)).setCell ⟨A6, 2, none⟩ (.slice Ai Ab.length Aj)).heap[Ag]? = some (.cells #[.int .i64 0, .int .i64 0, .slice none 0 0] 32 (0, 0))) := ⟨by refine bK ?_; (iterate 3 refine qF ?_ Aa); exact A2.o⟩
  have n4_ : Z ((((Av.setCell ⟨A6, 0, none⟩ (.int .i64 Ae)).setCell ⟨A6, 1, none⟩ (.int .i64 Af)).setCell ⟨A6, 2, none⟩ (.slice Ai Ab.length Aj)).heap[A6]? = some (.cells #[.int .i64 Ae, .int .i64 Af, .slice Ai Ab.length Aj] 32 (0, 0))) := ⟨by refine bK ?_; apply st3; refine bK ?_; exact A7.o⟩
  have n5_ : Z (Below w.heap.size w (((Av.setCell ⟨A6, 0, none⟩ (.int .i64 Ae)).setCell ⟨A6, 1, none⟩ (.int .i64 Af)).setCell ⟨A6, 2, none⟩ (.slice Ai Ab.length Aj))) := ⟨vB HB⟩
  (try clear Ad); (try clear Ac); (try clear A0); (try clear A2); (try clear A7); (try clear HB)
  generalize (((Av.setCell ⟨A6, 0, none⟩ (.int .i64 Ae)).setCell ⟨A6, 1, none⟩ (.int .i64 Af)).setCell ⟨A6, 2, none⟩ (.slice Ai Ab.length Aj)) = BF at n0_ n1_ n2_ n3_ n4_ n5_ ⊢
  have Ad := n0_
  have Ac := n1_
  have A0 := n2_
  have A2 := n3_
  have A7 := n4_
  have HB := n5_
  clear n0_ n1_ n2_ n3_ n4_ n5_
  replace Ad := Z.m (Kd.R_drew Ad.o)
  replace Ac := Z.m (Kd.R_drew Ac.o)
  replace A0 := Z.m (blk_drew A0.o)
  replace A2 := Z.m (blk_drew A2.o)
  replace A7 := Z.m (blk_drew A7.o)
  replace HB := Z.m (qd HB.o)
  refine start_ (n := 5) (S := fun w' => w'.cell? ⟨A6, 0, none⟩ = some (.int .i64 Ae) ∧ w'.cell? ⟨A6, 1, none⟩ = some (.int .i64 Af) ∧ w'.cell? ⟨A6, 2, none⟩ = some (.slice Ai Ab.length Aj)) (ds := []) #[false, false, false, false, false] (by kernel_rfl) rfl rfl ⟨(ql A7.o 0).trans rfl, (ql A7.o 1).trans rfl, (ql A7.o 2).trans rfl⟩ (fun hHeld => ?_)
  generalize BF.drew = Bm at Ad Ac A0 A2 A7 HB hHeld ⊢
  refine pure_ (i := 0) (N := some 20) (v := ?_) (a' := ?_) #[true, false, false, false, false] rfl rfl (by kernel_rfl) (fun _ _ _ h => h) (Or.inl ⟨by rfl, ?_⟩) ?_ ?_
  rotate_left
  ·intro w'
   go_simp
   with_reducible rfl
  rotate_left
  ·simp only [Act.put, q1, q2, q3, i64_w, i32_w]
   rfl
  refine pure_ (i := 2) (N := some 4) (v := ?_) (a' := ?_) #[true, false, true, false, false] rfl rfl (by kernel_rfl) (fun _ _ _ h => h) (Or.inl ⟨by rfl, ?_⟩) ?_ ?_
  rotate_left
  ·intro w'
   go_simp
   with_reducible rfl
  rotate_left
  ·simp only [Act.put, q1, q2, q3, i64_w, i32_w]
   rfl
  refine take_ (i := 1) (N := some 21) (v := ?_) (a' := ?_) #[true, true, true, false, false] rfl rfl (by kernel_rfl) (fun _ _ _ h => h) (Or.inl ⟨by rfl, ?_⟩) hHeld ?_ ?_
  rotate_left
  ·rintro w' ⟨s0, s1, s2⟩
   go_simp
   with_reducible rfl
  rotate_left
  ·simp only [Act.put, q1, q2, q3, i64_w, i32_w]
   rfl
  refine one_ (i := 3) (N := none) #[true, true, true, true, false] rfl rfl (by kernel_rfl) (by decide) (fun K hK => ?_)
  have BB : Bm.cell? ⟨Ag, 0, none⟩ = some (.int .i64 0) := (ql A2.o 0).trans rfl
  have hfs20 := qz A2.o 0
  have B2 := A8.o
  have B3 := A4.o
  have AV := A9.o
  have AW := Aa.o
  have BC : Bm.cell? ⟨Ag, 1, none⟩ = some (.int .i64 0) := (ql A2.o 1).trans rfl
  have hfs21 := qz A2.o 1
  have B7 := A8.o
  have B8 := A4.o
  have AX := A9.o
  have AY := Aa.o
  have BD : Bm.cell? ⟨Ag, 2, none⟩ = some (.slice none 0 0) := (ql A2.o 2).trans rfl
  have hfs22 := qz A2.o 2
  have Ba := A8.o
  have Bb := A4.o
  have AZ := A9.o
  have B0 := Aa.o
  refine skip_ (w1 := ?_) ?hwx ?hnx ?_ ?_; (case hwx => rfl); (case hnx => rfl)
  rotate_left
  ·go_simp
   rfl
  refine hK.out _ _ ⟨(cx A4.o ((cx A4.o ((cx A4.o (hHeld.1)))))), (cx A4.o ((cx A4.o ((cx A4.o (hHeld.2.1)))))), (cx A4.o ((cx A4.o ((cx A4.o (hHeld.2.2))))))⟩ (fun hHeld => ?_)
  clear hK K
  refine pure_ (i := 4) (N := some 6) (v := ?_) (a' := ?_) #[true, true, true, true, true] rfl rfl (by kernel_rfl) (fun _ _ _ h => h) (Or.inl ⟨by rfl, ?_⟩) ?_ ?_
  rotate_left
  ·intro w'
   go_simp
   with_reducible rfl
  rotate_left
  ·simp only [Act.put, q1, q2, q3, i64_w, i32_w]
   rfl
  refine done_ (by kernel_rfl) ?_
  try go_wp2
  refine bodyPost_ret (rl (rs := [.tmp 4, .cell 5 32, .tmp 6]) rfl (by simp) (.tmp (.cell Ag 32 #[.int .i64 Ae, .int .i64 Af, .slice Ai Ab.length Aj] (0, 0) _ rfl (by refine bK ?_; apply st3; refine bK ?_; exact A2.o) Try.underlying32 rfl (by kernel_rfl) (.tmp .nil)))) rfl ?_
  exact ⟨_, _, by first | rfl | (simp [eN, eS] <;> rfl) | (simp [*, eN, eS] <;> rfl), by refine rK ?_; exact Kd.Rm (rf (rf (rf (Kd.Ry Ad.o A2.o (by decide))))) (fun _ hk => trivial), by refine rK ?_; exact Kd.Rm (rf (rf (rf (Kd.Ry Ac.o A2.o (by decide))))) (fun _ hk => trivial), vB HB⟩
 ·replace c4 := Bool.eq_false_iff.mpr c4
  subst c4
  have H1 : (some (([] : List (S27)), 0, 0, ([] : List (S89)), false)) = some (r1, r2, r3, r4, r5) := by rw [if_neg (show ¬ (false = true) by decide)] at H; exact H
  clear H
  have H := H1
  clear H1
  simp only [Option.some.injEq, Prod.mk.injEq] at H
  obtain ⟨rfl, rfl, rfl, rfl, rfl⟩ := H
  go_enter Try.func45, Try.ntmps45
  go_wp2_with (first | ((with_reducible refine gq (N := 2) rfl ?_); refine be (N := 2) (cs := #[.int .i64 a0_0, .int .i64 a0_1, .slice A0_2 l0_2.length c0_2]) (t := 32) ?_; intro Aq hg BI hbox hb; have A0 := Z.m (hbox); have Al := gW (w := w) HB hg; have As := Al; replace HB := bB HB hb; clear hb hbox hg) | ((with_reducible refine gq (N := 5) rfl ?_); refine be (N := 5) (cs := #[.int .i64 0, .int .i64 0, .slice none 0 0]) (t := 32) ?_; intro Ag hg BJ hbox hb; have A2 := Z.m (hbox); have Am := gW (w := w) HB hg; have At := Am; have A8 := neL A0 hg; have A9 := neG A0 hg; replace A0 := kB A0 hb; replace HB := bB HB hb; clear hb hbox hg; have Bs := A8.o; have Bv := A9.o; have AD := bc0 A0; have AE := bc1 A0; have AF := bc2 A0; have AP := qz A0.o 0; have AQ := qz A0.o 1; have AR := qz A0.o 2) | ((with_reducible refine gc (f := 67) rfl ?_); refine gA (some 11) _ #[.agg #[.int .i64 a0_0, .int .i64 a0_1, .slice A0_2 l0_2.length c0_2], .slice A1 l1.length c1] ?_ Try.func67; (with_reducible refine (impl_validEntries.calls k a0_0 a0_1 _ _ l0_2 _ _ l1 false _ ?side1 ?side2 ?side3 ?side4 A3.o).mono ?_); (case side1 => repeat (first | exact (Kd.C_below Ap.o HB.o) | (with_reducible refine Kd.C_alloc ?_ _) | (with_reducible refine Kd.C_drewN ?_ _) | (with_reducible refine Kd.C_drew ?_))); (case side2 => exact Ao.o); (case side3 => repeat (first | exact (Kd.C_below Be.o HB.o) | (with_reducible refine Kd.C_alloc ?_ _) | (with_reducible refine Kd.C_drewN ?_ _) | (with_reducible refine Kd.C_drew ?_))); (case side4 => exact Bd.o); rintro e BK ⟨rfl, hb⟩; refine ⟨_, rfl, ?_⟩; replace A0 := kB A0 hb; replace A2 := kB A2 hb; replace HB := bB HB hb; (try clear hb); (try clear Bp); (try clear hk); (try clear hi); have AG := bc0 A2; have AH := bc1 A2; have AI := bc2 A2; have AS := qz A2.o 0; have AT := qz A2.o 1; have AU := qz A2.o 2))
  refine bodyPost_ret (rl (rs := [.tmp 4, .cell 5 32, .tmp 6]) rfl (by simp) (.tmp (.cell Ag 32 #[.int .i64 0, .int .i64 0, .slice none 0 0] (0, 0) _ rfl (by refine bK ?_; apply st3; refine bK ?_; exact A2.o) Try.underlying32 rfl (by kernel_rfl) (.tmp .nil)))) rfl ?_
  exact ⟨_, _, by first | rfl | (simp [eN, eS] <;> rfl) | (simp [*, eN, eS] <;> rfl), by first | exact Kd.R_nil _ _ _ _ _ | exact Kd.N_nil _ _ _ _ _ | exact Kd.V_nil _ _ _ _ _ | exact Kd.Q_nil _ _ _ _ _ | exact Kd.S_nil _ _ _ _ _, by first | exact Kd.R_nil _ _ _ _ _ | exact Kd.N_nil _ _ _ _ _ | exact Kd.V_nil _ _ _ _ _ | exact Kd.Q_nil _ _ _ _ _ | exact Kd.S_nil _ _ _ _ _, vB HB⟩

/-! ### laws_eqFall: function 17 -/
def laws_eqFall.f (a0_0 : Int) (a0_1 : Int) (a0_2 : Int) (a1_0 : Int) (a1_1 : Int) (a1_2 : Int) : Option (Bool) := if a0_0 = a1_0 then (if a0_1 = a1_1 then (if a0_2 = a1_2 then (some true) else (some false)) else (some false)) else (some false)
set_option maxHeartbeats 8000000 in
set_option maxRecDepth 100000 in
theorem laws_eqFall.calls (a0_0 : Int) (a0_1 : Int) (a0_2 : Int) (a1_0 : Int) (a1_1 : Int) (a1_2 : Int) (r : Bool) (w : World) (h : laws_eqFall.f a0_0 a0_1 a0_2 a1_0 a1_1 a1_2 = some r) :
 Calls Try.prog 17 #[.agg #[.int .i64 a0_0, .int .i64 a0_1, .int .i64 a0_2], .agg #[.int .i64 a1_0, .int .i64 a1_1, .int .i64 a1_2]] w fun e w' => e = .returned (.bool r) ∧ Below w.heap.size w w' := by
 have Bf := Try.underlying27
 have HB := Z.m (Below.refl w.heap.size w)
 have H : (if a0_0 = a1_0 then (if a0_1 = a1_1 then (if a0_2 = a1_2 then (some true) else (some false)) else (some false)) else (some false)) = some r := h
 clear h
 by_cases c3 : a0_0 = a1_0
 ·rw [if_pos c3] at H
  have AQ := beq_iff_eq.mpr c3
  have AR := bne_eq_false_iff_eq.mpr c3
  clear c3
  by_cases c4 : a0_1 = a1_1
  ·rw [if_pos c4] at H
   have AS := beq_iff_eq.mpr c4
   have AT := bne_eq_false_iff_eq.mpr c4
   clear c4
   by_cases c5 : a0_2 = a1_2
   ·rw [if_pos c5] at H
    have AU := beq_iff_eq.mpr c5
    have AV := bne_eq_false_iff_eq.mpr c5
    clear c5
    obtain rfl := Option.some.inj H
    go_enter Try.func17, Try.ntmps17
    go_wp2_with (first | ((with_reducible refine gq (N := 2) rfl ?_); refine be (N := 2) (cs := #[.int .i64 a0_0, .int .i64 a0_1, .int .i64 a0_2]) (t := 27) ?_; intro A8 hg w6 hbox hb; have A0 := Z.m (hbox); have A4 := gW (w := w) HB hg; have A6 := A4; replace HB := bB HB hb; clear hb hbox hg) | ((with_reducible refine gq (N := 3) rfl ?_); refine be (N := 3) (cs := #[.int .i64 a1_0, .int .i64 a1_1, .int .i64 a1_2]) (t := 27) ?_; intro A9 hg w7 hbox hb; have A1 := Z.m (hbox); have A5 := gW (w := w) HB hg; have A7 := A5; have A2 := neL A0 hg; have A3 := neG A0 hg; replace A0 := kB A0 hb; replace HB := bB HB hb; clear hb hbox hg; have Bd := A2.o; have Be := A3.o; have AW := bc0 A0; have AX := bc1 A0; have AY := bc2 A0; have AZ := qz A0.o 0; have B0 := qz A0.o 1; have B2 := qz A0.o 2; have Aa := bc0 A1; have Ab := bc1 A1; have Ac := bc2 A1; have Av := qz A1.o 0; have Aw := qz A1.o 1; have Ax := qz A1.o 2))
    go_ret
    exact ⟨by first | rfl | (simp [eN, eS] <;> rfl) | (simp [*, eN, eS] <;> rfl), vB HB⟩
   ·rw [if_neg c5] at H
    have AU := beq_eq_false_iff_ne.mpr c5
    have AV := bne_iff_ne.mpr c5
    obtain rfl := Option.some.inj H
    go_enter Try.func17, Try.ntmps17
    go_wp2_with (first | ((with_reducible refine gq (N := 2) rfl ?_); refine be (N := 2) (cs := #[.int .i64 a0_0, .int .i64 a0_1, .int .i64 a0_2]) (t := 27) ?_; intro A8 hg Bg hbox hb; have A0 := Z.m (hbox); have A4 := gW (w := w) HB hg; have A6 := A4; replace HB := bB HB hb; clear hb hbox hg) | ((with_reducible refine gq (N := 3) rfl ?_); refine be (N := 3) (cs := #[.int .i64 a1_0, .int .i64 a1_1, .int .i64 a1_2]) (t := 27) ?_; intro A9 hg Bh hbox hb; have A1 := Z.m (hbox); have A5 := gW (w := w) HB hg; have A7 := A5; have A2 := neL A0 hg; have A3 := neG A0 hg; replace A0 := kB A0 hb; replace HB := bB HB hb; clear hb hbox hg; have B3 := A2.o; have Ba := A3.o; have Ad := bc0 A0; have Ae := bc1 A0; have Af := bc2 A0; have Ay := qz A0.o 0; have Az := qz A0.o 1; have AA := qz A0.o 2; have Ag := bc0 A1; have Ah := bc1 A1; have Ai := bc2 A1; have AB := qz A1.o 0; have AC := qz A1.o 1; have AD := qz A1.o 2))
    go_ret
    exact ⟨by first | rfl | (simp [eN, eS] <;> rfl) | (simp [*, eN, eS] <;> rfl), vB HB⟩
  ·rw [if_neg c4] at H
   have AS := beq_eq_false_iff_ne.mpr c4
   have AT := bne_iff_ne.mpr c4
   obtain rfl := Option.some.inj H
   go_enter Try.func17, Try.ntmps17
   go_wp2_with (first | ((with_reducible refine gq (N := 2) rfl ?_); refine be (N := 2) (cs := #[.int .i64 a0_0, .int .i64 a0_1, .int .i64 a0_2]) (t := 27) ?_; intro A8 hg Bi hbox hb; have A0 := Z.m (hbox); have A4 := gW (w := w) HB hg; have A6 := A4; replace HB := bB HB hb; clear hb hbox hg) | ((with_reducible refine gq (N := 3) rfl ?_); refine be (N := 3) (cs := #[.int .i64 a1_0, .int .i64 a1_1, .int .i64 a1_2]) (t := 27) ?_; intro A9 hg Bj hbox hb; have A1 := Z.m (hbox); have A5 := gW (w := w) HB hg; have A7 := A5; have A2 := neL A0 hg; have A3 := neG A0 hg; replace A0 := kB A0 hb; replace HB := bB HB hb; clear hb hbox hg; have B7 := A2.o; have Bb := A3.o; have Aj := bc0 A0; have Ak := bc1 A0; have Al := bc2 A0; have AE := qz A0.o 0; have AF := qz A0.o 1; have AG := qz A0.o 2; have Am := bc0 A1; have An := bc1 A1; have Ao := bc2 A1; have AH := qz A1.o 0; have AI := qz A1.o 1; have AJ := qz A1.o 2))
   go_ret
   exact ⟨by first | rfl | (simp [eN, eS] <;> rfl) | (simp [*, eN, eS] <;> rfl), vB HB⟩
 ·rw [if_neg c3] at H
  have AQ := beq_eq_false_iff_ne.mpr c3
  have AR := bne_iff_ne.mpr c3
  obtain rfl := Option.some.inj H
  go_enter Try.func17, Try.ntmps17
  go_wp2_with (first | ((with_reducible refine gq (N := 2) rfl ?_); refine be (N := 2) (cs := #[.int .i64 a0_0, .int .i64 a0_1, .int .i64 a0_2]) (t := 27) ?_; intro A8 hg Bk hbox hb; have A0 := Z.m (hbox); have A4 := gW (w := w) HB hg; have A6 := A4; replace HB := bB HB hb; clear hb hbox hg) | ((with_reducible refine gq (N := 3) rfl ?_); refine be (N := 3) (cs := #[.int .i64 a1_0, .int .i64 a1_1, .int .i64 a1_2]) (t := 27) ?_; intro A9 hg Bl hbox hb; have A1 := Z.m (hbox); have A5 := gW (w := w) HB hg; have A7 := A5; have A2 := neL A0 hg; have A3 := neG A0 hg; replace A0 := kB A0 hb; replace HB := bB HB hb; clear hb hbox hg; have B8 := A2.o; have Bc := A3.o; have Ap := bc0 A0; have Aq := bc1 A0; have Ar := bc2 A0; have AK := qz A0.o 0; have AL := qz A0.o 1; have AM := qz A0.o 2; have As := bc0 A1; have At := bc1 A1; have Au := bc2 A1; have AN := qz A1.o 0; have AO := qz A1.o 1; have AP := qz A1.o 2))
  go_ret
  exact ⟨by first | rfl | (simp [eN, eS] <;> rfl) | (simp [*, eN, eS] <;> rfl), vB HB⟩

end Go.Proofs.Ytoklfgjemfojgaa.PAll
