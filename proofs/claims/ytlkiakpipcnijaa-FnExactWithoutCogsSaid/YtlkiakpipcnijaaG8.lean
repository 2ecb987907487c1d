/- Began as a text that print.sh wrote (of the functions named below); turned and shortened by this session. -/
import Derived.Test.YtlkiakpipcnijaaG0
import Derived.Test.YtlkiakpipcnijaaG6
namespace Go.Proofs.Ytlkiakpipcnijaa.PAll
open Go.RowKit Go.Proofs.YtlkiakpipcnijaaW.PrintWords Go.Proofs.YtlkiakpipcnijaaW.PrintLast Go.Proofs.YtlkiakpipcnijaaW.PrintMore
attribute [local go_sem] max2_int min2_int max_two min_two max_three min_three max_four min_four   -- for this text's walks alone
set_option linter.unusedVariables false
set_option linter.unusedSimpArgs false

/-! ### spec_l1Most: function 84 -/
def spec_l1Most.f (a0 : Int) (a1 : Int) : Option (Int) := if a0 > a1 then (some a0) else (some a1)
set_option maxHeartbeats 8000000 in
set_option maxRecDepth 100000 in
theorem spec_l1Most.calls (a0 : Int) (a1 : Int) (r : Int) (w : World) (h : spec_l1Most.f a0 a1 = some r) :
 Calls Try.prog 84 #[.int .i64 a0, .int .i64 a1] w fun e w' => e = .returned (.int .i64 r) ∧ Drawn0 w w' := by
 have H : (if a0 > a1 then (some a0) else (some a1)) = some r := h
 clear h
 by_cases c3 : a0 > a1
 ·rw [if_pos c3] at H
  have A0 := decide_eq_true c3
  clear c3
  obtain rfl := Option.some.inj H
  go_enter Try.func84, Try.ntmps84
  go_wp2
  go_ret
  exact ⟨by first | rfl | (simp; done) | (simp [*]; done), by repeat (first | exact Drawn0.refl _ | apply Drawn0.step)⟩
 ·rw [if_neg c3] at H
  have A0 := decide_eq_false c3
  clear c3
  obtain rfl := Option.some.inj H
  go_enter Try.func84, Try.ntmps84
  go_wp2
  go_ret
  exact ⟨by first | rfl | (simp; done) | (simp [*]; done), by repeat (first | exact Drawn0.refl _ | apply Drawn0.step)⟩

/-! ### spec_ggCount: function 60 -/
def spec_ggCount.l0 : Nat → Int → List Int → Int → Int → Option (Int)
 | 0, _, _, _, _ => none
 | k + 1, x3, x6, x7, x8 => if x8 < x7 then (if 0 ≤ x8 then (if x8 < (x6.length : Int) then ((spec_l1Most.f x3 (wrap64 ((rd x6 x8) + 1))).bind fun t189 => (spec_ggCount.l0 k t189 x6 x7 (wrap64 (x8 + 1)))) else (none)) else (none)) else (some x3)
def spec_ggCount.f (k : Nat) (l0 : List Int) : Option (Int) := spec_ggCount.l0 k 0 l0 (l0.length : Int) 0
set_option maxHeartbeats 8000000 in
set_option maxRecDepth 100000 in
theorem spec_ggCount.calls (k : Nat) (A0 : Option Addr) (c0 : Nat) (l0 : List Int) (r : Int) (w : World) (hr0 : Kd.C (Kd.int .i64) w A0 l0.length l0) (hc0 : l0.length ≤ c0) (h : spec_ggCount.f k l0 = some r) :
 Calls Try.prog 60 #[.slice A0 l0.length c0] w fun e w' => e = .returned (.int .i64 r) ∧ Drawn0 w w' := by
 have Aa := Z.m hr0
 have Ad := Z.m hc0
 clear hr0 hc0
 have H : (spec_ggCount.l0 k 0 l0 (l0.length : Int) 0) = some r := h
 clear h
 have H' := Z.m H
 clear H
 go_enter Try.func60, Try.ntmps60
 go_wp2
 go_loopg [3, 8] k (fun kq v3 v8 w' => ∃ (A2 : Int) (A1 : Int), v3 = .int .i64 A2 ∧ v8 = .int .i64 A1 ∧ Z (spec_ggCount.l0 kq A2 l0 (l0.length : Int) A1 = some r) ∧ Z (kq ≤ k) ∧ Drawn0 w w')
 case atStart => exact ⟨(0), (0), (by first | rfl | (simp; done) | (simp [*]; done)), (by first | rfl | (simp; done) | (simp [*]; done)), H', ⟨Nat.le_refl _⟩, by repeat (first | exact Drawn0.refl _ | apply Drawn0.step)⟩
 case round =>
  clear H'
  obtain ⟨A2, A1, rfl, rfl, HA, A8, ⟨m1, rfl⟩⟩ := hrel
  cases gk with
  | zero => exact absurd HA.o (by simp [spec_ggCount.l0])
  | succ k1 =>
   have H := HA.o
   clear HA
   simp only [spec_ggCount.l0] at H
   by_cases c2 : A1 < (l0.length : Int)
   ·rw [if_pos c2] at H
    have A6 := decide_eq_true c2
    clear c2
    by_cases c3 : 0 ≤ A1
    ·rw [if_pos c3] at H
     have Ab := decide_eq_true c3
     clear c3
     by_cases c4 : A1 < (l0.length : Int)
     ·rw [if_pos c4] at H
      have Ac := decide_eq_true c4
      clear c4
      replace H := Option.bind_eq_some_iff.mp H
      obtain ⟨A3, A7, H⟩ := H
      replace H : (spec_ggCount.l0 k1 A3 l0 (l0.length : Int) (wrap64 (A1 + 1))) = some r := H
      have A5 := Z.m A7
      clear A7
      have H' := Z.m H
      clear H
      have p188 : 0 ≤ (A1 : Int) := ofD
      have q188 : A1 < (l0.length : Int) := ofD
      obtain ⟨A9, e188, A4⟩ := Kd.at_int Aa.o A1 p188 q188
      cases e188
      replace p188 := eq_true p188
      replace q188 := eq_true q188
      go_wp2_with (first | ((with_reducible refine gc (f := 84) rfl ?_); refine gA (some 15) _ #[.int .i64 A2, .int .i64 (wrap64 ((rd l0 A1) + 1))] ?_ Try.func84; (with_reducible refine (spec_l1Most.calls A2 (wrap64 ((rd l0 A1) + 1)) A3 _ A5.o).mono ?_); rintro e w' ⟨rfl, ⟨nd, rfl⟩⟩; refine ⟨_, rfl, ?_⟩))
      go_roundg k1
      case measure => have := A8.o; omega
      case rel => exact ⟨(A3), (wrap64 (A1 + 1)), (by first | rfl | (simp; done) | (simp [*]; done)), (by first | rfl | (simp; done) | (simp [*]; done)), H', ⟨by have := A8.o; omega⟩, by repeat (first | exact Drawn0.refl _ | apply Drawn0.step)⟩
     ·rw [if_neg c4] at H
      exact absurd H (by simp)
    ·rw [if_neg c3] at H
     exact absurd H (by simp)
   ·rw [if_neg c2] at H
    have A6 := decide_eq_false c2
    clear c2
    obtain rfl := Option.some.inj H
    go_wp2
    go_ret
    exact ⟨by first | rfl | (simp; done) | (simp [*]; done), by repeat (first | exact Drawn0.refl _ | apply Drawn0.step)⟩

/-! ### spec_ggGears: function 68 -/
mutual
def spec_ggGears.l0 : Nat → List Int → List (List Int) → Int → Int → Int → Int → List (S71) → Option ((List (List Int)))
 | 0, _, _, _, _, _, _, _ => none
 | k + 1, x3, x4, x14, x15, x191000, x191001, x191002 => if x15 < x14 then (if 0 ≤ x15 then (if x15 < (x4.length : Int) then (spec_ggGears.l0 k x3 (x4.set (x15 : Int).toNat (([0, 0] : List Int))) x14 (wrap64 (x15 + 1)) x191000 x191001 x191002) else (none)) else (none)) else (spec_ggGears.l1 k x4 x3 (x3.length : Int) 0 x191000 x191001 x191002)
def spec_ggGears.l1 : Nat → List (List Int) → List Int → Int → Int → Int → Int → List (S71) → Option ((List (List Int)))
 | 0, _, _, _, _, _, _, _ => none
 | k + 1, x4, x23, x24, x25, x191000, x191001, x191002 => if x25 < x24 then (if 0 ≤ x25 then (if x25 < (x23.length : Int) then (if x25 < (x191002.length : Int) then (if ((rd_T71 x191002 x25).f0) = 6 then (if 0 ≤ (rd x23 x25) then (if (rd x23 x25) < (x4.length : Int) then (if 0 ≤ ((rd_T71 x191002 x25).f1) then (if ((rd_T71 x191002 x25).f1) < ((rd_L3 x4 (rd x23 x25)).length : Int) then (spec_ggGears.l1 k (x4.set ((rd x23 x25) : Int).toNat ((rd_L3 x4 (rd x23 x25)).set (((rd_T71 x191002 x25).f1) : Int).toNat (wrap64 ((rd (rd_L3 x4 (rd x23 x25)) ((rd_T71 x191002 x25).f1)) + 1)))) x23 x24 (wrap64 (x25 + 1)) x191000 x191001 x191002) else (none)) else (none)) else (none)) else (none)) else (spec_ggGears.l1 k x4 x23 x24 (wrap64 (x25 + 1)) x191000 x191001 x191002)) else (none)) else (none)) else (none)) else (some x4)
end
def spec_ggGears.f (k : Nat) (a0_0 : Int) (a0_1 : Int) (l0_2 : List (S71)) : Option ((List (List Int))) := (spec_ggGroups.f k a0_0 a0_1 l0_2).bind fun t191 => ((spec_ggCount.f k t191).bind fun t194 => (if 0 ≤ t194 then (if (t194 : Int).toNat ≤ 11728124029610 then ((some (List.replicate (t194 : Int).toNat [] : List (List Int))).bind fun y195 => (spec_ggGears.l0 k t191 y195 (y195.length : Int) 0 a0_0 a0_1 l0_2)) else (none)) else (none)))
def spec_ggGears.T12 : Bool × List (List Nat × List Nat) := (true, [([], []), ([], []), ([0, 1], [0, 1]), ([2], [2]), ([], []), ([4], [4]), ([], []), ([5, 6], [5, 6]), ([7], [7]), ([8], [8]), ([3, 9], [3, 9]), ([10], [10]), ([11], [11]), ([3, 9, 0, 1, 2, 3, 4, 5, 6, 7, 8, 9, 10, 11, 12], [3, 9]), ([13, 12, 0, 1, 2, 3, 4, 5, 6, 7, 8, 9, 10, 11, 12], [12, 13])])
def spec_ggGears.B12 : List Nat := [0, 0, 3, 7, 0, 16, 0, 112, 240, 496, 1023, 2047, 4095, 8191, 16383]
theorem spec_ggGears.tab12 : rtab .any (opsOf Try.f68 12) = spec_ggGears.T12 := by kernel_rfl
theorem spec_ggGears.bits12 : waitsOk spec_ggGears.T12.2 spec_ggGears.B12 = true := by kernel_rfl
set_option maxHeartbeats 8000000 in
set_option maxRecDepth 100000 in
theorem spec_ggGears.calls (k : Nat) (a0_0 : Int) (a0_1 : Int) (A0_2 : Option Addr) (c0_2 : Nat) (l0_2 : List (S71)) (r : List (List Int)) (w : World) (hr0_2 : Kd.C k71 w A0_2 l0_2.length l0_2) (hc0_2 : l0_2.length ≤ c0_2) (h : spec_ggGears.f k a0_0 a0_1 l0_2 = some r) :
 Calls Try.prog 68 #[.agg #[.int .i64 a0_0, .int .i64 a0_1, .slice A0_2 l0_2.length c0_2]] w fun e w' => ∃ v0_ : Value, e = .returned (v0_) ∧ Kd.S (Kd.slice 3 (Kd.int .i64)) 38 w' w.heap.size (fun _ => True) v0_ r ∧ Below w.heap.size w w' := by
 have Cv := Try.underlying30
 have Az := Z.m hr0_2
 have Bl := Z.m hc0_2
 clear hr0_2 hc0_2
 have HB := Z.m (Below.refl w.heap.size w)
 have H : ((spec_ggGroups.f k a0_0 a0_1 l0_2).bind fun A9 => ((spec_ggCount.f k A9).bind fun Ae => (if 0 ≤ Ae then (if (Ae : Int).toNat ≤ 11728124029610 then ((some (List.replicate (Ae : Int).toNat [] : List (List Int))).bind fun Af => (spec_ggGears.l0 k A9 Af (Af.length : Int) 0 a0_0 a0_1 l0_2)) else (none)) else (none)))) = some r := h
 clear h
 replace H := Option.bind_eq_some_iff.mp H
 obtain ⟨A9, C6, H⟩ := H
 replace H : ((spec_ggCount.f k A9).bind fun Ae => (if 0 ≤ Ae then (if (Ae : Int).toNat ≤ 11728124029610 then ((some (List.replicate (Ae : Int).toNat [] : List (List Int))).bind fun Af => (spec_ggGears.l0 k A9 Af (Af.length : Int) 0 a0_0 a0_1 l0_2)) else (none)) else (none))) = some r := H
 have A2 := Z.m C6
 clear C6
 replace H := Option.bind_eq_some_iff.mp H
 obtain ⟨Ae, C7, H⟩ := H
 replace H : (if 0 ≤ Ae then (if (Ae : Int).toNat ≤ 11728124029610 then ((some (List.replicate (Ae : Int).toNat [] : List (List Int))).bind fun Af => (spec_ggGears.l0 k A9 Af (Af.length : Int) 0 a0_0 a0_1 l0_2)) else (none)) else (none)) = some r := H
 have A3 := Z.m C7
 clear C7
 by_cases c4 : 0 ≤ Ae
 ·rw [if_pos c4] at H
  have BY := eq_true c4
  have BZ := decide_eq_true c4
  clear c4
  by_cases c5 : (Ae : Int).toNat ≤ 11728124029610
  ·rw [if_pos c5] at H
   have C0 := eq_true c5
   have C1 := decide_eq_true c5
   clear c5
   obtain ⟨Af, As⟩ : ∃ y_ : List (List Int), y_ = (List.replicate (Ae : Int).toNat []) := ⟨_, rfl⟩
   replace H : (spec_ggGears.l0 k A9 Af (Af.length : Int) 0 a0_0 a0_1 l0_2) = some r := by first | (rw [As]; with_reducible exact H) | (have H2_ := (Option.bind_some _ _).symm.trans H; rw [As]; with_reducible exact H2_) | (have H2_ := (Option.bind_some _ _).symm.trans H; with_reducible exact H2_) | with_reducible exact H | (rw [As]; exact H) | exact H
   have AO := Z.m As
   clear As
   have H' := Z.m H
   clear H
   go_enter Try.func68, Try.ntmps68
   go_wp2_with (first | ((with_reducible refine gq (N := 1) rfl ?_); refine be (N := 1) (cs := #[.int .i64 a0_0, .int .i64 a0_1, .slice A0_2 l0_2.length c0_2]) (t := 30) ?_; intro An hg w6 hbox hb; have A1 := Z.m (hbox); have Bk := gW (w := w) HB hg; have C8 := Bk; replace HB := bB HB hb; clear hb hbox hg; have AV := bc0 A1; have AW := bc1 A1; have AX := bc2 A1; have B2 := qz A1.o 0; have B7 := qz A1.o 1; have Ba := qz A1.o 2) | ((with_reducible refine gc (f := 54) rfl ?_); refine gA (some 9) _ #[.agg #[.int .i64 a0_0, .int .i64 a0_1, .slice A0_2 l0_2.length c0_2]] ?_ Try.func54; (with_reducible refine (spec_ggGroups.calls k a0_0 a0_1 _ _ l0_2 A9 _ ?side1 ?side2 A2.o).mono ?_); (case side1 => repeat (first | exact (Kd.C_below Az.o HB.o) | (with_reducible refine Kd.C_alloc ?_ _) | (with_reducible refine Kd.C_drewN ?_ _) | (with_reducible refine Kd.C_drew ?_))); (case side2 => exact Bl.o); rintro e w8 ⟨Cw, rfl, Cm, hb⟩; refine ⟨_, rfl, ?_⟩; have Al := Z.m (Kd.R_lower Cm (below_size (vB HB))); replace A1 := kB A1 hb; replace HB := bB HB hb; (try clear hb); (try clear Cy); (try clear hk); (try clear hi); (try clear Cm); obtain ⟨AI, AL, Cu⟩ := Kd.R_slice Al.o; subst Cu) | ((with_reducible refine gc (f := 60) rfl ?_); refine gA (some 11) _ #[.slice AI A9.length AL] ?_ Try.func60; (with_reducible refine (spec_ggCount.calls k _ _ A9 Ae _ ?side1 ?side2 A3.o).mono ?_); (case side1 => repeat (first | exact (Kd.RrZ Al.o).2.2 | (with_reducible refine Kd.C_alloc ?_ _) | (with_reducible refine Kd.C_drewN ?_ _) | (with_reducible refine Kd.C_drew ?_))); (case side2 => exact (Kd.RrZ Al.o).2.1); rintro e w' ⟨rfl, ⟨nd, rfl⟩⟩; refine ⟨_, rfl, ?_⟩) | ((with_reducible refine gq (N := 12) rfl ?_); refine Kd.S_make (Kd.slice 3 (Kd.int .i64)) _ 38 rfl (N := 12) rfl 74 _ _ rfl Ae rfl rfl Try.underlying74 (.slice none 0 0) 24 info38 rfl (by decide) (by omega) [] (ok := fun _ => True) (okp := fun _ => True) ⟨_, rfl, Kd.R_nil _ _ _ _ _⟩ (fun _ hk => hk) trivial (ofD) (Nat.le_trans (Nat.mul_le_mul_right _ (ofD : Ae.toNat ≤ 11728124029610)) (by omega)) (Below.refl _ _) (Nat.le_refl _) ?_; intro Cx Cz AH hb hg_ hnew_; clear hg_ hnew_; (first | rw [← AO.o] at AH | (simp only [Int.reduceToNat] at AH; rw [← AO.o] at AH)); have AN := Z.m (Kd.S_lower (Kd.S_new' AH (Kd.R_lt (vR Al))) (below_size (vB HB))); replace Al := Z.m (Kd.Rb (vR Al) hb); replace A1 := kB A1 hb; replace HB := bB HB hb; clear hb AH; obtain ⟨Bj, AF, C2⟩ := Kd.S_slice AN.o; subst C2))
   go_loopg [15] k (fun kq v15 w' => ∃ (Ag : List (List Int)) (A5 : Int), v15 = .int .i64 A5 ∧ Z (spec_ggGears.l0 kq A9 Ag (Af.length : Int) A5 a0_0 a0_1 l0_2 = some r) ∧ Z (kq ≤ k) ∧ Z (Kd.R (Kd.int .i64) 3 w' w.heap.size (fun _ => True) (.slice AI A9.length AL) A9) ∧ Z (Kd.S (Kd.slice 3 (Kd.int .i64)) 38 w' w.heap.size (fun k_ => some k_ ≠ ((.slice AI A9.length AL) : Value).ownBlock) (.slice Bj Af.length AF) Ag) ∧ Z (w'.heap[An]? = some (.cells #[.int .i64 a0_0, .int .i64 a0_1, (.slice A0_2 l0_2.length c0_2)] 30 (0, 0))) ∧ Z (Below w.heap.size w w'))
   case atStart => exact ⟨(Af), (0), (by first | rfl | (simp; done) | (simp [*]; done)), H', ⟨Nat.le_refl _⟩, ⟨vR Al⟩, ⟨by (with_reducible repeat (first | apply Kd.S_alloc | apply Kd.S_drewN | apply Kd.S_drew)); exact Kd.S_mono AN.o (fun _ hk => hk.2)⟩, ⟨vK A1⟩, ⟨vB HB⟩⟩
   case round =>
    clear H'
    (try clear BY); (try clear BZ); (try clear C0); (try clear C1)
    (try clear AV); (try clear AW); (try clear AX); (try clear B2); (try clear B7); (try clear Ba)
    obtain ⟨Ag, A5, rfl, HA, Bi, Ar, A6, A1, HB⟩ := hrel
    have A7 := (Kd.S_reads' A6.o).1
    rw [A7] at A6
    (try simp only [A7])
    (try simp only [A7] at A1)
    (try simp only [A7] at Ar)
    cases gk with
    | zero => exact absurd HA.o (by simp [spec_ggGears.l0])
    | succ k1 =>
     have H := HA.o
     clear HA
     simp only [spec_ggGears.l0] at H
     by_cases c13 : A5 < (Af.length : Int)
     ·rw [if_pos c13] at H
      have AE := decide_eq_true c13
      clear c13
      obtain ⟨Bf, At⟩ : ∃ y_ : List Int, y_ = (([0, 0] : List Int)) := ⟨_, rfl⟩
      replace H : (if 0 ≤ A5 then (if A5 < (Ag.length : Int) then (spec_ggGears.l0 k1 A9 (Ag.set (A5 : Int).toNat Bf) (Af.length : Int) (wrap64 (A5 + 1)) a0_0 a0_1 l0_2) else (none)) else (none)) = some r := by first | (rw [At]; with_reducible exact H) | (have H2_ := (Option.bind_some _ _).symm.trans H; rw [At]; with_reducible exact H2_) | (have H2_ := (Option.bind_some _ _).symm.trans H; with_reducible exact H2_) | with_reducible exact H | (rw [At]; exact H) | exact H
      have AB := Z.m At
      clear At
      by_cases c14 : 0 ≤ A5
      ·rw [if_pos c14] at H
       have Ca := decide_eq_true c14
       clear c14
       by_cases c15 : A5 < (Ag.length : Int)
       ·rw [if_pos c15] at H
        have Cb := decide_eq_true c15
        clear c15
        obtain ⟨Bg, Au⟩ : ∃ y_ : List (List Int), y_ = (Ag.set (A5 : Int).toNat Bf) := ⟨_, rfl⟩
        replace H : (spec_ggGears.l0 k1 A9 Bg (Af.length : Int) (wrap64 (A5 + 1)) a0_0 a0_1 l0_2) = some r := by first | (rw [Au]; with_reducible exact H) | (have H2_ := (Option.bind_some _ _).symm.trans H; rw [Au]; with_reducible exact H2_) | (have H2_ := (Option.bind_some _ _).symm.trans H; with_reducible exact H2_) | with_reducible exact H | (rw [Au]; exact H) | exact H
        have Bo := Z.m Au
        clear Au
        have H' := Z.m H
        clear H
        go_wp2_with (first | ((with_reducible refine gq (N := 20) rfl ?_); refine Kd.R_lit (Kd.int .i64) _ 3 ?hg (N := 20) ?hd (xs := ([0, 0] : List Int)) (inner := [.int .i64 0, .int .i64 0]) (ok := fun _ => True) (okp := fun _ => True) ?hr ?hp (fun _ hk => hk) trivial (Below.refl _ _) (Nat.le_refl _) (by simp) ?_; (case hd => rfl); (case hg => rfl); (case hr => first | (go_simp; done) | (go_simp; rfl)); (case hp => exact (Reps.one (show Kd.M (Kd.int .i64) _ _ _ 0 [.int .i64 0] from rfl) (Reps.one (show Kd.M (Kd.int .i64) _ _ _ 0 [.int .i64 0] from rfl) (Reps.none _ _)))); intro Be C4 Ay hb hg_ hnew_; clear hg_ hnew_; (first | rw [← AB.o] at Ay | (simp only [Int.reduceToNat] at Ay; rw [← AB.o] at Ay)); have Aq := Z.m (Kd.R_lower (Kd.R_new' Ay (Kd.R_lt (vR Ar))) (below_size (vB HB))); replace Ar := Z.m (Kd.R_elder' (vR Ar) (Kd.R_base Ay) hb); replace A6 := Z.m (Kd.S_elder' (vS A6) (Kd.R_base Ay) hb); replace A1 := kB A1 hb; replace HB := bB HB hb; clear hb Ay; have p16 : 0 ≤ (A5 : Int) := ofD; have q16 : (A5 : Int) < ((Ag.length : Int) : Int) := ofD; obtain ⟨Ax, Cs, Bw, By, gl16, cl16, Bm⟩ := Kd.S_form A6.o (by omega); (first | cases Bw | (injection Bw with ea_ en_ ec_; (first | subst ea_ | (injection ea_ with ea_; subst ea_)); subst ec_; clear en_)); have BV := Z.m By; have Co := Z.m Bm; clear By gl16 Bm; obtain ⟨_, Cp, BC, BA, AP, AS, _, _⟩ := Kd.S_elem A6.o [] (A5 : Int) p16 q16; obtain ⟨ve16_0, rfl, ge16_0⟩ := BA; have Bb := AP 0 _ rfl; have AY := AS 0; (try simp only [show ((Kd.slice 3 (Kd.int .i64))).sz = 1 from rfl, Nat.mul_one, Nat.add_zero] at Bb); (try simp only [show ((Kd.slice 3 (Kd.int .i64))).sz = 1 from rfl, Nat.mul_one, Nat.add_zero] at AY); (try clear BC); (try clear AP); (try clear AS); (try clear BA); replace p16 := eq_true p16; replace q16 := eq_true q16; have BX := Z.m (show Kd.S (Kd.slice 3 (Kd.int .i64)) 38 C4 w.heap.size (fun k_ => ((fun k_ => some k_ ≠ (.slice AI A9.length AL : Value).ownBlock)) k_ ∧ ¬ ((fun k_ => some k_ = (Be : Value).ownBlock)) k_) (.slice (some ⟨Ax, 0, none⟩) Ag.length AF) Ag from (by (with_reducible repeat (first | apply Kd.S_alloc | apply Kd.S_drewN | apply Kd.S_drew)); exact Kd.S_mono A6.o (fun k_ hk => ⟨hk.1, fun e_ => hk.2 e_⟩))); obtain ⟨oki19, Cq, BD, BB, AQ, AT, hoki19, hH19⟩ := Kd.S_elem BX.o [] (A5 : Int) (ofD) (by have h_ : (A5 : Int) < ((Ag.length : Int) : Int) := ofD; first | exact h_ | (have e_ := (Kd.S_reads' A6.o).1; omega) | simpa using h_); obtain ⟨ve19_0, rfl, ge19_0⟩ := BB; have AJ := Kd.S_seg hH19 (ofD) (by have h_ : (A5 : Int) < ((Ag.length : Int) : Int) := ofD; first | exact h_ | (have e_ := (Kd.S_reads' A6.o).1; omega) | simpa using h_) (seg := [Be]) (j := 0) (show 1 ≤ 1 from by decide) (x' := Bf) (Kd.M_row (Kd.Rm (Kd.Rg rfl (Kd.Rm (ok' := fun k_ => ((fun k_ => some k_ ≠ (.slice AI A9.length AL : Value).ownBlock)) k_ ∧ k_ ≠ Ax) (Kd.Ra (Aq.o) (Kd.S_typed A6.o) (by decide)) (fun k_ hk => ⟨hk.1.2, fun e_ => (hk.2) (by rw [e_]; rfl)⟩))) (fun _ h_ => Or.inr (h_)))) (fun _ hk => hk) (fun k_ hk_ => ((Kd.Rm (ok' := fun k_ => ((fun k_ => some k_ ≠ (.slice AI A9.length AL : Value).ownBlock)) k_ ∧ k_ ≠ Ax) (Kd.Ra (Aq.o) (Kd.S_typed A6.o) (by decide)) (fun k_ hk => ⟨hk.1.2, fun e_ => (hk.2) (by rw [e_]; rfl)⟩))).1 k_ hk_.symm); have Bc := AQ 0 _ rfl; (try simp only [show ((Kd.slice 3 (Kd.int .i64))).sz = 1 from rfl, Nat.mul_one, Nat.add_zero] at Bc); have AZ := AT 0; (try simp only [show ((Kd.slice 3 (Kd.int .i64))).sz = 1 from rfl, Nat.mul_one, Nat.add_zero] at AZ); (try clear BD); (try clear AQ); (try clear AT); (try clear BB); (try clear hoki19); (try clear hH19); (try simp only [show ((Kd.slice 3 (Kd.int .i64))).sz = 1 from rfl, Nat.mul_one, Nat.add_zero] at AJ)) | ((with_reducible refine gt (t := 38) (p := 21) rfl ?_); refine store_event (t := 38) (p := 21) (v := ?vo_w20) (w1 := (C4.setCell ⟨Ax, (A5 : Int).toNat, none⟩ (Be))) ?hg ?ho ?hn ?hr ?_; (case ho => rfl); (case hg => rfl); (case hn => rfl); (case hr => first | (go_simp; done) | (go_simp; rfl) | (obtain ⟨_, _, e_, _⟩ := Kd.R_form Aq.o (by rw [AB.o]; decide); rw [e_]; go_simp; done) | (obtain ⟨_, _, e_, _⟩ := Kd.R_form Aq.o (by rw [AB.o]; decide); rw [e_]; go_simp; rfl)); intro C5 hw; have hg : C4.grownBy C5 (some Ax) := (by rw [hw]; exact AJ.2); have hp_ : Kd.S (Kd.slice 3 (Kd.int .i64)) 38 C5 w.heap.size (fun k_ => some k_ ≠ (.slice AI A9.length AL : Value).ownBlock) (.slice (some ⟨Ax, 0, none⟩) Ag.length AF) Bg := (by rw [hw, Bo.o]; exact AJ.1); clear AJ; replace Ar := Z.m (Kd.Ro (v := (.slice (some ⟨Ax, 0, none⟩) Ag.length AF)) (vR Ar) (Kd.S_typed A6.o) (by decide) hg); replace A1 := Z.m (qg (g := An) (o := .cells #[.int .i64 a0_0, .int .i64 a0_1, .slice A0_2 l0_2.length c0_2] 30 (0, 0)) (vK A1) hg (Kd.S_ne A6.o A1.o (by decide))); replace A6 := Z.m (hp_); replace HB := Z.m ((by rw [hw]; exact qx (HB.o) BV.o : Below w.heap.size w C5)); clear Aq; clear hg hw hp_))
        (try simp only [← A7])
        go_roundg k1
        case measure => have := Bi.o; omega
        case rel => exact ⟨(Bg), (wrap64 (A5 + 1)), (by first | rfl | (simp; done) | (simp [*]; done)), H', ⟨by have := Bi.o; omega⟩, ⟨by (try simp only [A7]); refine rK ?_; exact Kd.Rm Ar.o (fun _ hk => trivial)⟩, ⟨by (try simp only [A7]); (with_reducible repeat (first | apply Kd.S_alloc | apply Kd.S_drewN | apply Kd.S_drew)); exact A6.o⟩, ⟨by (try simp only [A7]); refine bK ?_; exact A1.o⟩, ⟨vB HB⟩⟩
       ·rw [if_neg c15] at H
        exact absurd H (by simp)
      ·rw [if_neg c14] at H
       exact absurd H (by simp)
     ·rw [if_neg c13] at H
      have AE := decide_eq_false c13
      (try simp only [A7] at AE)
      clear c13
      have H' := Z.m H
      clear H
      go_wp2
      go_loopg [25] k1 (fun kq v25 w' => ∃ (Aa : List (List Int)) (A4 : List Int) (A0 : Int), v25 = .int .i64 A0 ∧ Z (spec_ggGears.l1 kq Aa A4 (A9.length : Int) A0 a0_0 a0_1 l0_2 = some r) ∧ Z (kq ≤ k1) ∧ Z (Kd.S (Kd.slice 3 (Kd.int .i64)) 38 w' w.heap.size (fun k_ => some k_ ≠ ((.slice AI A9.length AL) : Value).ownBlock) (.slice Bj Ag.length AF) Aa) ∧ Z (Kd.R (Kd.int .i64) 3 w' w.heap.size (fun _ => True) (.slice AI A9.length AL) A4) ∧ Z (w'.heap[An]? = some (.cells #[.int .i64 a0_0, .int .i64 a0_1, (.slice A0_2 l0_2.length c0_2)] 30 (0, 0))) ∧ Z (Below w.heap.size w w'))
      case atStart => exact ⟨(Ag), (A9), (0), (by first | rfl | (simp; done) | (simp [*]; done)), H', ⟨Nat.le_refl _⟩, ⟨by (try simp only [A7]); (with_reducible repeat (first | apply Kd.S_alloc | apply Kd.S_drewN | apply Kd.S_drew)); exact A6.o⟩, ⟨by (try simp only [A7]); refine rK ?_; exact Ar.o⟩, ⟨by (try simp only [A7]); refine bK ?_; exact A1.o⟩, ⟨vB HB⟩⟩
      case round =>
       clear H'
       (try clear AE)
       obtain ⟨Aa, A4, A0, rfl, HA, BH, A6, Ah, A1, HB⟩ := hrel
       have Ab := (Kd.S_reads' A6.o).1
       rw [Ab] at A6
       (try simp only [Ab])
       (try simp only [Ab] at A1)
       (try simp only [Ab] at Ah)
       have A8 := (Kd.RrZ Ah.o).1
       rw [A8] at Ah
       (try simp only [A8])
       (try simp only [A8] at A1)
       (try simp only [A8] at A6)
       cases gk with
       | zero => exact absurd HA.o (by simp [spec_ggGears.l1])
       | succ k2 =>
        have H := HA.o
        clear HA
        simp only [spec_ggGears.l1] at H
        by_cases c21 : A0 < (A9.length : Int)
        ·rw [if_pos c21] at H
         have AC := decide_eq_true c21
         clear c21
         by_cases c22 : 0 ≤ A0
         ·rw [if_pos c22] at H
          have Cd := decide_eq_true c22
          clear c22
          by_cases c23 : A0 < (A4.length : Int)
          ·rw [if_pos c23] at H
           have Ce := decide_eq_true c23
           clear c23
           by_cases c24 : A0 < (l0_2.length : Int)
           ·rw [if_pos c24] at H
            have Cf := decide_eq_true c24
            clear c24
            by_cases c25 : ((rd_T71 l0_2 A0).f0) = 6
            ·rw [if_pos c25] at H
             have Bu := beq_iff_eq.mpr c25
             have Bv := bne_eq_false_iff_eq.mpr c25
             clear c25
             by_cases c26 : 0 ≤ (rd A4 A0)
             ·rw [if_pos c26] at H
              have Cg := decide_eq_true c26
              clear c26
              by_cases c27 : (rd A4 A0) < (Aa.length : Int)
              ·rw [if_pos c27] at H
               have Ch := decide_eq_true c27
               clear c27
               by_cases c28 : 0 ≤ ((rd_T71 l0_2 A0).f1)
               ·rw [if_pos c28] at H
                have Ci := decide_eq_true c28
                clear c28
                by_cases c29 : ((rd_T71 l0_2 A0).f1) < ((rd_L3 Aa (rd A4 A0)).length : Int)
                ·rw [if_pos c29] at H
                 have Cj := decide_eq_true c29
                 clear c29
                 obtain ⟨Bh, Av⟩ : ∃ y_ : List Int, y_ = ((rd_L3 Aa (rd A4 A0)).set (((rd_T71 l0_2 A0).f1) : Int).toNat (wrap64 ((rd (rd_L3 Aa (rd A4 A0)) ((rd_T71 l0_2 A0).f1)) + 1))) := ⟨_, rfl⟩
                 replace H : (spec_ggGears.l1 k2 (Aa.set ((rd A4 A0) : Int).toNat Bh) A4 (A9.length : Int) (wrap64 (A0 + 1)) a0_0 a0_1 l0_2) = some r := by first | (rw [Av]; with_reducible exact H) | (have H2_ := (Option.bind_some _ _).symm.trans H; rw [Av]; with_reducible exact H2_) | (have H2_ := (Option.bind_some _ _).symm.trans H; with_reducible exact H2_) | with_reducible exact H | (rw [Av]; exact H) | exact H
                 have Bp := Z.m Av
                 clear Av
                 obtain ⟨BF, Aw⟩ : ∃ y_ : List (List Int), y_ = (Aa.set ((rd A4 A0) : Int).toNat Bh) := ⟨_, rfl⟩
                 replace H : (spec_ggGears.l1 k2 BF A4 (A9.length : Int) (wrap64 (A0 + 1)) a0_0 a0_1 l0_2) = some r := by first | (rw [Aw]; with_reducible exact H) | (have H2_ := (Option.bind_some _ _).symm.trans H; rw [Aw]; with_reducible exact H2_) | (have H2_ := (Option.bind_some _ _).symm.trans H; with_reducible exact H2_) | with_reducible exact H | (rw [Aw]; exact H) | exact H
                 have Bq := Z.m Aw
                 clear Aw
                 have H' := Z.m H
                 clear H
                 have p202 : 0 ≤ (A0 : Int) := ofD
                 have q202 : A0 < (A4.length : Int) := ofD
                 obtain ⟨Br, e202, AM⟩ := Kd.at_int (Kd.RrZ Ah.o).2.2 A0 p202 q202
                 cases e202
                 replace p202 := eq_true p202
                 replace q202 := eq_true q202
                 have BI := bc0 A1
                 have BJ := bc1 A1
                 have BK := bc2 A1
                 have BO := qz A1.o 0
                 have BP := qz A1.o 1
                 have BQ := qz A1.o 2
                 have p203 : 0 ≤ (A0 : Int) := ofD
                 have q203 : A0 < (l0_2.length : Int) := ofD
                 obtain ⟨Am, e203, Ac, Ad⟩ := at_T71 Az.o A0 p203 q203
                 cases e203
                 replace Ac := (HB.o.cell (World.block_lt_of_cell? w _ Ac)).trans Ac
                 replace Ad := (HB.o.cell (World.block_lt_of_cell? w _ Ad)).trans Ad
                 replace p203 := eq_true p203
                 replace q203 := eq_true q203
                 try go_wp2
                 replace A6 := Z.m (Kd.S_drew A6.o)
                 replace Ah := Z.m (Kd.R_drew Ah.o)
                 replace A1 := Z.m (blk_drew A1.o)
                 replace HB := Z.m (qd HB.o)
                 have p204 : 0 ≤ ((rd A4 A0) : Int) := ofD
                 have q204 : (rd A4 A0) < (Aa.length : Int) := ofD
                 obtain ⟨Bs, BU, c204_0, e204, Ak, AD, hi204_0⟩ := at_L3 (Kd.S_reads' A6.o).2.2 (rd A4 A0) p204 q204
                 cases e204
                 obtain ⟨Cl, hce204, hMe204, AG⟩ := Kd.S_get A6.o [] (rd A4 A0) p204 (by first | exact q204 | exact ofD | (have e_ := (Kd.S_reads' A6.o).1; omega))
                 obtain ⟨ve204_0, rfl, ge204_0⟩ := hMe204
                 have hv204_0 := AG 0 _ rfl
                 rw [Nat.add_zero, show ((Kd.slice 3 (Kd.int .i64))).sz = 1 from rfl, Nat.mul_one] at hv204_0
                 replace hv204_0 := Option.some.inj (hv204_0.symm.trans Ak)
                 rw [hv204_0] at ge204_0
                 have HL204_0 := Z.m (show Kd.R (Kd.int .i64) 3 _ _ _ _ (rd_L3 Aa (rd A4 A0)) from ge204_0)
                 clear hv204_0 ge204_0
                 have AA := Z.m Ak
                 clear AG hce204
                 have Ao := Z.m hi204_0
                 have BG := Z.m AD
                 clear hi204_0 AD
                 replace p204 := eq_true p204
                 replace q204 := eq_true q204
                 have p205 : 0 ≤ (A0 : Int) := ofD
                 have q205 : A0 < (l0_2.length : Int) := ofD
                 obtain ⟨Bt, e205, Ai, Aj⟩ := at_T71 Az.o A0 p205 q205
                 have hw205_1 := Aj
                 have hw205_0 := Ai
                 obtain rfl : Am = Bt := (by injection e205)
                 replace Ai := (HB.o.cell (World.block_lt_of_cell? w _ Ai)).trans Ai
                 replace Aj := (HB.o.cell (World.block_lt_of_cell? w _ Aj)).trans Aj
                 replace p205 := eq_true p205
                 replace q205 := eq_true q205
                 have p206 : 0 ≤ (((rd_T71 l0_2 A0).f1) : Int) := ofD
                 have q206 : ((rd_T71 l0_2 A0).f1) < ((rd_L3 Aa (rd A4 A0)).length : Int) := ofD
                 obtain ⟨C9, e206, Ap⟩ := Kd.at_int (by repeat (first | (with_reducible exact Ao.o) | (with_reducible refine Kd.C_alloc ?_ _) | (with_reducible refine Kd.C_drewN ?_ _) | (with_reducible refine Kd.C_drew ?_) | exact Ao.o)) ((rd_T71 l0_2 A0).f1) p206 q206
                 cases e206
                 replace p206 := eq_true p206
                 replace q206 := eq_true q206
                 have p30 : 0 ≤ (((rd_T71 l0_2 A0).f1) : Int) := ofD
                 have q30 : (((rd_T71 l0_2 A0).f1) : Int) < (((rd_L3 Aa (rd A4 A0)).length : Int) : Int) := ofD
                 obtain ⟨AU, Ct, Bx, Bz, gl30, cl30, Bn⟩ := Kd.R_form HL204_0.o (by omega)
                 (first | cases Bx | (injection Bx with ea_ en_ ec_; (first | subst ea_ | (injection ea_ with ea_; subst ea_)); subst ec_; clear en_))
                 have Cn := Z.m Bz
                 have BW := Z.m Bn
                 clear Bz gl30 Bn
                 (first | simp only [add_plain] at Ap | skip)
                 obtain ⟨Bd, B0⟩ := Kd.R_celln 0 HL204_0.o (((rd_T71 l0_2 A0).f1) : Int) p30 q30
                 replace p30 := eq_true p30
                 replace q30 := eq_true q30
                 have hq33 : ((rd A4 A0) : Int) < (Aa.length : Int) := (by have h_ : ((rd A4 A0) : Int) < ((Aa.length : Int) : Int) := ofD; first | exact h_ | (have e_ := (Kd.S_reads' A6.o).1; omega) | simpa only [List.length_set, List.length_set] using h_)
                 obtain ⟨oki33, Cr, BE, C3, AR, hok33, hbk33⟩ := Kd.S_borrow A6.o [] ((rd A4 A0) : Int) (ofD) hq33
                 obtain ⟨ve33_0, rfl, ge33_0⟩ := C3
                 have hv33 := AR 0 _ rfl
                 rw [Nat.add_zero, show ((Kd.slice 3 (Kd.int .i64))).sz = 1 from rfl, Nat.mul_one] at hv33
                 replace hv33 := Option.some.inj (hv33.symm.trans AA.o)
                 subst hv33
                 clear AR BE
                 replace ge33_0 := (show Kd.R (Kd.int .i64) 3 _ _ _ _ (rd_L3 Aa (rd A4 A0)) from ge33_0)
                 have AK := Kd.R_putg ge33_0 (((rd_T71 l0_2 A0).f1) : Int) (wrap64 ((rd (rd_L3 Aa (rd A4 A0)) ((rd_T71 l0_2 A0).f1)) + 1))
                 rw [← Bp.o] at AK
                 have HS33 := hbk33 AK.2 (fun k_ e_ => by injection e_ with e_; subst e_; exact ge33_0.1 _ rfl) (x' := Bh) (Kd.M_row AK.1)
                 rw [← Bq.o] at HS33
                 have HQ33 := Z.m HS33
                 clear AK HS33 hbk33 hok33
                 refine start_ (n := 15) (S := fun w' => w'.cell? ⟨An, 0, none⟩ = some (.int .i64 a0_0) ∧ w'.cell? ⟨An, 1, none⟩ = some (.int .i64 a0_1) ∧ w'.cell? ⟨An, 2, none⟩ = some (.slice (some Am) l0_2.length c0_2) ∧ w'.cell? (Bs.add ((rd A4 A0)).toNat) = some (.slice (some ⟨AU, 0, none⟩) (rd_L3 Aa (rd A4 A0)).length c204_0) ∧ w'.cell? (Am.add ((A0).toNat * 2)) = some (.int .i64 ((rd_T71 l0_2 A0).f0)) ∧ w'.cell? ⟨(Am.add ((A0).toNat * 2)).block, (Am.add ((A0).toNat * 2)).off + 1, none⟩ = some (.int .i64 ((rd_T71 l0_2 A0).f1)) ∧ w'.cell? (⟨AU, (((rd_T71 l0_2 A0).f1)).toNat, none⟩ : Addr) = some (.int .i64 (rd (rd_L3 Aa (rd A4 A0)) ((rd_T71 l0_2 A0).f1)))) (ds := [14]) #[false, false, false, false, false, false, false, false, false, false, false, false, false, false, false] (by kernel_rfl) rfl rfl ⟨(ql A1.o 0).trans rfl, (ql A1.o 1).trans rfl, (ql A1.o 2).trans rfl, Ak, ((HB.o.cell (World.block_lt_of_cell? w _ hw205_0)).trans hw205_0), ((HB.o.cell (World.block_lt_of_cell? w _ hw205_1)).trans hw205_1), Ap⟩ (fun hHeld => ?_); refine with_tabW spec_ggGears.tab12 spec_ggGears.bits12 (fun HT_ HW_ => ?_)
                 generalize wr.drew = CA at A6 Ah A1 HB BW HL204_0 HQ33 Ao AA B0 Ak Ai Aj Ap Bd hHeld ⊢
                 refine pure_ (i := 0) (N := some 37) (v := ?_) (a' := ?_) #[true, false, false, false, false, false, false, false, false, false, false, false, false, false, false] rfl rfl (any_of HT_.o (by kernel_rfl)) (fun _ _ _ h => h) (Or.inl ⟨by rfl, ?_⟩) ?_ ?_
                 rotate_left
                 ·intro w'
                  go_simp
                  with_reducible rfl
                 rotate_left
                 ·simp only [Act.put, q1, q2, q3, i64_w, i32_w]
                  rfl
                 refine pure_ (i := 1) (N := some 38) (v := ?_) (a' := ?_) #[true, true, false, false, false, false, false, false, false, false, false, false, false, false, false] rfl rfl (any_of HT_.o (by kernel_rfl)) (fun _ _ _ h => h) (Or.inl ⟨by rfl, ?_⟩) ?_ ?_
                 rotate_left
                 ·intro w'
                  go_simp
                  with_reducible rfl
                 rotate_left
                 ·simp only [Act.put, q1, q2, q3, i64_w, i32_w]
                  rfl
                 refine pure_ (i := 2) (N := some 39) (v := ?_) (a' := ?_) #[true, true, true, false, false, false, false, false, false, false, false, false, false, false, false] rfl rfl (any_of HT_.o (by kernel_rfl)) (fun _ _ _ h => h) (Or.inl ⟨by rfl, ?_⟩) ?_ ?_
                 rotate_left
                 ·intro w'
                  go_simp
                  with_reducible rfl
                 rotate_left
                 ·simp only [Act.put, q1, q2, q3, i64_w, i32_w]
                  rfl
                 refine pure_ (i := 4) (N := some 41) (v := ?_) (a' := ?_) #[true, true, true, false, true, false, false, false, false, false, false, false, false, false, false] rfl rfl (any_of HT_.o (by kernel_rfl)) (fun _ _ _ h => h) (Or.inl ⟨by rfl, ?_⟩) ?_ ?_
                 rotate_left
                 ·intro w'
                  go_simp
                  with_reducible rfl
                 rotate_left
                 ·simp only [Act.put, q1, q2, q3, i64_w, i32_w]
                  rfl
                 refine pure_ (i := 6) (N := some 43) (v := ?_) (a' := ?_) #[true, true, true, false, true, false, true, false, false, false, false, false, false, false, false] rfl rfl (any_of HT_.o (by kernel_rfl)) (fun _ _ _ h => h) (Or.inl ⟨by rfl, ?_⟩) ?_ ?_
                 rotate_left
                 ·intro w'
                  go_simp
                  with_reducible rfl
                 rotate_left
                 ·simp only [Act.put, q1, q2, q3, i64_w, i32_w]
                  rfl
                 refine take_ (i := 3) (N := some 40) (v := ?_) (a' := ?_) #[true, true, true, true, true, false, true, false, false, false, false, false, false, false, false] rfl rfl (take_ofW HT_.o HW_.o (by kernel_rfl)) (fun _ _ _ h => h) (Or.inl ⟨by rfl, ?_⟩) hHeld ?_ ?_
                 rotate_left
                 ·rintro w' ⟨s0, s1, s2, s3, s4, s5, s6⟩
                  go_simp
                  with_reducible rfl
                 rotate_left
                 ·simp only [Act.put, q1, q2, q3, i64_w, i32_w]
                  rfl
                 refine take_ (i := 5) (N := some 42) (v := ?_) (a' := ?_) #[true, true, true, true, true, true, true, false, false, false, false, false, false, false, false] rfl rfl (take_ofW HT_.o HW_.o (by kernel_rfl)) (fun _ _ _ h => h) (Or.inl ⟨by rfl, ?_⟩) hHeld ?_ ?_
                 rotate_left
                 ·rintro w' ⟨s0, s1, s2, s3, s4, s5, s6⟩
                  go_simp
                  with_reducible rfl
                 rotate_left
                 ·simp only [Act.put, q1, q2, q3, i64_w, i32_w]
                  rfl
                 refine pure_ (i := 7) (N := some 44) (v := ?_) (a' := ?_) #[true, true, true, true, true, true, true, true, false, false, false, false, false, false, false] rfl rfl (any_of HT_.o (by kernel_rfl)) (fun _ _ _ h => h) (Or.inl ⟨by rfl, ?_⟩) ?_ ?_
                 rotate_left
                 ·intro w'
                  go_simp
                  with_reducible rfl
                 rotate_left
                 ·simp only [Act.put, q1, q2, q3, i64_w, i32_w]
                  rfl
                 refine pure_ (i := 8) (N := some 45) (v := ?_) (a' := ?_) #[true, true, true, true, true, true, true, true, true, false, false, false, false, false, false] rfl rfl (any_of HT_.o (by kernel_rfl)) (fun _ _ _ h => h) (Or.inl ⟨by rfl, ?_⟩) ?_ ?_
                 rotate_left
                 ·intro w'
                  go_simp
                  with_reducible rfl
                 rotate_left
                 ·simp only [Act.put, q1, q2, q3, i64_w, i32_w]
                  rfl
                 refine take_ (i := 9) (N := some 46) (v := ?_) (a' := ?_) #[true, true, true, true, true, true, true, true, true, true, false, false, false, false, false] rfl rfl (take_ofW HT_.o HW_.o (by kernel_rfl)) (fun _ _ _ h => h) (Or.inl ⟨by rfl, ?_⟩) hHeld ?_ ?_
                 rotate_left
                 ·rintro w' ⟨s0, s1, s2, s3, s4, s5, s6⟩
                  go_simp
                  with_reducible rfl
                 rotate_left
                 ·simp only [Act.put, q1, q2, q3, i64_w, i32_w]
                  rfl
                 refine pure_ (i := 10) (N := some 47) (v := ?_) (a' := ?_) #[true, true, true, true, true, true, true, true, true, true, true, false, false, false, false] rfl rfl (any_of HT_.o (by kernel_rfl)) (fun _ _ _ h => h) (Or.inl ⟨by rfl, ?_⟩) ?_ ?_
                 rotate_left
                 ·intro w'
                  go_simp
                  with_reducible rfl
                 rotate_left
                 ·simp only [Act.put, q1, q2, q3, i64_w, i32_w]
                  rfl
                 refine take_ (i := 11) (N := some 48) (v := ?_) (a' := ?_) #[true, true, true, true, true, true, true, true, true, true, true, true, false, false, false] rfl rfl (take_ofW HT_.o HW_.o (by kernel_rfl)) (fun _ _ _ h => h) (Or.inl ⟨by rfl, ?_⟩) hHeld ?_ ?_
                 rotate_left
                 ·rintro w' ⟨s0, s1, s2, s3, s4, s5, s6⟩
                  go_simp
                  with_reducible rfl
                 rotate_left
                 ·simp only [Act.put, q1, q2, q3, i64_w, i32_w]
                  rfl
                 refine pure_ (i := 12) (N := some 49) (v := ?_) (a' := ?_) #[true, true, true, true, true, true, true, true, true, true, true, true, true, false, false] rfl rfl (any_of HT_.o (by kernel_rfl)) (fun _ _ _ h => h) (Or.inl ⟨by rfl, ?_⟩) ?_ ?_
                 rotate_left
                 ·intro w'
                  go_simp
                  with_reducible rfl
                 rotate_left
                 ·simp only [Act.put, q1, q2, q3, i64_w, i32_w]
                  rfl
                 refine pure_ (i := 13) (N := some 50) (v := ?_) (a' := ?_) #[true, true, true, true, true, true, true, true, true, true, true, true, true, true, false] rfl rfl (any_of HT_.o (by kernel_rfl)) (fun _ _ _ h => h) (Or.inl ⟨by rfl, ?_⟩) ?_ ?_
                 rotate_left
                 ·intro w'
                  go_simp
                  with_reducible rfl
                 rotate_left
                 ·simp only [Act.put, q1, q2, q3, i64_w, i32_w]
                  rfl
                 refine last_ (i := 14) (N := none) #[true, true, true, true, true, true, true, true, true, true, true, true, true, true, true] rfl rfl (one_of HT_.o (by kernel_rfl)) (by decide) (fun K hK => ?_)
                 refine skip_ (w1 := ?_) ?hwx ?hnx ?_ ?_; (case hwx => rfl); (case hnx => rfl)
                 rotate_left
                 ·go_simp
                  rfl
                 refine hK.out _ _ ?_
                 clear hK K
                 refine done_ (done_of HT_.o (by kernel_rfl)) ?_
                 try go_wp2
                 (try simp only [← Ab, ← A8])
                 go_roundg k2
                 case measure => have := Bi.o; have := BH.o; omega
                 case rel => exact ⟨(BF), (A4), (wrap64 (A0 + 1)), (by first | rfl | (simp; done) | (simp [*]; done)), H', ⟨by have := Bi.o; have := BH.o; omega⟩, ⟨by (try simp only [A7]); (try simp only [Ab]); (try simp only [A8]); (with_reducible repeat (first | apply Kd.S_alloc | apply Kd.S_drewN | apply Kd.S_drew)); exact HQ33.o⟩, ⟨by (try simp only [A7]); (try simp only [Ab]); (try simp only [A8]); refine rK ?_; exact Kd.Rm (Kd.Rf (p := ⟨AU, (((rd_T71 l0_2 A0).f1) : Int).toNat, none⟩) (Kd.R_far1 Ah.o rfl ((HL204_0.o.1 _ rfl).1)) (fun _ hk => hk.2) (.int .i64 (wrap64 ((rd (rd_L3 Aa (rd A4 A0)) ((rd_T71 l0_2 A0).f1)) + 1)))) (fun _ hk => trivial)⟩, ⟨by (try simp only [A7]); (try simp only [Ab]); (try simp only [A8]); refine bK ?_; refine qf ?_ (by have h_ := Kd.R_ne HL204_0.o A1.o (by decide); intro e_; exact h_ (by rw [e_]; rfl)) _; refine bK ?_; exact A1.o⟩, ⟨vB HB⟩⟩
                ·rw [if_neg c29] at H
                 exact absurd H (by simp)
               ·rw [if_neg c28] at H
                exact absurd H (by simp)
              ·rw [if_neg c27] at H
               exact absurd H (by simp)
             ·rw [if_neg c26] at H
              exact absurd H (by simp)
            ·rw [if_neg c25] at H
             have Bu := beq_eq_false_iff_ne.mpr c25
             have Bv := bne_iff_ne.mpr c25
             have H' := Z.m H
             clear H
             have p202 : 0 ≤ (A0 : Int) := ofD
             have q202 : A0 < (A4.length : Int) := ofD
             obtain ⟨Br, e202, AM⟩ := Kd.at_int (Kd.RrZ Ah.o).2.2 A0 p202 q202
             cases e202
             replace p202 := eq_true p202
             replace q202 := eq_true q202
             have BL := bc0 A1
             have BM := bc1 A1
             have BN := bc2 A1
             have BR := qz A1.o 0
             have BS := qz A1.o 1
             have BT := qz A1.o 2
             have p203 : 0 ≤ (A0 : Int) := ofD
             have q203 : A0 < (l0_2.length : Int) := ofD
             obtain ⟨Am, e203, Ac, Ad⟩ := at_T71 Az.o A0 p203 q203
             cases e203
             replace Ac := (HB.o.cell (World.block_lt_of_cell? w _ Ac)).trans Ac
             replace Ad := (HB.o.cell (World.block_lt_of_cell? w _ Ad)).trans Ad
             replace p203 := eq_true p203
             replace q203 := eq_true q203
             go_wp2
             (try simp only [← Ab, ← A8])
             go_roundg k2
             case measure => have := Bi.o; have := BH.o; omega
             case rel => exact ⟨(Aa), (A4), (wrap64 (A0 + 1)), (by first | rfl | (simp; done) | (simp [*]; done)), H', ⟨by have := Bi.o; have := BH.o; omega⟩, ⟨by (try simp only [A7]); (try simp only [Ab]); (try simp only [A8]); (with_reducible repeat (first | apply Kd.S_alloc | apply Kd.S_drewN | apply Kd.S_drew)); exact A6.o⟩, ⟨by (try simp only [A7]); (try simp only [Ab]); (try simp only [A8]); refine rK ?_; exact Ah.o⟩, ⟨by (try simp only [A7]); (try simp only [Ab]); (try simp only [A8]); refine bK ?_; exact A1.o⟩, ⟨vB HB⟩⟩
           ·rw [if_neg c24] at H
            exact absurd H (by simp)
          ·rw [if_neg c23] at H
           exact absurd H (by simp)
         ·rw [if_neg c22] at H
          exact absurd H (by simp)
        ·rw [if_neg c21] at H
         have AC := decide_eq_false c21
         (try simp only [A7] at AC)
         (try simp only [Ab] at AC)
         (try simp only [A8] at AC)
         clear c21
         obtain rfl := Option.some.inj H
         go_wp2
         go_ret
         exact ⟨_, by first | rfl | (simp [eN, eS] <;> rfl) | (simp [*, eN, eS] <;> rfl), by (with_reducible repeat (first | apply Kd.S_alloc | apply Kd.S_drewN | apply Kd.S_drew)); exact Kd.S_mono A6.o (fun _ hk => trivial), vB HB⟩
  ·rw [if_neg c5] at H
   exact absurd H (by simp)
 ·rw [if_neg c4] at H
  exact absurd H (by simp)

end Go.Proofs.Ytlkiakpipcnijaa.PAll
