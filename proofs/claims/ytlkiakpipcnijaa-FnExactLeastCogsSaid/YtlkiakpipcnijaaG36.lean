/- Began as a text that print.sh wrote (of the functions named below); turned and shortened by this session. -/
import Derived.Test.YtlkiakpipcnijaaG0
import Derived.Test.YtlkiakpipcnijaaG5
import Derived.Test.YtlkiakpipcnijaaG35
namespace Go.Proofs.Ytlkiakpipcnijaa.PAll
open Go.RowKit Go.Proofs.YtlkiakpipcnijaaW.PrintWords Go.Proofs.YtlkiakpipcnijaaW.PrintLast Go.Proofs.YtlkiakpipcnijaaW.PrintMore
attribute [local go_sem] max2_int min2_int max_two min_two max_three min_three max_four min_four   -- for this text's walks alone
set_option linter.unusedVariables false
set_option linter.unusedSimpArgs false

/-! ### spec_LeastCogs: function 22 -/
mutual
def spec_LeastCogs.j0 : Nat → Int → Int → Int → Int → Bool → Int → Int → List (S71) → Option (Int × Bool)
 | 0, _, _, _, _, _, _, _, _ => none
 | k + 1, x1, x2, x3, x4, x30, x832000, x832001, x832002 => if x30 = true then (some (0, false)) else (if 0 ≤ (x832002.length : Int) then (if ((x832002.length : Int) : Int).toNat ≤ 35184372088832 then ((some (List.replicate ((x832002.length : Int) : Int).toNat 0 : List Int)).bind fun y834 => (spec_LeastCogs.l0 k x1 x2 x3 x4 y834 (y834.length : Int) 0 x832000 x832001 x832002)) else (none)) else (none))
def spec_LeastCogs.l0 : Nat → Int → Int → Int → Int → List Int → Int → Int → Int → Int → List (S71) → Option (Int × Bool)
 | 0, _, _, _, _, _, _, _, _, _, _ => none
 | k + 1, x1, x2, x3, x4, x12, x36, x37, x832000, x832001, x832002 => if x37 < x36 then (if 0 ≤ x37 then (if x37 < (x12.length : Int) then (spec_LeastCogs.l0 k x1 x2 x3 x4 (x12.set (x37 : Int).toNat (-1)) x36 (wrap64 (x37 + 1)) x832000 x832001 x832002) else (none)) else (none)) else (if 0 ≤ (wrap64 ((wrap64 (x1 * x832001)) + x2)) then (if (wrap64 ((wrap64 (x1 * x832001)) + x2)) < (x12.length : Int) then (spec_LeastCogs.l1 k x3 x4 (x12.set ((wrap64 ((wrap64 (x1 * x832001)) + x2)) : Int).toNat 0) (x832002.length : Int) 0 x832000 x832001 x832002) else (none)) else (none))
def spec_LeastCogs.l1 : Nat → Int → Int → List Int → Int → Int → Int → Int → List (S71) → Option (Int × Bool)
 | 0, _, _, _, _, _, _, _, _ => none
 | k + 1, x3, x4, x12, x54, x55, x832000, x832001, x832002 => if x55 < x54 then (spec_LeastCogs.l2 k x3 x4 x12 x54 x55 (x832002.length : Int) 0 x832000 x832001 x832002) else (if 0 ≤ (wrap64 ((wrap64 (x3 * x832001)) + x4)) then (if (wrap64 ((wrap64 (x3 * x832001)) + x4)) < (x12.length : Int) then (if (rd x12 (wrap64 ((wrap64 (x3 * x832001)) + x4))) ≥ 0 then (some (rd x12 (wrap64 ((wrap64 (x3 * x832001)) + x4)), true)) else (some (0, false))) else (none)) else (none))
def spec_LeastCogs.l2 : Nat → Int → Int → List Int → Int → Int → Int → Int → Int → Int → List (S71) → Option (Int × Bool)
 | 0, _, _, _, _, _, _, _, _, _, _ => none
 | k + 1, x3, x4, x12, x54, x55, x59, x60, x832000, x832001, x832002 => if x60 < x59 then (if 0 ≤ x60 then (if x60 < (x12.length : Int) then (if (rd x12 x60) < 0 then (spec_LeastCogs.l2 k x3 x4 x12 x54 x55 x59 (wrap64 (x60 + 1)) x832000 x832001 x832002) else ((spec_ggNear.f k x832000 x832001 x832002 x60).bind fun t841 => (spec_LeastCogs.l3 k x3 x4 x12 x60 x54 x55 x59 x60 t841 (t841.length : Int) 0 x832000 x832001 x832002))) else (none)) else (none)) else (spec_LeastCogs.l1 k x3 x4 x12 x54 (wrap64 (x55 + 1)) x832000 x832001 x832002)
def spec_LeastCogs.l3 : Nat → Int → Int → List Int → Int → Int → Int → Int → Int → List Int → Int → Int → Int → Int → List (S71) → Option (Int × Bool)
 | 0, _, _, _, _, _, _, _, _, _, _, _, _, _, _ => none
 | k + 1, x3, x4, x12, x14, x54, x55, x59, x60, x70, x71, x72, x832000, x832001, x832002 => if x72 < x71 then (if 0 ≤ x72 then (if x72 < (x70.length : Int) then (if 0 ≤ x14 then (if x14 < (x12.length : Int) then (if 0 ≤ (rd x70 x72) then (if (rd x70 x72) < (x832002.length : Int) then (if ((rd_T71 x832002 (rd x70 x72)).f0) = 0 then (if (rd x70 x72) < (x12.length : Int) then (if (rd x12 (rd x70 x72)) < 0 then (spec_LeastCogs.l3 k x3 x4 (x12.set ((rd x70 x72) : Int).toNat (wrap64 ((rd x12 x14) + 1))) x14 x54 x55 x59 x60 x70 x71 (wrap64 (x72 + 1)) x832000 x832001 x832002) else (if (wrap64 ((rd x12 x14) + 1)) < (rd x12 (rd x70 x72)) then (spec_LeastCogs.l3 k x3 x4 (x12.set ((rd x70 x72) : Int).toNat (wrap64 ((rd x12 x14) + 1))) x14 x54 x55 x59 x60 x70 x71 (wrap64 (x72 + 1)) x832000 x832001 x832002) else (spec_LeastCogs.l3 k x3 x4 x12 x14 x54 x55 x59 x60 x70 x71 (wrap64 (x72 + 1)) x832000 x832001 x832002))) else (none)) else ((spec_ggGear.f ((rd_T71 x832002 (rd x70 x72)).f0) ((rd_T71 x832002 (rd x70 x72)).f1)).bind fun t852 => (if t852 = true then (if (rd x70 x72) < (x12.length : Int) then (if (rd x12 (rd x70 x72)) < 0 then (spec_LeastCogs.l3 k x3 x4 (x12.set ((rd x70 x72) : Int).toNat (rd x12 x14)) x14 x54 x55 x59 x60 x70 x71 (wrap64 (x72 + 1)) x832000 x832001 x832002) else (if (rd x12 x14) < (rd x12 (rd x70 x72)) then (spec_LeastCogs.l3 k x3 x4 (x12.set ((rd x70 x72) : Int).toNat (rd x12 x14)) x14 x54 x55 x59 x60 x70 x71 (wrap64 (x72 + 1)) x832000 x832001 x832002) else (spec_LeastCogs.l3 k x3 x4 x12 x14 x54 x55 x59 x60 x70 x71 (wrap64 (x72 + 1)) x832000 x832001 x832002))) else (none)) else (spec_LeastCogs.l3 k x3 x4 x12 x14 x54 x55 x59 x60 x70 x71 (wrap64 (x72 + 1)) x832000 x832001 x832002)))) else (none)) else (none)) else (none)) else (none)) else (none)) else (none)) else (spec_LeastCogs.l2 k x3 x4 x12 x54 x55 x59 (wrap64 (x60 + 1)) x832000 x832001 x832002)
end
def spec_LeastCogs.f (k : Nat) (a0_0 : Int) (a0_1 : Int) (l0_2 : List (S71)) (a1 : Int) (a2 : Int) (a3 : Int) (a4 : Int) : Option (Int × Bool) := (spec_ggHas.f k a0_0 a0_1 l0_2 a1 a2).bind fun t832 => (if t832 = true then ((spec_ggHas.f k a0_0 a0_1 l0_2 a3 a4).bind fun t833 => (spec_LeastCogs.j0 k a1 a2 a3 a4 (!t833) a0_0 a0_1 l0_2)) else (spec_LeastCogs.j0 k a1 a2 a3 a4 true a0_0 a0_1 l0_2))
set_option maxHeartbeats 8000000 in
set_option maxRecDepth 100000 in
theorem spec_LeastCogs.calls (k : Nat) (a0_0 : Int) (a0_1 : Int) (A0_2 : Option Addr) (c0_2 : Nat) (l0_2 : List (S71)) (a1 : Int) (a2 : Int) (a3 : Int) (a4 : Int) (r1 : Int) (r2 : Bool) (w : World) (hr0_2 : Kd.C k71 w A0_2 l0_2.length l0_2) (hc0_2 : l0_2.length ≤ c0_2) (h : spec_LeastCogs.f k a0_0 a0_1 l0_2 a1 a2 a3 a4 = some (r1, r2)) :
 Calls Try.prog 22 #[.agg #[.int .i64 a0_0, .int .i64 a0_1, .slice A0_2 l0_2.length c0_2], .int .i64 a1, .int .i64 a2, .int .i64 a3, .int .i64 a4] w fun e w' => e = .returned (.tuple #[.int .i64 r1, .bool r2]) ∧ Below w.heap.size w w' := by
 have Ey := Try.underlying30
 have Ez := Try.underlying71
 have Al := Z.m hr0_2
 have Bb := Z.m hc0_2
 clear hr0_2 hc0_2
 have HB := Z.m (Below.refl w.heap.size w)
 have H : ((spec_ggHas.f k a0_0 a0_1 l0_2 a1 a2).bind fun BP => (if BP = true then ((spec_ggHas.f k a0_0 a0_1 l0_2 a3 a4).bind fun AK => (spec_LeastCogs.j0 k a1 a2 a3 a4 (!AK) a0_0 a0_1 l0_2)) else (spec_LeastCogs.j0 k a1 a2 a3 a4 true a0_0 a0_1 l0_2))) = some (r1, r2) := h
 clear h
 have DP := Z.m H
 clear H
 go_enter Try.func22, Try.ntmps22
 go_upto_region 1 with (first | ((with_reducible refine gq (N := 5) rfl ?_); refine be (N := 5) (cs := #[.int .i64 a0_0, .int .i64 a0_1, .slice A0_2 l0_2.length c0_2]) (t := 30) ?_; intro Ax hg w7 hbox hb; have A1 := Z.m (hbox); have Cd := gW (w := w) HB hg; have Eb := Cd; replace HB := bB HB hb; clear hb hbox hg))
 (try simp only [Act.put, q1, q2, q3])
 go_cut [30] (fun v30 wc => ∃ (kq : Nat) (Bc : Bool), v30 = .bool Bc ∧ Z (spec_LeastCogs.j0 kq a1 a2 a3 a4 Bc a0_0 a0_1 l0_2 = some (r1, r2)) ∧ Z (kq ≤ k) ∧ Z (wc.heap[Ax]? = some (.cells #[.int .i64 a0_0, .int .i64 a0_1, (.slice A0_2 l0_2.length c0_2)] 30 (0, 0))) ∧ Z (Below w.heap.size w wc))
 case first =>
  have H := DP.o
  clear DP
  replace H := Option.bind_eq_some_iff.mp H
  obtain ⟨BP, Ea, H⟩ := H
  replace H : (if BP = true then ((spec_ggHas.f k a0_0 a0_1 l0_2 a3 a4).bind fun AK => (spec_LeastCogs.j0 k a1 a2 a3 a4 (!AK) a0_0 a0_1 l0_2)) else (spec_LeastCogs.j0 k a1 a2 a3 a4 true a0_0 a0_1 l0_2)) = some (r1, r2) := H
  have A8 := Z.m Ea
  clear Ea
  by_cases c9 : BP = true
  ·subst c9
   have H1 : ((spec_ggHas.f k a0_0 a0_1 l0_2 a3 a4).bind fun AK => (spec_LeastCogs.j0 k a1 a2 a3 a4 (!AK) a0_0 a0_1 l0_2)) = some (r1, r2) := by rw [if_pos rfl] at H; exact H
   clear H
   have H := H1
   clear H1
   replace H := Option.bind_eq_some_iff.mp H
   obtain ⟨AK, C8, H⟩ := H
   replace H : (spec_LeastCogs.j0 k a1 a2 a3 a4 (!AK) a0_0 a0_1 l0_2) = some (r1, r2) := H
   have Er := Z.m C8
   clear C8
   have H' := Z.m H
   clear H
   have CD := bc0 A1
   have CE := bc1 A1
   have CF := bc2 A1
   have Dd := qz A1.o 0
   have De := qz A1.o 1
   have Df := qz A1.o 2
   go_wp2_with (first | ((with_reducible refine gc (f := 53) rfl ?_); refine gA (some 22) _ #[.agg #[.int .i64 a0_0, .int .i64 a0_1, .slice A0_2 l0_2.length c0_2], .int .i64 a1, .int .i64 a2] ?_ Try.func53; (with_reducible refine (spec_ggHas.calls k a0_0 a0_1 _ _ l0_2 a1 a2 true _ ?side1 ?side2 A8.o).mono ?_); (case side1 => repeat (first | exact (Kd.C_below Al.o HB.o) | (with_reducible refine Kd.C_alloc ?_ _) | (with_reducible refine Kd.C_drewN ?_ _) | (with_reducible refine Kd.C_drew ?_))); (case side2 => exact Bb.o); rintro e EC ⟨rfl, hb⟩; refine ⟨_, rfl, ?_⟩; replace A1 := kB A1 hb; replace HB := bB HB hb; (try clear hb); (try clear C0); (try clear hk); (try clear hi); have CG := bc0 A1; have CH := bc1 A1; have CI := bc2 A1; have Dg := qz A1.o 0; have Dh := qz A1.o 1; have Di := qz A1.o 2) | (go_at_call 53; (with_reducible refine (spec_ggHas.calls k a0_0 a0_1 _ _ l0_2 a3 a4 AK _ ?side1 ?side2 Er.o).mono ?_); (case side1 => repeat (first | exact (Kd.C_below Al.o HB.o) | (with_reducible refine Kd.C_alloc ?_ _) | (with_reducible refine Kd.C_drewN ?_ _) | (with_reducible refine Kd.C_drew ?_))); (case side2 => exact Bb.o); rintro e ED ⟨rfl, hb⟩; replace A1 := kB A1 hb; replace HB := bB HB hb; (try clear hb); (try clear C0); (try clear hk); (try clear hi)))
   go_meet
   case rel => exact ⟨_, (!AK), (by first | rfl | (simp; done) | (simp [*]; done)), H', ⟨by first | omega | exact Nat.le_refl _⟩, ⟨vK A1⟩, ⟨vB HB⟩⟩
  ·replace c9 := Bool.eq_false_iff.mpr c9
   subst c9
   have H1 : (spec_LeastCogs.j0 k a1 a2 a3 a4 true a0_0 a0_1 l0_2) = some (r1, r2) := by rw [if_neg (show ¬ (false = true) by decide)] at H; exact H
   clear H
   have H := H1
   clear H1
   have H' := Z.m H
   clear H
   have CJ := bc0 A1
   have CK := bc1 A1
   have CL := bc2 A1
   have Dj := qz A1.o 0
   have Dk := qz A1.o 1
   have Dl := qz A1.o 2
   go_wp2_with (first | ((with_reducible refine gc (f := 53) rfl ?_); refine gA (some 22) _ #[.agg #[.int .i64 a0_0, .int .i64 a0_1, .slice A0_2 l0_2.length c0_2], .int .i64 a1, .int .i64 a2] ?_ Try.func53; (with_reducible refine (spec_ggHas.calls k a0_0 a0_1 _ _ l0_2 a1 a2 false _ ?side1 ?side2 A8.o).mono ?_); (case side1 => repeat (first | exact (Kd.C_below Al.o HB.o) | (with_reducible refine Kd.C_alloc ?_ _) | (with_reducible refine Kd.C_drewN ?_ _) | (with_reducible refine Kd.C_drew ?_))); (case side2 => exact Bb.o); rintro e EE ⟨rfl, hb⟩; refine ⟨_, rfl, ?_⟩; replace A1 := kB A1 hb; replace HB := bB HB hb; (try clear hb); (try clear C0); (try clear hk); (try clear hi)))
   go_meet
   case rel => exact ⟨_, (true), (by first | rfl | (simp; done) | (simp [*]; done)), H', ⟨by first | omega | exact Nat.le_refl _⟩, ⟨vK A1⟩, ⟨vB HB⟩⟩
 case rest =>
  clear DP
  obtain ⟨kq, Bc, rfl, HA, AD, A1, HB⟩ := hcut
  cases kq with
  | zero => exact absurd HA.o (by simp [spec_LeastCogs.j0])
  | succ kj5 =>
   have H := HA.o
   clear HA
   simp only [spec_LeastCogs.j0] at H
   by_cases c17 : Bc = true
   ·subst c17
    have H1 : (some (0, false)) = some (r1, r2) := by rw [if_pos rfl] at H; exact H
    clear H
    have H := H1
    clear H1
    simp only [Option.some.injEq, Prod.mk.injEq] at H
    obtain ⟨rfl, rfl⟩ := H
    go_wp2
    go_ret2
    exact ⟨by first | rfl | (simp [eN, eS] <;> rfl) | (simp [*, eN, eS] <;> rfl), vB HB⟩
   ·replace c17 := Bool.eq_false_iff.mpr c17
    subst c17
    have H1 : (if 0 ≤ (l0_2.length : Int) then (if ((l0_2.length : Int) : Int).toNat ≤ 35184372088832 then ((some (List.replicate ((l0_2.length : Int) : Int).toNat 0 : List Int)).bind fun AF => (spec_LeastCogs.l0 kj5 a1 a2 a3 a4 AF (AF.length : Int) 0 a0_0 a0_1 l0_2)) else (none)) else (none)) = some (r1, r2) := by rw [if_neg (show ¬ (false = true) by decide)] at H; exact H
    clear H
    have H := H1
    clear H1
    by_cases c18 : 0 ≤ (l0_2.length : Int)
    ·rw [if_pos c18] at H
     have Cn := eq_true c18
     have Co := decide_eq_true c18
     clear c18
     by_cases c19 : ((l0_2.length : Int) : Int).toNat ≤ 35184372088832
     ·rw [if_pos c19] at H
      have Cp := eq_true c19
      have Cq := decide_eq_true c19
      clear c19
      obtain ⟨AF, AW⟩ : ∃ y_ : List Int, y_ = (List.replicate ((l0_2.length : Int) : Int).toNat 0) := ⟨_, rfl⟩
      replace H : (spec_LeastCogs.l0 kj5 a1 a2 a3 a4 AF (AF.length : Int) 0 a0_0 a0_1 l0_2) = some (r1, r2) := by first | (rw [AW]; with_reducible exact H) | (have H2_ := (Option.bind_some _ _).symm.trans H; rw [AW]; with_reducible exact H2_) | (have H2_ := (Option.bind_some _ _).symm.trans H; with_reducible exact H2_) | with_reducible exact H | (rw [AW]; exact H) | exact H
      have BS := Z.m AW
      clear AW
      have H' := Z.m H
      clear H
      have Bl := bc0 A1
      have Bm := bc1 A1
      have Bn := bc2 A1
      have BA := qz A1.o 0
      have BB := qz A1.o 1
      have BC := qz A1.o 2
      go_wp2_with (first | ((with_reducible refine gq (N := 34) rfl ?_); refine Kd.R_make (Kd.int .i64) _ 3 rfl (N := 34) rfl 38 _ _ rfl (l0_2.length : Int) rfl rfl Try.underlying38 (.int .i64 0) 8 info3 rfl (by decide) (by omega) 0 (ok := fun _ => True) (okp := fun _ => True) rfl (fun _ hk => hk) trivial (ofD) (Nat.le_trans (Nat.mul_le_mul_right _ (ofD : (l0_2.length : Int).toNat ≤ 35184372088832)) (by omega)) (Below.refl _ _) (Nat.le_refl _) ?_; intro EA EF Bk hb hg_ hnew_; clear hg_ hnew_; (first | rw [← BS.o] at Bk | (simp only [Int.reduceToNat] at Bk; rw [← BS.o] at Bk)); have BQ := Z.m (Kd.R_lower Bk (below_size (vB HB))); replace A1 := kB A1 hb; replace HB := bB HB hb; clear hb Bk; obtain ⟨DN, As, DQ⟩ := Kd.R_slice BQ.o; subst DQ))
      go_loopg [37] kj5 (fun kq v37 w' => ∃ (Ao : List Int) (Ap : Int), v37 = .int .i64 Ap ∧ Z (spec_LeastCogs.l0 kq a1 a2 a3 a4 Ao (AF.length : Int) Ap a0_0 a0_1 l0_2 = some (r1, r2)) ∧ Z (kq ≤ kj5) ∧ Z (Kd.R (Kd.int .i64) 3 w' w.heap.size (fun _ => True) (.slice DN AF.length As) Ao) ∧ Z (w'.heap[Ax]? = some (.cells #[.int .i64 a0_0, .int .i64 a0_1, (.slice A0_2 l0_2.length c0_2)] 30 (0, 0))) ∧ Z (Below w.heap.size w w'))
      case atStart => exact ⟨(AF), (0), (by first | rfl | (simp; done) | (simp [*]; done)), H', ⟨Nat.le_refl _⟩, ⟨vR BQ⟩, ⟨vK A1⟩, ⟨vB HB⟩⟩
      case round =>
       clear H'
       (try clear c17); (try clear Cn); (try clear Co); (try clear Cp); (try clear Cq)
       (try clear Bl); (try clear Bm); (try clear Bn); (try clear BA); (try clear BB); (try clear BC)
       obtain ⟨Ao, Ap, rfl, HA, AE, A4, A1, HB⟩ := hrel
       have A6 := (Kd.RrZ A4.o).1
       rw [A6] at A4
       (try simp only [A6])
       (try simp only [A6] at A1)
       cases gk with
       | zero => exact absurd HA.o (by simp [spec_LeastCogs.l0])
       | succ k2 =>
        have H := HA.o
        clear HA
        simp only [spec_LeastCogs.l0] at H
        by_cases c24 : Ap < (AF.length : Int)
        ·rw [if_pos c24] at H
         have Bj := decide_eq_true c24
         clear c24
         by_cases c25 : 0 ≤ Ap
         ·rw [if_pos c25] at H
          have Ec := decide_eq_true c25
          clear c25
          by_cases c26 : Ap < (Ao.length : Int)
          ·rw [if_pos c26] at H
           have Ed := decide_eq_true c26
           clear c26
           obtain ⟨C2, AX⟩ : ∃ y_ : List Int, y_ = (Ao.set (Ap : Int).toNat (-1)) := ⟨_, rfl⟩
           replace H : (spec_LeastCogs.l0 k2 a1 a2 a3 a4 C2 (AF.length : Int) (wrap64 (Ap + 1)) a0_0 a0_1 l0_2) = some (r1, r2) := by first | (rw [AX]; with_reducible exact H) | (have H2_ := (Option.bind_some _ _).symm.trans H; rw [AX]; with_reducible exact H2_) | (have H2_ := (Option.bind_some _ _).symm.trans H; with_reducible exact H2_) | with_reducible exact H | (rw [AX]; exact H) | exact H
           have Cg := Z.m AX
           clear AX
           have H' := Z.m H
           clear H
           have p27 : 0 ≤ (Ap : Int) := ofD
           have q27 : (Ap : Int) < ((Ao.length : Int) : Int) := ofD
           obtain ⟨BZ, Ew, Cx, Cz, gl27, cl27, Ce⟩ := Kd.R_form A4.o (by omega)
           (first | cases Cx | (injection Cx with ea_ en_ ec_; (first | subst ea_ | (injection ea_ with ea_; subst ea_)); subst ec_; clear en_))
           have DO := Z.m Cz
           have Et := Z.m Ce
           clear Cz gl27 Ce
           obtain ⟨DZ, DS⟩ := Kd.R_celln 0 A4.o (Ap : Int) p27 q27
           replace p27 := eq_true p27
           replace q27 := eq_true q27
           have BT := Kd.R_putg A4.o (Ap : Int) (-1)
           go_wp2_with (first | ((with_reducible refine gt (t := 3) (p := 42) rfl ?_); refine store_event (t := 3) (p := 42) (v := ?vo_w29) (w1 := (wr.setCell ⟨BZ, (Ap : Int).toNat, none⟩ (.int .i64 (-1)))) ?hg ?ho ?hn ?hr ?_; (case ho => rfl); (case hg => rfl); (case hn => rfl); (case hr => first | (go_simp; done) | (go_simp; rfl)); intro E4 hw; have hg : wr.grownBy E4 (some BZ) := (by rw [hw]; exact BT.2); have hp_ : Kd.R (Kd.int .i64) 3 E4 w.heap.size (fun _ => True) (.slice (some ⟨BZ, 0, none⟩) Ao.length As) C2 := (by rw [hw, Cg.o]; exact BT.1); clear BT; replace A1 := Z.m (qg (g := Ax) (o := .cells #[.int .i64 a0_0, .int .i64 a0_1, .slice A0_2 l0_2.length c0_2] 30 (0, 0)) (vK A1) hg (Kd.R_ne A4.o A1.o (by decide))); replace A4 := Z.m (hp_); replace HB := Z.m ((by rw [hw]; exact qx (HB.o) DO.o : Below w.heap.size w E4)); clear hg hw hp_))
           (try simp only [← A6])
           go_roundg k2
           case measure => have := AD.o; have := AE.o; omega
           case rel => exact ⟨(C2), (wrap64 (Ap + 1)), (by first | rfl | (simp; done) | (simp [*]; done)), H', ⟨by have := AD.o; have := AE.o; omega⟩, ⟨by (try simp only [A6]); refine rK ?_; exact A4.o⟩, ⟨by (try simp only [A6]); refine bK ?_; exact A1.o⟩, ⟨vB HB⟩⟩
          ·rw [if_neg c26] at H
           exact absurd H (by simp)
         ·rw [if_neg c25] at H
          exact absurd H (by simp)
        ·rw [if_neg c24] at H
         have Bj := decide_eq_false c24
         (try simp only [A6] at Bj)
         clear c24
         obtain ⟨AB, AU⟩ : ∃ j_ : Int, (wrap64 ((wrap64 (a1 * a0_1)) + a2)) = j_ := ⟨_, rfl⟩
         replace H : (if 0 ≤ (AB) then (if (AB) < (Ao.length : Int) then (spec_LeastCogs.l1 k2 a3 a4 (Ao.set ((AB) : Int).toNat 0) (l0_2.length : Int) 0 a0_0 a0_1 l0_2) else (none)) else (none)) = some (r1, r2) := by first | (rw [AU] at H; exact H) | (simp only [AU] at H ⊢; exact H)
         have hji30w : (IntKind.i64.wrap ((wrap64 (a1 * a0_1)) + a2)) = AB := (i64_w _).trans AU
         by_cases c31 : 0 ≤ (AB)
         ·rw [if_pos c31] at H
          have Cr := decide_eq_true c31
          clear c31
          by_cases c32 : (AB) < (Ao.length : Int)
          ·rw [if_pos c32] at H
           have Cs := decide_eq_true c32
           clear c32
           obtain ⟨C3, AY⟩ : ∃ y_ : List Int, y_ = (Ao.set ((AB) : Int).toNat 0) := ⟨_, rfl⟩
           replace H : (spec_LeastCogs.l1 k2 a3 a4 C3 (l0_2.length : Int) 0 a0_0 a0_1 l0_2) = some (r1, r2) := by first | (rw [AY]; with_reducible exact H) | (have H2_ := (Option.bind_some _ _).symm.trans H; rw [AY]; with_reducible exact H2_) | (have H2_ := (Option.bind_some _ _).symm.trans H; with_reducible exact H2_) | with_reducible exact H | (rw [AY]; exact H) | exact H
           have Ch := Z.m AY
           clear AY
           have H' := Z.m H
           clear H
           have Bo := bc0 A1
           have Bp := bc1 A1
           have Bq := bc2 A1
           have BD := qz A1.o 0
           have BE := qz A1.o 1
           have BF := qz A1.o 2
           have p33 : 0 ≤ ((AB) : Int) := ofD
           have q33 : ((AB) : Int) < ((Ao.length : Int) : Int) := ofD
           obtain ⟨Ae, Ex, Cy, CA, gl33, cl33, Cf⟩ := Kd.R_form A4.o (by omega)
           (first | cases Cy | (injection Cy with ea_ en_ ec_; (first | subst ea_ | (injection ea_ with ea_; subst ea_)); subst ec_; clear en_))
           have Be := Z.m CA
           have Eu := Z.m Cf
           clear CA gl33 Cf
           obtain ⟨C1, DT⟩ := Kd.R_celln 0 A4.o ((AB) : Int) p33 q33
           replace p33 := eq_true p33
           replace q33 := eq_true q33
           have BU := Kd.R_putg A4.o ((AB) : Int) 0
           go_wp2_with (first | ((with_reducible refine gt (t := 3) (p := 51) rfl ?_); refine store_event (t := 3) (p := 51) (v := ?vo_w36) (w1 := (wr.setCell ⟨Ae, ((AB) : Int).toNat, none⟩ (.int .i64 0))) ?hg ?ho ?hn ?hr ?_; (case ho => rfl); (case hg => rfl); (case hn => rfl); (case hr => first | (go_simp; done) | (go_simp; rfl)); intro E5 hw; have hg : wr.grownBy E5 (some Ae) := (by rw [hw]; exact BU.2); have hp_ : Kd.R (Kd.int .i64) 3 E5 w.heap.size (fun _ => True) (.slice (some ⟨Ae, 0, none⟩) Ao.length As) C3 := (by rw [hw, Ch.o]; exact BU.1); clear BU; replace A1 := Z.m (qg (g := Ax) (o := .cells #[.int .i64 a0_0, .int .i64 a0_1, .slice A0_2 l0_2.length c0_2] 30 (0, 0)) (vK A1) hg (Kd.R_ne A4.o A1.o (by decide))); replace A4 := Z.m (hp_); replace HB := Z.m ((by rw [hw]; exact qx (HB.o) Be.o : Below w.heap.size w E5)); clear hg hw hp_; have Br := bc0 A1; have Bs := bc1 A1; have Bt := bc2 A1; have BG := qz A1.o 0; have BH := qz A1.o 1; have BI := qz A1.o 2))
           go_loopg [55] k2 (fun kq v55 w' => ∃ (Aw : List Int) (Ai : Int), v55 = .int .i64 Ai ∧ Z (spec_LeastCogs.l1 kq a3 a4 Aw (l0_2.length : Int) Ai a0_0 a0_1 l0_2 = some (r1, r2)) ∧ Z (kq ≤ k2) ∧ Z (Kd.R (Kd.int .i64) 3 w' w.heap.size (fun _ => True) (.slice (some ⟨Ae, 0, none⟩) Ao.length As) Aw) ∧ Z (w'.heap[Ax]? = some (.cells #[.int .i64 a0_0, .int .i64 a0_1, (.slice A0_2 l0_2.length c0_2)] 30 (0, 0))) ∧ Z (Below w.heap.size w w'))
           case atStart => exact ⟨(C3), (0), (by first | rfl | (simp; done) | (simp [*]; done)), H', ⟨Nat.le_refl _⟩, ⟨by (try simp only [A6]); refine rK ?_; exact A4.o⟩, ⟨by (try simp only [A6]); refine bK ?_; exact A1.o⟩, ⟨vB HB⟩⟩
           case round =>
            clear H'
            (try clear Bj); (try clear Cr); (try clear Cs); (try clear p33); (try clear q33)
            (try clear Bo); (try clear Bp); (try clear Bq); (try clear Br); (try clear Bs); (try clear Bt); (try clear BD); (try clear BE)
            (try clear BF); (try clear BG); (try clear BH); (try clear BI); (try clear C1)
            obtain ⟨Aw, Ai, rfl, HA, AG, A4, A1, HB⟩ := hrel
            have A7 := (Kd.RrZ A4.o).1
            rw [A7] at A4
            (try simp only [A7])
            (try simp only [A7] at A1)
            cases gk with
            | zero => exact absurd HA.o (by simp [spec_LeastCogs.l1])
            | succ k3 =>
             have H := HA.o
             clear HA
             simp only [spec_LeastCogs.l1] at H
             by_cases c38 : Ai < (l0_2.length : Int)
             ·rw [if_pos c38] at H
              have AI := decide_eq_true c38
              clear c38
              have H' := Z.m H
              clear H
              have Bu := bc0 A1
              have Bv := bc1 A1
              have Bw := bc2 A1
              have BJ := qz A1.o 0
              have BK := qz A1.o 1
              have BL := qz A1.o 2
              go_wp2
              go_loopg [60] k3 (fun kq v60 w' => ∃ (Ar : List Int) (A3 : Int), v60 = .int .i64 A3 ∧ Z (spec_LeastCogs.l2 kq a3 a4 Ar (l0_2.length : Int) Ai (l0_2.length : Int) A3 a0_0 a0_1 l0_2 = some (r1, r2)) ∧ Z (kq ≤ k3) ∧ Z (Kd.R (Kd.int .i64) 3 w' w.heap.size (fun _ => True) (.slice (some ⟨Ae, 0, none⟩) Aw.length As) Ar) ∧ Z (w'.heap[Ax]? = some (.cells #[.int .i64 a0_0, .int .i64 a0_1, (.slice A0_2 l0_2.length c0_2)] 30 (0, 0))) ∧ Z (Below w.heap.size w w'))
              case atStart => exact ⟨(Aw), (0), (by first | rfl | (simp; done) | (simp [*]; done)), H', ⟨Nat.le_refl _⟩, ⟨by (try simp only [A6]); (try simp only [A7]); refine rK ?_; exact A4.o⟩, ⟨by (try simp only [A6]); (try simp only [A7]); refine bK ?_; exact A1.o⟩, ⟨vB HB⟩⟩
              case round =>
               clear H'
               (try clear AI)
               (try clear Bu); (try clear Bv); (try clear Bw); (try clear BJ); (try clear BK); (try clear BL)
               obtain ⟨Ar, A3, rfl, HA, AH, A4, A1, HB⟩ := hrel
               have A9 := (Kd.RrZ A4.o).1
               rw [A9] at A4
               (try simp only [A9])
               (try simp only [A9] at A1)
               cases gk with
               | zero => exact absurd HA.o (by simp [spec_LeastCogs.l2])
               | succ k4 =>
                have H := HA.o
                clear HA
                simp only [spec_LeastCogs.l2] at H
                by_cases c40 : A3 < (l0_2.length : Int)
                ·rw [if_pos c40] at H
                 have AJ := decide_eq_true c40
                 clear c40
                 by_cases c41 : 0 ≤ A3
                 ·rw [if_pos c41] at H
                  have Ct := decide_eq_true c41
                  clear c41
                  by_cases c42 : A3 < (Ar.length : Int)
                  ·rw [if_pos c42] at H
                   have Cu := decide_eq_true c42
                   clear c42
                   by_cases c43 : (rd Ar A3) < 0
                   ·rw [if_pos c43] at H
                    have AN := decide_eq_true c43
                    clear c43
                    have H' := Z.m H
                    clear H
                    have p840 : 0 ≤ (A3 : Int) := ofD
                    have q840 : A3 < (Ar.length : Int) := ofD
                    obtain ⟨Bg, e840, An⟩ := Kd.at_int (Kd.RrZ A4.o).2.2 A3 p840 q840
                    obtain rfl : (⟨Ae, 0, none⟩ : Addr) = Bg := (by injection e840)
                    (first | simp only [add_plain] at An | simp only [add_at] at An | simp only [Addr.add, Nat.zero_add] at An | skip)
                    replace p840 := eq_true p840
                    replace q840 := eq_true q840
                    go_wp2
                    (try simp only [← A9])
                    go_roundg k4
                    case measure => have := AD.o; have := AE.o; have := AG.o; have := AH.o; omega
                    case rel => exact ⟨(Ar), (wrap64 (A3 + 1)), (by first | rfl | (simp; done) | (simp [*]; done)), H', ⟨by have := AD.o; have := AE.o; have := AG.o; have := AH.o; omega⟩, ⟨by (try simp only [A6]); (try simp only [A7]); (try simp only [A9]); refine rK ?_; exact A4.o⟩, ⟨by (try simp only [A6]); (try simp only [A7]); (try simp only [A9]); refine bK ?_; exact A1.o⟩, ⟨vB HB⟩⟩
                   ·rw [if_neg c43] at H
                    have AN := decide_eq_false c43
                    (try simp only [A6] at AN)
                    (try simp only [A7] at AN)
                    (try simp only [A9] at AN)
                    clear c43
                    replace H := Option.bind_eq_some_iff.mp H
                    obtain ⟨A2, C9, H⟩ := H
                    replace H : (spec_LeastCogs.l3 k4 a3 a4 Ar A3 (l0_2.length : Int) Ai (l0_2.length : Int) A3 A2 (A2.length : Int) 0 a0_0 a0_1 l0_2) = some (r1, r2) := H
                    have Es := Z.m C9
                    clear C9
                    have H' := Z.m H
                    clear H
                    have p840 : 0 ≤ (A3 : Int) := ofD
                    have q840 : A3 < (Ar.length : Int) := ofD
                    obtain ⟨Bg, e840, An⟩ := Kd.at_int (Kd.RrZ A4.o).2.2 A3 p840 q840
                    obtain rfl : (⟨Ae, 0, none⟩ : Addr) = Bg := (by injection e840)
                    (first | simp only [add_plain] at An | simp only [add_at] at An | simp only [Addr.add, Nat.zero_add] at An | skip)
                    replace p840 := eq_true p840
                    replace q840 := eq_true q840
                    have Bx := bc0 A1
                    have By := bc1 A1
                    have Bz := bc2 A1
                    have BM := qz A1.o 0
                    have BN := qz A1.o 1
                    have BO := qz A1.o 2
                    go_wp2_with (first | ((with_reducible refine gc (f := 63) rfl ?_); refine gA (some 70) _ #[.agg #[.int .i64 a0_0, .int .i64 a0_1, .slice A0_2 l0_2.length c0_2], .int .i64 A3] ?_ Try.func63; (with_reducible refine (spec_ggNear.calls k4 a0_0 a0_1 _ _ l0_2 A3 A2 _ ?side1 ?side2 Es.o).mono ?_); (case side1 => repeat (first | exact (Kd.C_below Al.o HB.o) | (with_reducible refine Kd.C_alloc ?_ _) | (with_reducible refine Kd.C_drewN ?_ _) | (with_reducible refine Kd.C_drew ?_))); (case side2 => exact Bb.o); rintro e EG ⟨EB, rfl, DY, hb⟩; refine ⟨_, rfl, ?_⟩; have BR := Z.m (Kd.R_lower (Kd.R_new' DY (Kd.R_lt (vR A4))) (below_size (vB HB))); replace A4 := Z.m (Kd.R_elder' (vR A4) (Kd.R_base DY) hb); replace A1 := kB A1 hb; replace HB := bB HB hb; (try clear hb); (try clear C0); (try clear hk); (try clear hi); (try clear DY); obtain ⟨Cb, Bd, DR⟩ := Kd.R_slice BR.o; subst DR))
                    go_loopg [72] k4 (fun kq v72 w' => ∃ (A5 : List Int) (A0 : Int), v72 = .int .i64 A0 ∧ Z (spec_LeastCogs.l3 kq a3 a4 A5 A3 (l0_2.length : Int) Ai (l0_2.length : Int) A3 A2 (A2.length : Int) A0 a0_0 a0_1 l0_2 = some (r1, r2)) ∧ Z (kq ≤ k4) ∧ Z (Kd.R (Kd.int .i64) 3 w' w.heap.size (fun k_ => some k_ ≠ ((.slice Cb A2.length Bd) : Value).ownBlock) (.slice (some ⟨Ae, 0, none⟩) Ar.length As) A5) ∧ Z (Kd.R (Kd.int .i64) 3 w' w.heap.size (fun k_ => some k_ ≠ ((.slice (some ⟨Ae, 0, none⟩) Ar.length As) : Value).ownBlock) (.slice Cb A2.length Bd) A2) ∧ Z (w'.heap[Ax]? = some (.cells #[.int .i64 a0_0, .int .i64 a0_1, (.slice A0_2 l0_2.length c0_2)] 30 (0, 0))) ∧ Z (Below w.heap.size w w'))
                    case atStart => exact ⟨(Ar), (0), (by first | rfl | (simp; done) | (simp [*]; done)), H', ⟨Nat.le_refl _⟩, ⟨by (try simp only [A6]); (try simp only [A7]); (try simp only [A9]); refine rK ?_; exact Kd.Rm A4.o (fun _ hk => hk.2)⟩, ⟨by (try simp only [A6]); (try simp only [A7]); (try simp only [A9]); refine rK ?_; exact Kd.Rm BR.o (fun _ hk => hk.2)⟩, ⟨by (try simp only [A6]); (try simp only [A7]); (try simp only [A9]); refine bK ?_; exact A1.o⟩, ⟨vB HB⟩⟩
                    case round =>
                     clear H'
                     (try clear AJ); (try clear Ct); (try clear Cu); (try clear AN)
                     (try clear Bx); (try clear By); (try clear Bz); (try clear BM); (try clear BN); (try clear BO); (try clear An); (try clear p840); (try clear q840)
                     obtain ⟨A5, A0, rfl, HA, Ba, A4, Af, A1, HB⟩ := hrel
                     have Aa := (Kd.RrZ A4.o).1
                     rw [Aa] at A4
                     (try simp only [Aa])
                     (try simp only [Aa] at A1)
                     (try simp only [Aa] at Af)
                     cases gk with
                     | zero => exact absurd HA.o (by simp [spec_LeastCogs.l3])
                     | succ k5 =>
                      have H := HA.o
                      clear HA
                      simp only [spec_LeastCogs.l3] at H
                      by_cases c48 : A0 < (A2.length : Int)
                      ·rw [if_pos c48] at H
                       have AO := decide_eq_true c48
                       clear c48
                       by_cases c49 : 0 ≤ A0
                       ·rw [if_pos c49] at H
                        have Ee := decide_eq_true c49
                        clear c49
                        by_cases c50 : A0 < (A2.length : Int)
                        ·rw [if_pos c50] at H
                         have Ef := decide_eq_true c50
                         clear c50
                         by_cases c51 : 0 ≤ A3
                         ·rw [if_pos c51] at H
                          have Eg := decide_eq_true c51
                          clear c51
                          by_cases c52 : A3 < (A5.length : Int)
                          ·rw [if_pos c52] at H
                           have Eh := decide_eq_true c52
                           clear c52
                           by_cases c53 : 0 ≤ (rd A2 A0)
                           ·rw [if_pos c53] at H
                            have Ei := decide_eq_true c53
                            clear c53
                            by_cases c54 : (rd A2 A0) < (l0_2.length : Int)
                            ·rw [if_pos c54] at H
                             have Ej := decide_eq_true c54
                             clear c54
                             by_cases c55 : ((rd_T71 l0_2 (rd A2 A0)).f0) = 0
                             ·rw [if_pos c55] at H
                              have Cv := beq_iff_eq.mpr c55
                              have Cw := bne_eq_false_iff_eq.mpr c55
                              clear c55
                              by_cases c56 : (rd A2 A0) < (A5.length : Int)
                              ·rw [if_pos c56] at H
                               have Ek := decide_eq_true c56
                               clear c56
                               by_cases c57 : (rd A5 (rd A2 A0)) < 0
                               ·rw [if_pos c57] at H
                                have AP := decide_eq_true c57
                                clear c57
                                obtain ⟨C4, AZ⟩ : ∃ y_ : List Int, y_ = (A5.set ((rd A2 A0) : Int).toNat (wrap64 ((rd A5 A3) + 1))) := ⟨_, rfl⟩
                                replace H : (spec_LeastCogs.l3 k5 a3 a4 C4 A3 (l0_2.length : Int) Ai (l0_2.length : Int) A3 A2 (A2.length : Int) (wrap64 (A0 + 1)) a0_0 a0_1 l0_2) = some (r1, r2) := by first | (rw [AZ]; with_reducible exact H) | (have H2_ := (Option.bind_some _ _).symm.trans H; rw [AZ]; with_reducible exact H2_) | (have H2_ := (Option.bind_some _ _).symm.trans H; with_reducible exact H2_) | with_reducible exact H | (rw [AZ]; exact H) | exact H
                                have Ci := Z.m AZ
                                clear AZ
                                have H' := Z.m H
                                clear H
                                have p844 : 0 ≤ (A0 : Int) := ofD
                                have q844 : A0 < (A2.length : Int) := ofD
                                obtain ⟨Az, e844, Ay⟩ := Kd.at_int (Kd.RrZ Af.o).2.2 A0 p844 q844
                                cases e844
                                replace p844 := eq_true p844
                                replace q844 := eq_true q844
                                have p845 : 0 ≤ (A3 : Int) := ofD
                                have q845 : A3 < (A5.length : Int) := ofD
                                obtain ⟨Aq, e845, Ab⟩ := Kd.at_int (Kd.RrZ A4.o).2.2 A3 p845 q845
                                obtain rfl : (⟨Ae, 0, none⟩ : Addr) = Aq := (by injection e845)
                                (first | simp only [add_plain] at Ab | simp only [add_at] at Ab | simp only [Addr.add, Nat.zero_add] at Ab | skip)
                                replace p845 := eq_true p845
                                replace q845 := eq_true q845
                                have CM := bc0 A1
                                have CN := bc1 A1
                                have CO := bc2 A1
                                have Dm := qz A1.o 0
                                have Dn := qz A1.o 1
                                have Do := qz A1.o 2
                                have p846 : 0 ≤ ((rd A2 A0) : Int) := ofD
                                have q846 : (rd A2 A0) < (l0_2.length : Int) := ofD
                                obtain ⟨Am, e846, Ac, Ad⟩ := at_T71 Al.o (rd A2 A0) p846 q846
                                cases e846
                                replace Ac := (HB.o.cell (World.block_lt_of_cell? w _ Ac)).trans Ac
                                replace Ad := (HB.o.cell (World.block_lt_of_cell? w _ Ad)).trans Ad
                                replace p846 := eq_true p846
                                replace q846 := eq_true q846
                                have p847 : 0 ≤ ((rd A2 A0) : Int) := ofD
                                have q847 : (rd A2 A0) < (A5.length : Int) := ofD
                                obtain ⟨AL, e847, Aj⟩ := Kd.at_int (Kd.RrZ A4.o).2.2 (rd A2 A0) p847 q847
                                obtain rfl : (⟨Ae, 0, none⟩ : Addr) = AL := (by injection e847)
                                (first | simp only [add_plain] at Aj | simp only [add_at] at Aj | simp only [Addr.add, Nat.zero_add] at Aj | skip)
                                replace p847 := eq_true p847
                                replace q847 := eq_true q847
                                have p58 : 0 ≤ ((rd A2 A0) : Int) := ofD
                                have q58 : ((rd A2 A0) : Int) < ((A5.length : Int) : Int) := ofD
                                obtain ⟨E0, DU⟩ := Kd.R_celln 0 A4.o ((rd A2 A0) : Int) p58 q58
                                replace p58 := eq_true p58
                                replace q58 := eq_true q58
                                have BV := Kd.R_putg A4.o ((rd A2 A0) : Int) (wrap64 ((rd A5 A3) + 1))
                                go_wp2_with (first | ((with_reducible refine gt (t := 3) (p := 112) rfl ?_); refine store_event (t := 3) (p := 112) (v := ?vo_w61) (w1 := (wr.setCell ⟨Ae, ((rd A2 A0) : Int).toNat, none⟩ (.int .i64 (wrap64 ((rd A5 A3) + 1))))) ?hg ?ho ?hn ?hr ?_; (case ho => rfl); (case hg => rfl); (case hn => rfl); (case hr => first | (go_simp; done) | (go_simp; rfl)); intro E6 hw; have hg : wr.grownBy E6 (some Ae) := (by rw [hw]; exact BV.2); have hp_ : Kd.R (Kd.int .i64) 3 E6 w.heap.size (fun k_ => some k_ ≠ (.slice (some Az) A2.length Bd : Value).ownBlock) (.slice (some ⟨Ae, 0, none⟩) A5.length As) C4 := (by rw [hw, Ci.o]; exact BV.1); clear BV; replace Af := Z.m (Kd.R_after (v := (.slice (some ⟨Ae, 0, none⟩) A5.length As)) (v1 := (.slice (some ⟨Ae, 0, none⟩) A5.length As)) (ok := (fun _ => True)) (by refine rK ?_; exact Kd.Rm Af.o (fun _ hk => ⟨trivial, hk⟩)) hg (.inl rfl)); replace A1 := Z.m (qg (g := Ax) (o := .cells #[.int .i64 a0_0, .int .i64 a0_1, .slice (some Am) l0_2.length c0_2] 30 (0, 0)) (vK A1) hg (Kd.R_ne A4.o A1.o (by decide))); replace A4 := Z.m (hp_); replace HB := Z.m ((by rw [hw]; exact qx (HB.o) Be.o : Below w.heap.size w E6)); clear hg hw hp_))
                                (try simp only [← Aa])
                                go_roundg k5
                                case measure => have := AD.o; have := AE.o; have := AG.o; have := AH.o; have := Ba.o; omega
                                case rel => exact ⟨(C4), (wrap64 (A0 + 1)), (by first | rfl | (simp; done) | (simp [*]; done)), H', ⟨by have := AD.o; have := AE.o; have := AG.o; have := AH.o; have := Ba.o; omega⟩, ⟨by (try simp only [A6]); (try simp only [A7]); (try simp only [A9]); (try simp only [Aa]); refine rK ?_; exact A4.o⟩, ⟨by (try simp only [A6]); (try simp only [A7]); (try simp only [A9]); (try simp only [Aa]); refine rK ?_; exact Kd.Rm Af.o (fun _ hk => hk.2)⟩, ⟨by (try simp only [A6]); (try simp only [A7]); (try simp only [A9]); (try simp only [Aa]); refine bK ?_; exact A1.o⟩, ⟨vB HB⟩⟩
                               ·rw [if_neg c57] at H
                                have AP := decide_eq_false c57
                                (try simp only [A6] at AP)
                                (try simp only [A7] at AP)
                                (try simp only [A9] at AP)
                                (try simp only [Aa] at AP)
                                clear c57
                                by_cases c62 : (wrap64 ((rd A5 A3) + 1)) < (rd A5 (rd A2 A0))
                                ·rw [if_pos c62] at H
                                 have AQ := decide_eq_true c62
                                 clear c62
                                 obtain ⟨C5, B0⟩ : ∃ y_ : List Int, y_ = (A5.set ((rd A2 A0) : Int).toNat (wrap64 ((rd A5 A3) + 1))) := ⟨_, rfl⟩
                                 replace H : (spec_LeastCogs.l3 k5 a3 a4 C5 A3 (l0_2.length : Int) Ai (l0_2.length : Int) A3 A2 (A2.length : Int) (wrap64 (A0 + 1)) a0_0 a0_1 l0_2) = some (r1, r2) := by first | (rw [B0]; with_reducible exact H) | (have H2_ := (Option.bind_some _ _).symm.trans H; rw [B0]; with_reducible exact H2_) | (have H2_ := (Option.bind_some _ _).symm.trans H; with_reducible exact H2_) | with_reducible exact H | (rw [B0]; exact H) | exact H
                                 have Cj := Z.m B0
                                 clear B0
                                 have H' := Z.m H
                                 clear H
                                 have p844 : 0 ≤ (A0 : Int) := ofD
                                 have q844 : A0 < (A2.length : Int) := ofD
                                 obtain ⟨Az, e844, Ay⟩ := Kd.at_int (Kd.RrZ Af.o).2.2 A0 p844 q844
                                 cases e844
                                 replace p844 := eq_true p844
                                 replace q844 := eq_true q844
                                 have p845 : 0 ≤ (A3 : Int) := ofD
                                 have q845 : A3 < (A5.length : Int) := ofD
                                 obtain ⟨Aq, e845, Ab⟩ := Kd.at_int (Kd.RrZ A4.o).2.2 A3 p845 q845
                                 obtain rfl : (⟨Ae, 0, none⟩ : Addr) = Aq := (by injection e845)
                                 (first | simp only [add_plain] at Ab | simp only [add_at] at Ab | simp only [Addr.add, Nat.zero_add] at Ab | skip)
                                 replace p845 := eq_true p845
                                 replace q845 := eq_true q845
                                 have CP := bc0 A1
                                 have CQ := bc1 A1
                                 have CR := bc2 A1
                                 have Dp := qz A1.o 0
                                 have Dq := qz A1.o 1
                                 have Dr := qz A1.o 2
                                 have p846 : 0 ≤ ((rd A2 A0) : Int) := ofD
                                 have q846 : (rd A2 A0) < (l0_2.length : Int) := ofD
                                 obtain ⟨Am, e846, Ac, Ad⟩ := at_T71 Al.o (rd A2 A0) p846 q846
                                 cases e846
                                 replace Ac := (HB.o.cell (World.block_lt_of_cell? w _ Ac)).trans Ac
                                 replace Ad := (HB.o.cell (World.block_lt_of_cell? w _ Ad)).trans Ad
                                 replace p846 := eq_true p846
                                 replace q846 := eq_true q846
                                 have p847 : 0 ≤ ((rd A2 A0) : Int) := ofD
                                 have q847 : (rd A2 A0) < (A5.length : Int) := ofD
                                 obtain ⟨AL, e847, Aj⟩ := Kd.at_int (Kd.RrZ A4.o).2.2 (rd A2 A0) p847 q847
                                 obtain rfl : (⟨Ae, 0, none⟩ : Addr) = AL := (by injection e847)
                                 (first | simp only [add_plain] at Aj | simp only [add_at] at Aj | simp only [Addr.add, Nat.zero_add] at Aj | skip)
                                 replace p847 := eq_true p847
                                 replace q847 := eq_true q847
                                 have p849 : 0 ≤ ((rd A2 A0) : Int) := ofD
                                 have q849 : (rd A2 A0) < (A5.length : Int) := ofD
                                 obtain ⟨Bh, e849, Au⟩ := Kd.at_int (Kd.RrZ A4.o).2.2 (rd A2 A0) p849 q849
                                 obtain rfl : (⟨Ae, 0, none⟩ : Addr) = Bh := (by injection e849)
                                 (first | simp only [add_plain] at Au | simp only [add_at] at Au | simp only [Addr.add, Nat.zero_add] at Au | skip)
                                 replace p849 := eq_true p849
                                 replace q849 := eq_true q849
                                 have p63 : 0 ≤ ((rd A2 A0) : Int) := ofD
                                 have q63 : ((rd A2 A0) : Int) < ((A5.length : Int) : Int) := ofD
                                 obtain ⟨E1, DV⟩ := Kd.R_celln 0 A4.o ((rd A2 A0) : Int) p63 q63
                                 replace p63 := eq_true p63
                                 replace q63 := eq_true q63
                                 have BW := Kd.R_putg A4.o ((rd A2 A0) : Int) (wrap64 ((rd A5 A3) + 1))
                                 go_wp2_with (first | ((with_reducible refine gt (t := 3) (p := 112) rfl ?_); refine store_event (t := 3) (p := 112) (v := ?vo_w66) (w1 := (wr.setCell ⟨Ae, ((rd A2 A0) : Int).toNat, none⟩ (.int .i64 (wrap64 ((rd A5 A3) + 1))))) ?hg ?ho ?hn ?hr ?_; (case ho => rfl); (case hg => rfl); (case hn => rfl); (case hr => first | (go_simp; done) | (go_simp; rfl)); intro E7 hw; have hg : wr.grownBy E7 (some Ae) := (by rw [hw]; exact BW.2); have hp_ : Kd.R (Kd.int .i64) 3 E7 w.heap.size (fun k_ => some k_ ≠ (.slice (some Az) A2.length Bd : Value).ownBlock) (.slice (some ⟨Ae, 0, none⟩) A5.length As) C5 := (by rw [hw, Cj.o]; exact BW.1); clear BW; replace Af := Z.m (Kd.R_after (v := (.slice (some ⟨Ae, 0, none⟩) A5.length As)) (v1 := (.slice (some ⟨Ae, 0, none⟩) A5.length As)) (ok := (fun _ => True)) (by refine rK ?_; exact Kd.Rm Af.o (fun _ hk => ⟨trivial, hk⟩)) hg (.inl rfl)); replace A1 := Z.m (qg (g := Ax) (o := .cells #[.int .i64 a0_0, .int .i64 a0_1, .slice (some Am) l0_2.length c0_2] 30 (0, 0)) (vK A1) hg (Kd.R_ne A4.o A1.o (by decide))); replace A4 := Z.m (hp_); replace HB := Z.m ((by rw [hw]; exact qx (HB.o) Be.o : Below w.heap.size w E7)); clear hg hw hp_))
                                 (try simp only [← Aa])
                                 go_roundg k5
                                 case measure => have := AD.o; have := AE.o; have := AG.o; have := AH.o; have := Ba.o; omega
                                 case rel => exact ⟨(C5), (wrap64 (A0 + 1)), (by first | rfl | (simp; done) | (simp [*]; done)), H', ⟨by have := AD.o; have := AE.o; have := AG.o; have := AH.o; have := Ba.o; omega⟩, ⟨by (try simp only [A6]); (try simp only [A7]); (try simp only [A9]); (try simp only [Aa]); refine rK ?_; exact A4.o⟩, ⟨by (try simp only [A6]); (try simp only [A7]); (try simp only [A9]); (try simp only [Aa]); refine rK ?_; exact Kd.Rm Af.o (fun _ hk => hk.2)⟩, ⟨by (try simp only [A6]); (try simp only [A7]); (try simp only [A9]); (try simp only [Aa]); refine bK ?_; exact A1.o⟩, ⟨vB HB⟩⟩
                                ·rw [if_neg c62] at H
                                 have AQ := decide_eq_false c62
                                 (try simp only [A6] at AQ)
                                 (try simp only [A7] at AQ)
                                 (try simp only [A9] at AQ)
                                 (try simp only [Aa] at AQ)
                                 clear c62
                                 have H' := Z.m H
                                 clear H
                                 have p844 : 0 ≤ (A0 : Int) := ofD
                                 have q844 : A0 < (A2.length : Int) := ofD
                                 obtain ⟨Az, e844, Ay⟩ := Kd.at_int (Kd.RrZ Af.o).2.2 A0 p844 q844
                                 cases e844
                                 replace p844 := eq_true p844
                                 replace q844 := eq_true q844
                                 have p845 : 0 ≤ (A3 : Int) := ofD
                                 have q845 : A3 < (A5.length : Int) := ofD
                                 obtain ⟨Aq, e845, Ab⟩ := Kd.at_int (Kd.RrZ A4.o).2.2 A3 p845 q845
                                 obtain rfl : (⟨Ae, 0, none⟩ : Addr) = Aq := (by injection e845)
                                 (first | simp only [add_plain] at Ab | simp only [add_at] at Ab | simp only [Addr.add, Nat.zero_add] at Ab | skip)
                                 replace p845 := eq_true p845
                                 replace q845 := eq_true q845
                                 have CS := bc0 A1
                                 have CT := bc1 A1
                                 have CU := bc2 A1
                                 have Ds := qz A1.o 0
                                 have Dt := qz A1.o 1
                                 have Du := qz A1.o 2
                                 have p846 : 0 ≤ ((rd A2 A0) : Int) := ofD
                                 have q846 : (rd A2 A0) < (l0_2.length : Int) := ofD
                                 obtain ⟨Am, e846, Ac, Ad⟩ := at_T71 Al.o (rd A2 A0) p846 q846
                                 cases e846
                                 replace Ac := (HB.o.cell (World.block_lt_of_cell? w _ Ac)).trans Ac
                                 replace Ad := (HB.o.cell (World.block_lt_of_cell? w _ Ad)).trans Ad
                                 replace p846 := eq_true p846
                                 replace q846 := eq_true q846
                                 have p847 : 0 ≤ ((rd A2 A0) : Int) := ofD
                                 have q847 : (rd A2 A0) < (A5.length : Int) := ofD
                                 obtain ⟨AL, e847, Aj⟩ := Kd.at_int (Kd.RrZ A4.o).2.2 (rd A2 A0) p847 q847
                                 obtain rfl : (⟨Ae, 0, none⟩ : Addr) = AL := (by injection e847)
                                 (first | simp only [add_plain] at Aj | simp only [add_at] at Aj | simp only [Addr.add, Nat.zero_add] at Aj | skip)
                                 replace p847 := eq_true p847
                                 replace q847 := eq_true q847
                                 have p849 : 0 ≤ ((rd A2 A0) : Int) := ofD
                                 have q849 : (rd A2 A0) < (A5.length : Int) := ofD
                                 obtain ⟨Bh, e849, Au⟩ := Kd.at_int (Kd.RrZ A4.o).2.2 (rd A2 A0) p849 q849
                                 obtain rfl : (⟨Ae, 0, none⟩ : Addr) = Bh := (by injection e849)
                                 (first | simp only [add_plain] at Au | simp only [add_at] at Au | simp only [Addr.add, Nat.zero_add] at Au | skip)
                                 replace p849 := eq_true p849
                                 replace q849 := eq_true q849
                                 go_wp2
                                 (try simp only [← Aa])
                                 go_roundg k5
                                 case measure => have := AD.o; have := AE.o; have := AG.o; have := AH.o; have := Ba.o; omega
                                 case rel => exact ⟨(A5), (wrap64 (A0 + 1)), (by first | rfl | (simp; done) | (simp [*]; done)), H', ⟨by have := AD.o; have := AE.o; have := AG.o; have := AH.o; have := Ba.o; omega⟩, ⟨by (try simp only [A6]); (try simp only [A7]); (try simp only [A9]); (try simp only [Aa]); refine rK ?_; exact A4.o⟩, ⟨by (try simp only [A6]); (try simp only [A7]); (try simp only [A9]); (try simp only [Aa]); refine rK ?_; exact Af.o⟩, ⟨by (try simp only [A6]); (try simp only [A7]); (try simp only [A9]); (try simp only [Aa]); refine bK ?_; exact A1.o⟩, ⟨vB HB⟩⟩
                              ·rw [if_neg c56] at H
                               exact absurd H (by simp)
                             ·rw [if_neg c55] at H
                              have Cv := beq_eq_false_iff_ne.mpr c55
                              have Cw := bne_iff_ne.mpr c55
                              replace H := Option.bind_eq_some_iff.mp H
                              obtain ⟨CB, Ca, H⟩ := H
                              replace H : (if CB = true then (if (rd A2 A0) < (A5.length : Int) then (if (rd A5 (rd A2 A0)) < 0 then (spec_LeastCogs.l3 k5 a3 a4 (A5.set ((rd A2 A0) : Int).toNat (rd A5 A3)) A3 (l0_2.length : Int) Ai (l0_2.length : Int) A3 A2 (A2.length : Int) (wrap64 (A0 + 1)) a0_0 a0_1 l0_2) else (if (rd A5 A3) < (rd A5 (rd A2 A0)) then (spec_LeastCogs.l3 k5 a3 a4 (A5.set ((rd A2 A0) : Int).toNat (rd A5 A3)) A3 (l0_2.length : Int) Ai (l0_2.length : Int) A3 A2 (A2.length : Int) (wrap64 (A0 + 1)) a0_0 a0_1 l0_2) else (spec_LeastCogs.l3 k5 a3 a4 A5 A3 (l0_2.length : Int) Ai (l0_2.length : Int) A3 A2 (A2.length : Int) (wrap64 (A0 + 1)) a0_0 a0_1 l0_2))) else (none)) else (spec_LeastCogs.l3 k5 a3 a4 A5 A3 (l0_2.length : Int) Ai (l0_2.length : Int) A3 A2 (A2.length : Int) (wrap64 (A0 + 1)) a0_0 a0_1 l0_2)) = some (r1, r2) := H
                              have CC := Z.m Ca
                              clear Ca
                              by_cases c69 : CB = true
                              ·subst c69
                               have H1 : (if (rd A2 A0) < (A5.length : Int) then (if (rd A5 (rd A2 A0)) < 0 then (spec_LeastCogs.l3 k5 a3 a4 (A5.set ((rd A2 A0) : Int).toNat (rd A5 A3)) A3 (l0_2.length : Int) Ai (l0_2.length : Int) A3 A2 (A2.length : Int) (wrap64 (A0 + 1)) a0_0 a0_1 l0_2) else (if (rd A5 A3) < (rd A5 (rd A2 A0)) then (spec_LeastCogs.l3 k5 a3 a4 (A5.set ((rd A2 A0) : Int).toNat (rd A5 A3)) A3 (l0_2.length : Int) Ai (l0_2.length : Int) A3 A2 (A2.length : Int) (wrap64 (A0 + 1)) a0_0 a0_1 l0_2) else (spec_LeastCogs.l3 k5 a3 a4 A5 A3 (l0_2.length : Int) Ai (l0_2.length : Int) A3 A2 (A2.length : Int) (wrap64 (A0 + 1)) a0_0 a0_1 l0_2))) else (none)) = some (r1, r2) := by rw [if_pos rfl] at H; exact H
                               clear H
                               have H := H1
                               clear H1
                               by_cases c70 : (rd A2 A0) < (A5.length : Int)
                               ·rw [if_pos c70] at H
                                have El := decide_eq_true c70
                                clear c70
                                by_cases c71 : (rd A5 (rd A2 A0)) < 0
                                ·rw [if_pos c71] at H
                                 have AR := decide_eq_true c71
                                 clear c71
                                 obtain ⟨C6, B2⟩ : ∃ y_ : List Int, y_ = (A5.set ((rd A2 A0) : Int).toNat (rd A5 A3)) := ⟨_, rfl⟩
                                 replace H : (spec_LeastCogs.l3 k5 a3 a4 C6 A3 (l0_2.length : Int) Ai (l0_2.length : Int) A3 A2 (A2.length : Int) (wrap64 (A0 + 1)) a0_0 a0_1 l0_2) = some (r1, r2) := by first | (rw [B2]; with_reducible exact H) | (have H2_ := (Option.bind_some _ _).symm.trans H; rw [B2]; with_reducible exact H2_) | (have H2_ := (Option.bind_some _ _).symm.trans H; with_reducible exact H2_) | with_reducible exact H | (rw [B2]; exact H) | exact H
                                 have Cl := Z.m B2
                                 clear B2
                                 have H' := Z.m H
                                 clear H
                                 have p844 : 0 ≤ (A0 : Int) := ofD
                                 have q844 : A0 < (A2.length : Int) := ofD
                                 obtain ⟨Az, e844, Ay⟩ := Kd.at_int (Kd.RrZ Af.o).2.2 A0 p844 q844
                                 cases e844
                                 replace p844 := eq_true p844
                                 replace q844 := eq_true q844
                                 have p845 : 0 ≤ (A3 : Int) := ofD
                                 have q845 : A3 < (A5.length : Int) := ofD
                                 obtain ⟨Aq, e845, Ab⟩ := Kd.at_int (Kd.RrZ A4.o).2.2 A3 p845 q845
                                 obtain rfl : (⟨Ae, 0, none⟩ : Addr) = Aq := (by injection e845)
                                 (first | simp only [add_plain] at Ab | simp only [add_at] at Ab | simp only [Addr.add, Nat.zero_add] at Ab | skip)
                                 replace p845 := eq_true p845
                                 replace q845 := eq_true q845
                                 have CV := bc0 A1
                                 have CW := bc1 A1
                                 have CX := bc2 A1
                                 have Dv := qz A1.o 0
                                 have Dw := qz A1.o 1
                                 have Dx := qz A1.o 2
                                 have p846 : 0 ≤ ((rd A2 A0) : Int) := ofD
                                 have q846 : (rd A2 A0) < (l0_2.length : Int) := ofD
                                 obtain ⟨Am, e846, Ac, Ad⟩ := at_T71 Al.o (rd A2 A0) p846 q846
                                 cases e846
                                 replace Ac := (HB.o.cell (World.block_lt_of_cell? w _ Ac)).trans Ac
                                 replace Ad := (HB.o.cell (World.block_lt_of_cell? w _ Ad)).trans Ad
                                 replace p846 := eq_true p846
                                 replace q846 := eq_true q846
                                 have p851 : 0 ≤ ((rd A2 A0) : Int) := ofD
                                 have q851 : (rd A2 A0) < (l0_2.length : Int) := ofD
                                 obtain ⟨AC, e851, Ag, Ah⟩ := at_T71 Al.o (rd A2 A0) p851 q851
                                 obtain rfl : Am = AC := (by injection e851)
                                 replace Ag := (HB.o.cell (World.block_lt_of_cell? w _ Ag)).trans Ag
                                 replace Ah := (HB.o.cell (World.block_lt_of_cell? w _ Ah)).trans Ah
                                 replace p851 := eq_true p851
                                 replace q851 := eq_true q851
                                 go_wp2_with (first | ((with_reducible refine gc (f := 64) rfl ?_); refine gA (some 94) _ #[.agg #[.int .i64 ((rd_T71 l0_2 (rd A2 A0)).f0), .int .i64 ((rd_T71 l0_2 (rd A2 A0)).f1)]] ?_ Try.func64; (with_reducible refine (spec_ggGear.calls ((rd_T71 l0_2 (rd A2 A0)).f0) ((rd_T71 l0_2 (rd A2 A0)).f1) true _ CC.o).mono ?_); rintro e Eo ⟨rfl, hb⟩; refine ⟨_, rfl, ?_⟩; replace A4 := Z.m (Kd.Rb (vR A4) hb); replace Af := Z.m (Kd.Rb (vR Af) hb); replace A1 := kB A1 hb; replace HB := bB HB hb; (try clear hb); (try clear C0); (try clear hk); (try clear hi); have p853 : 0 ≤ ((rd A2 A0) : Int) := ofD; have q853 : (rd A2 A0) < (A5.length : Int) := ofD; obtain ⟨AM, e853, Ak⟩ := Kd.at_int (Kd.RrZ A4.o).2.2 (rd A2 A0) p853 q853; obtain rfl : (⟨Ae, 0, none⟩ : Addr) = AM := (by injection e853); (first | simp only [add_plain] at Ak | simp only [add_at] at Ak | simp only [Addr.add, Nat.zero_add] at Ak | skip); replace p853 := eq_true p853; replace q853 := eq_true q853; have p72 : 0 ≤ ((rd A2 A0) : Int) := ofD; have q72 : ((rd A2 A0) : Int) < ((A5.length : Int) : Int) := ofD; obtain ⟨E2, DW⟩ := Kd.R_celln 0 A4.o ((rd A2 A0) : Int) p72 q72; replace p72 := eq_true p72; replace q72 := eq_true q72; obtain ⟨hy75_, hz75_⟩ := Kd.R_celln 0 A4.o ((rd A2 A0) : Int) (ofD) (ofD); have BX := Kd.R_putg A4.o ((rd A2 A0) : Int) (rd A5 A3)) | ((with_reducible refine gt (t := 3) (p := 112) rfl ?_); refine store_event (t := 3) (p := 112) (v := ?vo_w76) (w1 := (Eo.setCell ⟨Ae, ((rd A2 A0) : Int).toNat, none⟩ (.int .i64 (rd A5 A3)))) ?hg ?ho ?hn ?hr ?_; (case ho => rfl); (case hg => rfl); (case hn => rfl); (case hr => first | (go_simp; done) | (go_simp; rfl)); intro E8 hw; have hg : Eo.grownBy E8 (some Ae) := (by rw [hw]; exact BX.2); have hp_ : Kd.R (Kd.int .i64) 3 E8 w.heap.size (fun k_ => some k_ ≠ (.slice (some Az) A2.length Bd : Value).ownBlock) (.slice (some ⟨Ae, 0, none⟩) A5.length As) C6 := (by rw [hw, Cl.o]; exact BX.1); clear BX; replace Af := Z.m (Kd.R_after (v := (.slice (some ⟨Ae, 0, none⟩) A5.length As)) (v1 := (.slice (some ⟨Ae, 0, none⟩) A5.length As)) (ok := (fun _ => True)) (by refine rK ?_; exact Kd.Rm Af.o (fun _ hk => ⟨trivial, hk⟩)) hg (.inl rfl)); replace A1 := Z.m (qg (g := Ax) (o := .cells #[.int .i64 a0_0, .int .i64 a0_1, .slice (some Am) l0_2.length c0_2] 30 (0, 0)) (vK A1) hg (Kd.R_ne A4.o A1.o (by decide))); replace A4 := Z.m (hp_); replace HB := Z.m ((by rw [hw]; exact qx (HB.o) Be.o : Below w.heap.size w E8)); clear hg hw hp_))
                                 (try simp only [← Aa])
                                 go_roundg k5
                                 case measure => have := AD.o; have := AE.o; have := AG.o; have := AH.o; have := Ba.o; omega
                                 case rel => exact ⟨(C6), (wrap64 (A0 + 1)), (by first | rfl | (simp; done) | (simp [*]; done)), H', ⟨by have := AD.o; have := AE.o; have := AG.o; have := AH.o; have := Ba.o; omega⟩, ⟨by (try simp only [A6]); (try simp only [A7]); (try simp only [A9]); (try simp only [Aa]); refine rK ?_; exact A4.o⟩, ⟨by (try simp only [A6]); (try simp only [A7]); (try simp only [A9]); (try simp only [Aa]); refine rK ?_; exact Kd.Rm Af.o (fun _ hk => hk.2)⟩, ⟨by (try simp only [A6]); (try simp only [A7]); (try simp only [A9]); (try simp only [Aa]); refine bK ?_; exact A1.o⟩, ⟨vB HB⟩⟩
                                ·rw [if_neg c71] at H
                                 have AR := decide_eq_false c71
                                 (try simp only [A6] at AR)
                                 (try simp only [A7] at AR)
                                 (try simp only [A9] at AR)
                                 (try simp only [Aa] at AR)
                                 clear c71
                                 by_cases c77 : (rd A5 A3) < (rd A5 (rd A2 A0))
                                 ·rw [if_pos c77] at H
                                  have AS := decide_eq_true c77
                                  clear c77
                                  obtain ⟨C7, B7⟩ : ∃ y_ : List Int, y_ = (A5.set ((rd A2 A0) : Int).toNat (rd A5 A3)) := ⟨_, rfl⟩
                                  replace H : (spec_LeastCogs.l3 k5 a3 a4 C7 A3 (l0_2.length : Int) Ai (l0_2.length : Int) A3 A2 (A2.length : Int) (wrap64 (A0 + 1)) a0_0 a0_1 l0_2) = some (r1, r2) := by first | (rw [B7]; with_reducible exact H) | (have H2_ := (Option.bind_some _ _).symm.trans H; rw [B7]; with_reducible exact H2_) | (have H2_ := (Option.bind_some _ _).symm.trans H; with_reducible exact H2_) | with_reducible exact H | (rw [B7]; exact H) | exact H
                                  have Cm := Z.m B7
                                  clear B7
                                  have H' := Z.m H
                                  clear H
                                  have p844 : 0 ≤ (A0 : Int) := ofD
                                  have q844 : A0 < (A2.length : Int) := ofD
                                  obtain ⟨Az, e844, Ay⟩ := Kd.at_int (Kd.RrZ Af.o).2.2 A0 p844 q844
                                  cases e844
                                  replace p844 := eq_true p844
                                  replace q844 := eq_true q844
                                  have p845 : 0 ≤ (A3 : Int) := ofD
                                  have q845 : A3 < (A5.length : Int) := ofD
                                  obtain ⟨Aq, e845, Ab⟩ := Kd.at_int (Kd.RrZ A4.o).2.2 A3 p845 q845
                                  obtain rfl : (⟨Ae, 0, none⟩ : Addr) = Aq := (by injection e845)
                                  (first | simp only [add_plain] at Ab | simp only [add_at] at Ab | simp only [Addr.add, Nat.zero_add] at Ab | skip)
                                  replace p845 := eq_true p845
                                  replace q845 := eq_true q845
                                  have CY := bc0 A1
                                  have CZ := bc1 A1
                                  have D0 := bc2 A1
                                  have Dy := qz A1.o 0
                                  have Dz := qz A1.o 1
                                  have DA := qz A1.o 2
                                  have p846 : 0 ≤ ((rd A2 A0) : Int) := ofD
                                  have q846 : (rd A2 A0) < (l0_2.length : Int) := ofD
                                  obtain ⟨Am, e846, Ac, Ad⟩ := at_T71 Al.o (rd A2 A0) p846 q846
                                  cases e846
                                  replace Ac := (HB.o.cell (World.block_lt_of_cell? w _ Ac)).trans Ac
                                  replace Ad := (HB.o.cell (World.block_lt_of_cell? w _ Ad)).trans Ad
                                  replace p846 := eq_true p846
                                  replace q846 := eq_true q846
                                  have p851 : 0 ≤ ((rd A2 A0) : Int) := ofD
                                  have q851 : (rd A2 A0) < (l0_2.length : Int) := ofD
                                  obtain ⟨AC, e851, Ag, Ah⟩ := at_T71 Al.o (rd A2 A0) p851 q851
                                  obtain rfl : Am = AC := (by injection e851)
                                  replace Ag := (HB.o.cell (World.block_lt_of_cell? w _ Ag)).trans Ag
                                  replace Ah := (HB.o.cell (World.block_lt_of_cell? w _ Ah)).trans Ah
                                  replace p851 := eq_true p851
                                  replace q851 := eq_true q851
                                  go_wp2_with (first | ((with_reducible refine gc (f := 64) rfl ?_); refine gA (some 94) _ #[.agg #[.int .i64 ((rd_T71 l0_2 (rd A2 A0)).f0), .int .i64 ((rd_T71 l0_2 (rd A2 A0)).f1)]] ?_ Try.func64; (with_reducible refine (spec_ggGear.calls ((rd_T71 l0_2 (rd A2 A0)).f0) ((rd_T71 l0_2 (rd A2 A0)).f1) true _ CC.o).mono ?_); rintro e Ep ⟨rfl, hb⟩; refine ⟨_, rfl, ?_⟩; replace A4 := Z.m (Kd.Rb (vR A4) hb); replace Af := Z.m (Kd.Rb (vR Af) hb); replace A1 := kB A1 hb; replace HB := bB HB hb; (try clear hb); (try clear C0); (try clear hk); (try clear hi); have p853 : 0 ≤ ((rd A2 A0) : Int) := ofD; have q853 : (rd A2 A0) < (A5.length : Int) := ofD; obtain ⟨AM, e853, Ak⟩ := Kd.at_int (Kd.RrZ A4.o).2.2 (rd A2 A0) p853 q853; obtain rfl : (⟨Ae, 0, none⟩ : Addr) = AM := (by injection e853); (first | simp only [add_plain] at Ak | simp only [add_at] at Ak | simp only [Addr.add, Nat.zero_add] at Ak | skip); replace p853 := eq_true p853; replace q853 := eq_true q853; have p855 : 0 ≤ ((rd A2 A0) : Int) := ofD; have q855 : (rd A2 A0) < (A5.length : Int) := ofD; obtain ⟨Bi, e855, Av⟩ := Kd.at_int (Kd.RrZ A4.o).2.2 (rd A2 A0) p855 q855; obtain rfl : (⟨Ae, 0, none⟩ : Addr) = Bi := (by injection e855); (first | simp only [add_plain] at Av | simp only [add_at] at Av | simp only [Addr.add, Nat.zero_add] at Av | skip); replace p855 := eq_true p855; replace q855 := eq_true q855; have p78 : 0 ≤ ((rd A2 A0) : Int) := ofD; have q78 : ((rd A2 A0) : Int) < ((A5.length : Int) : Int) := ofD; obtain ⟨E3, DX⟩ := Kd.R_celln 0 A4.o ((rd A2 A0) : Int) p78 q78; replace p78 := eq_true p78; replace q78 := eq_true q78; obtain ⟨hy81_, hz81_⟩ := Kd.R_celln 0 A4.o ((rd A2 A0) : Int) (ofD) (ofD); have BY := Kd.R_putg A4.o ((rd A2 A0) : Int) (rd A5 A3)) | ((with_reducible refine gt (t := 3) (p := 112) rfl ?_); refine store_event (t := 3) (p := 112) (v := ?vo_w82) (w1 := (Ep.setCell ⟨Ae, ((rd A2 A0) : Int).toNat, none⟩ (.int .i64 (rd A5 A3)))) ?hg ?ho ?hn ?hr ?_; (case ho => rfl); (case hg => rfl); (case hn => rfl); (case hr => first | (go_simp; done) | (go_simp; rfl)); intro E9 hw; have hg : Ep.grownBy E9 (some Ae) := (by rw [hw]; exact BY.2); have hp_ : Kd.R (Kd.int .i64) 3 E9 w.heap.size (fun k_ => some k_ ≠ (.slice (some Az) A2.length Bd : Value).ownBlock) (.slice (some ⟨Ae, 0, none⟩) A5.length As) C7 := (by rw [hw, Cm.o]; exact BY.1); clear BY; replace Af := Z.m (Kd.R_after (v := (.slice (some ⟨Ae, 0, none⟩) A5.length As)) (v1 := (.slice (some ⟨Ae, 0, none⟩) A5.length As)) (ok := (fun _ => True)) (by refine rK ?_; exact Kd.Rm Af.o (fun _ hk => ⟨trivial, hk⟩)) hg (.inl rfl)); replace A1 := Z.m (qg (g := Ax) (o := .cells #[.int .i64 a0_0, .int .i64 a0_1, .slice (some Am) l0_2.length c0_2] 30 (0, 0)) (vK A1) hg (Kd.R_ne A4.o A1.o (by decide))); replace A4 := Z.m (hp_); replace HB := Z.m ((by rw [hw]; exact qx (HB.o) Be.o : Below w.heap.size w E9)); clear hg hw hp_))
                                  (try simp only [← Aa])
                                  go_roundg k5
                                  case measure => have := AD.o; have := AE.o; have := AG.o; have := AH.o; have := Ba.o; omega
                                  case rel => exact ⟨(C7), (wrap64 (A0 + 1)), (by first | rfl | (simp; done) | (simp [*]; done)), H', ⟨by have := AD.o; have := AE.o; have := AG.o; have := AH.o; have := Ba.o; omega⟩, ⟨by (try simp only [A6]); (try simp only [A7]); (try simp only [A9]); (try simp only [Aa]); refine rK ?_; exact A4.o⟩, ⟨by (try simp only [A6]); (try simp only [A7]); (try simp only [A9]); (try simp only [Aa]); refine rK ?_; exact Kd.Rm Af.o (fun _ hk => hk.2)⟩, ⟨by (try simp only [A6]); (try simp only [A7]); (try simp only [A9]); (try simp only [Aa]); refine bK ?_; exact A1.o⟩, ⟨vB HB⟩⟩
                                 ·rw [if_neg c77] at H
                                  have AS := decide_eq_false c77
                                  (try simp only [A6] at AS)
                                  (try simp only [A7] at AS)
                                  (try simp only [A9] at AS)
                                  (try simp only [Aa] at AS)
                                  clear c77
                                  have H' := Z.m H
                                  clear H
                                  have p844 : 0 ≤ (A0 : Int) := ofD
                                  have q844 : A0 < (A2.length : Int) := ofD
                                  obtain ⟨Az, e844, Ay⟩ := Kd.at_int (Kd.RrZ Af.o).2.2 A0 p844 q844
                                  cases e844
                                  replace p844 := eq_true p844
                                  replace q844 := eq_true q844
                                  have p845 : 0 ≤ (A3 : Int) := ofD
                                  have q845 : A3 < (A5.length : Int) := ofD
                                  obtain ⟨Aq, e845, Ab⟩ := Kd.at_int (Kd.RrZ A4.o).2.2 A3 p845 q845
                                  obtain rfl : (⟨Ae, 0, none⟩ : Addr) = Aq := (by injection e845)
                                  (first | simp only [add_plain] at Ab | simp only [add_at] at Ab | simp only [Addr.add, Nat.zero_add] at Ab | skip)
                                  replace p845 := eq_true p845
                                  replace q845 := eq_true q845
                                  have D1 := bc0 A1
                                  have D2 := bc1 A1
                                  have D3 := bc2 A1
                                  have DB := qz A1.o 0
                                  have DC := qz A1.o 1
                                  have DD := qz A1.o 2
                                  have p846 : 0 ≤ ((rd A2 A0) : Int) := ofD
                                  have q846 : (rd A2 A0) < (l0_2.length : Int) := ofD
                                  obtain ⟨Am, e846, Ac, Ad⟩ := at_T71 Al.o (rd A2 A0) p846 q846
                                  cases e846
                                  replace Ac := (HB.o.cell (World.block_lt_of_cell? w _ Ac)).trans Ac
                                  replace Ad := (HB.o.cell (World.block_lt_of_cell? w _ Ad)).trans Ad
                                  replace p846 := eq_true p846
                                  replace q846 := eq_true q846
                                  have p851 : 0 ≤ ((rd A2 A0) : Int) := ofD
                                  have q851 : (rd A2 A0) < (l0_2.length : Int) := ofD
                                  obtain ⟨AC, e851, Ag, Ah⟩ := at_T71 Al.o (rd A2 A0) p851 q851
                                  obtain rfl : Am = AC := (by injection e851)
                                  replace Ag := (HB.o.cell (World.block_lt_of_cell? w _ Ag)).trans Ag
                                  replace Ah := (HB.o.cell (World.block_lt_of_cell? w _ Ah)).trans Ah
                                  replace p851 := eq_true p851
                                  replace q851 := eq_true q851
                                  go_wp2_with (first | ((with_reducible refine gc (f := 64) rfl ?_); refine gA (some 94) _ #[.agg #[.int .i64 ((rd_T71 l0_2 (rd A2 A0)).f0), .int .i64 ((rd_T71 l0_2 (rd A2 A0)).f1)]] ?_ Try.func64; (with_reducible refine (spec_ggGear.calls ((rd_T71 l0_2 (rd A2 A0)).f0) ((rd_T71 l0_2 (rd A2 A0)).f1) true _ CC.o).mono ?_); rintro e EH ⟨rfl, hb⟩; refine ⟨_, rfl, ?_⟩; replace A4 := Z.m (Kd.Rb (vR A4) hb); replace Af := Z.m (Kd.Rb (vR Af) hb); replace A1 := kB A1 hb; replace HB := bB HB hb; (try clear hb); (try clear C0); (try clear hk); (try clear hi); have p853 : 0 ≤ ((rd A2 A0) : Int) := ofD; have q853 : (rd A2 A0) < (A5.length : Int) := ofD; obtain ⟨AM, e853, Ak⟩ := Kd.at_int (Kd.RrZ A4.o).2.2 (rd A2 A0) p853 q853; obtain rfl : (⟨Ae, 0, none⟩ : Addr) = AM := (by injection e853); (first | simp only [add_plain] at Ak | simp only [add_at] at Ak | simp only [Addr.add, Nat.zero_add] at Ak | skip); replace p853 := eq_true p853; replace q853 := eq_true q853; have p855 : 0 ≤ ((rd A2 A0) : Int) := ofD; have q855 : (rd A2 A0) < (A5.length : Int) := ofD; obtain ⟨Bi, e855, Av⟩ := Kd.at_int (Kd.RrZ A4.o).2.2 (rd A2 A0) p855 q855; obtain rfl : (⟨Ae, 0, none⟩ : Addr) = Bi := (by injection e855); (first | simp only [add_plain] at Av | simp only [add_at] at Av | simp only [Addr.add, Nat.zero_add] at Av | skip); replace p855 := eq_true p855; replace q855 := eq_true q855))
                                  (try simp only [← Aa])
                                  go_roundg k5
                                  case measure => have := AD.o; have := AE.o; have := AG.o; have := AH.o; have := Ba.o; omega
                                  case rel => exact ⟨(A5), (wrap64 (A0 + 1)), (by first | rfl | (simp; done) | (simp [*]; done)), H', ⟨by have := AD.o; have := AE.o; have := AG.o; have := AH.o; have := Ba.o; omega⟩, ⟨by (try simp only [A6]); (try simp only [A7]); (try simp only [A9]); (try simp only [Aa]); refine rK ?_; exact A4.o⟩, ⟨by (try simp only [A6]); (try simp only [A7]); (try simp only [A9]); (try simp only [Aa]); refine rK ?_; exact Af.o⟩, ⟨by (try simp only [A6]); (try simp only [A7]); (try simp only [A9]); (try simp only [Aa]); refine bK ?_; exact A1.o⟩, ⟨vB HB⟩⟩
                               ·rw [if_neg c70] at H
                                exact absurd H (by simp)
                              ·replace c69 := Bool.eq_false_iff.mpr c69
                               subst c69
                               have H1 : (spec_LeastCogs.l3 k5 a3 a4 A5 A3 (l0_2.length : Int) Ai (l0_2.length : Int) A3 A2 (A2.length : Int) (wrap64 (A0 + 1)) a0_0 a0_1 l0_2) = some (r1, r2) := by rw [if_neg (show ¬ (false = true) by decide)] at H; exact H
                               clear H
                               have H := H1
                               clear H1
                               have H' := Z.m H
                               clear H
                               have p844 : 0 ≤ (A0 : Int) := ofD
                               have q844 : A0 < (A2.length : Int) := ofD
                               obtain ⟨Az, e844, Ay⟩ := Kd.at_int (Kd.RrZ Af.o).2.2 A0 p844 q844
                               cases e844
                               replace p844 := eq_true p844
                               replace q844 := eq_true q844
                               have p845 : 0 ≤ (A3 : Int) := ofD
                               have q845 : A3 < (A5.length : Int) := ofD
                               obtain ⟨Aq, e845, Ab⟩ := Kd.at_int (Kd.RrZ A4.o).2.2 A3 p845 q845
                               obtain rfl : (⟨Ae, 0, none⟩ : Addr) = Aq := (by injection e845)
                               (first | simp only [add_plain] at Ab | simp only [add_at] at Ab | simp only [Addr.add, Nat.zero_add] at Ab | skip)
                               replace p845 := eq_true p845
                               replace q845 := eq_true q845
                               have D4 := bc0 A1
                               have D5 := bc1 A1
                               have D6 := bc2 A1
                               have DE := qz A1.o 0
                               have DF := qz A1.o 1
                               have DG := qz A1.o 2
                               have p846 : 0 ≤ ((rd A2 A0) : Int) := ofD
                               have q846 : (rd A2 A0) < (l0_2.length : Int) := ofD
                               obtain ⟨Am, e846, Ac, Ad⟩ := at_T71 Al.o (rd A2 A0) p846 q846
                               cases e846
                               replace Ac := (HB.o.cell (World.block_lt_of_cell? w _ Ac)).trans Ac
                               replace Ad := (HB.o.cell (World.block_lt_of_cell? w _ Ad)).trans Ad
                               replace p846 := eq_true p846
                               replace q846 := eq_true q846
                               have p851 : 0 ≤ ((rd A2 A0) : Int) := ofD
                               have q851 : (rd A2 A0) < (l0_2.length : Int) := ofD
                               obtain ⟨AC, e851, Ag, Ah⟩ := at_T71 Al.o (rd A2 A0) p851 q851
                               obtain rfl : Am = AC := (by injection e851)
                               replace Ag := (HB.o.cell (World.block_lt_of_cell? w _ Ag)).trans Ag
                               replace Ah := (HB.o.cell (World.block_lt_of_cell? w _ Ah)).trans Ah
                               replace p851 := eq_true p851
                               replace q851 := eq_true q851
                               go_wp2_with (first | ((with_reducible refine gc (f := 64) rfl ?_); refine gA (some 94) _ #[.agg #[.int .i64 ((rd_T71 l0_2 (rd A2 A0)).f0), .int .i64 ((rd_T71 l0_2 (rd A2 A0)).f1)]] ?_ Try.func64; (with_reducible refine (spec_ggGear.calls ((rd_T71 l0_2 (rd A2 A0)).f0) ((rd_T71 l0_2 (rd A2 A0)).f1) false _ CC.o).mono ?_); rintro e EI ⟨rfl, hb⟩; refine ⟨_, rfl, ?_⟩; replace A4 := Z.m (Kd.Rb (vR A4) hb); replace Af := Z.m (Kd.Rb (vR Af) hb); replace A1 := kB A1 hb; replace HB := bB HB hb; (try clear hb); (try clear C0); (try clear hk); (try clear hi)))
                               (try simp only [← Aa])
                               go_roundg k5
                               case measure => have := AD.o; have := AE.o; have := AG.o; have := AH.o; have := Ba.o; omega
                               case rel => exact ⟨(A5), (wrap64 (A0 + 1)), (by first | rfl | (simp; done) | (simp [*]; done)), H', ⟨by have := AD.o; have := AE.o; have := AG.o; have := AH.o; have := Ba.o; omega⟩, ⟨by (try simp only [A6]); (try simp only [A7]); (try simp only [A9]); (try simp only [Aa]); refine rK ?_; exact A4.o⟩, ⟨by (try simp only [A6]); (try simp only [A7]); (try simp only [A9]); (try simp only [Aa]); refine rK ?_; exact Af.o⟩, ⟨by (try simp only [A6]); (try simp only [A7]); (try simp only [A9]); (try simp only [Aa]); refine bK ?_; exact A1.o⟩, ⟨vB HB⟩⟩
                            ·rw [if_neg c54] at H
                             exact absurd H (by simp)
                           ·rw [if_neg c53] at H
                            exact absurd H (by simp)
                          ·rw [if_neg c52] at H
                           exact absurd H (by simp)
                         ·rw [if_neg c51] at H
                          exact absurd H (by simp)
                        ·rw [if_neg c50] at H
                         exact absurd H (by simp)
                       ·rw [if_neg c49] at H
                        exact absurd H (by simp)
                      ·rw [if_neg c48] at H
                       have AO := decide_eq_false c48
                       (try simp only [A6] at AO)
                       (try simp only [A7] at AO)
                       (try simp only [A9] at AO)
                       (try simp only [Aa] at AO)
                       clear c48
                       have H' := Z.m H
                       clear H
                       go_wp2
                       (try simp only [← A9, ← Aa])
                       go_roundg k5
                       case measure => have := AD.o; have := AE.o; have := AG.o; have := AH.o; have := Ba.o; omega
                       case rel => exact ⟨(A5), (wrap64 (A3 + 1)), (by first | rfl | (simp; done) | (simp [*]; done)), H', ⟨by have := AD.o; have := AE.o; have := AG.o; have := AH.o; have := Ba.o; omega⟩, ⟨by (try simp only [A6]); (try simp only [A7]); (try simp only [A9]); (try simp only [Aa]); refine rK ?_; exact Kd.Rm A4.o (fun _ hk => trivial)⟩, ⟨by (try simp only [A6]); (try simp only [A7]); (try simp only [A9]); (try simp only [Aa]); refine bK ?_; exact A1.o⟩, ⟨vB HB⟩⟩
                  ·rw [if_neg c42] at H
                   exact absurd H (by simp)
                 ·rw [if_neg c41] at H
                  exact absurd H (by simp)
                ·rw [if_neg c40] at H
                 have AJ := decide_eq_false c40
                 (try simp only [A6] at AJ)
                 (try simp only [A7] at AJ)
                 (try simp only [A9] at AJ)
                 (try simp only [Aa] at AJ)
                 clear c40
                 have H' := Z.m H
                 clear H
                 go_wp2
                 (try simp only [← A7, ← A9])
                 go_roundg k4
                 case measure => have := AD.o; have := AE.o; have := AG.o; have := AH.o; omega
                 case rel => exact ⟨(Ar), (wrap64 (Ai + 1)), (by first | rfl | (simp; done) | (simp [*]; done)), H', ⟨by have := AD.o; have := AE.o; have := AG.o; have := AH.o; omega⟩, ⟨by (try simp only [A6]); (try simp only [A7]); (try simp only [A9]); refine rK ?_; exact A4.o⟩, ⟨by (try simp only [A6]); (try simp only [A7]); (try simp only [A9]); refine bK ?_; exact A1.o⟩, ⟨vB HB⟩⟩
             ·rw [if_neg c38] at H
              have AI := decide_eq_false c38
              (try simp only [A6] at AI)
              (try simp only [A7] at AI)
              (try simp only [A9] at AI)
              (try simp only [Aa] at AI)
              clear c38
              obtain ⟨AA, AV⟩ : ∃ j_ : Int, (wrap64 ((wrap64 (a3 * a0_1)) + a4)) = j_ := ⟨_, rfl⟩
              replace H : (if 0 ≤ (AA) then (if (AA) < (Aw.length : Int) then (if (rd Aw (AA)) ≥ 0 then (some (rd Aw (AA), true)) else (some (0, false))) else (none)) else (none)) = some (r1, r2) := by first | (rw [AV] at H; exact H) | (simp only [AV] at H ⊢; exact H)
              have hji87w : (IntKind.i64.wrap ((wrap64 (a3 * a0_1)) + a4)) = AA := (i64_w _).trans AV
              by_cases c88 : 0 ≤ (AA)
              ·rw [if_pos c88] at H
               have Em := decide_eq_true c88
               clear c88
               by_cases c89 : (AA) < (Aw.length : Int)
               ·rw [if_pos c89] at H
                have En := decide_eq_true c89
                clear c89
                by_cases c90 : (rd Aw (AA)) ≥ 0
                ·rw [if_pos c90] at H
                 have AT := decide_eq_true c90
                 clear c90
                 simp only [Option.some.injEq, Prod.mk.injEq] at H
                 obtain ⟨rfl, rfl⟩ := H
                 have D7 := bc0 A1
                 have D8 := bc1 A1
                 have D9 := bc2 A1
                 have DH := qz A1.o 0
                 have DI := qz A1.o 1
                 have DJ := qz A1.o 2
                 have p839 : 0 ≤ ((AA) : Int) := ofD
                 have q839 : (AA) < (Aw.length : Int) := ofD
                 obtain ⟨Bf, e839, At⟩ := Kd.at_int (Kd.RrZ A4.o).2.2 (AA) p839 q839
                 obtain rfl : (⟨Ae, 0, none⟩ : Addr) = Bf := (by injection e839)
                 (first | simp only [add_plain] at At | simp only [add_at] at At | simp only [Addr.add, Nat.zero_add] at At | skip)
                 replace p839 := eq_true p839
                 replace q839 := eq_true q839
                 go_wp2
                 go_ret2
                 exact ⟨by first | rfl | (simp [eN, eS] <;> rfl) | (simp only [← AU, ← AV]; first | rfl | (simp [eN, eS] <;> rfl)) | (simp [*, eN, eS] <;> rfl), vB HB⟩
                ·rw [if_neg c90] at H
                 have AT := decide_eq_false c90
                 (try simp only [A6] at AT)
                 (try simp only [A7] at AT)
                 (try simp only [A9] at AT)
                 (try simp only [Aa] at AT)
                 clear c90
                 simp only [Option.some.injEq, Prod.mk.injEq] at H
                 obtain ⟨rfl, rfl⟩ := H
                 have Da := bc0 A1
                 have Db := bc1 A1
                 have Dc := bc2 A1
                 have DK := qz A1.o 0
                 have DL := qz A1.o 1
                 have DM := qz A1.o 2
                 have p839 : 0 ≤ ((AA) : Int) := ofD
                 have q839 : (AA) < (Aw.length : Int) := ofD
                 obtain ⟨Bf, e839, At⟩ := Kd.at_int (Kd.RrZ A4.o).2.2 (AA) p839 q839
                 obtain rfl : (⟨Ae, 0, none⟩ : Addr) = Bf := (by injection e839)
                 (first | simp only [add_plain] at At | simp only [add_at] at At | simp only [Addr.add, Nat.zero_add] at At | skip)
                 replace p839 := eq_true p839
                 replace q839 := eq_true q839
                 go_wp2
                 go_ret2
                 exact ⟨by first | rfl | (simp [eN, eS] <;> rfl) | (simp only [← AU, ← AV]; first | rfl | (simp [eN, eS] <;> rfl)) | (simp [*, eN, eS] <;> rfl), vB HB⟩
               ·rw [if_neg c89] at H
                exact absurd H (by simp)
              ·rw [if_neg c88] at H
               exact absurd H (by simp)
          ·rw [if_neg c32] at H
           exact absurd H (by simp)
         ·rw [if_neg c31] at H
          exact absurd H (by simp)
     ·rw [if_neg c19] at H
      exact absurd H (by simp)
    ·rw [if_neg c18] at H
     exact absurd H (by simp)

end Go.Proofs.Ytlkiakpipcnijaa.PAll
