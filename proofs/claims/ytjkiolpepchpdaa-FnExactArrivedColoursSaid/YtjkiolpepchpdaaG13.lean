/- Began as a text that print.sh wrote (of the functions named below); turned and shortened by this session. -/
import Derived.Test.YtjkiolpepchpdaaG0
import Derived.Test.YtjkiolpepchpdaaG11
namespace Go.Proofs.Ytjkiolpepchpdaa.PAll
open Go.RowKit Go.Proofs.YtjkiolpepchpdaaW.PrintWords Go.Proofs.YtjkiolpepchpdaaW.PrintLast Go.Proofs.YtjkiolpepchpdaaW.PrintMore
attribute [local go_sem] max2_int min2_int max_two min_two max_three min_three max_four min_four   -- for this text's walks alone
set_option linter.unusedVariables false
set_option linter.unusedSimpArgs false

/-! ### impl_GoesTo: function 68 -/
mutual
def impl_GoesTo.j0 : Nat → Int → Bool → Int → Int → Option (Int × Bool)
 | 0, _, _, _, _ => none
 | k + 1, x1, x21, x350000, x350001 => if x21 = true then (some (0, false)) else (if x350000 = 1 then (some ((-1), true)) else (if x350000 = 2 then (some (1, true)) else (if x350000 = 3 then (impl_GoesTo.j1 k x1 x350000 (x350000 == 3) x350000 x350001) else (impl_GoesTo.j1 k x1 x350000 (x350000 == 6) x350000 x350001))))
def impl_GoesTo.j1 : Nat → Int → Int → Bool → Int → Int → Option (Int × Bool)
 | 0, _, _, _, _, _ => none
 | k + 1, x1, x23, x28, x350000, x350001 => if x28 = true then (some (wrap64 ((wrap64 (2 * x350001)) - 1), true)) else (if x23 = 4 then (some (wrap64 (-x1), true)) else (some (0, true)))
end
def impl_GoesTo.f (k : Nat) (a0_0 : Int) (a0_1 : Int) (a1 : Int) : Option (Int × Bool) := (impl_IsCell.f a0_0 a0_1).bind fun t350 => (if t350 = true then (if a1 < (-1) then (impl_GoesTo.j0 k a1 true a0_0 a0_1) else (if a1 > 1 then (impl_GoesTo.j0 k a1 true a0_0 a0_1) else (impl_GoesTo.j0 k a1 (a0_0 == 5) a0_0 a0_1))) else (impl_GoesTo.j0 k a1 true a0_0 a0_1))
set_option maxHeartbeats 8000000 in
set_option maxRecDepth 100000 in
theorem impl_GoesTo.calls (k : Nat) (a0_0 : Int) (a0_1 : Int) (a1 : Int) (r1 : Int) (r2 : Bool) (w : World) (h : impl_GoesTo.f k a0_0 a0_1 a1 = some (r1, r2)) :
 Calls Try.prog 68 #[.agg #[.int .i64 a0_0, .int .i64 a0_1], .int .i64 a1] w fun e w' => e = .returned (.tuple #[.int .i64 r1, .bool r2]) ∧ Below w.heap.size w w' := by
 have AY := Try.underlying88
 have HB := Z.m (Below.refl w.heap.size w)
 have H : ((impl_IsCell.f a0_0 a0_1).bind fun Aa => (if Aa = true then (if a1 < (-1) then (impl_GoesTo.j0 k a1 true a0_0 a0_1) else (if a1 > 1 then (impl_GoesTo.j0 k a1 true a0_0 a0_1) else (impl_GoesTo.j0 k a1 (a0_0 == 5) a0_0 a0_1))) else (impl_GoesTo.j0 k a1 true a0_0 a0_1))) = some (r1, r2) := h
 clear h
 have AO := Z.m H
 clear H
 go_enter Try.func68, Try.ntmps68
 go_upto_region 1 with (first | ((with_reducible refine gq (N := 2) rfl ?_); refine be (N := 2) (cs := #[.int .i64 a0_0, .int .i64 a0_1]) (t := 88) ?_; intro Af hg w4 hbox hb; have A0 := Z.m (hbox); have Ah := gW (w := w) HB hg; have AV := Ah; replace HB := bB HB hb; clear hb hbox hg))
 (try simp only [Act.put, q1, q2, q3])
 go_cut [21] (fun v21 wc => ∃ (kq : Nat) (A3 : Bool), v21 = .bool A3 ∧ Z (impl_GoesTo.j0 kq a1 A3 a0_0 a0_1 = some (r1, r2)) ∧ Z (kq ≤ k) ∧ Z (wc.heap[Af]? = some (.cells #[.int .i64 a0_0, .int .i64 a0_1] 88 (0, 0))) ∧ Z (Below w.heap.size w wc))
 case first =>
  have H := AO.o
  clear AO
  replace H := Option.bind_eq_some_iff.mp H
  obtain ⟨Aa, AU, H⟩ := H
  replace H : (if Aa = true then (if a1 < (-1) then (impl_GoesTo.j0 k a1 true a0_0 a0_1) else (if a1 > 1 then (impl_GoesTo.j0 k a1 true a0_0 a0_1) else (impl_GoesTo.j0 k a1 (a0_0 == 5) a0_0 a0_1))) else (impl_GoesTo.j0 k a1 true a0_0 a0_1)) = some (r1, r2) := H
  have A5 := Z.m AU
  clear AU
  by_cases c6 : Aa = true
  ·subst c6
   have H1 : (if a1 < (-1) then (impl_GoesTo.j0 k a1 true a0_0 a0_1) else (if a1 > 1 then (impl_GoesTo.j0 k a1 true a0_0 a0_1) else (impl_GoesTo.j0 k a1 (a0_0 == 5) a0_0 a0_1))) = some (r1, r2) := by rw [if_pos rfl] at H; exact H
   clear H
   have H := H1
   clear H1
   by_cases c7 : a1 < (-1)
   ·rw [if_pos c7] at H
    have A4 := decide_eq_true c7
    clear c7
    (first | rw [A4] | (simp only [i64_w, i32_w]; rw [A4]) | skip)
    have H' := Z.m H
    clear H
    have AQ := bc0 A0
    have AR := bc1 A0
    have AS := qz A0.o 0
    have AT := qz A0.o 1
    go_wp2_with (first | ((with_reducible refine gc (f := 77) rfl ?_); refine gA (some 7) _ #[.agg #[.int .i64 a0_0, .int .i64 a0_1]] ?_ Try.func77; (with_reducible refine (impl_IsCell.calls a0_0 a0_1 true _ A5.o).mono ?_); rintro e w9 ⟨rfl, hb⟩; refine ⟨_, rfl, ?_⟩; replace A0 := kB A0 hb; replace HB := bB HB hb; (try clear hb); (try clear AP); (try clear hk); (try clear hi)))
    go_meet
    case rel => exact ⟨_, (true), (by first | rfl | (simp; done) | (simp [*]; done)), H', ⟨by first | omega | exact Nat.le_refl _⟩, ⟨vK A0⟩, ⟨vB HB⟩⟩
   ·rw [if_neg c7] at H
    have A4 := decide_eq_false c7
    clear c7
    (first | rw [A4] | (simp only [i64_w, i32_w]; rw [A4]) | skip)
    by_cases c10 : a1 > 1
    ·rw [if_pos c10] at H
     have Ai := decide_eq_true c10
     clear c10
     have H' := Z.m H
     clear H
     have Am := bc0 A0
     have An := bc1 A0
     have AA := qz A0.o 0
     have AB := qz A0.o 1
     go_wp2_with (first | ((with_reducible refine gc (f := 77) rfl ?_); refine gA (some 7) _ #[.agg #[.int .i64 a0_0, .int .i64 a0_1]] ?_ Try.func77; (with_reducible refine (impl_IsCell.calls a0_0 a0_1 true _ A5.o).mono ?_); rintro e AZ ⟨rfl, hb⟩; refine ⟨_, rfl, ?_⟩; replace A0 := kB A0 hb; replace HB := bB HB hb; (try clear hb); (try clear AP); (try clear hk); (try clear hi)))
     go_meet
     case rel => exact ⟨_, (true), (by first | rfl | (simp; done) | (simp [*]; done)), H', ⟨by first | omega | exact Nat.le_refl _⟩, ⟨vK A0⟩, ⟨vB HB⟩⟩
    ·rw [if_neg c10] at H
     have Ai := decide_eq_false c10
     clear c10
     have H' := Z.m H
     clear H
     have Ao := bc0 A0
     have Ap := bc1 A0
     have AC := qz A0.o 0
     have AD := qz A0.o 1
     go_wp2_with (first | ((with_reducible refine gc (f := 77) rfl ?_); refine gA (some 7) _ #[.agg #[.int .i64 a0_0, .int .i64 a0_1]] ?_ Try.func77; (with_reducible refine (impl_IsCell.calls a0_0 a0_1 true _ A5.o).mono ?_); rintro e B0 ⟨rfl, hb⟩; refine ⟨_, rfl, ?_⟩; replace A0 := kB A0 hb; replace HB := bB HB hb; (try clear hb); (try clear AP); (try clear hk); (try clear hi); have Aq := bc0 A0; have Ar := bc1 A0; have AE := qz A0.o 0; have AF := qz A0.o 1))
     go_meet
     case rel => exact ⟨_, ((a0_0 == 5)), (by first | rfl | (simp; done) | (simp [*]; done)), H', ⟨by first | omega | exact Nat.le_refl _⟩, ⟨vK A0⟩, ⟨vB HB⟩⟩
  ·replace c6 := Bool.eq_false_iff.mpr c6
   subst c6
   have H1 : (impl_GoesTo.j0 k a1 true a0_0 a0_1) = some (r1, r2) := by rw [if_neg (show ¬ (false = true) by decide)] at H; exact H
   clear H
   have H := H1
   clear H1
   have H' := Z.m H
   clear H
   have As := bc0 A0
   have At := bc1 A0
   have AG := qz A0.o 0
   have AH := qz A0.o 1
   go_wp2_with (first | ((with_reducible refine gc (f := 77) rfl ?_); refine gA (some 7) _ #[.agg #[.int .i64 a0_0, .int .i64 a0_1]] ?_ Try.func77; (with_reducible refine (impl_IsCell.calls a0_0 a0_1 false _ A5.o).mono ?_); rintro e B2 ⟨rfl, hb⟩; refine ⟨_, rfl, ?_⟩; replace A0 := kB A0 hb; replace HB := bB HB hb; (try clear hb); (try clear AP); (try clear hk); (try clear hi)))
   go_meet
   case rel => exact ⟨_, (true), (by first | rfl | (simp; done) | (simp [*]; done)), H', ⟨by first | omega | exact Nat.le_refl _⟩, ⟨vK A0⟩, ⟨vB HB⟩⟩
 case rest =>
  clear AO
  obtain ⟨kq, A3, rfl, HA, AW, A0, HB⟩ := hcut
  cases kq with
  | zero => exact absurd HA.o (by simp [impl_GoesTo.j0])
  | succ kj2 =>
   have H := HA.o
   clear HA
   simp only [impl_GoesTo.j0] at H
   by_cases c18 : A3 = true
   ·subst c18
    have H1 : (some (0, false)) = some (r1, r2) := by rw [if_pos rfl] at H; exact H
    clear H
    have H := H1
    clear H1
    simp only [Option.some.injEq, Prod.mk.injEq] at H
    obtain ⟨rfl, rfl⟩ := H
    go_wp2
    go_ret2
    exact ⟨by first | rfl | (simp [eN, eS] <;> rfl) | (simp [*, eN, eS] <;> rfl), vB HB⟩
   ·replace c18 := Bool.eq_false_iff.mpr c18
    subst c18
    have H1 : (if a0_0 = 1 then (some ((-1), true)) else (if a0_0 = 2 then (some (1, true)) else (if a0_0 = 3 then (impl_GoesTo.j1 kj2 a1 a0_0 (a0_0 == 3) a0_0 a0_1) else (impl_GoesTo.j1 kj2 a1 a0_0 (a0_0 == 6) a0_0 a0_1)))) = some (r1, r2) := by rw [if_neg (show ¬ (false = true) by decide)] at H; exact H
    clear H
    have H := H1
    clear H1
    by_cases c19 : a0_0 = 1
    ·rw [if_pos c19] at H
     have Ab := beq_iff_eq.mpr c19
     have Ac := bne_eq_false_iff_eq.mpr c19
     clear c19
     simp only [Option.some.injEq, Prod.mk.injEq] at H
     obtain ⟨rfl, rfl⟩ := H
     have Au := bc0 A0
     have Av := bc1 A0
     have AI := qz A0.o 0
     have AJ := qz A0.o 1
     go_wp2
     go_ret2
     exact ⟨by first | rfl | (simp [eN, eS] <;> rfl) | (simp [*, eN, eS] <;> rfl), vB HB⟩
    ·rw [if_neg c19] at H
     have Ab := beq_eq_false_iff_ne.mpr c19
     have Ac := bne_iff_ne.mpr c19
     by_cases c21 : a0_0 = 2
     ·rw [if_pos c21] at H
      have Ad := beq_iff_eq.mpr c21
      have Ae := bne_eq_false_iff_eq.mpr c21
      clear c21
      simp only [Option.some.injEq, Prod.mk.injEq] at H
      obtain ⟨rfl, rfl⟩ := H
      have Aw := bc0 A0
      have Ax := bc1 A0
      have AK := qz A0.o 0
      have AL := qz A0.o 1
      go_wp2
      go_ret2
      exact ⟨by first | rfl | (simp [eN, eS] <;> rfl) | (simp [*, eN, eS] <;> rfl), vB HB⟩
     ·rw [if_neg c21] at H
      have Ad := beq_eq_false_iff_ne.mpr c21
      have Ae := bne_iff_ne.mpr c21
      have Ag := Z.m H
      clear H
      have A6 := bc0 A0
      have A7 := bc1 A0
      have A8 := qz A0.o 0
      have A9 := qz A0.o 1
      go_upto_if 28 with (fail)
      go_cut [28] (fun v28 wc => ∃ (kq : Nat) (A1 : Bool), v28 = .bool A1 ∧ Z (impl_GoesTo.j1 kq a1 a0_0 A1 a0_0 a0_1 = some (r1, r2)) ∧ Z (kq ≤ kj2) ∧ Z (wc.heap[Af]? = some (.cells #[.int .i64 a0_0, .int .i64 a0_1] 88 (0, 0))) ∧ Z (Below w.heap.size w wc))
      case first =>
       have H := Ag.o
       clear Ag
       by_cases c25 : a0_0 = 3
       ·rw [if_pos c25] at H
        have A2 := beq_iff_eq.mpr c25
        have Aj := bne_eq_false_iff_eq.mpr c25
        clear c25
        (first | rw [A2] | (simp only [i64_w, i32_w]; rw [A2]) | skip)
        have H' := Z.m H
        clear H
        go_wp2
        go_meet
        case rel => exact ⟨_, ((a0_0 == 3)), (by first | rfl | (simp; done) | (simp [*]; done)), H', ⟨by have := AW.o; first | omega | exact Nat.le_refl _⟩, ⟨vK A0⟩, ⟨vB HB⟩⟩
       ·rw [if_neg c25] at H
        have A2 := beq_eq_false_iff_ne.mpr c25
        have Aj := bne_iff_ne.mpr c25
        (first | rw [A2] | (simp only [i64_w, i32_w]; rw [A2]) | skip)
        have H' := Z.m H
        clear H
        go_wp2
        go_meet
        case rel => exact ⟨_, ((a0_0 == 6)), (by first | rfl | (simp; done) | (simp [*]; done)), H', ⟨by have := AW.o; first | omega | exact Nat.le_refl _⟩, ⟨vK A0⟩, ⟨vB HB⟩⟩
      case rest =>
       clear Ag
       (try clear c18); (try clear c19); (try clear Ab); (try clear Ac); (try clear c21); (try clear Ad); (try clear Ae)
       (try clear A6); (try clear A7); (try clear A8); (try clear A9)
       obtain ⟨kq, A1, rfl, HA, AX, A0, HB⟩ := hcut
       cases kq with
       | zero => exact absurd HA.o (by simp [impl_GoesTo.j1])
       | succ kj22 =>
        have H := HA.o
        clear HA
        simp only [impl_GoesTo.j1] at H
        by_cases c26 : A1 = true
        ·subst c26
         have H1 : (some (wrap64 ((wrap64 (2 * a0_1)) - 1), true)) = some (r1, r2) := by rw [if_pos rfl] at H; exact H
         clear H
         have H := H1
         clear H1
         simp only [Option.some.injEq, Prod.mk.injEq] at H
         obtain ⟨rfl, rfl⟩ := H
         have Ay := bc0 A0
         have Az := bc1 A0
         have AM := qz A0.o 0
         have AN := qz A0.o 1
         go_wp2
         go_ret2
         exact ⟨by first | rfl | (simp [eN, eS] <;> rfl) | (simp [*, eN, eS] <;> rfl), vB HB⟩
        ·replace c26 := Bool.eq_false_iff.mpr c26
         subst c26
         have H1 : (if a0_0 = 4 then (some (wrap64 (-a1), true)) else (some (0, true))) = some (r1, r2) := by rw [if_neg (show ¬ (false = true) by decide)] at H; exact H
         clear H
         have H := H1
         clear H1
         by_cases c28 : a0_0 = 4
         ·rw [if_pos c28] at H
          have Ak := beq_iff_eq.mpr c28
          have Al := bne_eq_false_iff_eq.mpr c28
          clear c28
          simp only [Option.some.injEq, Prod.mk.injEq] at H
          obtain ⟨rfl, rfl⟩ := H
          go_wp2
          go_ret2
          exact ⟨by first | rfl | (simp [eN, eS] <;> rfl) | (simp [*, eN, eS] <;> rfl), vB HB⟩
         ·rw [if_neg c28] at H
          have Ak := beq_eq_false_iff_ne.mpr c28
          have Al := bne_iff_ne.mpr c28
          simp only [Option.some.injEq, Prod.mk.injEq] at H
          obtain ⟨rfl, rfl⟩ := H
          go_wp2
          go_ret2
          exact ⟨by first | rfl | (simp [eN, eS] <;> rfl) | (simp [*, eN, eS] <;> rfl), vB HB⟩

end Go.Proofs.Ytjkiolpepchpdaa.PAll
