/- Began as a text that print.sh wrote (of the functions named below); turned and shortened by this session. -/
import Derived.Test.YtoklfgjemfojgaaG0
namespace Go.Proofs.Ytoklfgjemfojgaa.PAll
open Go.RowKit Go.Proofs.YtoklfgjemfojgaaW.PrintWords Go.Proofs.YtoklfgjemfojgaaW.PrintLast Go.Proofs.YtoklfgjemfojgaaW.PrintMore
attribute [local go_sem] max2_int min2_int max_two min_two max_three min_three max_four min_four   -- for this text's walks alone
set_option linter.unusedVariables false
set_option linter.unusedSimpArgs false

/-! ### spec_ggNear: function 81 -/
mutual
def spec_ggNear.j0 : Nat → Int → Int → Int → List Int → Int → Int → List (S89) → Option (List Int)
 | 0, _, _, _, _, _, _, _ => none
 | k + 1, x1, x5, x6, x7, x147000, x147001, x147002 => if x6 > 0 then (if x7.length < 17592186044416 then (spec_ggNear.j1 k x1 x5 x6 (x7 ++ [wrap64 (x1 - 1)]) x147000 x147001 x147002) else (none)) else (spec_ggNear.j1 k x1 x5 x6 x7 x147000 x147001 x147002)
def spec_ggNear.j1 : Nat → Int → Int → Int → List Int → Int → Int → List (S89) → Option (List Int)
 | 0, _, _, _, _, _, _, _ => none
 | k + 1, x1, x5, x6, x7, x147000, x147001, x147002 => if (wrap64 (x6 + 1)) < x147001 then (if x7.length < 17592186044416 then ((some (x7 ++ [wrap64 (x1 + 1)] : List Int)).bind fun y153 => (if (wrap64 (x5 + 1)) < x147000 then (if y153.length < 17592186044416 then (some (y153 ++ [wrap64 (x1 + x147001)])) else (none)) else (some y153))) else (none)) else (if (wrap64 (x5 + 1)) < x147000 then (if x7.length < 17592186044416 then (some (x7 ++ [wrap64 (x1 + x147001)])) else (none)) else (some x7))
end
def spec_ggNear.f (k : Nat) (a0_0 : Int) (a0_1 : Int) (l0_2 : List (S89)) (a1 : Int) : Option (List Int) := if a0_1 = 0 then (none) else (if (wrap64 (Int.tdiv a1 a0_1)) > 0 then (if ([] : List Int).length < 17592186044416 then (spec_ggNear.j0 k a1 (wrap64 (Int.tdiv a1 a0_1)) (Int.tmod a1 a0_1) (([] : List Int) ++ [wrap64 (a1 - a0_1)]) a0_0 a0_1 l0_2) else (none)) else (spec_ggNear.j0 k a1 (wrap64 (Int.tdiv a1 a0_1)) (Int.tmod a1 a0_1) ([] : List Int) a0_0 a0_1 l0_2))
set_option maxHeartbeats 8000000 in
set_option maxRecDepth 100000 in
theorem spec_ggNear.calls (k : Nat) (a0_0 : Int) (a0_1 : Int) (A0_2 : Option Addr) (c0_2 : Nat) (l0_2 : List (S89)) (a1 : Int) (r : List Int) (w : World) (hr0_2 : Kd.C k89 w A0_2 l0_2.length l0_2) (hc0_2 : l0_2.length ≤ c0_2) (h : spec_ggNear.f k a0_0 a0_1 l0_2 a1 = some r) :
 Calls Try.prog 81 #[.agg #[.int .i64 a0_0, .int .i64 a0_1, .slice A0_2 l0_2.length c0_2], .int .i64 a1] w fun e w' => ∃ v0_ : Value, e = .returned (v0_) ∧ Kd.R (Kd.int .i64) 3 w' w.heap.size (fun _ => True) v0_ r ∧ Below w.heap.size w w' := by
 have BN := Try.underlying32
 have BF := Z.m hr0_2
 have BD := Z.m hc0_2
 clear hr0_2 hc0_2
 have HB := Z.m (Below.refl w.heap.size w)
 have H : (if a0_1 = 0 then (none) else (if (wrap64 (Int.tdiv a1 a0_1)) > 0 then (if ([] : List Int).length < 17592186044416 then (spec_ggNear.j0 k a1 (wrap64 (Int.tdiv a1 a0_1)) (Int.tmod a1 a0_1) (([] : List Int) ++ [wrap64 (a1 - a0_1)]) a0_0 a0_1 l0_2) else (none)) else (spec_ggNear.j0 k a1 (wrap64 (Int.tdiv a1 a0_1)) (Int.tmod a1 a0_1) ([] : List Int) a0_0 a0_1 l0_2))) = some r := h
 clear h
 by_cases c3 : a0_1 = 0
 ·rw [if_pos c3] at H
  exact absurd H (by simp)
 ·rw [if_neg c3] at H
  have Bt := beq_eq_false_iff_ne.mpr c3
  have Bu := bne_iff_ne.mpr c3
  have Bs := Z.m H
  clear H
  go_enter Try.func81, Try.ntmps81
  go_upto_if 17 with (first | ((with_reducible refine gq (N := 2) rfl ?_); refine be (N := 2) (cs := #[.int .i64 a0_0, .int .i64 a0_1, .slice A0_2 l0_2.length c0_2]) (t := 32) ?_; intro A2 hg w5 hbox hb; have A0 := Z.m (hbox); have A8 := gW (w := w) HB hg; have AL := A8; replace HB := bB HB hb; clear hb hbox hg; have Ah := bc0 A0; have Ai := bc1 A0; have Aj := bc2 A0; have Ak := qz A0.o 0; have Al := qz A0.o 1; have Am := qz A0.o 2))
  repeat (go_quiet (first | ((with_reducible refine gq (N := 2) rfl ?_); refine be (N := 2) (cs := #[.int .i64 a0_0, .int .i64 a0_1, .slice A0_2 l0_2.length c0_2]) (t := 32) ?_; intro A2 hg w5 hbox hb; have A0 := Z.m (hbox); have A8 := gW (w := w) HB hg; have AL := A8; replace HB := bB HB hb; clear hb hbox hg; have Ah := bc0 A0; have Ai := bc1 A0; have Aj := bc2 A0; have Ak := qz A0.o 0; have Al := qz A0.o 1; have Am := qz A0.o 2)); go_upto_if 17 with (first | ((with_reducible refine gq (N := 2) rfl ?_); refine be (N := 2) (cs := #[.int .i64 a0_0, .int .i64 a0_1, .slice A0_2 l0_2.length c0_2]) (t := 32) ?_; intro A2 hg w5 hbox hb; have A0 := Z.m (hbox); have A8 := gW (w := w) HB hg; have AL := A8; replace HB := bB HB hb; clear hb hbox hg; have Ah := bc0 A0; have Ai := bc1 A0; have Aj := bc2 A0; have Ak := qz A0.o 0; have Al := qz A0.o 1; have Am := qz A0.o 2)))
  (try simp only [Act.put, q1, q2, q3])
  go_cut [7] (fun v7 wc => ∃ (kq : Nat) (A7 : List Int), Z (spec_ggNear.j0 kq a1 (wrap64 (Int.tdiv a1 a0_1)) (Int.tmod a1 a0_1) A7 a0_0 a0_1 l0_2 = some r) ∧ Z (kq ≤ k) ∧ Z (Kd.R (Kd.int .i64) 3 wc w.heap.size (fun _ => True) v7 A7) ∧ Z (wc.heap[A2]? = some (.cells #[.int .i64 a0_0, .int .i64 a0_1, (.slice A0_2 l0_2.length c0_2)] 32 (0, 0))) ∧ Z (Below w.heap.size w wc))
  case first =>
   have H := Bs.o
   clear Bs
   by_cases c7 : (wrap64 (Int.tdiv a1 a0_1)) > 0
   ·rw [if_pos c7] at H
    have AK := decide_eq_true c7
    clear c7
    (first | rw [AK] | (simp only [i64_w, i32_w]; rw [AK]) | skip)
    by_cases c8 : ([] : List Int).length < 17592186044416
    ·rw [if_pos c8] at H
     have AN := Z.m c8
     clear c8
     obtain ⟨AV, Aa⟩ : ∃ y_ : List Int, y_ = (([] : List Int) ++ [wrap64 (a1 - a0_1)]) := ⟨_, rfl⟩
     replace H : (spec_ggNear.j0 k a1 (wrap64 (Int.tdiv a1 a0_1)) (Int.tmod a1 a0_1) AV a0_0 a0_1 l0_2) = some r := by first | (rw [Aa]; with_reducible exact H) | (have H2_ := (Option.bind_some _ _).symm.trans H; rw [Aa]; with_reducible exact H2_) | (have H2_ := (Option.bind_some _ _).symm.trans H; with_reducible exact H2_) | with_reducible exact H | (rw [Aa]; exact H) | exact H
     have AG := Z.m Aa
     clear Aa
     have H' := Z.m H
     clear H
     have Bv := bc0 A0
     have Bw := bc1 A0
     have Bx := bc2 A0
     have By := qz A0.o 0
     have Bz := qz A0.o 1
     have BA := qz A0.o 2
     go_wp2_with (first | ((with_reducible refine gu (b := .append) (xs := #[.tmp 18, .tmp 23]) rfl ?_); at_builtin; refine Kd.R_append (Kd.int .i64) (w0 := w) w.heap.size rfl (.tmp 18) (.tmp 23) 43 3 (.int .i64 0) 8 rfl Try.underlying43 info3 rfl (by decide) (by omega) (.slice none 0 0) ([] : List Int) (wrap64 (a1 - a0_1)) [.int .i64 (wrap64 (a1 - a0_1))] (fun _ => True) (fun _ => False) rfl rfl ?aP (fun _ hk => hk.elim) ?aF ?aO ?aB ?aS ?aL ?_; (case aP => exact rfl); (case aB => exact (vB HB)); (case aF => exact (fun _ _ => trivial)); (case aO => exact ((Kd.R_nil _ _ _ _ (fun _ => True)))); (case aS => exact (below_size (vB HB))); (case aL => have := AN.o; omega); intro AR BG ho hb hg hat; rw [← AG.o] at ho; have Az := Z.m (ho); replace A0 := Z.m (qg (g := A2) (o := .cells #[.int .i64 a0_0, .int .i64 a0_1, .slice A0_2 l0_2.length c0_2] 32 (0, 0)) (vK A0) hg (by simp [Value.ownBlock])); replace HB := Z.m (hb); clear ho hb hg hat))
     repeat (go_quiet (first | ((with_reducible refine gu (b := .append) (xs := #[.tmp 18, .tmp 23]) rfl ?_); at_builtin; refine Kd.R_append (Kd.int .i64) (w0 := w) w.heap.size rfl (.tmp 18) (.tmp 23) 43 3 (.int .i64 0) 8 rfl Try.underlying43 info3 rfl (by decide) (by omega) (.slice none 0 0) ([] : List Int) (wrap64 (a1 - a0_1)) [.int .i64 (wrap64 (a1 - a0_1))] (fun _ => True) (fun _ => False) rfl rfl ?aP (fun _ hk => hk.elim) ?aF ?aO ?aB ?aS ?aL ?_; (case aP => exact rfl); (case aB => exact (vB HB)); (case aF => exact (fun _ _ => trivial)); (case aO => exact ((Kd.R_nil _ _ _ _ (fun _ => True)))); (case aS => exact (below_size (vB HB))); (case aL => have := AN.o; omega); intro AR BG ho hb hg hat; rw [← AG.o] at ho; have Az := Z.m (ho); replace A0 := Z.m (qg (g := A2) (o := .cells #[.int .i64 a0_0, .int .i64 a0_1, .slice A0_2 l0_2.length c0_2] 32 (0, 0)) (vK A0) hg (by simp [Value.ownBlock])); replace HB := Z.m (hb); clear ho hb hg hat)); try go_wp2_with (first | ((with_reducible refine gu (b := .append) (xs := #[.tmp 18, .tmp 23]) rfl ?_); at_builtin; refine Kd.R_append (Kd.int .i64) (w0 := w) w.heap.size rfl (.tmp 18) (.tmp 23) 43 3 (.int .i64 0) 8 rfl Try.underlying43 info3 rfl (by decide) (by omega) (.slice none 0 0) ([] : List Int) (wrap64 (a1 - a0_1)) [.int .i64 (wrap64 (a1 - a0_1))] (fun _ => True) (fun _ => False) rfl rfl ?aP (fun _ hk => hk.elim) ?aF ?aO ?aB ?aS ?aL ?_; (case aP => exact rfl); (case aB => exact (vB HB)); (case aF => exact (fun _ _ => trivial)); (case aO => exact ((Kd.R_nil _ _ _ _ (fun _ => True)))); (case aS => exact (below_size (vB HB))); (case aL => have := AN.o; omega); intro AR BG ho hb hg hat; rw [← AG.o] at ho; have Az := Z.m (ho); replace A0 := Z.m (qg (g := A2) (o := .cells #[.int .i64 a0_0, .int .i64 a0_1, .slice A0_2 l0_2.length c0_2] 32 (0, 0)) (vK A0) hg (by simp [Value.ownBlock])); replace HB := Z.m (hb); clear ho hb hg hat)))
     go_meet
     case rel => exact ⟨_, (AV), H', ⟨by first | omega | exact Nat.le_refl _⟩, ⟨vR Az⟩, ⟨vK A0⟩, ⟨vB HB⟩⟩
    ·rw [if_neg c8] at H
     exact absurd H (by simp)
   ·rw [if_neg c7] at H
    have AK := decide_eq_false c7
    clear c7
    (first | rw [AK] | (simp only [i64_w, i32_w]; rw [AK]) | skip)
    have H' := Z.m H
    clear H
    go_wp2
    repeat (go_quiet (fail); try go_wp2)
    go_meet
    case rel => exact ⟨_, (([] : List Int)), H', ⟨by first | omega | exact Nat.le_refl _⟩, ⟨by first | exact Kd.R_nil _ _ _ _ _ | exact Kd.N_nil _ _ _ _ _ | exact Kd.V_nil _ _ _ _ _ | exact Kd.Q_nil _ _ _ _ _ | exact Kd.S_nil _ _ _ _ _⟩, ⟨vK A0⟩, ⟨vB HB⟩⟩
  case rest =>
   clear Bs
   (try clear c3); (try clear Bt); (try clear Bu)
   (try clear Ah); (try clear Ai); (try clear Aj); (try clear Ak); (try clear Al); (try clear Am)
   obtain ⟨kq, A7, HA, BE, A1, A0, HB⟩ := hcut
   cases kq with
   | zero => exact absurd HA.o (by simp [spec_ggNear.j0])
   | succ kj3 =>
    have H := HA.o
    clear HA
    simp only [spec_ggNear.j0] at H
    have AM := Z.m H
    clear H
    go_upto_if 26 with (fail)
    repeat (go_quiet (fail); go_upto_if 26 with (fail))
    go_cut [7] (fun v7 wc => ∃ (kq : Nat) (A3 : List Int), Z (spec_ggNear.j1 kq a1 (wrap64 (Int.tdiv a1 a0_1)) (Int.tmod a1 a0_1) A3 a0_0 a0_1 l0_2 = some r) ∧ Z (kq ≤ kj3) ∧ Z (Kd.R (Kd.int .i64) 3 wc w.heap.size (fun _ => True) v7 A3) ∧ Z (wc.heap[A2]? = some (.cells #[.int .i64 a0_0, .int .i64 a0_1, (.slice A0_2 l0_2.length c0_2)] 32 (0, 0))) ∧ Z (Below w.heap.size w wc))
    case first =>
     have H := AM.o
     clear AM
     by_cases c12 : (Int.tmod a1 a0_1) > 0
     ·rw [if_pos c12] at H
      have A9 := decide_eq_true c12
      clear c12
      (first | rw [A9] | (simp only [i64_w, i32_w]; rw [A9]) | skip)
      by_cases c13 : A7.length < 17592186044416
      ·rw [if_pos c13] at H
       have AD := Z.m c13
       clear c13
       obtain ⟨AW, Ab⟩ : ∃ y_ : List Int, y_ = (A7 ++ [wrap64 (a1 - 1)]) := ⟨_, rfl⟩
       replace H : (spec_ggNear.j1 kj3 a1 (wrap64 (Int.tdiv a1 a0_1)) (Int.tmod a1 a0_1) AW a0_0 a0_1 l0_2) = some r := by first | (rw [Ab]; with_reducible exact H) | (have H2_ := (Option.bind_some _ _).symm.trans H; rw [Ab]; with_reducible exact H2_) | (have H2_ := (Option.bind_some _ _).symm.trans H; with_reducible exact H2_) | with_reducible exact H | (rw [Ab]; exact H) | exact H
       have AH := Z.m Ab
       clear Ab
       have H' := Z.m H
       clear H
       go_wp2_with (first | ((with_reducible refine gu (b := .append) (xs := #[.tmp 27, .tmp 30]) rfl ?_); at_builtin; refine Kd.R_append (Kd.int .i64) (w0 := w) w.heap.size rfl (.tmp 27) (.tmp 30) 43 3 (.int .i64 0) 8 rfl Try.underlying43 info3 rfl (by decide) (by omega) u7 A7 (wrap64 (a1 - 1)) [.int .i64 (wrap64 (a1 - 1))] (fun _ => True) (fun _ => False) rfl rfl ?aP (fun _ hk => hk.elim) ?aF ?aO ?aB ?aS ?aL ?_; (case aP => exact rfl); (case aB => exact (vB HB)); (case aF => exact (fun _ _ => trivial)); (case aO => exact (vR A1)); (case aS => exact (below_size (vB HB))); (case aL => have := AD.o; omega); intro AS BH ho hb hg hat; rw [← AH.o] at ho; have AA := Z.m (ho); replace A0 := Z.m (qg (g := A2) (o := .cells #[.int .i64 a0_0, .int .i64 a0_1, .slice A0_2 l0_2.length c0_2] 32 (0, 0)) (vK A0) hg (Kd.R_ne A1.o A0.o (by decide))); replace HB := Z.m (hb); clear A1; clear ho hb hg hat))
       repeat (go_quiet (first | ((with_reducible refine gu (b := .append) (xs := #[.tmp 27, .tmp 30]) rfl ?_); at_builtin; refine Kd.R_append (Kd.int .i64) (w0 := w) w.heap.size rfl (.tmp 27) (.tmp 30) 43 3 (.int .i64 0) 8 rfl Try.underlying43 info3 rfl (by decide) (by omega) u7 A7 (wrap64 (a1 - 1)) [.int .i64 (wrap64 (a1 - 1))] (fun _ => True) (fun _ => False) rfl rfl ?aP (fun _ hk => hk.elim) ?aF ?aO ?aB ?aS ?aL ?_; (case aP => exact rfl); (case aB => exact (vB HB)); (case aF => exact (fun _ _ => trivial)); (case aO => exact (vR A1)); (case aS => exact (below_size (vB HB))); (case aL => have := AD.o; omega); intro AS BH ho hb hg hat; rw [← AH.o] at ho; have AA := Z.m (ho); replace A0 := Z.m (qg (g := A2) (o := .cells #[.int .i64 a0_0, .int .i64 a0_1, .slice A0_2 l0_2.length c0_2] 32 (0, 0)) (vK A0) hg (Kd.R_ne A1.o A0.o (by decide))); replace HB := Z.m (hb); clear A1; clear ho hb hg hat)); try go_wp2_with (first | ((with_reducible refine gu (b := .append) (xs := #[.tmp 27, .tmp 30]) rfl ?_); at_builtin; refine Kd.R_append (Kd.int .i64) (w0 := w) w.heap.size rfl (.tmp 27) (.tmp 30) 43 3 (.int .i64 0) 8 rfl Try.underlying43 info3 rfl (by decide) (by omega) u7 A7 (wrap64 (a1 - 1)) [.int .i64 (wrap64 (a1 - 1))] (fun _ => True) (fun _ => False) rfl rfl ?aP (fun _ hk => hk.elim) ?aF ?aO ?aB ?aS ?aL ?_; (case aP => exact rfl); (case aB => exact (vB HB)); (case aF => exact (fun _ _ => trivial)); (case aO => exact (vR A1)); (case aS => exact (below_size (vB HB))); (case aL => have := AD.o; omega); intro AS BH ho hb hg hat; rw [← AH.o] at ho; have AA := Z.m (ho); replace A0 := Z.m (qg (g := A2) (o := .cells #[.int .i64 a0_0, .int .i64 a0_1, .slice A0_2 l0_2.length c0_2] 32 (0, 0)) (vK A0) hg (Kd.R_ne A1.o A0.o (by decide))); replace HB := Z.m (hb); clear A1; clear ho hb hg hat)))
       go_meet
       case rel => exact ⟨_, (AW), H', ⟨by have := BE.o; first | omega | exact Nat.le_refl _⟩, ⟨vR AA⟩, ⟨vK A0⟩, ⟨vB HB⟩⟩
      ·rw [if_neg c13] at H
       exact absurd H (by simp)
     ·rw [if_neg c12] at H
      have A9 := decide_eq_false c12
      clear c12
      (first | rw [A9] | (simp only [i64_w, i32_w]; rw [A9]) | skip)
      have H' := Z.m H
      clear H
      go_wp2
      repeat (go_quiet (fail); try go_wp2)
      go_meet
      case rel => exact ⟨_, (A7), H', ⟨by have := BE.o; first | omega | exact Nat.le_refl _⟩, ⟨vR A1⟩, ⟨vK A0⟩, ⟨vB HB⟩⟩
    case rest =>
     clear AM
     obtain ⟨kq, A3, HA, BM, A1, A0, HB⟩ := hcut
     cases kq with
     | zero => exact absurd HA.o (by simp [spec_ggNear.j1])
     | succ kj10 =>
      have H := HA.o
      clear HA
      simp only [spec_ggNear.j1] at H
      by_cases c15 : (wrap64 ((Int.tmod a1 a0_1) + 1)) < a0_1
      ·rw [if_pos c15] at H
       have AO := decide_eq_true c15
       clear c15
       by_cases c16 : A3.length < 17592186044416
       ·rw [if_pos c16] at H
        have A5 := Z.m c16
        clear c16
        obtain ⟨Ag, Ac⟩ : ∃ y_ : List Int, y_ = (A3 ++ [wrap64 (a1 + 1)]) := ⟨_, rfl⟩
        replace H : (if (wrap64 ((wrap64 (Int.tdiv a1 a0_1)) + 1)) < a0_0 then (if Ag.length < 17592186044416 then (some (Ag ++ [wrap64 (a1 + a0_1)])) else (none)) else (some Ag)) = some r := by first | (rw [Ac]; with_reducible exact H) | (have H2_ := (Option.bind_some _ _).symm.trans H; rw [Ac]; with_reducible exact H2_) | (have H2_ := (Option.bind_some _ _).symm.trans H; with_reducible exact H2_) | with_reducible exact H | (rw [Ac]; exact H) | exact H
        have A6 := Z.m Ac
        clear Ac
        by_cases c17 : (wrap64 ((wrap64 (Int.tdiv a1 a0_1)) + 1)) < a0_0
        ·rw [if_pos c17] at H
         have AP := decide_eq_true c17
         clear c17
         by_cases c18 : Ag.length < 17592186044416
         ·rw [if_pos c18] at H
          have AE := Z.m c18
          clear c18
          obtain ⟨BB, Ad⟩ : ∃ y_ : List Int, y_ = (Ag ++ [wrap64 (a1 + a0_1)]) := ⟨_, rfl⟩
          replace H : (some BB) = some r := by first | (rw [Ad]; with_reducible exact H) | (have H2_ := (Option.bind_some _ _).symm.trans H; rw [Ad]; with_reducible exact H2_) | (have H2_ := (Option.bind_some _ _).symm.trans H; with_reducible exact H2_) | with_reducible exact H | (rw [Ad]; exact H) | exact H
          have AI := Z.m Ad
          clear Ad
          obtain rfl := Option.some.inj H
          have AX := bc0 A0
          have AY := bc1 A0
          have AZ := bc2 A0
          have Bg := qz A0.o 0
          have Bh := qz A0.o 1
          have Bi := qz A0.o 2
          go_wp2_with (first | ((with_reducible refine gu (b := .append) (xs := #[.tmp 37, .tmp 40]) rfl ?_); at_builtin; refine Kd.R_append (Kd.int .i64) (w0 := w) w.heap.size rfl (.tmp 37) (.tmp 40) 43 3 (.int .i64 0) 8 rfl Try.underlying43 info3 rfl (by decide) (by omega) u7 A3 (wrap64 (a1 + 1)) [.int .i64 (wrap64 (a1 + 1))] (fun _ => True) (fun _ => False) rfl rfl ?aP (fun _ hk => hk.elim) ?aF ?aO ?aB ?aS ?aL ?_; (case aP => exact rfl); (case aB => exact (vB HB)); (case aF => exact (fun _ _ => trivial)); (case aO => exact (vR A1)); (case aS => exact (below_size (vB HB))); (case aL => have := A5.o; omega); intro Af BI ho hb hg hat; rw [← A6.o] at ho; have A4 := Z.m (ho); replace A0 := Z.m (qg (g := A2) (o := .cells #[.int .i64 a0_0, .int .i64 a0_1, .slice A0_2 l0_2.length c0_2] 32 (0, 0)) (vK A0) hg (Kd.R_ne A1.o A0.o (by decide))); replace HB := Z.m (hb); clear A1; clear ho hb hg hat; have An := bc0 A0; have Ao := bc1 A0; have Ap := bc2 A0; have At := qz A0.o 0; have Au := qz A0.o 1; have Av := qz A0.o 2) | ((with_reducible refine gu (b := .append) (xs := #[.tmp 47, .tmp 52]) rfl ?_); at_builtin; refine Kd.R_append (Kd.int .i64) (w0 := w) w.heap.size rfl (.tmp 47) (.tmp 52) 43 3 (.int .i64 0) 8 rfl Try.underlying43 info3 rfl (by decide) (by omega) Af Ag (wrap64 (a1 + a0_1)) [.int .i64 (wrap64 (a1 + a0_1))] (fun _ => True) (fun _ => False) rfl rfl ?aP (fun _ hk => hk.elim) ?aF ?aO ?aB ?aS ?aL ?_; (case aP => exact rfl); (case aB => exact (vB HB)); (case aF => exact (fun _ _ => trivial)); (case aO => exact (vR A4)); (case aS => exact (below_size (vB HB))); (case aL => have := AE.o; omega); intro AT BJ ho hb hg hat; rw [← AI.o] at ho; have AB := Z.m (ho); replace A0 := Z.m (qg (g := A2) (o := .cells #[.int .i64 a0_0, .int .i64 a0_1, .slice A0_2 l0_2.length c0_2] 32 (0, 0)) (vK A0) hg (Kd.R_ne A4.o A0.o (by decide))); replace HB := Z.m (hb); clear A4; clear ho hb hg hat))
          repeat (go_quiet (first | ((with_reducible refine gu (b := .append) (xs := #[.tmp 37, .tmp 40]) rfl ?_); at_builtin; refine Kd.R_append (Kd.int .i64) (w0 := w) w.heap.size rfl (.tmp 37) (.tmp 40) 43 3 (.int .i64 0) 8 rfl Try.underlying43 info3 rfl (by decide) (by omega) u7 A3 (wrap64 (a1 + 1)) [.int .i64 (wrap64 (a1 + 1))] (fun _ => True) (fun _ => False) rfl rfl ?aP (fun _ hk => hk.elim) ?aF ?aO ?aB ?aS ?aL ?_; (case aP => exact rfl); (case aB => exact (vB HB)); (case aF => exact (fun _ _ => trivial)); (case aO => exact (vR A1)); (case aS => exact (below_size (vB HB))); (case aL => have := A5.o; omega); intro Af BI ho hb hg hat; rw [← A6.o] at ho; have A4 := Z.m (ho); replace A0 := Z.m (qg (g := A2) (o := .cells #[.int .i64 a0_0, .int .i64 a0_1, .slice A0_2 l0_2.length c0_2] 32 (0, 0)) (vK A0) hg (Kd.R_ne A1.o A0.o (by decide))); replace HB := Z.m (hb); clear A1; clear ho hb hg hat; have An := bc0 A0; have Ao := bc1 A0; have Ap := bc2 A0; have At := qz A0.o 0; have Au := qz A0.o 1; have Av := qz A0.o 2) | ((with_reducible refine gu (b := .append) (xs := #[.tmp 47, .tmp 52]) rfl ?_); at_builtin; refine Kd.R_append (Kd.int .i64) (w0 := w) w.heap.size rfl (.tmp 47) (.tmp 52) 43 3 (.int .i64 0) 8 rfl Try.underlying43 info3 rfl (by decide) (by omega) Af Ag (wrap64 (a1 + a0_1)) [.int .i64 (wrap64 (a1 + a0_1))] (fun _ => True) (fun _ => False) rfl rfl ?aP (fun _ hk => hk.elim) ?aF ?aO ?aB ?aS ?aL ?_; (case aP => exact rfl); (case aB => exact (vB HB)); (case aF => exact (fun _ _ => trivial)); (case aO => exact (vR A4)); (case aS => exact (below_size (vB HB))); (case aL => have := AE.o; omega); intro AT BJ ho hb hg hat; rw [← AI.o] at ho; have AB := Z.m (ho); replace A0 := Z.m (qg (g := A2) (o := .cells #[.int .i64 a0_0, .int .i64 a0_1, .slice A0_2 l0_2.length c0_2] 32 (0, 0)) (vK A0) hg (Kd.R_ne A4.o A0.o (by decide))); replace HB := Z.m (hb); clear A4; clear ho hb hg hat)); try go_wp2_with (first | ((with_reducible refine gu (b := .append) (xs := #[.tmp 37, .tmp 40]) rfl ?_); at_builtin; refine Kd.R_append (Kd.int .i64) (w0 := w) w.heap.size rfl (.tmp 37) (.tmp 40) 43 3 (.int .i64 0) 8 rfl Try.underlying43 info3 rfl (by decide) (by omega) u7 A3 (wrap64 (a1 + 1)) [.int .i64 (wrap64 (a1 + 1))] (fun _ => True) (fun _ => False) rfl rfl ?aP (fun _ hk => hk.elim) ?aF ?aO ?aB ?aS ?aL ?_; (case aP => exact rfl); (case aB => exact (vB HB)); (case aF => exact (fun _ _ => trivial)); (case aO => exact (vR A1)); (case aS => exact (below_size (vB HB))); (case aL => have := A5.o; omega); intro Af BI ho hb hg hat; rw [← A6.o] at ho; have A4 := Z.m (ho); replace A0 := Z.m (qg (g := A2) (o := .cells #[.int .i64 a0_0, .int .i64 a0_1, .slice A0_2 l0_2.length c0_2] 32 (0, 0)) (vK A0) hg (Kd.R_ne A1.o A0.o (by decide))); replace HB := Z.m (hb); clear A1; clear ho hb hg hat; have An := bc0 A0; have Ao := bc1 A0; have Ap := bc2 A0; have At := qz A0.o 0; have Au := qz A0.o 1; have Av := qz A0.o 2) | ((with_reducible refine gu (b := .append) (xs := #[.tmp 47, .tmp 52]) rfl ?_); at_builtin; refine Kd.R_append (Kd.int .i64) (w0 := w) w.heap.size rfl (.tmp 47) (.tmp 52) 43 3 (.int .i64 0) 8 rfl Try.underlying43 info3 rfl (by decide) (by omega) Af Ag (wrap64 (a1 + a0_1)) [.int .i64 (wrap64 (a1 + a0_1))] (fun _ => True) (fun _ => False) rfl rfl ?aP (fun _ hk => hk.elim) ?aF ?aO ?aB ?aS ?aL ?_; (case aP => exact rfl); (case aB => exact (vB HB)); (case aF => exact (fun _ _ => trivial)); (case aO => exact (vR A4)); (case aS => exact (below_size (vB HB))); (case aL => have := AE.o; omega); intro AT BJ ho hb hg hat; rw [← AI.o] at ho; have AB := Z.m (ho); replace A0 := Z.m (qg (g := A2) (o := .cells #[.int .i64 a0_0, .int .i64 a0_1, .slice A0_2 l0_2.length c0_2] 32 (0, 0)) (vK A0) hg (Kd.R_ne A4.o A0.o (by decide))); replace HB := Z.m (hb); clear A4; clear ho hb hg hat)))
          go_ret
          exact ⟨_, by first | rfl | (simp [eN, eS] <;> rfl) | (simp [*, eN, eS] <;> rfl), vR AB, vB HB⟩
         ·rw [if_neg c18] at H
          exact absurd H (by simp)
        ·rw [if_neg c17] at H
         have AP := decide_eq_false c17
         clear c17
         obtain rfl := Option.some.inj H
         have B0 := bc0 A0
         have B2 := bc1 A0
         have B7 := bc2 A0
         have Bj := qz A0.o 0
         have Bk := qz A0.o 1
         have Bl := qz A0.o 2
         go_wp2_with (first | ((with_reducible refine gu (b := .append) (xs := #[.tmp 37, .tmp 40]) rfl ?_); at_builtin; refine Kd.R_append (Kd.int .i64) (w0 := w) w.heap.size rfl (.tmp 37) (.tmp 40) 43 3 (.int .i64 0) 8 rfl Try.underlying43 info3 rfl (by decide) (by omega) u7 A3 (wrap64 (a1 + 1)) [.int .i64 (wrap64 (a1 + 1))] (fun _ => True) (fun _ => False) rfl rfl ?aP (fun _ hk => hk.elim) ?aF ?aO ?aB ?aS ?aL ?_; (case aP => exact rfl); (case aB => exact (vB HB)); (case aF => exact (fun _ _ => trivial)); (case aO => exact (vR A1)); (case aS => exact (below_size (vB HB))); (case aL => have := A5.o; omega); intro Af BK ho hb hg hat; rw [← A6.o] at ho; have A4 := Z.m (ho); replace A0 := Z.m (qg (g := A2) (o := .cells #[.int .i64 a0_0, .int .i64 a0_1, .slice A0_2 l0_2.length c0_2] 32 (0, 0)) (vK A0) hg (Kd.R_ne A1.o A0.o (by decide))); replace HB := Z.m (hb); clear A1; clear ho hb hg hat; have Aq := bc0 A0; have Ar := bc1 A0; have As := bc2 A0; have Aw := qz A0.o 0; have Ax := qz A0.o 1; have Ay := qz A0.o 2))
         repeat (go_quiet (first | ((with_reducible refine gu (b := .append) (xs := #[.tmp 37, .tmp 40]) rfl ?_); at_builtin; refine Kd.R_append (Kd.int .i64) (w0 := w) w.heap.size rfl (.tmp 37) (.tmp 40) 43 3 (.int .i64 0) 8 rfl Try.underlying43 info3 rfl (by decide) (by omega) u7 A3 (wrap64 (a1 + 1)) [.int .i64 (wrap64 (a1 + 1))] (fun _ => True) (fun _ => False) rfl rfl ?aP (fun _ hk => hk.elim) ?aF ?aO ?aB ?aS ?aL ?_; (case aP => exact rfl); (case aB => exact (vB HB)); (case aF => exact (fun _ _ => trivial)); (case aO => exact (vR A1)); (case aS => exact (below_size (vB HB))); (case aL => have := A5.o; omega); intro Af BK ho hb hg hat; rw [← A6.o] at ho; have A4 := Z.m (ho); replace A0 := Z.m (qg (g := A2) (o := .cells #[.int .i64 a0_0, .int .i64 a0_1, .slice A0_2 l0_2.length c0_2] 32 (0, 0)) (vK A0) hg (Kd.R_ne A1.o A0.o (by decide))); replace HB := Z.m (hb); clear A1; clear ho hb hg hat; have Aq := bc0 A0; have Ar := bc1 A0; have As := bc2 A0; have Aw := qz A0.o 0; have Ax := qz A0.o 1; have Ay := qz A0.o 2)); try go_wp2_with (first | ((with_reducible refine gu (b := .append) (xs := #[.tmp 37, .tmp 40]) rfl ?_); at_builtin; refine Kd.R_append (Kd.int .i64) (w0 := w) w.heap.size rfl (.tmp 37) (.tmp 40) 43 3 (.int .i64 0) 8 rfl Try.underlying43 info3 rfl (by decide) (by omega) u7 A3 (wrap64 (a1 + 1)) [.int .i64 (wrap64 (a1 + 1))] (fun _ => True) (fun _ => False) rfl rfl ?aP (fun _ hk => hk.elim) ?aF ?aO ?aB ?aS ?aL ?_; (case aP => exact rfl); (case aB => exact (vB HB)); (case aF => exact (fun _ _ => trivial)); (case aO => exact (vR A1)); (case aS => exact (below_size (vB HB))); (case aL => have := A5.o; omega); intro Af BK ho hb hg hat; rw [← A6.o] at ho; have A4 := Z.m (ho); replace A0 := Z.m (qg (g := A2) (o := .cells #[.int .i64 a0_0, .int .i64 a0_1, .slice A0_2 l0_2.length c0_2] 32 (0, 0)) (vK A0) hg (Kd.R_ne A1.o A0.o (by decide))); replace HB := Z.m (hb); clear A1; clear ho hb hg hat; have Aq := bc0 A0; have Ar := bc1 A0; have As := bc2 A0; have Aw := qz A0.o 0; have Ax := qz A0.o 1; have Ay := qz A0.o 2)))
         go_ret
         exact ⟨_, by first | rfl | (simp [eN, eS] <;> rfl) | (simp [*, eN, eS] <;> rfl), vR A4, vB HB⟩
       ·rw [if_neg c16] at H
        exact absurd H (by simp)
      ·rw [if_neg c15] at H
       have AO := decide_eq_false c15
       clear c15
       by_cases c26 : (wrap64 ((wrap64 (Int.tdiv a1 a0_1)) + 1)) < a0_0
       ·rw [if_pos c26] at H
        have AQ := decide_eq_true c26
        clear c26
        by_cases c27 : A3.length < 17592186044416
        ·rw [if_pos c27] at H
         have AF := Z.m c27
         clear c27
         obtain ⟨BC, Ae⟩ : ∃ y_ : List Int, y_ = (A3 ++ [wrap64 (a1 + a0_1)]) := ⟨_, rfl⟩
         replace H : (some BC) = some r := by first | (rw [Ae]; with_reducible exact H) | (have H2_ := (Option.bind_some _ _).symm.trans H; rw [Ae]; with_reducible exact H2_) | (have H2_ := (Option.bind_some _ _).symm.trans H; with_reducible exact H2_) | with_reducible exact H | (rw [Ae]; exact H) | exact H
         have AJ := Z.m Ae
         clear Ae
         obtain rfl := Option.some.inj H
         have Ba := bc0 A0
         have Bb := bc1 A0
         have Bc := bc2 A0
         have Bm := qz A0.o 0
         have Bn := qz A0.o 1
         have Bo := qz A0.o 2
         go_wp2_with (first | ((with_reducible refine gu (b := .append) (xs := #[.tmp 47, .tmp 52]) rfl ?_); at_builtin; refine Kd.R_append (Kd.int .i64) (w0 := w) w.heap.size rfl (.tmp 47) (.tmp 52) 43 3 (.int .i64 0) 8 rfl Try.underlying43 info3 rfl (by decide) (by omega) u7 A3 (wrap64 (a1 + a0_1)) [.int .i64 (wrap64 (a1 + a0_1))] (fun _ => True) (fun _ => False) rfl rfl ?aP (fun _ hk => hk.elim) ?aF ?aO ?aB ?aS ?aL ?_; (case aP => exact rfl); (case aB => exact (vB HB)); (case aF => exact (fun _ _ => trivial)); (case aO => exact (vR A1)); (case aS => exact (below_size (vB HB))); (case aL => have := AF.o; omega); intro AU BL ho hb hg hat; rw [← AJ.o] at ho; have AC := Z.m (ho); replace A0 := Z.m (qg (g := A2) (o := .cells #[.int .i64 a0_0, .int .i64 a0_1, .slice A0_2 l0_2.length c0_2] 32 (0, 0)) (vK A0) hg (Kd.R_ne A1.o A0.o (by decide))); replace HB := Z.m (hb); clear A1; clear ho hb hg hat))
         repeat (go_quiet (first | ((with_reducible refine gu (b := .append) (xs := #[.tmp 47, .tmp 52]) rfl ?_); at_builtin; refine Kd.R_append (Kd.int .i64) (w0 := w) w.heap.size rfl (.tmp 47) (.tmp 52) 43 3 (.int .i64 0) 8 rfl Try.underlying43 info3 rfl (by decide) (by omega) u7 A3 (wrap64 (a1 + a0_1)) [.int .i64 (wrap64 (a1 + a0_1))] (fun _ => True) (fun _ => False) rfl rfl ?aP (fun _ hk => hk.elim) ?aF ?aO ?aB ?aS ?aL ?_; (case aP => exact rfl); (case aB => exact (vB HB)); (case aF => exact (fun _ _ => trivial)); (case aO => exact (vR A1)); (case aS => exact (below_size (vB HB))); (case aL => have := AF.o; omega); intro AU BL ho hb hg hat; rw [← AJ.o] at ho; have AC := Z.m (ho); replace A0 := Z.m (qg (g := A2) (o := .cells #[.int .i64 a0_0, .int .i64 a0_1, .slice A0_2 l0_2.length c0_2] 32 (0, 0)) (vK A0) hg (Kd.R_ne A1.o A0.o (by decide))); replace HB := Z.m (hb); clear A1; clear ho hb hg hat)); try go_wp2_with (first | ((with_reducible refine gu (b := .append) (xs := #[.tmp 47, .tmp 52]) rfl ?_); at_builtin; refine Kd.R_append (Kd.int .i64) (w0 := w) w.heap.size rfl (.tmp 47) (.tmp 52) 43 3 (.int .i64 0) 8 rfl Try.underlying43 info3 rfl (by decide) (by omega) u7 A3 (wrap64 (a1 + a0_1)) [.int .i64 (wrap64 (a1 + a0_1))] (fun _ => True) (fun _ => False) rfl rfl ?aP (fun _ hk => hk.elim) ?aF ?aO ?aB ?aS ?aL ?_; (case aP => exact rfl); (case aB => exact (vB HB)); (case aF => exact (fun _ _ => trivial)); (case aO => exact (vR A1)); (case aS => exact (below_size (vB HB))); (case aL => have := AF.o; omega); intro AU BL ho hb hg hat; rw [← AJ.o] at ho; have AC := Z.m (ho); replace A0 := Z.m (qg (g := A2) (o := .cells #[.int .i64 a0_0, .int .i64 a0_1, .slice A0_2 l0_2.length c0_2] 32 (0, 0)) (vK A0) hg (Kd.R_ne A1.o A0.o (by decide))); replace HB := Z.m (hb); clear A1; clear ho hb hg hat)))
         go_ret
         exact ⟨_, by first | rfl | (simp [eN, eS] <;> rfl) | (simp [*, eN, eS] <;> rfl), vR AC, vB HB⟩
        ·rw [if_neg c27] at H
         exact absurd H (by simp)
       ·rw [if_neg c26] at H
        have AQ := decide_eq_false c26
        clear c26
        obtain rfl := Option.some.inj H
        have Bd := bc0 A0
        have Be := bc1 A0
        have Bf := bc2 A0
        have Bp := qz A0.o 0
        have Bq := qz A0.o 1
        have Br := qz A0.o 2
        go_wp2
        repeat (go_quiet (fail); try go_wp2)
        go_ret
        exact ⟨_, by first | rfl | (simp [eN, eS] <;> rfl) | (simp [*, eN, eS] <;> rfl), vR A1, vB HB⟩

end Go.Proofs.Ytoklfgjemfojgaa.PAll
