/- Began as a text that print.sh wrote (of the functions named below); turned and shortened by this session. -/
import Derived.Test.YtlkiakpipcnijaaG0
namespace Go.Proofs.Ytlkiakpipcnijaa.PAll
open Go.RowKit Go.Proofs.YtlkiakpipcnijaaW.PrintWords Go.Proofs.YtlkiakpipcnijaaW.PrintLast Go.Proofs.YtlkiakpipcnijaaW.PrintMore
attribute [local go_sem] max2_int min2_int max_two min_two max_three min_three max_four min_four   -- for this text's walks alone
set_option linter.unusedVariables false
set_option linter.unusedSimpArgs false

/-! ### impl_isGeared: function 65 -/
def impl_isGeared.f (a0_0 : Int) (a0_1 : Int) : Option (Bool) := if a0_0 = 6 then (some true) else (some (a0_0 == 7))
set_option maxHeartbeats 8000000 in
set_option maxRecDepth 100000 in
theorem impl_isGeared.calls (a0_0 : Int) (a0_1 : Int) (r : Bool) (w : World) (h : impl_isGeared.f a0_0 a0_1 = some r) :
 Calls Try.prog 65 #[.agg #[.int .i64 a0_0, .int .i64 a0_1]] w fun e w' => e = .returned (.bool r) ∧ Below w.heap.size w w' := by
 have Ae := Try.underlying71
 have HB := Z.m (Below.refl w.heap.size w)
 have H : (if a0_0 = 6 then (some true) else (some (a0_0 == 7))) = some r := h
 clear h
 by_cases c2 : a0_0 = 6
 ·rw [if_pos c2] at H
  have A4 := beq_iff_eq.mpr c2
  have A5 := bne_eq_false_iff_eq.mpr c2
  clear c2
  obtain rfl := Option.some.inj H
  go_enter Try.func65, Try.ntmps65
  go_wp2_with (first | ((with_reducible refine gq (N := 1) rfl ?_); refine be (N := 1) (cs := #[.int .i64 a0_0, .int .i64 a0_1]) (t := 71) ?_; intro A3 hg w3 hbox hb; have A0 := Z.m (hbox); have A1 := gW (w := w) HB hg; have A2 := A1; replace HB := bB HB hb; clear hb hbox hg; have A6 := bc0 A0; have A7 := bc1 A0; have Aa := qz A0.o 0; have Ab := qz A0.o 1))
  go_ret
  exact ⟨by first | rfl | (simp [eN, eS] <;> rfl) | (simp [*, eN, eS] <;> rfl), vB HB⟩
 ·rw [if_neg c2] at H
  have A4 := beq_eq_false_iff_ne.mpr c2
  have A5 := bne_iff_ne.mpr c2
  obtain rfl := Option.some.inj H
  go_enter Try.func65, Try.ntmps65
  go_wp2_with (first | ((with_reducible refine gq (N := 1) rfl ?_); refine be (N := 1) (cs := #[.int .i64 a0_0, .int .i64 a0_1]) (t := 71) ?_; intro A3 hg w5 hbox hb; have A0 := Z.m (hbox); have A1 := gW (w := w) HB hg; have A2 := A1; replace HB := bB HB hb; clear hb hbox hg; have A8 := bc0 A0; have A9 := bc1 A0; have Ac := qz A0.o 0; have Ad := qz A0.o 1))
  go_ret
  exact ⟨by first | rfl | (simp [eN, eS] <;> rfl) | (simp [*, eN, eS] <;> rfl), vB HB⟩

/-! ### impl_besideOf: function 81 -/
mutual
def impl_besideOf.j0 : Nat → Int → List Int → Int → Int → Int → Int → List (S71) → Option (List Int)
 | 0, _, _, _, _, _, _, _ => none
 | k + 1, x1, x5, x6, x7, x231000, x231001, x231002 => if x7 > 0 then (if x5.length < 17592186044416 then (impl_besideOf.j1 k x1 (x5 ++ [wrap64 (x1 - 1)]) x6 x7 x231000 x231001 x231002) else (none)) else (impl_besideOf.j1 k x1 x5 x6 x7 x231000 x231001 x231002)
def impl_besideOf.j1 : Nat → Int → List Int → Int → Int → Int → Int → List (S71) → Option (List Int)
 | 0, _, _, _, _, _, _, _ => none
 | k + 1, x1, x5, x6, x7, x231000, x231001, x231002 => if (wrap64 (x7 + 1)) < x231001 then (if x5.length < 17592186044416 then ((some (x5 ++ [wrap64 (x1 + 1)] : List Int)).bind fun y240 => (if (wrap64 (x6 + 1)) < x231000 then (if y240.length < 17592186044416 then (some (y240 ++ [wrap64 (x1 + x231001)])) else (none)) else (some y240))) else (none)) else (if (wrap64 (x6 + 1)) < x231000 then (if x5.length < 17592186044416 then (some (x5 ++ [wrap64 (x1 + x231001)])) else (none)) else (some x5))
end
def impl_besideOf.f (k : Nat) (a0_0 : Int) (a0_1 : Int) (l0_2 : List (S71)) (a1 : Int) : Option (List Int) := (some (([] : List Int) : List Int)).bind fun y231 => (if a0_1 = 0 then (none) else (if (wrap64 (Int.tdiv a1 a0_1)) > 0 then (if y231.length < 17592186044416 then (impl_besideOf.j0 k a1 (y231 ++ [wrap64 (a1 - a0_1)]) (wrap64 (Int.tdiv a1 a0_1)) (Int.tmod a1 a0_1) a0_0 a0_1 l0_2) else (none)) else (impl_besideOf.j0 k a1 y231 (wrap64 (Int.tdiv a1 a0_1)) (Int.tmod a1 a0_1) a0_0 a0_1 l0_2)))
set_option maxHeartbeats 8000000 in
set_option maxRecDepth 100000 in
theorem impl_besideOf.calls (k : Nat) (a0_0 : Int) (a0_1 : Int) (A0_2 : Option Addr) (c0_2 : Nat) (l0_2 : List (S71)) (a1 : Int) (r : List Int) (w : World) (hr0_2 : Kd.C k71 w A0_2 l0_2.length l0_2) (hc0_2 : l0_2.length ≤ c0_2) (h : impl_besideOf.f k a0_0 a0_1 l0_2 a1 = some r) :
 Calls Try.prog 81 #[.agg #[.int .i64 a0_0, .int .i64 a0_1, .slice A0_2 l0_2.length c0_2], .int .i64 a1] w fun e w' => ∃ v0_ : Value, e = .returned (v0_) ∧ Kd.R (Kd.int .i64) 3 w' w.heap.size (fun _ => True) v0_ r ∧ Below w.heap.size w w' := by
 have BT := Try.underlying30
 have BL := Z.m hr0_2
 have BJ := Z.m hc0_2
 clear hr0_2 hc0_2
 have HB := Z.m (Below.refl w.heap.size w)
 have H : ((some (([] : List Int) : List Int)).bind fun A6 => (if a0_1 = 0 then (none) else (if (wrap64 (Int.tdiv a1 a0_1)) > 0 then (if A6.length < 17592186044416 then (impl_besideOf.j0 k a1 (A6 ++ [wrap64 (a1 - a0_1)]) (wrap64 (Int.tdiv a1 a0_1)) (Int.tmod a1 a0_1) a0_0 a0_1 l0_2) else (none)) else (impl_besideOf.j0 k a1 A6 (wrap64 (Int.tdiv a1 a0_1)) (Int.tmod a1 a0_1) a0_0 a0_1 l0_2)))) = some r := h
 clear h
 obtain ⟨A6, Ae⟩ : ∃ y_ : List Int, y_ = (([] : List Int)) := ⟨_, rfl⟩
 replace H : (if a0_1 = 0 then (none) else (if (wrap64 (Int.tdiv a1 a0_1)) > 0 then (if A6.length < 17592186044416 then (impl_besideOf.j0 k a1 (A6 ++ [wrap64 (a1 - a0_1)]) (wrap64 (Int.tdiv a1 a0_1)) (Int.tmod a1 a0_1) a0_0 a0_1 l0_2) else (none)) else (impl_besideOf.j0 k a1 A6 (wrap64 (Int.tdiv a1 a0_1)) (Int.tmod a1 a0_1) a0_0 a0_1 l0_2))) = some r := by first | (rw [Ae]; with_reducible exact H) | (have H2_ := (Option.bind_some _ _).symm.trans H; rw [Ae]; with_reducible exact H2_) | (have H2_ := (Option.bind_some _ _).symm.trans H; with_reducible exact H2_) | with_reducible exact H | (rw [Ae]; exact H) | exact H
 have A8 := Z.m Ae
 clear Ae
 by_cases c3 : a0_1 = 0
 ·rw [if_pos c3] at H
  exact absurd H (by simp)
 ·rw [if_neg c3] at H
  have BF := beq_eq_false_iff_ne.mpr c3
  have BG := bne_iff_ne.mpr c3
  have BE := Z.m H
  clear H
  go_enter Try.func81, Try.ntmps81
  go_upto_if 18 with (first | ((with_reducible refine gq (N := 2) rfl ?_); refine be (N := 2) (cs := #[.int .i64 a0_0, .int .i64 a0_1, .slice A0_2 l0_2.length c0_2]) (t := 30) ?_; intro A2 hg w5 hbox hb; have A0 := Z.m (hbox); have Ab := gW (w := w) HB hg; have AS := Ab; replace HB := bB HB hb; clear hb hbox hg) | ((with_reducible refine gq (N := 8) rfl ?_); refine Kd.R_lit (Kd.int .i64) _ 3 ?hg (N := 8) ?hd (xs := ([] : List Int)) (inner := []) (ok := fun _ => True) (okp := fun _ => True) ?hr ?hp (fun _ hk => hk) trivial (Below.refl _ _) (Nat.le_refl _) (by simp) ?_; (case hd => rfl); (case hg => rfl); (case hr => first | (go_simp; done) | (go_simp; rfl)); (case hp => exact (Reps.none _ _)); intro AR w6 Ad hb hg_ hnew_; clear hg_ hnew_; (first | rw [← A8.o] at Ad | (simp only [Int.reduceToNat] at Ad; rw [← A8.o] at Ad)); have A5 := Z.m (Kd.R_lower Ad (below_size (vB HB))); replace A0 := kB A0 hb; replace HB := bB HB hb; clear hb Ad; have Am := bc0 A0; have An := bc1 A0; have Ao := bc2 A0; have Ap := qz A0.o 0; have Aq := qz A0.o 1; have Ar := qz A0.o 2))
  repeat (go_quiet (first | ((with_reducible refine gq (N := 2) rfl ?_); refine be (N := 2) (cs := #[.int .i64 a0_0, .int .i64 a0_1, .slice A0_2 l0_2.length c0_2]) (t := 30) ?_; intro A2 hg w5 hbox hb; have A0 := Z.m (hbox); have Ab := gW (w := w) HB hg; have AS := Ab; replace HB := bB HB hb; clear hb hbox hg) | ((with_reducible refine gq (N := 8) rfl ?_); refine Kd.R_lit (Kd.int .i64) _ 3 ?hg (N := 8) ?hd (xs := ([] : List Int)) (inner := []) (ok := fun _ => True) (okp := fun _ => True) ?hr ?hp (fun _ hk => hk) trivial (Below.refl _ _) (Nat.le_refl _) (by simp) ?_; (case hd => rfl); (case hg => rfl); (case hr => first | (go_simp; done) | (go_simp; rfl)); (case hp => exact (Reps.none _ _)); intro AR w6 Ad hb hg_ hnew_; clear hg_ hnew_; (first | rw [← A8.o] at Ad | (simp only [Int.reduceToNat] at Ad; rw [← A8.o] at Ad)); have A5 := Z.m (Kd.R_lower Ad (below_size (vB HB))); replace A0 := kB A0 hb; replace HB := bB HB hb; clear hb Ad; have Am := bc0 A0; have An := bc1 A0; have Ao := bc2 A0; have Ap := qz A0.o 0; have Aq := qz A0.o 1; have Ar := qz A0.o 2)); go_upto_if 18 with (first | ((with_reducible refine gq (N := 2) rfl ?_); refine be (N := 2) (cs := #[.int .i64 a0_0, .int .i64 a0_1, .slice A0_2 l0_2.length c0_2]) (t := 30) ?_; intro A2 hg w5 hbox hb; have A0 := Z.m (hbox); have Ab := gW (w := w) HB hg; have AS := Ab; replace HB := bB HB hb; clear hb hbox hg) | ((with_reducible refine gq (N := 8) rfl ?_); refine Kd.R_lit (Kd.int .i64) _ 3 ?hg (N := 8) ?hd (xs := ([] : List Int)) (inner := []) (ok := fun _ => True) (okp := fun _ => True) ?hr ?hp (fun _ hk => hk) trivial (Below.refl _ _) (Nat.le_refl _) (by simp) ?_; (case hd => rfl); (case hg => rfl); (case hr => first | (go_simp; done) | (go_simp; rfl)); (case hp => exact (Reps.none _ _)); intro AR w6 Ad hb hg_ hnew_; clear hg_ hnew_; (first | rw [← A8.o] at Ad | (simp only [Int.reduceToNat] at Ad; rw [← A8.o] at Ad)); have A5 := Z.m (Kd.R_lower Ad (below_size (vB HB))); replace A0 := kB A0 hb; replace HB := bB HB hb; clear hb Ad; have Am := bc0 A0; have An := bc1 A0; have Ao := bc2 A0; have Ap := qz A0.o 0; have Aq := qz A0.o 1; have Ar := qz A0.o 2)))
  (try simp only [Act.put, q1, q2, q3])
  go_cut [5] (fun v5 wc => ∃ (kq : Nat) (Aa : List Int), Z (impl_besideOf.j0 kq a1 Aa (wrap64 (Int.tdiv a1 a0_1)) (Int.tmod a1 a0_1) a0_0 a0_1 l0_2 = some r) ∧ Z (kq ≤ k) ∧ Z (Kd.R (Kd.int .i64) 3 wc w.heap.size (fun _ => True) v5 Aa) ∧ Z (wc.heap[A2]? = some (.cells #[.int .i64 a0_0, .int .i64 a0_1, (.slice A0_2 l0_2.length c0_2)] 30 (0, 0))) ∧ Z (Below w.heap.size w wc))
  case first =>
   have H := BE.o
   clear BE
   by_cases c9 : (wrap64 (Int.tdiv a1 a0_1)) > 0
   ·rw [if_pos c9] at H
    have AQ := decide_eq_true c9
    clear c9
    (first | rw [AQ] | (simp only [i64_w, i32_w]; rw [AQ]) | skip)
    by_cases c10 : A6.length < 17592186044416
    ·rw [if_pos c10] at H
     have AI := Z.m c10
     clear c10
     obtain ⟨B2, Af⟩ : ∃ y_ : List Int, y_ = (A6 ++ [wrap64 (a1 - a0_1)]) := ⟨_, rfl⟩
     replace H : (impl_besideOf.j0 k a1 B2 (wrap64 (Int.tdiv a1 a0_1)) (Int.tmod a1 a0_1) a0_0 a0_1 l0_2) = some r := by first | (rw [Af]; with_reducible exact H) | (have H2_ := (Option.bind_some _ _).symm.trans H; rw [Af]; with_reducible exact H2_) | (have H2_ := (Option.bind_some _ _).symm.trans H; with_reducible exact H2_) | with_reducible exact H | (rw [Af]; exact H) | exact H
     have AM := Z.m Af
     clear Af
     have H' := Z.m H
     clear H
     have Ba := bc0 A0
     have Bb := bc1 A0
     have Bc := bc2 A0
     have Bp := qz A0.o 0
     have Bq := qz A0.o 1
     have Br := qz A0.o 2
     go_wp2_with (first | ((with_reducible refine gu (b := .append) (xs := #[.tmp 19, .tmp 24]) rfl ?_); at_builtin; refine Kd.R_append (Kd.int .i64) (w0 := w) w.heap.size rfl (.tmp 19) (.tmp 24) 38 3 (.int .i64 0) 8 rfl Try.underlying38 info3 rfl (by decide) (by omega) AR A6 (wrap64 (a1 - a0_1)) [.int .i64 (wrap64 (a1 - a0_1))] (fun _ => True) (fun _ => False) rfl rfl ?aP (fun _ hk => hk.elim) ?aF ?aO ?aB ?aS ?aL ?_; (case aP => exact rfl); (case aB => exact (vB HB)); (case aF => exact (fun _ _ => trivial)); (case aO => exact (vR A5)); (case aS => exact (below_size (vB HB))); (case aL => have := AI.o; omega); intro AX BM ho hb hg hat; rw [← AM.o] at ho; have AE := Z.m (ho); replace A0 := Z.m (qg (g := A2) (o := .cells #[.int .i64 a0_0, .int .i64 a0_1, .slice A0_2 l0_2.length c0_2] 30 (0, 0)) (vK A0) hg (Kd.R_ne A5.o A0.o (by decide))); replace HB := Z.m (hb); clear A5; clear ho hb hg hat))
     repeat (go_quiet (first | ((with_reducible refine gu (b := .append) (xs := #[.tmp 19, .tmp 24]) rfl ?_); at_builtin; refine Kd.R_append (Kd.int .i64) (w0 := w) w.heap.size rfl (.tmp 19) (.tmp 24) 38 3 (.int .i64 0) 8 rfl Try.underlying38 info3 rfl (by decide) (by omega) AR A6 (wrap64 (a1 - a0_1)) [.int .i64 (wrap64 (a1 - a0_1))] (fun _ => True) (fun _ => False) rfl rfl ?aP (fun _ hk => hk.elim) ?aF ?aO ?aB ?aS ?aL ?_; (case aP => exact rfl); (case aB => exact (vB HB)); (case aF => exact (fun _ _ => trivial)); (case aO => exact (vR A5)); (case aS => exact (below_size (vB HB))); (case aL => have := AI.o; omega); intro AX BM ho hb hg hat; rw [← AM.o] at ho; have AE := Z.m (ho); replace A0 := Z.m (qg (g := A2) (o := .cells #[.int .i64 a0_0, .int .i64 a0_1, .slice A0_2 l0_2.length c0_2] 30 (0, 0)) (vK A0) hg (Kd.R_ne A5.o A0.o (by decide))); replace HB := Z.m (hb); clear A5; clear ho hb hg hat)); try go_wp2_with (first | ((with_reducible refine gu (b := .append) (xs := #[.tmp 19, .tmp 24]) rfl ?_); at_builtin; refine Kd.R_append (Kd.int .i64) (w0 := w) w.heap.size rfl (.tmp 19) (.tmp 24) 38 3 (.int .i64 0) 8 rfl Try.underlying38 info3 rfl (by decide) (by omega) AR A6 (wrap64 (a1 - a0_1)) [.int .i64 (wrap64 (a1 - a0_1))] (fun _ => True) (fun _ => False) rfl rfl ?aP (fun _ hk => hk.elim) ?aF ?aO ?aB ?aS ?aL ?_; (case aP => exact rfl); (case aB => exact (vB HB)); (case aF => exact (fun _ _ => trivial)); (case aO => exact (vR A5)); (case aS => exact (below_size (vB HB))); (case aL => have := AI.o; omega); intro AX BM ho hb hg hat; rw [← AM.o] at ho; have AE := Z.m (ho); replace A0 := Z.m (qg (g := A2) (o := .cells #[.int .i64 a0_0, .int .i64 a0_1, .slice A0_2 l0_2.length c0_2] 30 (0, 0)) (vK A0) hg (Kd.R_ne A5.o A0.o (by decide))); replace HB := Z.m (hb); clear A5; clear ho hb hg hat)))
     go_meet
     case rel => exact ⟨_, (B2), H', ⟨by first | omega | exact Nat.le_refl _⟩, ⟨vR AE⟩, ⟨vK A0⟩, ⟨vB HB⟩⟩
    ·rw [if_neg c10] at H
     exact absurd H (by simp)
   ·rw [if_neg c9] at H
    have AQ := decide_eq_false c9
    clear c9
    (first | rw [AQ] | (simp only [i64_w, i32_w]; rw [AQ]) | skip)
    have H' := Z.m H
    clear H
    go_wp2
    repeat (go_quiet (fail); try go_wp2)
    go_meet
    case rel => exact ⟨_, (A6), H', ⟨by first | omega | exact Nat.le_refl _⟩, ⟨vR A5⟩, ⟨vK A0⟩, ⟨vB HB⟩⟩
  case rest =>
   clear BE
   (try clear c3); (try clear BF); (try clear BG)
   (try clear Am); (try clear An); (try clear Ao); (try clear Ap); (try clear Aq); (try clear Ar)
   obtain ⟨kq, Aa, HA, BK, A1, A0, HB⟩ := hcut
   cases kq with
   | zero => exact absurd HA.o (by simp [impl_besideOf.j0])
   | succ kj3 =>
    have H := HA.o
    clear HA
    simp only [impl_besideOf.j0] at H
    have AT := Z.m H
    clear H
    go_upto_if 27 with (fail)
    repeat (go_quiet (fail); go_upto_if 27 with (fail))
    go_cut [5] (fun v5 wc => ∃ (kq : Nat) (A3 : List Int), Z (impl_besideOf.j1 kq a1 A3 (wrap64 (Int.tdiv a1 a0_1)) (Int.tmod a1 a0_1) a0_0 a0_1 l0_2 = some r) ∧ Z (kq ≤ kj3) ∧ Z (Kd.R (Kd.int .i64) 3 wc w.heap.size (fun _ => True) v5 A3) ∧ Z (wc.heap[A2]? = some (.cells #[.int .i64 a0_0, .int .i64 a0_1, (.slice A0_2 l0_2.length c0_2)] 30 (0, 0))) ∧ Z (Below w.heap.size w wc))
    case first =>
     have H := AT.o
     clear AT
     by_cases c14 : (Int.tmod a1 a0_1) > 0
     ·rw [if_pos c14] at H
      have Ac := decide_eq_true c14
      clear c14
      (first | rw [Ac] | (simp only [i64_w, i32_w]; rw [Ac]) | skip)
      by_cases c15 : Aa.length < 17592186044416
      ·rw [if_pos c15] at H
       have AJ := Z.m c15
       clear c15
       obtain ⟨B7, Ag⟩ : ∃ y_ : List Int, y_ = (Aa ++ [wrap64 (a1 - 1)]) := ⟨_, rfl⟩
       replace H : (impl_besideOf.j1 kj3 a1 B7 (wrap64 (Int.tdiv a1 a0_1)) (Int.tmod a1 a0_1) a0_0 a0_1 l0_2) = some r := by first | (rw [Ag]; with_reducible exact H) | (have H2_ := (Option.bind_some _ _).symm.trans H; rw [Ag]; with_reducible exact H2_) | (have H2_ := (Option.bind_some _ _).symm.trans H; with_reducible exact H2_) | with_reducible exact H | (rw [Ag]; exact H) | exact H
       have AN := Z.m Ag
       clear Ag
       have H' := Z.m H
       clear H
       go_wp2_with (first | ((with_reducible refine gu (b := .append) (xs := #[.tmp 28, .tmp 31]) rfl ?_); at_builtin; refine Kd.R_append (Kd.int .i64) (w0 := w) w.heap.size rfl (.tmp 28) (.tmp 31) 38 3 (.int .i64 0) 8 rfl Try.underlying38 info3 rfl (by decide) (by omega) u5 Aa (wrap64 (a1 - 1)) [.int .i64 (wrap64 (a1 - 1))] (fun _ => True) (fun _ => False) rfl rfl ?aP (fun _ hk => hk.elim) ?aF ?aO ?aB ?aS ?aL ?_; (case aP => exact rfl); (case aB => exact (vB HB)); (case aF => exact (fun _ _ => trivial)); (case aO => exact (vR A1)); (case aS => exact (below_size (vB HB))); (case aL => have := AJ.o; omega); intro AY BN ho hb hg hat; rw [← AN.o] at ho; have AF := Z.m (ho); replace A0 := Z.m (qg (g := A2) (o := .cells #[.int .i64 a0_0, .int .i64 a0_1, .slice A0_2 l0_2.length c0_2] 30 (0, 0)) (vK A0) hg (Kd.R_ne A1.o A0.o (by decide))); replace HB := Z.m (hb); clear A1; clear ho hb hg hat))
       repeat (go_quiet (first | ((with_reducible refine gu (b := .append) (xs := #[.tmp 28, .tmp 31]) rfl ?_); at_builtin; refine Kd.R_append (Kd.int .i64) (w0 := w) w.heap.size rfl (.tmp 28) (.tmp 31) 38 3 (.int .i64 0) 8 rfl Try.underlying38 info3 rfl (by decide) (by omega) u5 Aa (wrap64 (a1 - 1)) [.int .i64 (wrap64 (a1 - 1))] (fun _ => True) (fun _ => False) rfl rfl ?aP (fun _ hk => hk.elim) ?aF ?aO ?aB ?aS ?aL ?_; (case aP => exact rfl); (case aB => exact (vB HB)); (case aF => exact (fun _ _ => trivial)); (case aO => exact (vR A1)); (case aS => exact (below_size (vB HB))); (case aL => have := AJ.o; omega); intro AY BN ho hb hg hat; rw [← AN.o] at ho; have AF := Z.m (ho); replace A0 := Z.m (qg (g := A2) (o := .cells #[.int .i64 a0_0, .int .i64 a0_1, .slice A0_2 l0_2.length c0_2] 30 (0, 0)) (vK A0) hg (Kd.R_ne A1.o A0.o (by decide))); replace HB := Z.m (hb); clear A1; clear ho hb hg hat)); try go_wp2_with (first | ((with_reducible refine gu (b := .append) (xs := #[.tmp 28, .tmp 31]) rfl ?_); at_builtin; refine Kd.R_append (Kd.int .i64) (w0 := w) w.heap.size rfl (.tmp 28) (.tmp 31) 38 3 (.int .i64 0) 8 rfl Try.underlying38 info3 rfl (by decide) (by omega) u5 Aa (wrap64 (a1 - 1)) [.int .i64 (wrap64 (a1 - 1))] (fun _ => True) (fun _ => False) rfl rfl ?aP (fun _ hk => hk.elim) ?aF ?aO ?aB ?aS ?aL ?_; (case aP => exact rfl); (case aB => exact (vB HB)); (case aF => exact (fun _ _ => trivial)); (case aO => exact (vR A1)); (case aS => exact (below_size (vB HB))); (case aL => have := AJ.o; omega); intro AY BN ho hb hg hat; rw [← AN.o] at ho; have AF := Z.m (ho); replace A0 := Z.m (qg (g := A2) (o := .cells #[.int .i64 a0_0, .int .i64 a0_1, .slice A0_2 l0_2.length c0_2] 30 (0, 0)) (vK A0) hg (Kd.R_ne A1.o A0.o (by decide))); replace HB := Z.m (hb); clear A1; clear ho hb hg hat)))
       go_meet
       case rel => exact ⟨_, (B7), H', ⟨by have := BK.o; first | omega | exact Nat.le_refl _⟩, ⟨vR AF⟩, ⟨vK A0⟩, ⟨vB HB⟩⟩
      ·rw [if_neg c15] at H
       exact absurd H (by simp)
     ·rw [if_neg c14] at H
      have Ac := decide_eq_false c14
      clear c14
      (first | rw [Ac] | (simp only [i64_w, i32_w]; rw [Ac]) | skip)
      have H' := Z.m H
      clear H
      go_wp2
      repeat (go_quiet (fail); try go_wp2)
      go_meet
      case rel => exact ⟨_, (Aa), H', ⟨by have := BK.o; first | omega | exact Nat.le_refl _⟩, ⟨vR A1⟩, ⟨vK A0⟩, ⟨vB HB⟩⟩
    case rest =>
     clear AT
     obtain ⟨kq, A3, HA, BS, A1, A0, HB⟩ := hcut
     cases kq with
     | zero => exact absurd HA.o (by simp [impl_besideOf.j1])
     | succ kj12 =>
      have H := HA.o
      clear HA
      simp only [impl_besideOf.j1] at H
      by_cases c17 : (wrap64 ((Int.tmod a1 a0_1) + 1)) < a0_1
      ·rw [if_pos c17] at H
       have AU := decide_eq_true c17
       clear c17
       by_cases c18 : A3.length < 17592186044416
       ·rw [if_pos c18] at H
        have A7 := Z.m c18
        clear c18
        obtain ⟨Al, Ah⟩ : ∃ y_ : List Int, y_ = (A3 ++ [wrap64 (a1 + 1)]) := ⟨_, rfl⟩
        replace H : (if (wrap64 ((wrap64 (Int.tdiv a1 a0_1)) + 1)) < a0_0 then (if Al.length < 17592186044416 then (some (Al ++ [wrap64 (a1 + a0_1)])) else (none)) else (some Al)) = some r := by first | (rw [Ah]; with_reducible exact H) | (have H2_ := (Option.bind_some _ _).symm.trans H; rw [Ah]; with_reducible exact H2_) | (have H2_ := (Option.bind_some _ _).symm.trans H; with_reducible exact H2_) | with_reducible exact H | (rw [Ah]; exact H) | exact H
        have A9 := Z.m Ah
        clear Ah
        by_cases c19 : (wrap64 ((wrap64 (Int.tdiv a1 a0_1)) + 1)) < a0_0
        ·rw [if_pos c19] at H
         have AV := decide_eq_true c19
         clear c19
         by_cases c20 : Al.length < 17592186044416
         ·rw [if_pos c20] at H
          have AK := Z.m c20
          clear c20
          obtain ⟨BH, Ai⟩ : ∃ y_ : List Int, y_ = (Al ++ [wrap64 (a1 + a0_1)]) := ⟨_, rfl⟩
          replace H : (some BH) = some r := by first | (rw [Ai]; with_reducible exact H) | (have H2_ := (Option.bind_some _ _).symm.trans H; rw [Ai]; with_reducible exact H2_) | (have H2_ := (Option.bind_some _ _).symm.trans H; with_reducible exact H2_) | with_reducible exact H | (rw [Ai]; exact H) | exact H
          have AO := Z.m Ai
          clear Ai
          obtain rfl := Option.some.inj H
          have Bd := bc0 A0
          have Be := bc1 A0
          have Bf := bc2 A0
          have Bs := qz A0.o 0
          have Bt := qz A0.o 1
          have Bu := qz A0.o 2
          go_wp2_with (first | ((with_reducible refine gu (b := .append) (xs := #[.tmp 38, .tmp 41]) rfl ?_); at_builtin; refine Kd.R_append (Kd.int .i64) (w0 := w) w.heap.size rfl (.tmp 38) (.tmp 41) 38 3 (.int .i64 0) 8 rfl Try.underlying38 info3 rfl (by decide) (by omega) u5 A3 (wrap64 (a1 + 1)) [.int .i64 (wrap64 (a1 + 1))] (fun _ => True) (fun _ => False) rfl rfl ?aP (fun _ hk => hk.elim) ?aF ?aO ?aB ?aS ?aL ?_; (case aP => exact rfl); (case aB => exact (vB HB)); (case aF => exact (fun _ _ => trivial)); (case aO => exact (vR A1)); (case aS => exact (below_size (vB HB))); (case aL => have := A7.o; omega); intro Ak BO ho hb hg hat; rw [← A9.o] at ho; have A4 := Z.m (ho); replace A0 := Z.m (qg (g := A2) (o := .cells #[.int .i64 a0_0, .int .i64 a0_1, .slice A0_2 l0_2.length c0_2] 30 (0, 0)) (vK A0) hg (Kd.R_ne A1.o A0.o (by decide))); replace HB := Z.m (hb); clear A1; clear ho hb hg hat; have As := bc0 A0; have At := bc1 A0; have Au := bc2 A0; have Ay := qz A0.o 0; have Az := qz A0.o 1; have AA := qz A0.o 2) | ((with_reducible refine gu (b := .append) (xs := #[.tmp 48, .tmp 53]) rfl ?_); at_builtin; refine Kd.R_append (Kd.int .i64) (w0 := w) w.heap.size rfl (.tmp 48) (.tmp 53) 38 3 (.int .i64 0) 8 rfl Try.underlying38 info3 rfl (by decide) (by omega) Ak Al (wrap64 (a1 + a0_1)) [.int .i64 (wrap64 (a1 + a0_1))] (fun _ => True) (fun _ => False) rfl rfl ?aP (fun _ hk => hk.elim) ?aF ?aO ?aB ?aS ?aL ?_; (case aP => exact rfl); (case aB => exact (vB HB)); (case aF => exact (fun _ _ => trivial)); (case aO => exact (vR A4)); (case aS => exact (below_size (vB HB))); (case aL => have := AK.o; omega); intro AZ BP ho hb hg hat; rw [← AO.o] at ho; have AG := Z.m (ho); replace A0 := Z.m (qg (g := A2) (o := .cells #[.int .i64 a0_0, .int .i64 a0_1, .slice A0_2 l0_2.length c0_2] 30 (0, 0)) (vK A0) hg (Kd.R_ne A4.o A0.o (by decide))); replace HB := Z.m (hb); clear A4; clear ho hb hg hat))
          repeat (go_quiet (first | ((with_reducible refine gu (b := .append) (xs := #[.tmp 38, .tmp 41]) rfl ?_); at_builtin; refine Kd.R_append (Kd.int .i64) (w0 := w) w.heap.size rfl (.tmp 38) (.tmp 41) 38 3 (.int .i64 0) 8 rfl Try.underlying38 info3 rfl (by decide) (by omega) u5 A3 (wrap64 (a1 + 1)) [.int .i64 (wrap64 (a1 + 1))] (fun _ => True) (fun _ => False) rfl rfl ?aP (fun _ hk => hk.elim) ?aF ?aO ?aB ?aS ?aL ?_; (case aP => exact rfl); (case aB => exact (vB HB)); (case aF => exact (fun _ _ => trivial)); (case aO => exact (vR A1)); (case aS => exact (below_size (vB HB))); (case aL => have := A7.o; omega); intro Ak BO ho hb hg hat; rw [← A9.o] at ho; have A4 := Z.m (ho); replace A0 := Z.m (qg (g := A2) (o := .cells #[.int .i64 a0_0, .int .i64 a0_1, .slice A0_2 l0_2.length c0_2] 30 (0, 0)) (vK A0) hg (Kd.R_ne A1.o A0.o (by decide))); replace HB := Z.m (hb); clear A1; clear ho hb hg hat; have As := bc0 A0; have At := bc1 A0; have Au := bc2 A0; have Ay := qz A0.o 0; have Az := qz A0.o 1; have AA := qz A0.o 2) | ((with_reducible refine gu (b := .append) (xs := #[.tmp 48, .tmp 53]) rfl ?_); at_builtin; refine Kd.R_append (Kd.int .i64) (w0 := w) w.heap.size rfl (.tmp 48) (.tmp 53) 38 3 (.int .i64 0) 8 rfl Try.underlying38 info3 rfl (by decide) (by omega) Ak Al (wrap64 (a1 + a0_1)) [.int .i64 (wrap64 (a1 + a0_1))] (fun _ => True) (fun _ => False) rfl rfl ?aP (fun _ hk => hk.elim) ?aF ?aO ?aB ?aS ?aL ?_; (case aP => exact rfl); (case aB => exact (vB HB)); (case aF => exact (fun _ _ => trivial)); (case aO => exact (vR A4)); (case aS => exact (below_size (vB HB))); (case aL => have := AK.o; omega); intro AZ BP ho hb hg hat; rw [← AO.o] at ho; have AG := Z.m (ho); replace A0 := Z.m (qg (g := A2) (o := .cells #[.int .i64 a0_0, .int .i64 a0_1, .slice A0_2 l0_2.length c0_2] 30 (0, 0)) (vK A0) hg (Kd.R_ne A4.o A0.o (by decide))); replace HB := Z.m (hb); clear A4; clear ho hb hg hat)); try go_wp2_with (first | ((with_reducible refine gu (b := .append) (xs := #[.tmp 38, .tmp 41]) rfl ?_); at_builtin; refine Kd.R_append (Kd.int .i64) (w0 := w) w.heap.size rfl (.tmp 38) (.tmp 41) 38 3 (.int .i64 0) 8 rfl Try.underlying38 info3 rfl (by decide) (by omega) u5 A3 (wrap64 (a1 + 1)) [.int .i64 (wrap64 (a1 + 1))] (fun _ => True) (fun _ => False) rfl rfl ?aP (fun _ hk => hk.elim) ?aF ?aO ?aB ?aS ?aL ?_; (case aP => exact rfl); (case aB => exact (vB HB)); (case aF => exact (fun _ _ => trivial)); (case aO => exact (vR A1)); (case aS => exact (below_size (vB HB))); (case aL => have := A7.o; omega); intro Ak BO ho hb hg hat; rw [← A9.o] at ho; have A4 := Z.m (ho); replace A0 := Z.m (qg (g := A2) (o := .cells #[.int .i64 a0_0, .int .i64 a0_1, .slice A0_2 l0_2.length c0_2] 30 (0, 0)) (vK A0) hg (Kd.R_ne A1.o A0.o (by decide))); replace HB := Z.m (hb); clear A1; clear ho hb hg hat; have As := bc0 A0; have At := bc1 A0; have Au := bc2 A0; have Ay := qz A0.o 0; have Az := qz A0.o 1; have AA := qz A0.o 2) | ((with_reducible refine gu (b := .append) (xs := #[.tmp 48, .tmp 53]) rfl ?_); at_builtin; refine Kd.R_append (Kd.int .i64) (w0 := w) w.heap.size rfl (.tmp 48) (.tmp 53) 38 3 (.int .i64 0) 8 rfl Try.underlying38 info3 rfl (by decide) (by omega) Ak Al (wrap64 (a1 + a0_1)) [.int .i64 (wrap64 (a1 + a0_1))] (fun _ => True) (fun _ => False) rfl rfl ?aP (fun _ hk => hk.elim) ?aF ?aO ?aB ?aS ?aL ?_; (case aP => exact rfl); (case aB => exact (vB HB)); (case aF => exact (fun _ _ => trivial)); (case aO => exact (vR A4)); (case aS => exact (below_size (vB HB))); (case aL => have := AK.o; omega); intro AZ BP ho hb hg hat; rw [← AO.o] at ho; have AG := Z.m (ho); replace A0 := Z.m (qg (g := A2) (o := .cells #[.int .i64 a0_0, .int .i64 a0_1, .slice A0_2 l0_2.length c0_2] 30 (0, 0)) (vK A0) hg (Kd.R_ne A4.o A0.o (by decide))); replace HB := Z.m (hb); clear A4; clear ho hb hg hat)))
          go_ret
          exact ⟨_, by first | rfl | (simp [eN, eS] <;> rfl) | (simp [*, eN, eS] <;> rfl), vR AG, vB HB⟩
         ·rw [if_neg c20] at H
          exact absurd H (by simp)
        ·rw [if_neg c19] at H
         have AV := decide_eq_false c19
         clear c19
         obtain rfl := Option.some.inj H
         have Bg := bc0 A0
         have Bh := bc1 A0
         have Bi := bc2 A0
         have Bv := qz A0.o 0
         have Bw := qz A0.o 1
         have Bx := qz A0.o 2
         go_wp2_with (first | ((with_reducible refine gu (b := .append) (xs := #[.tmp 38, .tmp 41]) rfl ?_); at_builtin; refine Kd.R_append (Kd.int .i64) (w0 := w) w.heap.size rfl (.tmp 38) (.tmp 41) 38 3 (.int .i64 0) 8 rfl Try.underlying38 info3 rfl (by decide) (by omega) u5 A3 (wrap64 (a1 + 1)) [.int .i64 (wrap64 (a1 + 1))] (fun _ => True) (fun _ => False) rfl rfl ?aP (fun _ hk => hk.elim) ?aF ?aO ?aB ?aS ?aL ?_; (case aP => exact rfl); (case aB => exact (vB HB)); (case aF => exact (fun _ _ => trivial)); (case aO => exact (vR A1)); (case aS => exact (below_size (vB HB))); (case aL => have := A7.o; omega); intro Ak BQ ho hb hg hat; rw [← A9.o] at ho; have A4 := Z.m (ho); replace A0 := Z.m (qg (g := A2) (o := .cells #[.int .i64 a0_0, .int .i64 a0_1, .slice A0_2 l0_2.length c0_2] 30 (0, 0)) (vK A0) hg (Kd.R_ne A1.o A0.o (by decide))); replace HB := Z.m (hb); clear A1; clear ho hb hg hat; have Av := bc0 A0; have Aw := bc1 A0; have Ax := bc2 A0; have AB := qz A0.o 0; have AC := qz A0.o 1; have AD := qz A0.o 2))
         repeat (go_quiet (first | ((with_reducible refine gu (b := .append) (xs := #[.tmp 38, .tmp 41]) rfl ?_); at_builtin; refine Kd.R_append (Kd.int .i64) (w0 := w) w.heap.size rfl (.tmp 38) (.tmp 41) 38 3 (.int .i64 0) 8 rfl Try.underlying38 info3 rfl (by decide) (by omega) u5 A3 (wrap64 (a1 + 1)) [.int .i64 (wrap64 (a1 + 1))] (fun _ => True) (fun _ => False) rfl rfl ?aP (fun _ hk => hk.elim) ?aF ?aO ?aB ?aS ?aL ?_; (case aP => exact rfl); (case aB => exact (vB HB)); (case aF => exact (fun _ _ => trivial)); (case aO => exact (vR A1)); (case aS => exact (below_size (vB HB))); (case aL => have := A7.o; omega); intro Ak BQ ho hb hg hat; rw [← A9.o] at ho; have A4 := Z.m (ho); replace A0 := Z.m (qg (g := A2) (o := .cells #[.int .i64 a0_0, .int .i64 a0_1, .slice A0_2 l0_2.length c0_2] 30 (0, 0)) (vK A0) hg (Kd.R_ne A1.o A0.o (by decide))); replace HB := Z.m (hb); clear A1; clear ho hb hg hat; have Av := bc0 A0; have Aw := bc1 A0; have Ax := bc2 A0; have AB := qz A0.o 0; have AC := qz A0.o 1; have AD := qz A0.o 2)); try go_wp2_with (first | ((with_reducible refine gu (b := .append) (xs := #[.tmp 38, .tmp 41]) rfl ?_); at_builtin; refine Kd.R_append (Kd.int .i64) (w0 := w) w.heap.size rfl (.tmp 38) (.tmp 41) 38 3 (.int .i64 0) 8 rfl Try.underlying38 info3 rfl (by decide) (by omega) u5 A3 (wrap64 (a1 + 1)) [.int .i64 (wrap64 (a1 + 1))] (fun _ => True) (fun _ => False) rfl rfl ?aP (fun _ hk => hk.elim) ?aF ?aO ?aB ?aS ?aL ?_; (case aP => exact rfl); (case aB => exact (vB HB)); (case aF => exact (fun _ _ => trivial)); (case aO => exact (vR A1)); (case aS => exact (below_size (vB HB))); (case aL => have := A7.o; omega); intro Ak BQ ho hb hg hat; rw [← A9.o] at ho; have A4 := Z.m (ho); replace A0 := Z.m (qg (g := A2) (o := .cells #[.int .i64 a0_0, .int .i64 a0_1, .slice A0_2 l0_2.length c0_2] 30 (0, 0)) (vK A0) hg (Kd.R_ne A1.o A0.o (by decide))); replace HB := Z.m (hb); clear A1; clear ho hb hg hat; have Av := bc0 A0; have Aw := bc1 A0; have Ax := bc2 A0; have AB := qz A0.o 0; have AC := qz A0.o 1; have AD := qz A0.o 2)))
         go_ret
         exact ⟨_, by first | rfl | (simp [eN, eS] <;> rfl) | (simp [*, eN, eS] <;> rfl), vR A4, vB HB⟩
       ·rw [if_neg c18] at H
        exact absurd H (by simp)
      ·rw [if_neg c17] at H
       have AU := decide_eq_false c17
       clear c17
       by_cases c28 : (wrap64 ((wrap64 (Int.tdiv a1 a0_1)) + 1)) < a0_0
       ·rw [if_pos c28] at H
        have AW := decide_eq_true c28
        clear c28
        by_cases c29 : A3.length < 17592186044416
        ·rw [if_pos c29] at H
         have AL := Z.m c29
         clear c29
         obtain ⟨BI, Aj⟩ : ∃ y_ : List Int, y_ = (A3 ++ [wrap64 (a1 + a0_1)]) := ⟨_, rfl⟩
         replace H : (some BI) = some r := by first | (rw [Aj]; with_reducible exact H) | (have H2_ := (Option.bind_some _ _).symm.trans H; rw [Aj]; with_reducible exact H2_) | (have H2_ := (Option.bind_some _ _).symm.trans H; with_reducible exact H2_) | with_reducible exact H | (rw [Aj]; exact H) | exact H
         have AP := Z.m Aj
         clear Aj
         obtain rfl := Option.some.inj H
         have Bj := bc0 A0
         have Bk := bc1 A0
         have Bl := bc2 A0
         have By := qz A0.o 0
         have Bz := qz A0.o 1
         have BA := qz A0.o 2
         go_wp2_with (first | ((with_reducible refine gu (b := .append) (xs := #[.tmp 48, .tmp 53]) rfl ?_); at_builtin; refine Kd.R_append (Kd.int .i64) (w0 := w) w.heap.size rfl (.tmp 48) (.tmp 53) 38 3 (.int .i64 0) 8 rfl Try.underlying38 info3 rfl (by decide) (by omega) u5 A3 (wrap64 (a1 + a0_1)) [.int .i64 (wrap64 (a1 + a0_1))] (fun _ => True) (fun _ => False) rfl rfl ?aP (fun _ hk => hk.elim) ?aF ?aO ?aB ?aS ?aL ?_; (case aP => exact rfl); (case aB => exact (vB HB)); (case aF => exact (fun _ _ => trivial)); (case aO => exact (vR A1)); (case aS => exact (below_size (vB HB))); (case aL => have := AL.o; omega); intro B0 BR ho hb hg hat; rw [← AP.o] at ho; have AH := Z.m (ho); replace A0 := Z.m (qg (g := A2) (o := .cells #[.int .i64 a0_0, .int .i64 a0_1, .slice A0_2 l0_2.length c0_2] 30 (0, 0)) (vK A0) hg (Kd.R_ne A1.o A0.o (by decide))); replace HB := Z.m (hb); clear A1; clear ho hb hg hat))
         repeat (go_quiet (first | ((with_reducible refine gu (b := .append) (xs := #[.tmp 48, .tmp 53]) rfl ?_); at_builtin; refine Kd.R_append (Kd.int .i64) (w0 := w) w.heap.size rfl (.tmp 48) (.tmp 53) 38 3 (.int .i64 0) 8 rfl Try.underlying38 info3 rfl (by decide) (by omega) u5 A3 (wrap64 (a1 + a0_1)) [.int .i64 (wrap64 (a1 + a0_1))] (fun _ => True) (fun _ => False) rfl rfl ?aP (fun _ hk => hk.elim) ?aF ?aO ?aB ?aS ?aL ?_; (case aP => exact rfl); (case aB => exact (vB HB)); (case aF => exact (fun _ _ => trivial)); (case aO => exact (vR A1)); (case aS => exact (below_size (vB HB))); (case aL => have := AL.o; omega); intro B0 BR ho hb hg hat; rw [← AP.o] at ho; have AH := Z.m (ho); replace A0 := Z.m (qg (g := A2) (o := .cells #[.int .i64 a0_0, .int .i64 a0_1, .slice A0_2 l0_2.length c0_2] 30 (0, 0)) (vK A0) hg (Kd.R_ne A1.o A0.o (by decide))); replace HB := Z.m (hb); clear A1; clear ho hb hg hat)); try go_wp2_with (first | ((with_reducible refine gu (b := .append) (xs := #[.tmp 48, .tmp 53]) rfl ?_); at_builtin; refine Kd.R_append (Kd.int .i64) (w0 := w) w.heap.size rfl (.tmp 48) (.tmp 53) 38 3 (.int .i64 0) 8 rfl Try.underlying38 info3 rfl (by decide) (by omega) u5 A3 (wrap64 (a1 + a0_1)) [.int .i64 (wrap64 (a1 + a0_1))] (fun _ => True) (fun _ => False) rfl rfl ?aP (fun _ hk => hk.elim) ?aF ?aO ?aB ?aS ?aL ?_; (case aP => exact rfl); (case aB => exact (vB HB)); (case aF => exact (fun _ _ => trivial)); (case aO => exact (vR A1)); (case aS => exact (below_size (vB HB))); (case aL => have := AL.o; omega); intro B0 BR ho hb hg hat; rw [← AP.o] at ho; have AH := Z.m (ho); replace A0 := Z.m (qg (g := A2) (o := .cells #[.int .i64 a0_0, .int .i64 a0_1, .slice A0_2 l0_2.length c0_2] 30 (0, 0)) (vK A0) hg (Kd.R_ne A1.o A0.o (by decide))); replace HB := Z.m (hb); clear A1; clear ho hb hg hat)))
         go_ret
         exact ⟨_, by first | rfl | (simp [eN, eS] <;> rfl) | (simp [*, eN, eS] <;> rfl), vR AH, vB HB⟩
        ·rw [if_neg c29] at H
         exact absurd H (by simp)
       ·rw [if_neg c28] at H
        have AW := decide_eq_false c28
        clear c28
        obtain rfl := Option.some.inj H
        have Bm := bc0 A0
        have Bn := bc1 A0
        have Bo := bc2 A0
        have BB := qz A0.o 0
        have BC := qz A0.o 1
        have BD := qz A0.o 2
        go_wp2
        repeat (go_quiet (fail); try go_wp2)
        go_ret
        exact ⟨_, by first | rfl | (simp [eN, eS] <;> rfl) | (simp [*, eN, eS] <;> rfl), vR A1, vB HB⟩

end Go.Proofs.Ytlkiakpipcnijaa.PAll
