/- Began as a text that print.sh wrote (of the functions named below); turned and shortened by this session. -/
import Derived.Test.YtoklfgjemfojgaaG0
import Derived.Test.YtoklfgjemfojgaaG8
import Derived.Test.YtoklfgjemfojgaaG9
namespace Go.Proofs.Ytoklfgjemfojgaa.PAll
open Go.RowKit Go.Proofs.YtoklfgjemfojgaaW.PrintWords Go.Proofs.YtoklfgjemfojgaaW.PrintLast Go.Proofs.YtoklfgjemfojgaaW.PrintMore
attribute [local go_sem] max2_int min2_int max_two min_two max_three min_three max_four min_four   -- for this text's walks alone
set_option linter.unusedVariables false
set_option linter.unusedSimpArgs false

/-! ### impl_drop: function 54 -/
mutual
def impl_drop.l0 : Nat → List Int → Int → List Int → Int → Int → Int → Int → List (S89) → Option (Int × Int × Int × List Int × (List (S89)))
 | 0, _, _, _, _, _, _, _, _ => none
 | k + 1, x1, x2, x8, x9, x10, x287000, x287001, x287002 => if x10 < x287000 then (if x8.length < 17592186044416 then ((some (x8 ++ [wrap64 ((wrap64 (x10 * x287001)) + x2)] : List Int)).bind fun y291 => (if 0 ≤ (wrap64 ((wrap64 (x10 * x287001)) + x2)) then (if (wrap64 ((wrap64 (x10 * x287001)) + x2)) < (x287002.length : Int) then ((impl_GoesTo.f k ((rd_T89 x287002 (wrap64 ((wrap64 (x10 * x287001)) + x2))).f0) ((rd_T89 x287002 (wrap64 ((wrap64 (x10 * x287001)) + x2))).f1) x9).bind fun bt296 => (if bt296.2 = true then (if ((rd_T89 x287002 (wrap64 ((wrap64 (x10 * x287001)) + x2))).f0) = 3 then (impl_drop.j1 k x1 x2 y291 x10 (wrap64 ((wrap64 (x10 * x287001)) + x2)) bt296.1 x287000 x287001 (x287002.set ((wrap64 ((wrap64 (x10 * x287001)) + x2)) : Int).toNat (⟨(rd_T89 x287002 (wrap64 ((wrap64 (x10 * x287001)) + x2))).f0, wrap64 (1 - ((rd_T89 x287002 (wrap64 ((wrap64 (x10 * x287001)) + x2))).f1))⟩ : S89)) ((rd_T89 x287002 (wrap64 ((wrap64 (x10 * x287001)) + x2))).f0) ((rd_T89 x287002 (wrap64 ((wrap64 (x10 * x287001)) + x2))).f1)) else (impl_drop.j1 k x1 x2 y291 x10 (wrap64 ((wrap64 (x10 * x287001)) + x2)) bt296.1 x287000 x287001 x287002 ((rd_T89 x287002 (wrap64 ((wrap64 (x10 * x287001)) + x2))).f0) ((rd_T89 x287002 (wrap64 ((wrap64 (x10 * x287001)) + x2))).f1))) else (some (2, x10, x2, y291, x287002)))) else (none)) else (none))) else (none)) else (some (1, x287000, x2, x8, x287002))
def impl_drop.j1 : Nat → List Int → Int → List Int → Int → Int → Int → Int → Int → List (S89) → Int → Int → Option (Int × Int × Int × List Int × (List (S89)))
 | 0, _, _, _, _, _, _, _, _, _, _, _ => none
 | k + 1, x1, x2, x8, x10, x11, x13, x287000, x287001, x287002, x296000, x296001 => if x296000 = 6 then ((impl_turnGroup.f k x287000 x287001 x287002 x1 x11).bind fun t299 => (if (wrap64 (x2 + x13)) < 0 then (some (3, x10, wrap64 (x2 + x13), x8, t299)) else (if (wrap64 (x2 + x13)) ≥ x287001 then (some (3, x10, wrap64 (x2 + x13), x8, t299)) else (impl_drop.l0 k x1 (wrap64 (x2 + x13)) x8 (wrap64 (-x13)) (wrap64 (x10 + 1)) x287000 x287001 t299)))) else (if (wrap64 (x2 + x13)) < 0 then (some (3, x10, wrap64 (x2 + x13), x8, x287002)) else (if (wrap64 (x2 + x13)) ≥ x287001 then (some (3, x10, wrap64 (x2 + x13), x8, x287002)) else (impl_drop.l0 k x1 (wrap64 (x2 + x13)) x8 (wrap64 (-x13)) (wrap64 (x10 + 1)) x287000 x287001 x287002)))
end
def impl_drop.f (k : Nat) (a0_0 : Int) (a0_1 : Int) (l0_2 : List (S89)) (l1 : List Int) (a2 : Int) : Option (Int × Int × Int × List Int × (List (S89))) := impl_drop.l0 k l1 a2 (([] : List Int)) 0 0 a0_0 a0_1 l0_2
set_option maxHeartbeats 8000000 in
set_option maxRecDepth 100000 in
theorem impl_drop.calls (k : Nat) (a0_0 : Int) (a0_1 : Int) (P0_2_ : Nat → Prop) (u9000_ : Value) (l0_2 : List (S89)) (A1 : Option Addr) (c1 : Nat) (l1 : List Int) (a2 : Int) (r1 : Int) (r2 : Int) (r3 : Int) (r4 : List Int) (r5 : List (S89)) (w0 w : World) (hB : Below w0.heap.size w0 w) (ho0_2 : Kd.R k89 89 w w0.heap.size P0_2_ u9000_ l0_2) (hr1 : ∀ W_, Kept w W_ (fun k_ => P0_2_ k_) → Kd.C (Kd.int .i64) W_ A1 l1.length l1) (hc1 : l1.length ≤ c1) (h : impl_drop.f k a0_0 a0_1 l0_2 l1 a2 = some (r1, r2, r3, r4, r5)) :
 Calls Try.prog 54 #[.agg #[.int .i64 a0_0, .int .i64 a0_1, u9000_], .slice A1 l1.length c1, .int .i64 a2] w fun e w' => ∃ v3_ : Value, e = .returned (.tuple #[.agg #[.int .i64 r1, .int .i64 r2, .int .i64 r3], v3_]) ∧ Kd.R (Kd.int .i64) 3 w' w0.heap.size (fun k_ => (P0_2_ k_ ∨ w.heap.size ≤ k_)) v3_ r4 ∧ Kd.R k89 89 w' w0.heap.size (fun k_ => (P0_2_ k_ ∨ w.heap.size ≤ k_)) u9000_ r5 ∧ Below w0.heap.size w0 w' ∧ Kept w w' (fun k_ => P0_2_ k_) := by
 have Fj := Try.underlying32
 have Fi := Try.underlying27
 have Fk := Try.underlying89
 have Au := Z.m (show Kd.R k89 89 w w0.heap.size (fun k_ => (P0_2_ k_ ∨ w.heap.size ≤ k_)) u9000_ l0_2 from Kd.Rm ho0_2 (fun k_ hk => (.inl hk)))
 have E7 := Z.m hr1
 have E5 := Z.m hc1
 clear hr1 hc1
 have HK := Z.m (Kept.refl w (fun k_ => P0_2_ k_))
 have HW0 := Z.m hB.size
 have HB := Z.m hB
 clear hB
 have H : (impl_drop.l0 k l1 a2 (([] : List Int)) 0 0 a0_0 a0_1 l0_2) = some (r1, r2, r3, r4, r5) := h
 clear h
 obtain ⟨BQ, AC⟩ : ∃ y_ : List Int, y_ = (([] : List Int)) := ⟨_, rfl⟩
 replace H : (impl_drop.l0 k l1 a2 BQ 0 0 a0_0 a0_1 l0_2) = some (r1, r2, r3, r4, r5) := by first | (rw [AC]; with_reducible exact H) | (have H2_ := (Option.bind_some _ _).symm.trans H; rw [AC]; with_reducible exact H2_) | (have H2_ := (Option.bind_some _ _).symm.trans H; with_reducible exact H2_) | with_reducible exact H | (rw [AC]; exact H) | exact H
 have Bk := Z.m AC
 clear AC
 have H' := Z.m H
 clear H
 obtain ⟨Bx, Ax, Fg⟩ := Kd.R_slice Au.o
 subst Fg
 go_enter Try.func54, Try.ntmps54
 go_wp2_with (first | ((with_reducible refine gq (N := 3) rfl ?_); refine be (N := 3) (cs := #[.int .i64 a0_0, .int .i64 a0_1, .slice Bx l0_2.length Ax]) (t := 32) ?_; intro Av hg w5 hbox hb; have A3 := Z.m (hbox); have Ee := Z.m ((by rw [hg]; exact (by first | exact HK.o.1 | exact (show Kept w _ (fun k_ => P0_2_ k_) from vT HK).1) : w.heap.size ≤ Av)); have AI := gW (w := w0) HB hg; replace Au := Z.m (Kd.Rb (vR Au) hb); replace HK := Z.m (Kept.below (S := (fun k_ => P0_2_ k_)) (vT HK) hb); replace HB := bB HB hb; clear hb hbox hg) | ((with_reducible refine gq (N := 6) rfl ?_); refine be (N := 6) (cs := #[.int .i64 0, .int .i64 0, .int .i64 0]) (t := 27) ?_; intro Ap hg w6 hbox hb; have A4 := Z.m (hbox); have Ef := Z.m ((by rw [hg]; exact (by first | exact HK.o.1 | exact (show Kept w _ (fun k_ => P0_2_ k_) from vT HK).1) : w.heap.size ≤ Ap)); have AJ := gW (w := w0) HB hg; have Ae := neL A3 hg; have Af := neG A3 hg; replace Au := Z.m (Kd.Rb (vR Au) hb); replace A3 := kB A3 hb; replace HK := Z.m (Kept.below (S := (fun k_ => P0_2_ k_)) (vT HK) hb); replace HB := bB HB hb; clear hb hbox hg) | ((with_reducible refine gq (N := 15) rfl ?_); refine Kd.R_lit (Kd.int .i64) _ 3 ?hg (N := 15) ?hd (xs := ([] : List Int)) (inner := []) (ok := fun _ => True) (okp := fun _ => True) ?hr ?hp (fun _ hk => hk) trivial (Below.refl _ _) (Nat.le_refl _) (by simp) ?_; (case hd => rfl); (case hg => rfl); (case hr => first | (go_simp; done) | (go_simp; rfl)); (case hp => exact (Reps.none _ _)); intro Fl w7 BN hb hg_ hnew_; clear hg_ hnew_; (first | rw [← Bk.o] at BN | (simp only [Int.reduceToNat] at BN; rw [← Bk.o] at BN)); have BA := Z.m (Kd.R_lower (Kd.R_newM (M := fun k_ => (P0_2_ k_ ∨ w.heap.size ≤ k_)) BN (by first | exact HK.o.1 | exact (show Kept w _ (fun k_ => P0_2_ k_) from vT HK).1) (fun k_ h_ => .inr h_)) (below_size (vB HB))); replace Au := Z.m (Kd.Rb (vR Au) hb); replace A3 := kB A3 hb; replace A4 := kB A4 hb; replace HK := Z.m (Kept.below (S := (fun k_ => P0_2_ k_)) (vT HK) hb); replace HB := bB HB hb; clear hb BN))
 go_loopg [2, 8, 9, 10] k (fun kq v2 v8 v9 v10 w' => ∃ (Ab : Int) (AG : List Int) (AA : Int) (A9 : Int) (A0 : List (S89)) (Ai : Int) (Aj : Int) (Ak : Int), v2 = .int .i64 Ab ∧ v9 = .int .i64 AA ∧ v10 = .int .i64 A9 ∧ Z (impl_drop.l0 kq l1 Ab AG AA A9 a0_0 a0_1 A0 = some (r1, r2, r3, r4, r5)) ∧ Z (kq ≤ k) ∧ Z (Kd.R (Kd.int .i64) 3 w' w0.heap.size (fun k_ => (P0_2_ k_ ∨ w.heap.size ≤ k_)) v8 AG) ∧ Z (Kd.R k89 89 w' w0.heap.size (fun k_ => (P0_2_ k_ ∨ w.heap.size ≤ k_)) (.slice Bx l0_2.length Ax) A0) ∧ Z (w'.heap[Av]? = some (.cells #[.int .i64 a0_0, .int .i64 a0_1, (.slice Bx l0_2.length Ax)] 32 (0, 0))) ∧ Z (w'.heap[Ap]? = some (.cells #[.int .i64 Ai, .int .i64 Aj, .int .i64 Ak] 27 (0, 0))) ∧ Z (Kept w w' (fun k_ => P0_2_ k_)) ∧ Z (Below w0.heap.size w0 w'))
 case atStart => exact ⟨(a2), (BQ), (0), (0), (l0_2), (0), (0), (0), (by first | rfl | (simp; done) | (simp [*]; done)), (by first | rfl | (simp; done) | (simp [*]; done)), (by first | rfl | (simp; done) | (simp [*]; done)), H', ⟨Nat.le_refl _⟩, ⟨by refine rK ?_; exact Kd.Rm BA.o (fun _ hk => hk.1)⟩, ⟨vR Au⟩, ⟨vK A3⟩, ⟨vK A4⟩, ⟨vT HK⟩, ⟨vB HB⟩⟩
 case round =>
  clear H'
  obtain ⟨Ab, AG, AA, A9, A0, Ai, Aj, Ak, rfl, rfl, rfl, HA, Bu, Al, A2, A3, A4, HK, HB⟩ := hrel
  have A5 := (Kd.RrZ A2.o).1
  rw [A5] at A2
  (try simp only [A5])
  (try simp only [A5] at A3)
  (try simp only [A5] at A4)
  (try simp only [A5] at Al)
  cases gk with
  | zero => exact absurd HA.o (by simp [impl_drop.l0])
  | succ k1 =>
   have H := HA.o
   clear HA
   simp only [impl_drop.l0] at H
   by_cases c9 : A9 < a0_0
   ·rw [if_pos c9] at H
    have AT := decide_eq_true c9
    clear c9
    by_cases c10 : AG.length < 17592186044416
    ·rw [if_pos c10] at H
     have Bj := Z.m c10
     clear c10
     obtain ⟨As, AD⟩ : ∃ y_ : List Int, y_ = (AG ++ [wrap64 ((wrap64 (A9 * a0_1)) + Ab)]) := ⟨_, rfl⟩
     replace H : (if 0 ≤ (wrap64 ((wrap64 (A9 * a0_1)) + Ab)) then (if (wrap64 ((wrap64 (A9 * a0_1)) + Ab)) < (A0.length : Int) then ((impl_GoesTo.f k1 ((rd_T89 A0 (wrap64 ((wrap64 (A9 * a0_1)) + Ab))).f0) ((rd_T89 A0 (wrap64 ((wrap64 (A9 * a0_1)) + Ab))).f1) AA).bind fun bt296 => (if bt296.2 = true then (if ((rd_T89 A0 (wrap64 ((wrap64 (A9 * a0_1)) + Ab))).f0) = 3 then (impl_drop.j1 k1 l1 Ab As A9 (wrap64 ((wrap64 (A9 * a0_1)) + Ab)) bt296.1 a0_0 a0_1 (A0.set ((wrap64 ((wrap64 (A9 * a0_1)) + Ab)) : Int).toNat (⟨(rd_T89 A0 (wrap64 ((wrap64 (A9 * a0_1)) + Ab))).f0, wrap64 (1 - ((rd_T89 A0 (wrap64 ((wrap64 (A9 * a0_1)) + Ab))).f1))⟩ : S89)) ((rd_T89 A0 (wrap64 ((wrap64 (A9 * a0_1)) + Ab))).f0) ((rd_T89 A0 (wrap64 ((wrap64 (A9 * a0_1)) + Ab))).f1)) else (impl_drop.j1 k1 l1 Ab As A9 (wrap64 ((wrap64 (A9 * a0_1)) + Ab)) bt296.1 a0_0 a0_1 A0 ((rd_T89 A0 (wrap64 ((wrap64 (A9 * a0_1)) + Ab))).f0) ((rd_T89 A0 (wrap64 ((wrap64 (A9 * a0_1)) + Ab))).f1))) else (some (2, A9, Ab, As, A0)))) else (none)) else (none)) = some (r1, r2, r3, r4, r5) := by first | (rw [AD]; with_reducible exact H) | (have H2_ := (Option.bind_some _ _).symm.trans H; rw [AD]; with_reducible exact H2_) | (have H2_ := (Option.bind_some _ _).symm.trans H; with_reducible exact H2_) | with_reducible exact H | (rw [AD]; exact H) | exact H
     have AK := Z.m AD
     clear AD
     obtain ⟨A7, Ar⟩ : ∃ j_ : Int, (wrap64 ((wrap64 (A9 * a0_1)) + Ab)) = j_ := ⟨_, rfl⟩
     replace H : (if 0 ≤ (A7) then (if (A7) < (A0.length : Int) then ((impl_GoesTo.f k1 ((rd_T89 A0 (A7)).f0) ((rd_T89 A0 (A7)).f1) AA).bind fun bt296 => (if bt296.2 = true then (if ((rd_T89 A0 (A7)).f0) = 3 then (impl_drop.j1 k1 l1 Ab As A9 A7 bt296.1 a0_0 a0_1 (A0.set ((A7) : Int).toNat (⟨(rd_T89 A0 (A7)).f0, wrap64 (1 - ((rd_T89 A0 (A7)).f1))⟩ : S89)) ((rd_T89 A0 (A7)).f0) ((rd_T89 A0 (A7)).f1)) else (impl_drop.j1 k1 l1 Ab As A9 A7 bt296.1 a0_0 a0_1 A0 ((rd_T89 A0 (A7)).f0) ((rd_T89 A0 (A7)).f1))) else (some (2, A9, Ab, As, A0)))) else (none)) else (none)) = some (r1, r2, r3, r4, r5) := by first | (rw [Ar] at H; exact H) | (simp only [Ar] at H ⊢; exact H)
     (try rw [Ar] at AK)
     have hji11w : (IntKind.i64.wrap ((wrap64 (A9 * a0_1)) + Ab)) = A7 := (i64_w _).trans Ar
     by_cases c12 : 0 ≤ (A7)
     ·rw [if_pos c12] at H
      have BD := decide_eq_true c12
      clear c12
      by_cases c13 : (A7) < (A0.length : Int)
      ·rw [if_pos c13] at H
       have BE := decide_eq_true c13
       clear c13
       replace H := Option.bind_eq_some_iff.mp H
       obtain ⟨⟨Am, BO⟩, Bv, H⟩ := H
       replace H : (if BO = true then (if ((rd_T89 A0 (A7)).f0) = 3 then (impl_drop.j1 k1 l1 Ab As A9 A7 Am a0_0 a0_1 (A0.set ((A7) : Int).toNat (⟨(rd_T89 A0 (A7)).f0, wrap64 (1 - ((rd_T89 A0 (A7)).f1))⟩ : S89)) ((rd_T89 A0 (A7)).f0) ((rd_T89 A0 (A7)).f1)) else (impl_drop.j1 k1 l1 Ab As A9 A7 Am a0_0 a0_1 A0 ((rd_T89 A0 (A7)).f0) ((rd_T89 A0 (A7)).f1))) else (some (2, A9, Ab, As, A0))) = some (r1, r2, r3, r4, r5) := H
       have Ed := Z.m Bv
       clear Bv
       by_cases c15 : BO = true
       ·subst c15
        have H1 : (if ((rd_T89 A0 (A7)).f0) = 3 then (impl_drop.j1 k1 l1 Ab As A9 A7 Am a0_0 a0_1 (A0.set ((A7) : Int).toNat (⟨(rd_T89 A0 (A7)).f0, wrap64 (1 - ((rd_T89 A0 (A7)).f1))⟩ : S89)) ((rd_T89 A0 (A7)).f0) ((rd_T89 A0 (A7)).f1)) else (impl_drop.j1 k1 l1 Ab As A9 A7 Am a0_0 a0_1 A0 ((rd_T89 A0 (A7)).f0) ((rd_T89 A0 (A7)).f1))) = some (r1, r2, r3, r4, r5) := by rw [if_pos rfl] at H; exact H
        clear H
        have H := H1
        clear H1
        have Bo := Z.m H
        clear H
        have Eg := Ae.o
        have EK := Af.o
        have AU := bc0 A3
        have AV := bc1 A3
        have AW := bc2 A3
        have B8 := qz A3.o 0
        have Ba := qz A3.o 1
        have Bb := qz A3.o 2
        go_upto_if 51 with (first | ((with_reducible refine gu (b := .append) (xs := #[.tmp 28, .tmp 30]) rfl ?_); at_builtin; refine Kd.R_append (Kd.int .i64) (w0 := w0) w0.heap.size rfl (.tmp 28) (.tmp 30) 43 3 (.int .i64 0) 8 rfl Try.underlying43 info3 rfl (by decide) (by omega) u8 AG A7 [.int .i64 A7] (fun k_ => (P0_2_ k_ ∨ w.heap.size ≤ k_)) (fun _ => False) rfl rfl ?aP (fun _ hk => hk.elim) ?aF ?aO ?aB ?aS ?aL ?_; (case aP => exact rfl); (case aB => exact (vB HB)); (case aF => exact (fun k_ hk => (.inr (Nat.le_trans (by first | exact HK.o.1 | exact (show Kept w _ (fun k_ => P0_2_ k_) from vT HK).1) hk)))); (case aO => exact (vR Al)); (case aS => exact (below_size (vB HB))); (case aL => have := Bj.o; omega); intro BP Fm ho hb hg hat; rw [← AK.o] at ho; have An := Z.m (ho); replace A2 := Z.m (Kd.Ro (vR A2) (Kd.Rt (vR Al)) (by decide) hg); replace A3 := Z.m (qg (g := Av) (o := .cells #[.int .i64 a0_0, .int .i64 a0_1, .slice Bx A0.length Ax] 32 (0, 0)) (vK A3) hg (Kd.R_ne Al.o A3.o (by decide))); replace A4 := Z.m (qg (g := Ap) (o := .cells #[.int .i64 Ai, .int .i64 Aj, .int .i64 Ak] 27 (0, 0)) (vK A4) hg (Kd.R_ne Al.o A4.o (by decide))); replace HB := Z.m (hb); replace HK := Z.m (Kept.of_grown (S := (fun k_ => P0_2_ k_)) hg (vT HK) (fun k_ e_ => (Al.o.1 k_ e_))); clear Al; clear ho hb hg hat; have AX := bc0 A3; have AY := bc1 A3; have AZ := bc2 A3; have Bc := qz A3.o 0; have Bd := qz A3.o 1; have Be := qz A3.o 2; have p294 : 0 ≤ ((A7) : Int) := ofD; have q294 : (A7) < (A0.length : Int) := ofD; obtain ⟨Ao, e294, Ay, Az⟩ := at_T89 (Kd.RrZ A2.o).2.2 (A7) p294 q294; cases e294; replace p294 := eq_true p294; replace q294 := eq_true q294) | ((with_reducible refine gq (N := 12) rfl ?_); refine be (N := 12) (cs := #[.int .i64 0, .int .i64 0]) (t := 89) ?_; intro Aq hg Fn hbox hb; have A8 := Z.m (hbox); have By := Z.m ((by rw [hg]; exact (by first | exact HK.o.1 | exact (show Kept w _ (fun k_ => P0_2_ k_) from vT HK).1) : w.heap.size ≤ Aq)); have AH := gW (w := w0) HB hg; have Ac := neL A3 hg; have Ag := neG A3 hg; have Ad := neL A4 hg; have Ah := neG A4 hg; replace A2 := Z.m (Kd.Rb (Kd.R_elderB (vR A2) Aq (Nat.le_of_eq hg.symm)) hb); replace An := Z.m (Kd.Rb (vR An) hb); replace A3 := kB A3 hb; replace A4 := kB A4 hb; replace HK := Z.m (Kept.below (S := (fun k_ => P0_2_ k_)) (vT HK) hb); replace HB := bB HB hb; clear hb hbox hg; have Eh := Ag.o; have EL := Ac.o; have Ei := Ah.o; have EM := Ad.o; have B0 := bc0 A8; have B2 := bc1 A8; have Bf := qz A8.o 0; have Bg := qz A8.o 1) | ((with_reducible refine gc (f := 73) rfl ?_); refine goesL_ (some 40) rfl rfl Try.func73 (by kernel_rfl) rfl #[.agg #[.int .i64 ((rd_T89 A0 (A7)).f0), .int .i64 ((rd_T89 A0 (A7)).f1)], .int .i64 AA] rfl (by (try simp only [List.map_toArray, List.map_cons, List.map_nil]); first | done | (simp only [Ar]; rfl) | rfl | (simp only [List.length_drop, List.length_take]; rfl)) ?_; (with_reducible refine (impl_GoesTo.calls k1 ((rd_T89 A0 (A7)).f0) ((rd_T89 A0 (A7)).f1) AA Am true _ Ed.o).mono ?_); rintro e Bs ⟨rfl, hb⟩; refine ⟨_, rfl, ?_⟩; replace A2 := Z.m (Kd.Rb (by refine rK ?_; exact (Kd.Rm (rf (rf (Kd.Rm A2.o (fun k_ hk => (⟨hk, hk.2⟩ : _ ∧ k_ ≠ Aq))))) (fun _ h_ => h_.1))) hb); replace An := Z.m (Kd.Rb (by refine rK ?_; exact (Kd.Rm (rf (rf (Kd.Ry An.o A8.o (by decide)))) (fun _ h_ => h_.1))) hb); replace A3 := Z.m (qb (g := Av) (o := .cells #[.int .i64 a0_0, .int .i64 a0_1, .slice (some Ao) A0.length Ax] 32 (0, 0)) (by refine bK ?_; (iterate 2 refine qF ?_ Ac); exact A3.o) hb); replace A4 := Z.m (qb (g := Ap) (o := .cells #[.int .i64 Ai, .int .i64 Aj, .int .i64 Ak] 27 (0, 0)) (by refine bK ?_; (iterate 2 refine qF ?_ Ad); exact A4.o) hb); replace A8 := Z.m (qb (g := Aq) (o := .cells #[.int .i64 ((rd_T89 A0 (A7)).f0), .int .i64 ((rd_T89 A0 (A7)).f1)] 89 (0, 0)) (by refine bK ?_; refine qp (cs := #[iV ((rd_T89 A0 (A7)).f0), iV 0]) ?_ 1 _ rfl; refine bK ?_; refine qp (cs := #[iV 0, iV 0]) ?_ 0 _ rfl; refine bK ?_; exact A8.o) hb); replace HK := Z.m (Kept.below (S := (fun k_ => P0_2_ k_)) (vT HK) hb); replace HB := bB HB hb; (try clear hb); (try clear Fh); (try clear hk); (try clear hi); have B3 := bc0 A8; have B7 := bc1 A8; have Bh := qz A8.o 0; have Bi := qz A8.o 1))
        (try simp only [Act.put, q1, q2, q3])
        go_cut [] (fun wc => ∃ (kq : Nat) (Aa : List (S89)) (At : Int), Z (impl_drop.j1 kq l1 Ab As A9 A7 Am a0_0 a0_1 Aa ((rd_T89 A0 (A7)).f0) At = some (r1, r2, r3, r4, r5)) ∧ Z (kq ≤ k1) ∧ Z (Kd.R (Kd.int .i64) 3 wc w0.heap.size (fun k_ => (P0_2_ k_ ∨ w.heap.size ≤ k_)) BP As) ∧ Z (Kd.R k89 89 wc w0.heap.size (fun k_ => (P0_2_ k_ ∨ w.heap.size ≤ k_) ∧ k_ ≠ Aq) (.slice (some Ao) A0.length Ax) Aa) ∧ Z (wc.heap[Av]? = some (.cells #[.int .i64 a0_0, .int .i64 a0_1, (.slice (some Ao) A0.length Ax)] 32 (0, 0))) ∧ Z (wc.heap[Ap]? = some (.cells #[.int .i64 Ai, .int .i64 Aj, .int .i64 Ak] 27 (0, 0))) ∧ Z (wc.heap[Aq]? = some (.cells #[.int .i64 ((rd_T89 A0 (A7)).f0), .int .i64 At] 89 (0, 0))) ∧ Z (Kept w wc (fun k_ => P0_2_ k_)) ∧ Z (Below w0.heap.size w0 wc))
        case first =>
         have H := Bo.o
         clear Bo
         by_cases c27 : ((rd_T89 A0 (A7)).f0) = 3
         ·rw [if_pos c27] at H
          have AB := beq_iff_eq.mpr c27
          have BF := bne_eq_false_iff_eq.mpr c27
          clear c27
          (first | rw [AB] | (simp only [i64_w, i32_w]; rw [AB]) | skip)
          obtain ⟨Bt, AE⟩ : ∃ y_ : List (S89), y_ = (A0.set ((A7) : Int).toNat (⟨(rd_T89 A0 (A7)).f0, wrap64 (1 - ((rd_T89 A0 (A7)).f1))⟩ : S89)) := ⟨_, rfl⟩
          replace H : (impl_drop.j1 k1 l1 Ab As A9 A7 Am a0_0 a0_1 Bt ((rd_T89 A0 (A7)).f0) ((rd_T89 A0 (A7)).f1)) = some (r1, r2, r3, r4, r5) := by first | (rw [AE]; with_reducible exact H) | (have H2_ := (Option.bind_some _ _).symm.trans H; rw [AE]; with_reducible exact H2_) | (have H2_ := (Option.bind_some _ _).symm.trans H; with_reducible exact H2_) | with_reducible exact H | (rw [AE]; exact H) | exact H
          have BC := Z.m AE
          clear AE
          have H' := Z.m H
          clear H
          have Ej := Ae.o
          have EN := Af.o
          have Ek := Ac.o
          have EO := Ag.o
          have BR := bc0 A3
          have BS := bc1 A3
          have BT := bc2 A3
          have CY := qz A3.o 0
          have CZ := qz A3.o 1
          have D0 := qz A3.o 2
          have El := Ah.o
          have EP := Ad.o
          have BU := bc0 A8
          have BV := bc1 A8
          have D1 := qz A8.o 0
          have D2 := qz A8.o 1
          have p28 : 0 ≤ ((A7) : Int) := ofD
          have q28 : ((A7) : Int) < ((A0.length : Int) : Int) := ofD
          obtain ⟨Aw, Ff, BI, BJ, gl28, cl28, Bz⟩ := Kd.R_form A2.o (by omega)
          (first | cases BI | (injection BI with ea_ en_ ec_; (first | subst ea_ | (injection ea_ with ea_; subst ea_)); subst ec_; clear en_))
          have E4 := Z.m BJ
          have Fc := Z.m Bz
          clear BJ gl28 Bz
          have E6 := Z.m (show (P0_2_ Aw ∨ w.heap.size ≤ Aw) from (A2.o.1 _ rfl).1)
          (first | simp only [add_plain] at Ay | skip)
          (first | simp only [add_plain] at Az | skip)
          obtain ⟨Fd, BM, BK, AP, AR⟩ := Kd.R_elem A2.o z89 ((A7) : Int) p28 q28
          obtain rfl := k89_openM BK
          have Ea : Bs.cell? ⟨Aw, ((A7) : Int).toNat * 2, none⟩ = some (.int .i64 ((rd_T89 A0 (A7)).f0)) := AP 0 _ rfl
          have Eb : Bs.cell? ⟨Aw, ((A7) : Int).toNat * 2 + 1, none⟩ = some (.int .i64 ((rd_T89 A0 (A7)).f1)) := AP 1 _ rfl
          have E8 : Bs.frozen? ⟨Aw, ((A7) : Int).toNat * 2, none⟩ = false := AR 0
          have E9 : Bs.frozen? ⟨Aw, ((A7) : Int).toNat * 2 + 1, none⟩ = false := AR 1
          (try clear BM); (try clear AP); (try clear AR); (try clear BK)
          replace p28 := eq_true p28
          replace q28 := eq_true q28
          have BB := Z.m (show Kd.R k89 89 Bs w0.heap.size (fun k_ => (P0_2_ k_ ∨ w.heap.size ≤ k_) ∧ k_ ≠ Aq) (.slice (some ⟨Aw, 0, none⟩) A0.length Ax) A0 from (vR A2))
          obtain ⟨Fe, Bl, BL, AQ, Bm⟩ := Kd.R_elem BB.o z89 ((A7) : Int) (ofD) (by have h_ : ((A7) : Int) < ((A0.length : Int) : Int) := ofD; first | exact h_ | (have e_ := (Kd.RrZ A2.o).1; omega) | simpa using h_)
          obtain rfl := k89_openM BL
          have Bp := Kd.R_seg BB.o ((A7) : Int) (ofD) (by have h_ : ((A7) : Int) < ((A0.length : Int) : Int) := ofD; first | exact h_ | (have e_ := (Kd.RrZ A2.o).1; omega) | simpa using h_) (seg := [.int .i64 (wrap64 (1 - ((rd_T89 A0 (A7)).f1)))]) (j := 1) Bl AQ (show 2 ≤ 2 from by decide) (x' := (⟨(rd_T89 A0 (A7)).f0, wrap64 (1 - ((rd_T89 A0 (A7)).f1))⟩ : S89)) (k89_mkM _ _ _ (⟨(rd_T89 A0 (A7)).f0, wrap64 (1 - ((rd_T89 A0 (A7)).f1))⟩ : S89) ) (fun _ hk => hk)
          have Br := AQ 1 _ rfl
          (try simp only [show (k89).sz = 2 from rfl, Nat.mul_one, Nat.add_zero] at Br)
          have Bq := Bm 1
          (try simp only [show (k89).sz = 2 from rfl, Nat.mul_one, Nat.add_zero] at Bq)
          (try clear Bl); (try clear AQ); (try clear Bm); (try clear BL)
          go_wp2_with (first | ((with_reducible refine gt (t := 3) (p := 59) rfl ?_); refine store_event (t := 3) (p := 59) (v := ?vo_w35) (w1 := (Bs.setCell ⟨Aw, ((A7) : Int).toNat * 2 + 1, none⟩ (.int .i64 (wrap64 (1 - ((rd_T89 A0 (A7)).f1)))))) ?hg ?ho ?hn ?hr ?_; (case ho => rfl); (case hg => rfl); (case hn => rfl); (case hr => first | (go_simp; done) | (go_simp; rfl)); intro Ec hw; have hg : Bs.grownBy Ec (some Aw) := (by rw [hw]; exact Bp.2); have hp_ : Kd.R k89 89 Ec w0.heap.size (fun k_ => (P0_2_ k_ ∨ w.heap.size ≤ k_) ∧ k_ ≠ Aq) (.slice (some ⟨Aw, 0, none⟩) A0.length Ax) Bt := (by rw [hw, BC.o]; exact Bp.1); clear Bp; replace A3 := Z.m (qg (g := Av) (o := .cells #[.int .i64 a0_0, .int .i64 a0_1, .slice (some ⟨Aw, 0, none⟩) A0.length Ax] 32 (0, 0)) (vK A3) hg (Kd.R_ne A2.o A3.o (by decide))); replace A4 := Z.m (qg (g := Ap) (o := .cells #[.int .i64 Ai, .int .i64 Aj, .int .i64 Ak] 27 (0, 0)) (vK A4) hg (Kd.R_ne A2.o A4.o (by decide))); replace An := Z.m (Kd.Ro (v := (.slice (some ⟨Aw, 0, none⟩) A0.length Ax)) (vR An) (Kd.Rt A2.o) (by decide) hg); replace A8 := Z.m (qg (g := Aq) (o := .cells #[.int .i64 ((rd_T89 A0 (A7)).f0), .int .i64 ((rd_T89 A0 (A7)).f1)] 89 (0, 0)) (vK A8) hg (Kd.R_away A2.o (fun _ hk => hk.2))); replace HB := Z.m ((by rw [hw]; exact qx (HB.o) E4.o : Below w0.heap.size w0 Ec)); replace HK := Z.m (Kept.of_grown (S := (fun k_ => P0_2_ k_)) hg (vT HK) (fun k_ e_ => (A2.o.1 k_ e_).1)); replace A2 := Z.m (hp_); clear hg hw hp_))
          go_meet
          case rel => exact ⟨_, (Bt), ((rd_T89 A0 (A7)).f1), H', ⟨by have := Bu.o; first | omega | exact Nat.le_refl _⟩, ⟨by (try simp only [A5]); refine rK ?_; exact An.o⟩, ⟨by (try simp only [A5]); refine rK ?_; exact A2.o⟩, ⟨by (try simp only [A5]); refine bK ?_; exact A3.o⟩, ⟨by (try simp only [A5]); refine bK ?_; exact A4.o⟩, ⟨by (try simp only [A5]); refine bK ?_; exact A8.o⟩, ⟨vT HK⟩, ⟨vB HB⟩⟩
         ·rw [if_neg c27] at H
          have AB := beq_eq_false_iff_ne.mpr c27
          have BF := bne_iff_ne.mpr c27
          (first | rw [AB] | (simp only [i64_w, i32_w]; rw [AB]) | skip)
          have H' := Z.m H
          clear H
          go_wp2
          go_meet
          case rel => exact ⟨_, (A0), ((rd_T89 A0 (A7)).f1), H', ⟨by have := Bu.o; first | omega | exact Nat.le_refl _⟩, ⟨by (try simp only [A5]); refine rK ?_; exact An.o⟩, ⟨by (try simp only [A5]); refine rK ?_; exact A2.o⟩, ⟨by (try simp only [A5]); refine bK ?_; exact A3.o⟩, ⟨by (try simp only [A5]); refine bK ?_; exact A4.o⟩, ⟨by (try simp only [A5]); refine bK ?_; exact A8.o⟩, ⟨vT HK⟩, ⟨vB HB⟩⟩
        case rest =>
         clear Bo
         (try clear AT); (try clear BD); (try clear BE); (try clear c15)
         (try clear AU); (try clear AV); (try clear AW); (try clear AX); (try clear AY); (try clear AZ); (try clear B0); (try clear B2)
         (try clear B3); (try clear B7); (try clear B8); (try clear Ba); (try clear Bb); (try clear Bc); (try clear Bd); (try clear Be)
         (try clear Bf); (try clear Bg); (try clear Bh); (try clear Bi); (try clear Ay); (try clear Az); (try clear p294); (try clear q294)
         obtain ⟨kq, Aa, At, HA, AS, Al, A2, A3, A4, A8, HK, HB⟩ := hcut
         have A6 := (Kd.RrZ A2.o).1
         rw [A6] at A2
         (try simp only [A6])
         (try simp only [A6] at A3)
         (try simp only [A6] at A4)
         (try simp only [A6] at A8)
         (try simp only [A6] at Al)
         cases kq with
         | zero => exact absurd HA.o (by simp [impl_drop.j1])
         | succ kj15 =>
          have H := HA.o
          clear HA
          simp only [impl_drop.j1] at H
          by_cases c36 : ((rd_T89 A0 (A7)).f0) = 6
          ·rw [if_pos c36] at H
           have BG := beq_iff_eq.mpr c36
           have BH := bne_eq_false_iff_eq.mpr c36
           clear c36
           replace H := Option.bind_eq_some_iff.mp H
           obtain ⟨AF, Bw, H⟩ := H
           replace H : (if (wrap64 (Ab + Am)) < 0 then (some (3, A9, wrap64 (Ab + Am), As, AF)) else (if (wrap64 (Ab + Am)) ≥ a0_1 then (some (3, A9, wrap64 (Ab + Am), As, AF)) else (impl_drop.l0 kj15 l1 (wrap64 (Ab + Am)) As (wrap64 (-Am)) (wrap64 (A9 + 1)) a0_0 a0_1 AF))) = some (r1, r2, r3, r4, r5) := H
           have E3 := Z.m Bw
           clear Bw
           by_cases c38 : (wrap64 (Ab + Am)) < 0
           ·rw [if_pos c38] at H
            have AL := decide_eq_true c38
            clear c38
            simp only [Option.some.injEq, Prod.mk.injEq] at H
            obtain ⟨rfl, rfl, rfl, rfl, rfl⟩ := H
            have Em := Ag.o
            have EQ := Ac.o
            have En := Ah.o
            have ER := Ad.o
            have BW := bc0 A8
            have BX := bc1 A8
            have D3 := qz A8.o 0
            have D4 := qz A8.o 1
            have Eo := Ae.o
            have ES := Af.o
            have BY := bc0 A3
            have BZ := bc1 A3
            have C0 := bc2 A3
            have D5 := qz A3.o 0
            have D6 := qz A3.o 1
            have D7 := qz A3.o 2
            go_wp2_with (first | ((with_reducible refine gc (f := 74) rfl ?_); refine goesL_ (some 66) rfl rfl Try.func74 (by kernel_rfl) rfl #[.agg #[.int .i64 a0_0, .int .i64 a0_1, .slice (some Ao) Aa.length Ax], .slice A1 l1.length c1, .int .i64 A7] rfl (by (try simp only [List.map_toArray, List.map_cons, List.map_nil]); first | done | (simp only [Ar]; rfl) | rfl | (simp only [List.length_drop, List.length_take]; rfl)) ?_; (with_reducible refine (impl_turnGroup.calls kj15 a0_0 a0_1 (fun k_ => some k_ = (.slice (some Ao) Aa.length Ax : Value).ownBlock) (.slice (some Ao) Aa.length Ax) Aa _ _ l1 A7 AF w0 _ ?side1 ?side2 ?side3 ?side4 E3.o).mono ?_); (case side1 => repeat (first | (with_reducible first | exact HB.o | apply qa | apply qn | apply qd | refine qx ?_ AI.o | refine qx ?_ AJ.o | refine qx ?_ AH.o) | exact HB.o)); (case side2 => exact Kd.Rg rfl A2.o); (case side3 => exact Kd.Cc E7.o (vT HK) (fun k_ hs_ => (fun e_ => (A2.o.1 k_ e_.symm).1) hs_)); (case side4 => exact E5.o); rintro e Fo ⟨rfl, Bn, hb, hkp⟩; refine ⟨_, rfl, ?_⟩; replace Al := Z.m (Kd.Rm (ok' := fun k_ => (P0_2_ k_ ∨ w.heap.size ≤ k_)) (Kd.Rk ((Kd.Ra Al.o (Kd.Rt A2.o) (by decide))) hkp (fun k_ hk_ hs_ => (hk_.2) hs_)) (fun k_ hk_ => hk_.1.1)); replace A3 := Z.m (qk (vK A3) hkp (fun hs_ => (fun e_ => (Kd.R_ne A2.o A3.o (by decide)) e_) hs_)); replace A4 := Z.m (qk (vK A4) hkp (fun hs_ => (fun e_ => (Kd.R_ne A2.o A4.o (by decide)) e_) hs_)); replace A8 := Z.m (qk (vK A8) hkp (fun hs_ => (fun e_ => (Kd.R_away A2.o (fun _ hk => hk.2)) e_) hs_)); replace HK := Z.m (Kept.then_ (S := (fun k_ => P0_2_ k_)) (vT HK) hkp (fun k_ hs_ => (fun e_ => (A2.o.1 k_ e_.symm).1) hs_)); replace A2 := Z.m (Kd.Re rfl Bn (fun k_ e_ => A2.o.1 k_ e_)); replace HB := Z.m (hb); (try clear hb); (try clear hkp); (try clear Bn); have C1 := bc0 A4; have C2 := bc1 A4; have C3 := bc2 A4; have D8 := qz A4.o 0; have D9 := qz A4.o 1; have Da := qz A4.o 2))
            refine bodyPost_ret (results_ct rfl _ _ Ap 27 #[.int .i64 3, .int .i64 A9, .int .i64 (wrap64 (Ab + Am))] (0, 0) _ rfl (by refine bK ?_; apply st3; refine bK ?_; exact A4.o) Try.underlying27 rfl (by kernel_rfl)) rfl ?_
            exact ⟨_, by first | rfl | (simp [eN, eS] <;> rfl) | (simp only [← Ar]; first | rfl | (simp [eN, eS] <;> rfl)) | (simp [*, eN, eS] <;> rfl), by refine rK ?_; exact Kd.Rm (rf (rf (rf (Kd.Ry Al.o A4.o (by decide))))) (fun _ hk => hk.1), (by first | exact (by refine rK ?_; exact Kd.Rm (rf (rf (rf (Kd.Ry A2.o A4.o (by decide))))) (fun _ hk => hk.1.1)) | (simp only [A5, A6]; exact (by refine rK ?_; exact Kd.Rm (rf (rf (rf (Kd.Ry A2.o A4.o (by decide))))) (fun _ hk => hk.1.1)))), vB HB, vT HK⟩
           ·rw [if_neg c38] at H
            have AL := decide_eq_false c38
            (try simp only [A5] at AL)
            (try simp only [A6] at AL)
            clear c38
            by_cases c46 : (wrap64 (Ab + Am)) ≥ a0_1
            ·rw [if_pos c46] at H
             have AM := decide_eq_true c46
             clear c46
             simp only [Option.some.injEq, Prod.mk.injEq] at H
             obtain ⟨rfl, rfl, rfl, rfl, rfl⟩ := H
             have Ep := Ag.o
             have ET := Ac.o
             have Er := Ah.o
             have EU := Ad.o
             have C4 := bc0 A8
             have C5 := bc1 A8
             have Db := qz A8.o 0
             have Dc := qz A8.o 1
             have Es := Ae.o
             have EV := Af.o
             have C6 := bc0 A3
             have C7 := bc1 A3
             have C8 := bc2 A3
             have Dd := qz A3.o 0
             have De := qz A3.o 1
             have Df := qz A3.o 2
             go_wp2_with (first | ((with_reducible refine gc (f := 74) rfl ?_); refine goesL_ (some 66) rfl rfl Try.func74 (by kernel_rfl) rfl #[.agg #[.int .i64 a0_0, .int .i64 a0_1, .slice (some Ao) Aa.length Ax], .slice A1 l1.length c1, .int .i64 A7] rfl (by (try simp only [List.map_toArray, List.map_cons, List.map_nil]); first | done | (simp only [Ar]; rfl) | rfl | (simp only [List.length_drop, List.length_take]; rfl)) ?_; (with_reducible refine (impl_turnGroup.calls kj15 a0_0 a0_1 (fun k_ => some k_ = (.slice (some Ao) Aa.length Ax : Value).ownBlock) (.slice (some Ao) Aa.length Ax) Aa _ _ l1 A7 AF w0 _ ?side1 ?side2 ?side3 ?side4 E3.o).mono ?_); (case side1 => repeat (first | (with_reducible first | exact HB.o | apply qa | apply qn | apply qd | refine qx ?_ AI.o | refine qx ?_ AJ.o | refine qx ?_ AH.o) | exact HB.o)); (case side2 => exact Kd.Rg rfl A2.o); (case side3 => exact Kd.Cc E7.o (vT HK) (fun k_ hs_ => (fun e_ => (A2.o.1 k_ e_.symm).1) hs_)); (case side4 => exact E5.o); rintro e Fp ⟨rfl, Bn, hb, hkp⟩; refine ⟨_, rfl, ?_⟩; replace Al := Z.m (Kd.Rm (ok' := fun k_ => (P0_2_ k_ ∨ w.heap.size ≤ k_)) (Kd.Rk ((Kd.Ra Al.o (Kd.Rt A2.o) (by decide))) hkp (fun k_ hk_ hs_ => (hk_.2) hs_)) (fun k_ hk_ => hk_.1.1)); replace A3 := Z.m (qk (vK A3) hkp (fun hs_ => (fun e_ => (Kd.R_ne A2.o A3.o (by decide)) e_) hs_)); replace A4 := Z.m (qk (vK A4) hkp (fun hs_ => (fun e_ => (Kd.R_ne A2.o A4.o (by decide)) e_) hs_)); replace A8 := Z.m (qk (vK A8) hkp (fun hs_ => (fun e_ => (Kd.R_away A2.o (fun _ hk => hk.2)) e_) hs_)); replace HK := Z.m (Kept.then_ (S := (fun k_ => P0_2_ k_)) (vT HK) hkp (fun k_ hs_ => (fun e_ => (A2.o.1 k_ e_.symm).1) hs_)); replace A2 := Z.m (Kd.Re rfl Bn (fun k_ e_ => A2.o.1 k_ e_)); replace HB := Z.m (hb); (try clear hb); (try clear hkp); (try clear Bn); have C9 := bc0 A3; have Ca := bc1 A3; have Cb := bc2 A3; have Dg := qz A3.o 0; have Dh := qz A3.o 1; have Di := qz A3.o 2; have Cd := bc0 A4; have Ce := bc1 A4; have Cf := bc2 A4; have Dj := qz A4.o 0; have Dk := qz A4.o 1; have Dl := qz A4.o 2))
             refine bodyPost_ret (results_ct rfl _ _ Ap 27 #[.int .i64 3, .int .i64 A9, .int .i64 (wrap64 (Ab + Am))] (0, 0) _ rfl (by refine bK ?_; apply st3; refine bK ?_; exact A4.o) Try.underlying27 rfl (by kernel_rfl)) rfl ?_
             exact ⟨_, by first | rfl | (simp [eN, eS] <;> rfl) | (simp only [← Ar]; first | rfl | (simp [eN, eS] <;> rfl)) | (simp [*, eN, eS] <;> rfl), by refine rK ?_; exact Kd.Rm (rf (rf (rf (Kd.Ry Al.o A4.o (by decide))))) (fun _ hk => hk.1), (by first | exact (by refine rK ?_; exact Kd.Rm (rf (rf (rf (Kd.Ry A2.o A4.o (by decide))))) (fun _ hk => hk.1.1)) | (simp only [A5, A6]; exact (by refine rK ?_; exact Kd.Rm (rf (rf (rf (Kd.Ry A2.o A4.o (by decide))))) (fun _ hk => hk.1.1)))), vB HB, vT HK⟩
            ·rw [if_neg c46] at H
             have AM := decide_eq_false c46
             (try simp only [A5] at AM)
             (try simp only [A6] at AM)
             clear c46
             have H' := Z.m H
             clear H
             have Et := Ag.o
             have EW := Ac.o
             have Eu := Ah.o
             have EX := Ad.o
             have Cg := bc0 A8
             have Ch := bc1 A8
             have Dm := qz A8.o 0
             have Dn := qz A8.o 1
             have Ew := Ae.o
             have EY := Af.o
             have Ci := bc0 A3
             have Cj := bc1 A3
             have Cl := bc2 A3
             have Do := qz A3.o 0
             have Dp := qz A3.o 1
             have Dq := qz A3.o 2
             go_wp2_with (first | ((with_reducible refine gc (f := 74) rfl ?_); refine goesL_ (some 66) rfl rfl Try.func74 (by kernel_rfl) rfl #[.agg #[.int .i64 a0_0, .int .i64 a0_1, .slice (some Ao) Aa.length Ax], .slice A1 l1.length c1, .int .i64 A7] rfl (by (try simp only [List.map_toArray, List.map_cons, List.map_nil]); first | done | (simp only [Ar]; rfl) | rfl | (simp only [List.length_drop, List.length_take]; rfl)) ?_; (with_reducible refine (impl_turnGroup.calls kj15 a0_0 a0_1 (fun k_ => some k_ = (.slice (some Ao) Aa.length Ax : Value).ownBlock) (.slice (some Ao) Aa.length Ax) Aa _ _ l1 A7 AF w0 _ ?side1 ?side2 ?side3 ?side4 E3.o).mono ?_); (case side1 => repeat (first | (with_reducible first | exact HB.o | apply qa | apply qn | apply qd | refine qx ?_ AI.o | refine qx ?_ AJ.o | refine qx ?_ AH.o) | exact HB.o)); (case side2 => exact Kd.Rg rfl A2.o); (case side3 => exact Kd.Cc E7.o (vT HK) (fun k_ hs_ => (fun e_ => (A2.o.1 k_ e_.symm).1) hs_)); (case side4 => exact E5.o); rintro e Fq ⟨rfl, Bn, hb, hkp⟩; refine ⟨_, rfl, ?_⟩; replace Al := Z.m (Kd.Rm (ok' := fun k_ => (P0_2_ k_ ∨ w.heap.size ≤ k_)) (Kd.Rk ((Kd.Ra Al.o (Kd.Rt A2.o) (by decide))) hkp (fun k_ hk_ hs_ => (hk_.2) hs_)) (fun k_ hk_ => hk_.1.1)); replace A3 := Z.m (qk (vK A3) hkp (fun hs_ => (fun e_ => (Kd.R_ne A2.o A3.o (by decide)) e_) hs_)); replace A4 := Z.m (qk (vK A4) hkp (fun hs_ => (fun e_ => (Kd.R_ne A2.o A4.o (by decide)) e_) hs_)); replace A8 := Z.m (qk (vK A8) hkp (fun hs_ => (fun e_ => (Kd.R_away A2.o (fun _ hk => hk.2)) e_) hs_)); replace HK := Z.m (Kept.then_ (S := (fun k_ => P0_2_ k_)) (vT HK) hkp (fun k_ hs_ => (fun e_ => (A2.o.1 k_ e_.symm).1) hs_)); replace A2 := Z.m (Kd.Re rfl Bn (fun k_ e_ => A2.o.1 k_ e_)); replace HB := Z.m (hb); (try clear hb); (try clear hkp); (try clear Bn); have Cm := bc0 A3; have Cn := bc1 A3; have Co := bc2 A3; have Dr := qz A3.o 0; have Ds := qz A3.o 1; have Dt := qz A3.o 2))
             (try simp only [← A5, ← A6])
             go_roundg kj15
             case measure => have := Bu.o; have := AS.o; omega
             case rel => exact ⟨(wrap64 (Ab + Am)), (As), (wrap64 (-Am)), (wrap64 (A9 + 1)), (AF), (Ai), (Aj), (Ak), (by first | rfl | (simp; done) | (simp [*]; done)), (by first | rfl | (simp; done) | (simp [*]; done)), (by first | rfl | (simp; done) | (simp [*]; done)), H', ⟨by have := Bu.o; have := AS.o; omega⟩, ⟨by (try simp only [A5]); (try simp only [A6]); refine rK ?_; exact Al.o⟩, ⟨by (try simp only [A5]); (try simp only [A6]); refine rK ?_; exact Kd.Rm A2.o (fun _ hk => hk.1)⟩, ⟨by (try simp only [A5]); (try simp only [A6]); refine bK ?_; exact A3.o⟩, ⟨by (try simp only [A5]); (try simp only [A6]); refine bK ?_; exact A4.o⟩, ⟨vT HK⟩, ⟨vB HB⟩⟩
          ·rw [if_neg c36] at H
           have BG := beq_eq_false_iff_ne.mpr c36
           have BH := bne_iff_ne.mpr c36
           by_cases c62 : (wrap64 (Ab + Am)) < 0
           ·rw [if_pos c62] at H
            have AN := decide_eq_true c62
            clear c62
            simp only [Option.some.injEq, Prod.mk.injEq] at H
            obtain ⟨rfl, rfl, rfl, rfl, rfl⟩ := H
            have Ex := Ag.o
            have EZ := Ac.o
            have Ey := Ah.o
            have F0 := Ad.o
            have Cp := bc0 A8
            have Cq := bc1 A8
            have Du := qz A8.o 0
            have Dv := qz A8.o 1
            have Ez := Af.o
            have F1 := Ae.o
            have Cr := bc0 A4
            have Cs := bc1 A4
            have Ct := bc2 A4
            have Dw := qz A4.o 0
            have Dx := qz A4.o 1
            have Dy := qz A4.o 2
            go_wp2
            refine bodyPost_ret (results_ct rfl _ _ Ap 27 #[.int .i64 3, .int .i64 A9, .int .i64 (wrap64 (Ab + Am))] (0, 0) _ rfl (by refine bK ?_; apply st3; refine bK ?_; exact A4.o) Try.underlying27 rfl (by kernel_rfl)) rfl ?_
            exact ⟨_, by first | rfl | (simp [eN, eS] <;> rfl) | (simp only [← Ar]; first | rfl | (simp [eN, eS] <;> rfl)) | (simp [*, eN, eS] <;> rfl), by refine rK ?_; exact Kd.Rm (rf (rf (rf (Kd.Ry Al.o A4.o (by decide))))) (fun _ hk => hk.1), (by first | exact (by refine rK ?_; exact Kd.Rm (rf (rf (rf (Kd.Ry A2.o A4.o (by decide))))) (fun _ hk => hk.1.1)) | (simp only [A5, A6]; exact (by refine rK ?_; exact Kd.Rm (rf (rf (rf (Kd.Ry A2.o A4.o (by decide))))) (fun _ hk => hk.1.1)))), vB HB, vT HK⟩
           ·rw [if_neg c62] at H
            have AN := decide_eq_false c62
            (try simp only [A5] at AN)
            (try simp only [A6] at AN)
            clear c62
            by_cases c68 : (wrap64 (Ab + Am)) ≥ a0_1
            ·rw [if_pos c68] at H
             have AO := decide_eq_true c68
             clear c68
             simp only [Option.some.injEq, Prod.mk.injEq] at H
             obtain ⟨rfl, rfl, rfl, rfl, rfl⟩ := H
             have EA := Ag.o
             have F2 := Ac.o
             have EB := Ah.o
             have F3 := Ad.o
             have Cu := bc0 A8
             have Cv := bc1 A8
             have Dz := qz A8.o 0
             have DA := qz A8.o 1
             have EC := Ae.o
             have F4 := Af.o
             have Cw := bc0 A3
             have Cx := bc1 A3
             have Cy := bc2 A3
             have DB := qz A3.o 0
             have DC := qz A3.o 1
             have DD := qz A3.o 2
             have Cz := bc0 A4
             have CA := bc1 A4
             have CB := bc2 A4
             have DE := qz A4.o 0
             have DF := qz A4.o 1
             have DG := qz A4.o 2
             go_wp2
             refine bodyPost_ret (results_ct rfl _ _ Ap 27 #[.int .i64 3, .int .i64 A9, .int .i64 (wrap64 (Ab + Am))] (0, 0) _ rfl (by refine bK ?_; apply st3; refine bK ?_; exact A4.o) Try.underlying27 rfl (by kernel_rfl)) rfl ?_
             exact ⟨_, by first | rfl | (simp [eN, eS] <;> rfl) | (simp only [← Ar]; first | rfl | (simp [eN, eS] <;> rfl)) | (simp [*, eN, eS] <;> rfl), by refine rK ?_; exact Kd.Rm (rf (rf (rf (Kd.Ry Al.o A4.o (by decide))))) (fun _ hk => hk.1), (by first | exact (by refine rK ?_; exact Kd.Rm (rf (rf (rf (Kd.Ry A2.o A4.o (by decide))))) (fun _ hk => hk.1.1)) | (simp only [A5, A6]; exact (by refine rK ?_; exact Kd.Rm (rf (rf (rf (Kd.Ry A2.o A4.o (by decide))))) (fun _ hk => hk.1.1)))), vB HB, vT HK⟩
            ·rw [if_neg c68] at H
             have AO := decide_eq_false c68
             (try simp only [A5] at AO)
             (try simp only [A6] at AO)
             clear c68
             have H' := Z.m H
             clear H
             have ED := Ag.o
             have F5 := Ac.o
             have EE := Ah.o
             have F6 := Ad.o
             have CC := bc0 A8
             have CD := bc1 A8
             have DH := qz A8.o 0
             have DI := qz A8.o 1
             have EF := Ae.o
             have F7 := Af.o
             have CE := bc0 A3
             have CF := bc1 A3
             have CG := bc2 A3
             have DJ := qz A3.o 0
             have DK := qz A3.o 1
             have DL := qz A3.o 2
             go_wp2
             (try simp only [← A5, ← A6])
             go_roundg kj15
             case measure => have := Bu.o; have := AS.o; omega
             case rel => exact ⟨(wrap64 (Ab + Am)), (As), (wrap64 (-Am)), (wrap64 (A9 + 1)), (Aa), (Ai), (Aj), (Ak), (by first | rfl | (simp; done) | (simp [*]; done)), (by first | rfl | (simp; done) | (simp [*]; done)), (by first | rfl | (simp; done) | (simp [*]; done)), H', ⟨by have := Bu.o; have := AS.o; omega⟩, ⟨by (try simp only [A5]); (try simp only [A6]); refine rK ?_; exact Al.o⟩, ⟨by (try simp only [A5]); (try simp only [A6]); refine rK ?_; exact Kd.Rm A2.o (fun _ hk => hk.1)⟩, ⟨by (try simp only [A5]); (try simp only [A6]); refine bK ?_; exact A3.o⟩, ⟨by (try simp only [A5]); (try simp only [A6]); refine bK ?_; exact A4.o⟩, ⟨vT HK⟩, ⟨vB HB⟩⟩
       ·replace c15 := Bool.eq_false_iff.mpr c15
        subst c15
        have H1 : (some (2, A9, Ab, As, A0)) = some (r1, r2, r3, r4, r5) := by rw [if_neg (show ¬ (false = true) by decide)] at H; exact H
        clear H
        have H := H1
        clear H1
        simp only [Option.some.injEq, Prod.mk.injEq] at H
        obtain ⟨rfl, rfl, rfl, rfl, rfl⟩ := H
        have EG := Ae.o
        have F8 := Af.o
        have CH := bc0 A3
        have CI := bc1 A3
        have CJ := bc2 A3
        have DM := qz A3.o 0
        have DN := qz A3.o 1
        have DO := qz A3.o 2
        go_wp2_with (first | ((with_reducible refine gu (b := .append) (xs := #[.tmp 28, .tmp 30]) rfl ?_); at_builtin; refine Kd.R_append (Kd.int .i64) (w0 := w0) w0.heap.size rfl (.tmp 28) (.tmp 30) 43 3 (.int .i64 0) 8 rfl Try.underlying43 info3 rfl (by decide) (by omega) u8 AG A7 [.int .i64 A7] (fun k_ => (P0_2_ k_ ∨ w.heap.size ≤ k_)) (fun _ => False) rfl rfl ?aP (fun _ hk => hk.elim) ?aF ?aO ?aB ?aS ?aL ?_; (case aP => exact rfl); (case aB => exact (vB HB)); (case aF => exact (fun k_ hk => (.inr (Nat.le_trans (by first | exact HK.o.1 | exact (show Kept w _ (fun k_ => P0_2_ k_) from vT HK).1) hk)))); (case aO => exact (vR Al)); (case aS => exact (below_size (vB HB))); (case aL => have := Bj.o; omega); intro BP Fr ho hb hg hat; rw [← AK.o] at ho; have An := Z.m (ho); replace A2 := Z.m (Kd.Ro (vR A2) (Kd.Rt (vR Al)) (by decide) hg); replace A3 := Z.m (qg (g := Av) (o := .cells #[.int .i64 a0_0, .int .i64 a0_1, .slice Bx A0.length Ax] 32 (0, 0)) (vK A3) hg (Kd.R_ne Al.o A3.o (by decide))); replace A4 := Z.m (qg (g := Ap) (o := .cells #[.int .i64 Ai, .int .i64 Aj, .int .i64 Ak] 27 (0, 0)) (vK A4) hg (Kd.R_ne Al.o A4.o (by decide))); replace HB := Z.m (hb); replace HK := Z.m (Kept.of_grown (S := (fun k_ => P0_2_ k_)) hg (vT HK) (fun k_ e_ => (Al.o.1 k_ e_))); clear Al; clear ho hb hg hat; have CK := bc0 A3; have CL := bc1 A3; have CM := bc2 A3; have DP := qz A3.o 0; have DQ := qz A3.o 1; have DR := qz A3.o 2; have p294 : 0 ≤ ((A7) : Int) := ofD; have q294 : (A7) < (A0.length : Int) := ofD; obtain ⟨Ao, e294, Ay, Az⟩ := at_T89 (Kd.RrZ A2.o).2.2 (A7) p294 q294; cases e294; replace p294 := eq_true p294; replace q294 := eq_true q294) | ((with_reducible refine gq (N := 12) rfl ?_); refine be (N := 12) (cs := #[.int .i64 0, .int .i64 0]) (t := 89) ?_; intro Aq hg Fs hbox hb; have A8 := Z.m (hbox); have By := Z.m ((by rw [hg]; exact (by first | exact HK.o.1 | exact (show Kept w _ (fun k_ => P0_2_ k_) from vT HK).1) : w.heap.size ≤ Aq)); have AH := gW (w := w0) HB hg; have Ac := neL A3 hg; have Ag := neG A3 hg; have Ad := neL A4 hg; have Ah := neG A4 hg; replace A2 := Z.m (Kd.Rb (Kd.R_elderB (vR A2) Aq (Nat.le_of_eq hg.symm)) hb); replace An := Z.m (Kd.Rb (vR An) hb); replace A3 := kB A3 hb; replace A4 := kB A4 hb; replace HK := Z.m (Kept.below (S := (fun k_ => P0_2_ k_)) (vT HK) hb); replace HB := bB HB hb; clear hb hbox hg; have EH := Ag.o; have F9 := Ac.o; have EI := Ah.o; have Fa := Ad.o; have CN := bc0 A8; have CO := bc1 A8; have DS := qz A8.o 0; have DT := qz A8.o 1) | ((with_reducible refine gc (f := 73) rfl ?_); refine goesL_ (some 40) rfl rfl Try.func73 (by kernel_rfl) rfl #[.agg #[.int .i64 ((rd_T89 A0 (A7)).f0), .int .i64 ((rd_T89 A0 (A7)).f1)], .int .i64 AA] rfl (by (try simp only [List.map_toArray, List.map_cons, List.map_nil]); first | done | (simp only [Ar]; rfl) | rfl | (simp only [List.length_drop, List.length_take]; rfl)) ?_; (with_reducible refine (impl_GoesTo.calls k1 ((rd_T89 A0 (A7)).f0) ((rd_T89 A0 (A7)).f1) AA Am false _ Ed.o).mono ?_); rintro e Ft ⟨rfl, hb⟩; refine ⟨_, rfl, ?_⟩; replace A2 := Z.m (Kd.Rb (by refine rK ?_; exact (Kd.Rm (rf (rf (Kd.Rm A2.o (fun k_ hk => (⟨hk, hk.2⟩ : _ ∧ k_ ≠ Aq))))) (fun _ h_ => h_.1))) hb); replace An := Z.m (Kd.Rb (by refine rK ?_; exact (Kd.Rm (rf (rf (Kd.Ry An.o A8.o (by decide)))) (fun _ h_ => h_.1))) hb); replace A3 := Z.m (qb (g := Av) (o := .cells #[.int .i64 a0_0, .int .i64 a0_1, .slice (some Ao) A0.length Ax] 32 (0, 0)) (by refine bK ?_; (iterate 2 refine qF ?_ Ac); exact A3.o) hb); replace A4 := Z.m (qb (g := Ap) (o := .cells #[.int .i64 Ai, .int .i64 Aj, .int .i64 Ak] 27 (0, 0)) (by refine bK ?_; (iterate 2 refine qF ?_ Ad); exact A4.o) hb); replace A8 := Z.m (qb (g := Aq) (o := .cells #[.int .i64 ((rd_T89 A0 (A7)).f0), .int .i64 ((rd_T89 A0 (A7)).f1)] 89 (0, 0)) (by refine bK ?_; refine qp (cs := #[iV ((rd_T89 A0 (A7)).f0), iV 0]) ?_ 1 _ rfl; refine bK ?_; refine qp (cs := #[iV 0, iV 0]) ?_ 0 _ rfl; refine bK ?_; exact A8.o) hb); replace HK := Z.m (Kept.below (S := (fun k_ => P0_2_ k_)) (vT HK) hb); replace HB := bB HB hb; (try clear hb); (try clear Fh); (try clear hk); (try clear hi); have CP := bc0 A4; have CQ := bc1 A4; have CR := bc2 A4; have DU := qz A4.o 0; have DV := qz A4.o 1; have DW := qz A4.o 2))
        refine bodyPost_ret (results_ct rfl _ _ Ap 27 #[.int .i64 2, .int .i64 A9, .int .i64 Ab] (0, 0) _ rfl (by refine bK ?_; apply st3; refine bK ?_; exact A4.o) Try.underlying27 rfl (by kernel_rfl)) rfl ?_
        exact ⟨_, by first | rfl | (simp [eN, eS] <;> rfl) | (simp only [← Ar]; first | rfl | (simp [eN, eS] <;> rfl)) | (simp [*, eN, eS] <;> rfl), by refine rK ?_; exact Kd.Rm (rf (rf (rf (Kd.Ry An.o A4.o (by decide))))) (fun _ hk => hk.1), (by first | exact (by refine rK ?_; exact Kd.Rm (rf (rf (rf (Kd.Ry A2.o A4.o (by decide))))) (fun _ hk => hk.1.1)) | (simp only [A5]; exact (by refine rK ?_; exact Kd.Rm (rf (rf (rf (Kd.Ry A2.o A4.o (by decide))))) (fun _ hk => hk.1.1)))), vB HB, vT HK⟩
      ·rw [if_neg c13] at H
       exact absurd H (by simp)
     ·rw [if_neg c12] at H
      exact absurd H (by simp)
    ·rw [if_neg c10] at H
     exact absurd H (by simp)
   ·rw [if_neg c9] at H
    have AT := decide_eq_false c9
    (try simp only [A5] at AT)
    (try simp only [A6] at AT)
    clear c9
    simp only [Option.some.injEq, Prod.mk.injEq] at H
    obtain ⟨rfl, rfl, rfl, rfl, rfl⟩ := H
    have EJ := Ae.o
    have Fb := Af.o
    have CS := bc0 A3
    have CT := bc1 A3
    have CU := bc2 A3
    have DX := qz A3.o 0
    have DY := qz A3.o 1
    have DZ := qz A3.o 2
    have CV := bc0 A4
    have CW := bc1 A4
    have CX := bc2 A4
    have E0 := qz A4.o 0
    have E1 := qz A4.o 1
    have E2 := qz A4.o 2
    go_wp2
    refine bodyPost_ret (results_ct rfl _ _ Ap 27 #[.int .i64 1, .int .i64 a0_0, .int .i64 Ab] (0, 0) _ rfl (by refine bK ?_; apply st3; refine bK ?_; exact A4.o) Try.underlying27 rfl (by kernel_rfl)) rfl ?_
    exact ⟨_, by first | rfl | (simp [eN, eS] <;> rfl) | (simp [*, eN, eS] <;> rfl), by refine rK ?_; exact Kd.Rm (rf (rf (rf (Kd.Ry Al.o A4.o (by decide))))) (fun _ hk => hk.1), (by first | exact (by refine rK ?_; exact Kd.Rm (rf (rf (rf (Kd.Ry A2.o A4.o (by decide))))) (fun _ hk => hk.1)) | (simp only [A5]; exact (by refine rK ?_; exact Kd.Rm (rf (rf (rf (Kd.Ry A2.o A4.o (by decide))))) (fun _ hk => hk.1)))), vB HB, vT HK⟩

end Go.Proofs.Ytoklfgjemfojgaa.PAll
