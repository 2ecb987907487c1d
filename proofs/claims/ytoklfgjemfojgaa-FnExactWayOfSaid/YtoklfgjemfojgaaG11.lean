/- Began as a text that print.sh wrote (of the functions named below); turned and shortened by this session. -/
import Derived.Test.YtoklfgjemfojgaaG0
import Derived.Test.YtoklfgjemfojgaaG9
import Derived.Test.YtoklfgjemfojgaaG10
namespace Go.Proofs.Ytoklfgjemfojgaa.PAll
open Go.RowKit Go.Proofs.YtoklfgjemfojgaaW.PrintWords Go.Proofs.YtoklfgjemfojgaaW.PrintLast Go.Proofs.YtoklfgjemfojgaaW.PrintMore
attribute [local go_sem] max2_int min2_int max_two min_two max_three min_three max_four min_four   -- for this text's walks alone
set_option linter.unusedVariables false
set_option linter.unusedSimpArgs false

/-! ### impl_drop: function 54 -/
mutual
def impl_drop.l0 : Nat → List Int → Int → List Int → Int → Int → Int → Int → List (S89) → Option (Int × Int × Int × List Int × (List (S89)))
 | 0, _, _, _, _, _, _, _, _ => none
 | k + 1, x1, x2, x8, x9, x10, x270000, x270001, x270002 => if x10 < x270000 then (if x8.length < 17592186044416 then ((some (x8 ++ [wrap64 ((wrap64 (x10 * x270001)) + x2)] : List Int)).bind fun y274 => (if 0 ≤ (wrap64 ((wrap64 (x10 * x270001)) + x2)) then (if (wrap64 ((wrap64 (x10 * x270001)) + x2)) < (x270002.length : Int) then ((impl_GoesTo.f k ((rd_T89 x270002 (wrap64 ((wrap64 (x10 * x270001)) + x2))).f0) ((rd_T89 x270002 (wrap64 ((wrap64 (x10 * x270001)) + x2))).f1) x9).bind fun bt279 => (if bt279.2 = true then (if ((rd_T89 x270002 (wrap64 ((wrap64 (x10 * x270001)) + x2))).f0) = 3 then (impl_drop.j1 k x1 x2 y274 x10 (wrap64 ((wrap64 (x10 * x270001)) + x2)) bt279.1 x270000 x270001 (x270002.set ((wrap64 ((wrap64 (x10 * x270001)) + x2)) : Int).toNat (⟨(rd_T89 x270002 (wrap64 ((wrap64 (x10 * x270001)) + x2))).f0, wrap64 (1 - ((rd_T89 x270002 (wrap64 ((wrap64 (x10 * x270001)) + x2))).f1))⟩ : S89)) ((rd_T89 x270002 (wrap64 ((wrap64 (x10 * x270001)) + x2))).f0) ((rd_T89 x270002 (wrap64 ((wrap64 (x10 * x270001)) + x2))).f1)) else (impl_drop.j1 k x1 x2 y274 x10 (wrap64 ((wrap64 (x10 * x270001)) + x2)) bt279.1 x270000 x270001 x270002 ((rd_T89 x270002 (wrap64 ((wrap64 (x10 * x270001)) + x2))).f0) ((rd_T89 x270002 (wrap64 ((wrap64 (x10 * x270001)) + x2))).f1))) else (some (2, x10, x2, y274, x270002)))) else (none)) else (none))) else (none)) else (some (1, x270000, x2, x8, x270002))
def impl_drop.j1 : Nat → List Int → Int → List Int → Int → Int → Int → Int → Int → List (S89) → Int → Int → Option (Int × Int × Int × List Int × (List (S89)))
 | 0, _, _, _, _, _, _, _, _, _, _, _ => none
 | k + 1, x1, x2, x8, x10, x11, x13, x270000, x270001, x270002, x279000, x279001 => if x279000 = 6 then ((impl_turnGroup.f k x270000 x270001 x270002 x1 x11).bind fun t282 => (if (wrap64 (x2 + x13)) < 0 then (some (3, x10, wrap64 (x2 + x13), x8, t282)) else (if (wrap64 (x2 + x13)) ≥ x270001 then (some (3, x10, wrap64 (x2 + x13), x8, t282)) else (impl_drop.l0 k x1 (wrap64 (x2 + x13)) x8 (wrap64 (-x13)) (wrap64 (x10 + 1)) x270000 x270001 t282)))) else (if (wrap64 (x2 + x13)) < 0 then (some (3, x10, wrap64 (x2 + x13), x8, x270002)) else (if (wrap64 (x2 + x13)) ≥ x270001 then (some (3, x10, wrap64 (x2 + x13), x8, x270002)) else (impl_drop.l0 k x1 (wrap64 (x2 + x13)) x8 (wrap64 (-x13)) (wrap64 (x10 + 1)) x270000 x270001 x270002)))
end
def impl_drop.f (k : Nat) (a0_0 : Int) (a0_1 : Int) (l0_2 : List (S89)) (l1 : List Int) (a2 : Int) : Option (Int × Int × Int × List Int × (List (S89))) := impl_drop.l0 k l1 a2 (([] : List Int)) 0 0 a0_0 a0_1 l0_2
set_option maxHeartbeats 8000000 in
set_option maxRecDepth 100000 in
theorem impl_drop.calls (k : Nat) (a0_0 : Int) (a0_1 : Int) (P0_2_ : Nat → Prop) (u9000_ : Value) (l0_2 : List (S89)) (A1 : Option Addr) (c1 : Nat) (l1 : List Int) (a2 : Int) (r1 : Int) (r2 : Int) (r3 : Int) (r4 : List Int) (r5 : List (S89)) (w0 w : World) (hB : Below w0.heap.size w0 w) (ho0_2 : Kd.R k89 89 w w0.heap.size P0_2_ u9000_ l0_2) (hr1 : ∀ W_, Kept w W_ (fun k_ => P0_2_ k_) → Kd.C (Kd.int .i64) W_ A1 l1.length l1) (hc1 : l1.length ≤ c1) (h : impl_drop.f k a0_0 a0_1 l0_2 l1 a2 = some (r1, r2, r3, r4, r5)) :
 Calls Try.prog 54 #[.agg #[.int .i64 a0_0, .int .i64 a0_1, u9000_], .slice A1 l1.length c1, .int .i64 a2] w fun e w' => ∃ v3_ : Value, e = .returned (.tuple #[.agg #[.int .i64 r1, .int .i64 r2, .int .i64 r3], v3_]) ∧ Kd.R (Kd.int .i64) 3 w' w0.heap.size (fun k_ => (P0_2_ k_ ∨ w.heap.size ≤ k_)) v3_ r4 ∧ Kd.R k89 89 w' w0.heap.size (fun k_ => (P0_2_ k_ ∨ w.heap.size ≤ k_)) u9000_ r5 ∧ Below w0.heap.size w0 w' ∧ Kept w w' (fun k_ => P0_2_ k_) := by
 have Fl := Try.underlying32
 have Fk := Try.underlying27
 have Fm := Try.underlying89
 have Au := Z.m (show Kd.R k89 89 w w0.heap.size (fun k_ => (P0_2_ k_ ∨ w.heap.size ≤ k_)) u9000_ l0_2 from Kd.Rm ho0_2 (fun k_ hk => (.inl hk)))
 have E9 := Z.m hr1
 have E7 := Z.m hc1
 clear hr1 hc1
 have HK := Z.m (Kept.refl w (fun k_ => P0_2_ k_))
 have HW0 := Z.m hB.size
 have HB := Z.m hB
 clear hB
 have H : (impl_drop.l0 k l1 a2 (([] : List Int)) 0 0 a0_0 a0_1 l0_2) = some (r1, r2, r3, r4, r5) := h
 clear h
 obtain ⟨BS, AC⟩ : ∃ y_ : List Int, y_ = (([] : List Int)) := ⟨_, rfl⟩
 replace H : (impl_drop.l0 k l1 a2 BS 0 0 a0_0 a0_1 l0_2) = some (r1, r2, r3, r4, r5) := by first | (rw [AC]; with_reducible exact H) | (have H2_ := (Option.bind_some _ _).symm.trans H; rw [AC]; with_reducible exact H2_) | (have H2_ := (Option.bind_some _ _).symm.trans H; with_reducible exact H2_) | with_reducible exact H | (rw [AC]; exact H) | exact H
 have Bm := Z.m AC
 clear AC
 have H' := Z.m H
 clear H
 obtain ⟨Bz, Ax, Fi⟩ := Kd.R_slice Au.o
 subst Fi
 go_enter Try.func54, Try.ntmps54
 go_wp2_with (first | ((with_reducible refine gq (N := 3) rfl ?_); refine be (N := 3) (cs := #[.int .i64 a0_0, .int .i64 a0_1, .slice Bz l0_2.length Ax]) (t := 32) ?_; intro Av hg w5 hbox hb; have A3 := Z.m (hbox); have Eg := Z.m ((by rw [hg]; exact (by first | exact HK.o.1 | exact (show Kept w _ (fun k_ => P0_2_ k_) from vT HK).1) : w.heap.size ≤ Av)); have AI := gW (w := w0) HB hg; replace Au := Z.m (Kd.Rb (vR Au) hb); replace HK := Z.m (Kept.below (S := (fun k_ => P0_2_ k_)) (vT HK) hb); replace HB := bB HB hb; clear hb hbox hg) | ((with_reducible refine gq (N := 6) rfl ?_); refine be (N := 6) (cs := #[.int .i64 0, .int .i64 0, .int .i64 0]) (t := 27) ?_; intro Ap hg w6 hbox hb; have A4 := Z.m (hbox); have Eh := Z.m ((by rw [hg]; exact (by first | exact HK.o.1 | exact (show Kept w _ (fun k_ => P0_2_ k_) from vT HK).1) : w.heap.size ≤ Ap)); have AJ := gW (w := w0) HB hg; have Ae := neL A3 hg; have Af := neG A3 hg; replace Au := Z.m (Kd.Rb (vR Au) hb); replace A3 := kB A3 hb; replace HK := Z.m (Kept.below (S := (fun k_ => P0_2_ k_)) (vT HK) hb); replace HB := bB HB hb; clear hb hbox hg) | ((with_reducible refine gq (N := 15) rfl ?_); refine Kd.R_lit (Kd.int .i64) _ 3 ?hg (N := 15) ?hd (xs := ([] : List Int)) (inner := []) (ok := fun _ => True) (okp := fun _ => True) ?hr ?hp (fun _ hk => hk) trivial (Below.refl _ _) (Nat.le_refl _) (by simp) ?_; (case hd => rfl); (case hg => rfl); (case hr => first | (go_simp; done) | (go_simp; rfl)); (case hp => exact (Reps.none _ _)); intro Fn w7 BP hb hg_ hnew_; clear hg_ hnew_; (first | rw [← Bm.o] at BP | (simp only [Int.reduceToNat] at BP; rw [← Bm.o] at BP)); have BC := Z.m (Kd.R_lower (Kd.R_newM (M := fun k_ => (P0_2_ k_ ∨ w.heap.size ≤ k_)) BP (by first | exact HK.o.1 | exact (show Kept w _ (fun k_ => P0_2_ k_) from vT HK).1) (fun k_ h_ => .inr h_)) (below_size (vB HB))); replace Au := Z.m (Kd.Rb (vR Au) hb); replace A3 := kB A3 hb; replace A4 := kB A4 hb; replace HK := Z.m (Kept.below (S := (fun k_ => P0_2_ k_)) (vT HK) hb); replace HB := bB HB hb; clear hb BP))
 go_loopg [2, 8, 9, 10] k (fun kq v2 v8 v9 v10 w' => ∃ (Ab : Int) (AG : List Int) (AA : Int) (A9 : Int) (A0 : List (S89)) (Ai : Int) (Aj : Int) (Ak : Int), v2 = .int .i64 Ab ∧ v9 = .int .i64 AA ∧ v10 = .int .i64 A9 ∧ Z (impl_drop.l0 kq l1 Ab AG AA A9 a0_0 a0_1 A0 = some (r1, r2, r3, r4, r5)) ∧ Z (kq ≤ k) ∧ Z (Kd.R (Kd.int .i64) 3 w' w0.heap.size (fun k_ => (P0_2_ k_ ∨ w.heap.size ≤ k_)) v8 AG) ∧ Z (Kd.R k89 89 w' w0.heap.size (fun k_ => (P0_2_ k_ ∨ w.heap.size ≤ k_)) (.slice Bz l0_2.length Ax) A0) ∧ Z (w'.heap[Av]? = some (.cells #[.int .i64 a0_0, .int .i64 a0_1, (.slice Bz l0_2.length Ax)] 32 (0, 0))) ∧ Z (w'.heap[Ap]? = some (.cells #[.int .i64 Ai, .int .i64 Aj, .int .i64 Ak] 27 (0, 0))) ∧ Z (Kept w w' (fun k_ => P0_2_ k_)) ∧ Z (Below w0.heap.size w0 w'))
 case atStart => exact ⟨(a2), (BS), (0), (0), (l0_2), (0), (0), (0), (by first | rfl | (simp; done) | (simp [*]; done)), (by first | rfl | (simp; done) | (simp [*]; done)), (by first | rfl | (simp; done) | (simp [*]; done)), H', ⟨Nat.le_refl _⟩, ⟨by refine rK ?_; exact Kd.Rm BC.o (fun _ hk => hk.1)⟩, ⟨vR Au⟩, ⟨vK A3⟩, ⟨vK A4⟩, ⟨vT HK⟩, ⟨vB HB⟩⟩
 case round =>
  clear H'
  obtain ⟨Ab, AG, AA, A9, A0, Ai, Aj, Ak, rfl, rfl, rfl, HA, Bw, Al, A2, A3, A4, HK, HB⟩ := hrel
  have A5 := (Kd.RrZ A2.o).1
  rw [A5] at A2
  (try simp only [A5])
  (try simp only [A5] at A3)
  (try simp only [A5] at A4)
  (try simp only [A5] at Al)
  cases gk with
  | zero => exact absurd HA.o (by simp [impl_drop.l0])
  | succ k1 =>
   have H := HA.o
   clear HA
   simp only [impl_drop.l0] at H
   by_cases c9 : A9 < a0_0
   ·rw [if_pos c9] at H
    have AT := decide_eq_true c9
    clear c9
    by_cases c10 : AG.length < 17592186044416
    ·rw [if_pos c10] at H
     have Bl := Z.m c10
     clear c10
     obtain ⟨As, AD⟩ : ∃ y_ : List Int, y_ = (AG ++ [wrap64 ((wrap64 (A9 * a0_1)) + Ab)]) := ⟨_, rfl⟩
     replace H : (if 0 ≤ (wrap64 ((wrap64 (A9 * a0_1)) + Ab)) then (if (wrap64 ((wrap64 (A9 * a0_1)) + Ab)) < (A0.length : Int) then ((impl_GoesTo.f k1 ((rd_T89 A0 (wrap64 ((wrap64 (A9 * a0_1)) + Ab))).f0) ((rd_T89 A0 (wrap64 ((wrap64 (A9 * a0_1)) + Ab))).f1) AA).bind fun bt279 => (if bt279.2 = true then (if ((rd_T89 A0 (wrap64 ((wrap64 (A9 * a0_1)) + Ab))).f0) = 3 then (impl_drop.j1 k1 l1 Ab As A9 (wrap64 ((wrap64 (A9 * a0_1)) + Ab)) bt279.1 a0_0 a0_1 (A0.set ((wrap64 ((wrap64 (A9 * a0_1)) + Ab)) : Int).toNat (⟨(rd_T89 A0 (wrap64 ((wrap64 (A9 * a0_1)) + Ab))).f0, wrap64 (1 - ((rd_T89 A0 (wrap64 ((wrap64 (A9 * a0_1)) + Ab))).f1))⟩ : S89)) ((rd_T89 A0 (wrap64 ((wrap64 (A9 * a0_1)) + Ab))).f0) ((rd_T89 A0 (wrap64 ((wrap64 (A9 * a0_1)) + Ab))).f1)) else (impl_drop.j1 k1 l1 Ab As A9 (wrap64 ((wrap64 (A9 * a0_1)) + Ab)) bt279.1 a0_0 a0_1 A0 ((rd_T89 A0 (wrap64 ((wrap64 (A9 * a0_1)) + Ab))).f0) ((rd_T89 A0 (wrap64 ((wrap64 (A9 * a0_1)) + Ab))).f1))) else (some (2, A9, Ab, As, A0)))) else (none)) else (none)) = some (r1, r2, r3, r4, r5) := by first | (rw [AD]; with_reducible exact H) | (have H2_ := (Option.bind_some _ _).symm.trans H; rw [AD]; with_reducible exact H2_) | (have H2_ := (Option.bind_some _ _).symm.trans H; with_reducible exact H2_) | with_reducible exact H | (rw [AD]; exact H) | exact H
     have AK := Z.m AD
     clear AD
     obtain ⟨A7, Ar⟩ : ∃ j_ : Int, (wrap64 ((wrap64 (A9 * a0_1)) + Ab)) = j_ := ⟨_, rfl⟩
     replace H : (if 0 ≤ (A7) then (if (A7) < (A0.length : Int) then ((impl_GoesTo.f k1 ((rd_T89 A0 (A7)).f0) ((rd_T89 A0 (A7)).f1) AA).bind fun bt279 => (if bt279.2 = true then (if ((rd_T89 A0 (A7)).f0) = 3 then (impl_drop.j1 k1 l1 Ab As A9 A7 bt279.1 a0_0 a0_1 (A0.set ((A7) : Int).toNat (⟨(rd_T89 A0 (A7)).f0, wrap64 (1 - ((rd_T89 A0 (A7)).f1))⟩ : S89)) ((rd_T89 A0 (A7)).f0) ((rd_T89 A0 (A7)).f1)) else (impl_drop.j1 k1 l1 Ab As A9 A7 bt279.1 a0_0 a0_1 A0 ((rd_T89 A0 (A7)).f0) ((rd_T89 A0 (A7)).f1))) else (some (2, A9, Ab, As, A0)))) else (none)) else (none)) = some (r1, r2, r3, r4, r5) := by first | (rw [Ar] at H; exact H) | (simp only [Ar] at H ⊢; exact H)
     (try rw [Ar] at AK)
     have hji11w : (IntKind.i64.wrap ((wrap64 (A9 * a0_1)) + Ab)) = A7 := (i64_w _).trans Ar
     by_cases c12 : 0 ≤ (A7)
     ·rw [if_pos c12] at H
      have BF := decide_eq_true c12
      clear c12
      by_cases c13 : (A7) < (A0.length : Int)
      ·rw [if_pos c13] at H
       have BG := decide_eq_true c13
       clear c13
       replace H := Option.bind_eq_some_iff.mp H
       obtain ⟨⟨Am, BQ⟩, Bx, H⟩ := H
       replace H : (if BQ = true then (if ((rd_T89 A0 (A7)).f0) = 3 then (impl_drop.j1 k1 l1 Ab As A9 A7 Am a0_0 a0_1 (A0.set ((A7) : Int).toNat (⟨(rd_T89 A0 (A7)).f0, wrap64 (1 - ((rd_T89 A0 (A7)).f1))⟩ : S89)) ((rd_T89 A0 (A7)).f0) ((rd_T89 A0 (A7)).f1)) else (impl_drop.j1 k1 l1 Ab As A9 A7 Am a0_0 a0_1 A0 ((rd_T89 A0 (A7)).f0) ((rd_T89 A0 (A7)).f1))) else (some (2, A9, Ab, As, A0))) = some (r1, r2, r3, r4, r5) := H
       have Ef := Z.m Bx
       clear Bx
       by_cases c15 : BQ = true
       ·subst c15
        have H1 : (if ((rd_T89 A0 (A7)).f0) = 3 then (impl_drop.j1 k1 l1 Ab As A9 A7 Am a0_0 a0_1 (A0.set ((A7) : Int).toNat (⟨(rd_T89 A0 (A7)).f0, wrap64 (1 - ((rd_T89 A0 (A7)).f1))⟩ : S89)) ((rd_T89 A0 (A7)).f0) ((rd_T89 A0 (A7)).f1)) else (impl_drop.j1 k1 l1 Ab As A9 A7 Am a0_0 a0_1 A0 ((rd_T89 A0 (A7)).f0) ((rd_T89 A0 (A7)).f1))) = some (r1, r2, r3, r4, r5) := by rw [if_pos rfl] at H; exact H
        clear H
        have H := H1
        clear H1
        have Bq := Z.m H
        clear H
        have Ei := Ae.o
        have EM := Af.o
        have AU := bc0 A3
        have AV := bc1 A3
        have AW := bc2 A3
        have Bb := qz A3.o 0
        have Bc := qz A3.o 1
        have Bd := qz A3.o 2
        go_upto_if 51 with (first | ((with_reducible refine gu (b := .append) (xs := #[.tmp 28, .tmp 30]) rfl ?_); at_builtin; refine Kd.R_append (Kd.int .i64) (w0 := w0) w0.heap.size rfl (.tmp 28) (.tmp 30) 43 3 (.int .i64 0) 8 rfl Try.underlying43 info3 rfl (by decide) (by omega) u8 AG A7 [.int .i64 A7] (fun k_ => (P0_2_ k_ ∨ w.heap.size ≤ k_)) (fun _ => False) rfl rfl ?aP (fun _ hk => hk.elim) ?aF ?aO ?aB ?aS ?aL ?_; (case aP => exact rfl); (case aB => exact (vB HB)); (case aF => exact (fun k_ hk => (.inr (Nat.le_trans (by first | exact HK.o.1 | exact (show Kept w _ (fun k_ => P0_2_ k_) from vT HK).1) hk)))); (case aO => exact (vR Al)); (case aS => exact (below_size (vB HB))); (case aL => have := Bl.o; omega); intro BR Fo ho hb hg hat; rw [← AK.o] at ho; have An := Z.m (ho); replace A2 := Z.m (Kd.Ro (vR A2) (Kd.Rt (vR Al)) (by decide) hg); replace A3 := Z.m (qg (g := Av) (o := .cells #[.int .i64 a0_0, .int .i64 a0_1, .slice Bz A0.length Ax] 32 (0, 0)) (vK A3) hg (Kd.R_ne Al.o A3.o (by decide))); replace A4 := Z.m (qg (g := Ap) (o := .cells #[.int .i64 Ai, .int .i64 Aj, .int .i64 Ak] 27 (0, 0)) (vK A4) hg (Kd.R_ne Al.o A4.o (by decide))); replace HB := Z.m (hb); replace HK := Z.m (Kept.of_grown (S := (fun k_ => P0_2_ k_)) hg (vT HK) (fun k_ e_ => (Al.o.1 k_ e_))); clear Al; clear ho hb hg hat; have AX := bc0 A3; have AY := bc1 A3; have AZ := bc2 A3; have Be := qz A3.o 0; have Bf := qz A3.o 1; have Bg := qz A3.o 2; have p277 : 0 ≤ ((A7) : Int) := ofD; have q277 : (A7) < (A0.length : Int) := ofD; obtain ⟨Ao, e277, Ay, Az⟩ := at_T89 (Kd.RrZ A2.o).2.2 (A7) p277 q277; cases e277; replace p277 := eq_true p277; replace q277 := eq_true q277) | ((with_reducible refine gq (N := 12) rfl ?_); refine be (N := 12) (cs := #[.int .i64 0, .int .i64 0]) (t := 89) ?_; intro Aq hg Fp hbox hb; have A8 := Z.m (hbox); have BA := Z.m ((by rw [hg]; exact (by first | exact HK.o.1 | exact (show Kept w _ (fun k_ => P0_2_ k_) from vT HK).1) : w.heap.size ≤ Aq)); have AH := gW (w := w0) HB hg; have Ac := neL A3 hg; have Ag := neG A3 hg; have Ad := neL A4 hg; have Ah := neG A4 hg; replace A2 := Z.m (Kd.Rb (Kd.R_elderB (vR A2) Aq (Nat.le_of_eq hg.symm)) hb); replace An := Z.m (Kd.Rb (vR An) hb); replace A3 := kB A3 hb; replace A4 := kB A4 hb; replace HK := Z.m (Kept.below (S := (fun k_ => P0_2_ k_)) (vT HK) hb); replace HB := bB HB hb; clear hb hbox hg; have Ej := Ag.o; have EN := Ac.o; have Ek := Ah.o; have EO := Ad.o; have B0 := bc0 A8; have B2 := bc1 A8; have Bh := qz A8.o 0; have Bi := qz A8.o 1) | ((with_reducible refine gc (f := 73) rfl ?_); refine goesL_ (some 40) rfl rfl Try.func73 (by kernel_rfl) rfl #[.agg #[.int .i64 ((rd_T89 A0 (A7)).f0), .int .i64 ((rd_T89 A0 (A7)).f1)], .int .i64 AA] rfl (by (try simp only [List.map_toArray, List.map_cons, List.map_nil]); first | done | (simp only [Ar]; rfl) | rfl | (simp only [List.length_drop, List.length_take]; rfl)) ?_; (with_reducible refine (impl_GoesTo.calls k1 ((rd_T89 A0 (A7)).f0) ((rd_T89 A0 (A7)).f1) AA Am true _ Ef.o).mono ?_); rintro e Bu ⟨rfl, hb⟩; refine ⟨_, rfl, ?_⟩; replace A2 := Z.m (Kd.Rb (by refine rK ?_; exact (Kd.Rm (rf (rf (Kd.Rm A2.o (fun k_ hk => (⟨hk, hk.2⟩ : _ ∧ k_ ≠ Aq))))) (fun _ h_ => h_.1))) hb); replace An := Z.m (Kd.Rb (by refine rK ?_; exact (Kd.Rm (rf (rf (Kd.Ry An.o A8.o (by decide)))) (fun _ h_ => h_.1))) hb); replace A3 := Z.m (qb (g := Av) (o := .cells #[.int .i64 a0_0, .int .i64 a0_1, .slice (some Ao) A0.length Ax] 32 (0, 0)) (by refine bK ?_; (iterate 2 refine qF ?_ Ac); exact A3.o) hb); replace A4 := Z.m (qb (g := Ap) (o := .cells #[.int .i64 Ai, .int .i64 Aj, .int .i64 Ak] 27 (0, 0)) (by refine bK ?_; (iterate 2 refine qF ?_ Ad); exact A4.o) hb); replace A8 := Z.m (qb (g := Aq) (o := .cells #[.int .i64 ((rd_T89 A0 (A7)).f0), .int .i64 ((rd_T89 A0 (A7)).f1)] 89 (0, 0)) (by refine bK ?_; refine qp (cs := #[iV ((rd_T89 A0 (A7)).f0), iV 0]) ?_ 1 _ rfl; refine bK ?_; refine qp (cs := #[iV 0, iV 0]) ?_ 0 _ rfl; refine bK ?_; exact A8.o) hb); replace HK := Z.m (Kept.below (S := (fun k_ => P0_2_ k_)) (vT HK) hb); replace HB := bB HB hb; (try clear hb); (try clear Fj); (try clear hk); (try clear hi); have B7 := bc0 A8; have Ba := bc1 A8; have Bj := qz A8.o 0; have Bk := qz A8.o 1))
        (try simp only [Act.put, q1, q2, q3])
        go_cut [] (fun wc => ∃ (kq : Nat) (Aa : List (S89)) (At : Int), Z (impl_drop.j1 kq l1 Ab As A9 A7 Am a0_0 a0_1 Aa ((rd_T89 A0 (A7)).f0) At = some (r1, r2, r3, r4, r5)) ∧ Z (kq ≤ k1) ∧ Z (Kd.R (Kd.int .i64) 3 wc w0.heap.size (fun k_ => (P0_2_ k_ ∨ w.heap.size ≤ k_)) BR As) ∧ Z (Kd.R k89 89 wc w0.heap.size (fun k_ => (P0_2_ k_ ∨ w.heap.size ≤ k_) ∧ k_ ≠ Aq) (.slice (some Ao) A0.length Ax) Aa) ∧ Z (wc.heap[Av]? = some (.cells #[.int .i64 a0_0, .int .i64 a0_1, (.slice (some Ao) A0.length Ax)] 32 (0, 0))) ∧ Z (wc.heap[Ap]? = some (.cells #[.int .i64 Ai, .int .i64 Aj, .int .i64 Ak] 27 (0, 0))) ∧ Z (wc.heap[Aq]? = some (.cells #[.int .i64 ((rd_T89 A0 (A7)).f0), .int .i64 At] 89 (0, 0))) ∧ Z (Kept w wc (fun k_ => P0_2_ k_)) ∧ Z (Below w0.heap.size w0 wc))
        case first =>
         have H := Bq.o
         clear Bq
         by_cases c27 : ((rd_T89 A0 (A7)).f0) = 3
         ·rw [if_pos c27] at H
          have AB := beq_iff_eq.mpr c27
          have BH := bne_eq_false_iff_eq.mpr c27
          clear c27
          (first | rw [AB] | (simp only [i64_w, i32_w]; rw [AB]) | skip)
          obtain ⟨Bv, AE⟩ : ∃ y_ : List (S89), y_ = (A0.set ((A7) : Int).toNat (⟨(rd_T89 A0 (A7)).f0, wrap64 (1 - ((rd_T89 A0 (A7)).f1))⟩ : S89)) := ⟨_, rfl⟩
          replace H : (impl_drop.j1 k1 l1 Ab As A9 A7 Am a0_0 a0_1 Bv ((rd_T89 A0 (A7)).f0) ((rd_T89 A0 (A7)).f1)) = some (r1, r2, r3, r4, r5) := by first | (rw [AE]; with_reducible exact H) | (have H2_ := (Option.bind_some _ _).symm.trans H; rw [AE]; with_reducible exact H2_) | (have H2_ := (Option.bind_some _ _).symm.trans H; with_reducible exact H2_) | with_reducible exact H | (rw [AE]; exact H) | exact H
          have BE := Z.m AE
          clear AE
          have H' := Z.m H
          clear H
          have El := Ae.o
          have EP := Af.o
          have Em := Ac.o
          have EQ := Ag.o
          have BT := bc0 A3
          have BU := bc1 A3
          have BV := bc2 A3
          have D0 := qz A3.o 0
          have D1 := qz A3.o 1
          have D2 := qz A3.o 2
          have En := Ah.o
          have ER := Ad.o
          have BW := bc0 A8
          have BX := bc1 A8
          have D3 := qz A8.o 0
          have D4 := qz A8.o 1
          have p28 : 0 ≤ ((A7) : Int) := ofD
          have q28 : ((A7) : Int) < ((A0.length : Int) : Int) := ofD
          obtain ⟨Aw, Fh, BK, BL, gl28, cl28, BB⟩ := Kd.R_form A2.o (by omega)
          (first | cases BK | (injection BK with ea_ en_ ec_; (first | subst ea_ | (injection ea_ with ea_; subst ea_)); subst ec_; clear en_))
          have E6 := Z.m BL
          have Fe := Z.m BB
          clear BL gl28 BB
          have E8 := Z.m (show (P0_2_ Aw ∨ w.heap.size ≤ Aw) from (A2.o.1 _ rfl).1)
          (first | simp only [add_plain] at Ay | skip)
          (first | simp only [add_plain] at Az | skip)
          obtain ⟨Ff, BO, BM, AP, AR⟩ := Kd.R_elem A2.o z89 ((A7) : Int) p28 q28
          obtain rfl := k89_openM BM
          have Ec : Bu.cell? ⟨Aw, ((A7) : Int).toNat * 2, none⟩ = some (.int .i64 ((rd_T89 A0 (A7)).f0)) := AP 0 _ rfl
          have Ed : Bu.cell? ⟨Aw, ((A7) : Int).toNat * 2 + 1, none⟩ = some (.int .i64 ((rd_T89 A0 (A7)).f1)) := AP 1 _ rfl
          have Ea : Bu.frozen? ⟨Aw, ((A7) : Int).toNat * 2, none⟩ = false := AR 0
          have Eb : Bu.frozen? ⟨Aw, ((A7) : Int).toNat * 2 + 1, none⟩ = false := AR 1
          (try clear BO); (try clear AP); (try clear AR); (try clear BM)
          replace p28 := eq_true p28
          replace q28 := eq_true q28
          have BD := Z.m (show Kd.R k89 89 Bu w0.heap.size (fun k_ => (P0_2_ k_ ∨ w.heap.size ≤ k_) ∧ k_ ≠ Aq) (.slice (some ⟨Aw, 0, none⟩) A0.length Ax) A0 from (vR A2))
          obtain ⟨Fg, Bn, BN, AQ, Bo⟩ := Kd.R_elem BD.o z89 ((A7) : Int) (ofD) (by have h_ : ((A7) : Int) < ((A0.length : Int) : Int) := ofD; first | exact h_ | (have e_ := (Kd.RrZ A2.o).1; omega) | simpa using h_)
          obtain rfl := k89_openM BN
          have Br := Kd.R_seg BD.o ((A7) : Int) (ofD) (by have h_ : ((A7) : Int) < ((A0.length : Int) : Int) := ofD; first | exact h_ | (have e_ := (Kd.RrZ A2.o).1; omega) | simpa using h_) (seg := [.int .i64 (wrap64 (1 - ((rd_T89 A0 (A7)).f1)))]) (j := 1) Bn AQ (show 2 ≤ 2 from by decide) (x' := (⟨(rd_T89 A0 (A7)).f0, wrap64 (1 - ((rd_T89 A0 (A7)).f1))⟩ : S89)) (k89_mkM _ _ _ (⟨(rd_T89 A0 (A7)).f0, wrap64 (1 - ((rd_T89 A0 (A7)).f1))⟩ : S89) ) (fun _ hk => hk)
          have Bt := AQ 1 _ rfl
          (try simp only [show (k89).sz = 2 from rfl, Nat.mul_one, Nat.add_zero] at Bt)
          have Bs := Bo 1
          (try simp only [show (k89).sz = 2 from rfl, Nat.mul_one, Nat.add_zero] at Bs)
          (try clear Bn); (try clear AQ); (try clear Bo); (try clear BN)
          go_wp2_with (first | ((with_reducible refine gt (t := 3) (p := 59) rfl ?_); refine store_event (t := 3) (p := 59) (v := ?vo_w35) (w1 := (Bu.setCell ⟨Aw, ((A7) : Int).toNat * 2 + 1, none⟩ (.int .i64 (wrap64 (1 - ((rd_T89 A0 (A7)).f1)))))) ?hg ?ho ?hn ?hr ?_; (case ho => rfl); (case hg => rfl); (case hn => rfl); (case hr => first | (go_simp; done) | (go_simp; rfl)); intro Ee hw; have hg : Bu.grownBy Ee (some Aw) := (by rw [hw]; exact Br.2); have hp_ : Kd.R k89 89 Ee w0.heap.size (fun k_ => (P0_2_ k_ ∨ w.heap.size ≤ k_) ∧ k_ ≠ Aq) (.slice (some ⟨Aw, 0, none⟩) A0.length Ax) Bv := (by rw [hw, BE.o]; exact Br.1); clear Br; replace A3 := Z.m (qg (g := Av) (o := .cells #[.int .i64 a0_0, .int .i64 a0_1, .slice (some ⟨Aw, 0, none⟩) A0.length Ax] 32 (0, 0)) (vK A3) hg (Kd.R_ne A2.o A3.o (by decide))); replace A4 := Z.m (qg (g := Ap) (o := .cells #[.int .i64 Ai, .int .i64 Aj, .int .i64 Ak] 27 (0, 0)) (vK A4) hg (Kd.R_ne A2.o A4.o (by decide))); replace An := Z.m (Kd.Ro (v := (.slice (some ⟨Aw, 0, none⟩) A0.length Ax)) (vR An) (Kd.Rt A2.o) (by decide) hg); replace A8 := Z.m (qg (g := Aq) (o := .cells #[.int .i64 ((rd_T89 A0 (A7)).f0), .int .i64 ((rd_T89 A0 (A7)).f1)] 89 (0, 0)) (vK A8) hg (Kd.R_away A2.o (fun _ hk => hk.2))); replace HB := Z.m ((by rw [hw]; exact qx (HB.o) E6.o : Below w0.heap.size w0 Ee)); replace HK := Z.m (Kept.of_grown (S := (fun k_ => P0_2_ k_)) hg (vT HK) (fun k_ e_ => (A2.o.1 k_ e_).1)); replace A2 := Z.m (hp_); clear hg hw hp_))
          go_meet
          case rel => exact ⟨_, (Bv), ((rd_T89 A0 (A7)).f1), H', ⟨by have := Bw.o; first | omega | exact Nat.le_refl _⟩, ⟨by (try simp only [A5]); refine rK ?_; exact An.o⟩, ⟨by (try simp only [A5]); refine rK ?_; exact A2.o⟩, ⟨by (try simp only [A5]); refine bK ?_; exact A3.o⟩, ⟨by (try simp only [A5]); refine bK ?_; exact A4.o⟩, ⟨by (try simp only [A5]); refine bK ?_; exact A8.o⟩, ⟨vT HK⟩, ⟨vB HB⟩⟩
         ·rw [if_neg c27] at H
          have AB := beq_eq_false_iff_ne.mpr c27
          have BH := bne_iff_ne.mpr c27
          (first | rw [AB] | (simp only [i64_w, i32_w]; rw [AB]) | skip)
          have H' := Z.m H
          clear H
          go_wp2
          go_meet
          case rel => exact ⟨_, (A0), ((rd_T89 A0 (A7)).f1), H', ⟨by have := Bw.o; first | omega | exact Nat.le_refl _⟩, ⟨by (try simp only [A5]); refine rK ?_; exact An.o⟩, ⟨by (try simp only [A5]); refine rK ?_; exact A2.o⟩, ⟨by (try simp only [A5]); refine bK ?_; exact A3.o⟩, ⟨by (try simp only [A5]); refine bK ?_; exact A4.o⟩, ⟨by (try simp only [A5]); refine bK ?_; exact A8.o⟩, ⟨vT HK⟩, ⟨vB HB⟩⟩
        case rest =>
         clear Bq
         (try clear AT); (try clear BF); (try clear BG); (try clear c15)
         (try clear AU); (try clear AV); (try clear AW); (try clear AX); (try clear AY); (try clear AZ); (try clear B0); (try clear B2)
         (try clear B7); (try clear Ba); (try clear Bb); (try clear Bc); (try clear Bd); (try clear Be); (try clear Bf); (try clear Bg)
         (try clear Bh); (try clear Bi); (try clear Bj); (try clear Bk); (try clear Ay); (try clear Az); (try clear p277); (try clear q277)
         obtain ⟨kq, Aa, At, HA, AS, Al, A2, A3, A4, A8, HK, HB⟩ := hcut
         have A6 := (Kd.RrZ A2.o).1
         rw [A6] at A2
         (try simp only [A6])
         (try simp only [A6] at A3)
         (try simp only [A6] at A4)
         (try simp only [A6] at A8)
         (try simp only [A6] at Al)
         cases kq with
         | zero => exact absurd HA.o (by simp [impl_drop.j1])
         | succ kj15 =>
          have H := HA.o
          clear HA
          simp only [impl_drop.j1] at H
          by_cases c36 : ((rd_T89 A0 (A7)).f0) = 6
          ·rw [if_pos c36] at H
           have BI := beq_iff_eq.mpr c36
           have BJ := bne_eq_false_iff_eq.mpr c36
           clear c36
           replace H := Option.bind_eq_some_iff.mp H
           obtain ⟨AF, By, H⟩ := H
           replace H : (if (wrap64 (Ab + Am)) < 0 then (some (3, A9, wrap64 (Ab + Am), As, AF)) else (if (wrap64 (Ab + Am)) ≥ a0_1 then (some (3, A9, wrap64 (Ab + Am), As, AF)) else (impl_drop.l0 kj15 l1 (wrap64 (Ab + Am)) As (wrap64 (-Am)) (wrap64 (A9 + 1)) a0_0 a0_1 AF))) = some (r1, r2, r3, r4, r5) := H
           have E5 := Z.m By
           clear By
           by_cases c38 : (wrap64 (Ab + Am)) < 0
           ·rw [if_pos c38] at H
            have AL := decide_eq_true c38
            clear c38
            simp only [Option.some.injEq, Prod.mk.injEq] at H
            obtain ⟨rfl, rfl, rfl, rfl, rfl⟩ := H
            have Eo := Ag.o
            have ES := Ac.o
            have Ep := Ah.o
            have ET := Ad.o
            have BY := bc0 A8
            have BZ := bc1 A8
            have D5 := qz A8.o 0
            have D6 := qz A8.o 1
            have Er := Ae.o
            have EU := Af.o
            have C0 := bc0 A3
            have C1 := bc1 A3
            have C2 := bc2 A3
            have D7 := qz A3.o 0
            have D8 := qz A3.o 1
            have D9 := qz A3.o 2
            go_wp2_with (first | ((with_reducible refine gc (f := 74) rfl ?_); refine goesL_ (some 66) rfl rfl Try.func74 (by kernel_rfl) rfl #[.agg #[.int .i64 a0_0, .int .i64 a0_1, .slice (some Ao) Aa.length Ax], .slice A1 l1.length c1, .int .i64 A7] rfl (by (try simp only [List.map_toArray, List.map_cons, List.map_nil]); first | done | (simp only [Ar]; rfl) | rfl | (simp only [List.length_drop, List.length_take]; rfl)) ?_; (with_reducible refine (impl_turnGroup.calls kj15 a0_0 a0_1 (fun k_ => some k_ = (.slice (some Ao) Aa.length Ax : Value).ownBlock) (.slice (some Ao) Aa.length Ax) Aa _ _ l1 A7 AF w0 _ ?side1 ?side2 ?side3 ?side4 E5.o).mono ?_); (case side1 => repeat (first | (with_reducible first | exact HB.o | apply qa | apply qn | apply qd | refine qx ?_ AI.o | refine qx ?_ AJ.o | refine qx ?_ AH.o) | exact HB.o)); (case side2 => exact Kd.Rg rfl A2.o); (case side3 => exact Kd.Cc E9.o (vT HK) (fun k_ hs_ => (fun e_ => (A2.o.1 k_ e_.symm).1) hs_)); (case side4 => exact E7.o); rintro e Fq ⟨rfl, Bp, hb, hkp⟩; refine ⟨_, rfl, ?_⟩; replace Al := Z.m (Kd.Rm (ok' := fun k_ => (P0_2_ k_ ∨ w.heap.size ≤ k_)) (Kd.Rk ((Kd.Ra Al.o (Kd.Rt A2.o) (by decide))) hkp (fun k_ hk_ hs_ => (hk_.2) hs_)) (fun k_ hk_ => hk_.1.1)); replace A3 := Z.m (qk (vK A3) hkp (fun hs_ => (fun e_ => (Kd.R_ne A2.o A3.o (by decide)) e_) hs_)); replace A4 := Z.m (qk (vK A4) hkp (fun hs_ => (fun e_ => (Kd.R_ne A2.o A4.o (by decide)) e_) hs_)); replace A8 := Z.m (qk (vK A8) hkp (fun hs_ => (fun e_ => (Kd.R_away A2.o (fun _ hk => hk.2)) e_) hs_)); replace HK := Z.m (Kept.then_ (S := (fun k_ => P0_2_ k_)) (vT HK) hkp (fun k_ hs_ => (fun e_ => (A2.o.1 k_ e_.symm).1) hs_)); replace A2 := Z.m (Kd.Re rfl Bp (fun k_ e_ => A2.o.1 k_ e_)); replace HB := Z.m (hb); (try clear hb); (try clear hkp); (try clear Bp); have C3 := bc0 A4; have C4 := bc1 A4; have C5 := bc2 A4; have Da := qz A4.o 0; have Db := qz A4.o 1; have Dc := qz A4.o 2))
            refine bodyPost_ret (results_ct rfl _ _ Ap 27 #[.int .i64 3, .int .i64 A9, .int .i64 (wrap64 (Ab + Am))] (0, 0) _ rfl (by refine bK ?_; apply st3; refine bK ?_; exact A4.o) Try.underlying27 rfl (by kernel_rfl)) rfl ?_
            exact ⟨_, by first | rfl | (simp [eN, eS] <;> rfl) | (simp only [← Ar]; first | rfl | (simp [eN, eS] <;> rfl)) | (simp [*, eN, eS] <;> rfl), by refine rK ?_; exact Kd.Rm (rf (rf (rf (Kd.Ry Al.o A4.o (by decide))))) (fun _ hk => hk.1), (by first | exact (by refine rK ?_; exact Kd.Rm (rf (rf (rf (Kd.Ry A2.o A4.o (by decide))))) (fun _ hk => hk.1.1)) | (simp only [A5, A6]; exact (by refine rK ?_; exact Kd.Rm (rf (rf (rf (Kd.Ry A2.o A4.o (by decide))))) (fun _ hk => hk.1.1)))), vB HB, vT HK⟩
           ·rw [if_neg c38] at H
            have AL := decide_eq_false c38
            (try simp only [A5] at AL)
            (try simp only [A6] at AL)
            clear c38
            by_cases c46 : (wrap64 (Ab + Am)) ≥ a0_1
            ·rw [if_pos c46] at H
             have AM := decide_eq_true c46
             clear c46
             simp only [Option.some.injEq, Prod.mk.injEq] at H
             obtain ⟨rfl, rfl, rfl, rfl, rfl⟩ := H
             have Es := Ag.o
             have EV := Ac.o
             have Et := Ah.o
             have EW := Ad.o
             have C6 := bc0 A8
             have C7 := bc1 A8
             have Dd := qz A8.o 0
             have De := qz A8.o 1
             have Eu := Ae.o
             have EX := Af.o
             have C8 := bc0 A3
             have C9 := bc1 A3
             have Ca := bc2 A3
             have Df := qz A3.o 0
             have Dg := qz A3.o 1
             have Dh := qz A3.o 2
             go_wp2_with (first | ((with_reducible refine gc (f := 74) rfl ?_); refine goesL_ (some 66) rfl rfl Try.func74 (by kernel_rfl) rfl #[.agg #[.int .i64 a0_0, .int .i64 a0_1, .slice (some Ao) Aa.length Ax], .slice A1 l1.length c1, .int .i64 A7] rfl (by (try simp only [List.map_toArray, List.map_cons, List.map_nil]); first | done | (simp only [Ar]; rfl) | rfl | (simp only [List.length_drop, List.length_take]; rfl)) ?_; (with_reducible refine (impl_turnGroup.calls kj15 a0_0 a0_1 (fun k_ => some k_ = (.slice (some Ao) Aa.length Ax : Value).ownBlock) (.slice (some Ao) Aa.length Ax) Aa _ _ l1 A7 AF w0 _ ?side1 ?side2 ?side3 ?side4 E5.o).mono ?_); (case side1 => repeat (first | (with_reducible first | exact HB.o | apply qa | apply qn | apply qd | refine qx ?_ AI.o | refine qx ?_ AJ.o | refine qx ?_ AH.o) | exact HB.o)); (case side2 => exact Kd.Rg rfl A2.o); (case side3 => exact Kd.Cc E9.o (vT HK) (fun k_ hs_ => (fun e_ => (A2.o.1 k_ e_.symm).1) hs_)); (case side4 => exact E7.o); rintro e Fr ⟨rfl, Bp, hb, hkp⟩; refine ⟨_, rfl, ?_⟩; replace Al := Z.m (Kd.Rm (ok' := fun k_ => (P0_2_ k_ ∨ w.heap.size ≤ k_)) (Kd.Rk ((Kd.Ra Al.o (Kd.Rt A2.o) (by decide))) hkp (fun k_ hk_ hs_ => (hk_.2) hs_)) (fun k_ hk_ => hk_.1.1)); replace A3 := Z.m (qk (vK A3) hkp (fun hs_ => (fun e_ => (Kd.R_ne A2.o A3.o (by decide)) e_) hs_)); replace A4 := Z.m (qk (vK A4) hkp (fun hs_ => (fun e_ => (Kd.R_ne A2.o A4.o (by decide)) e_) hs_)); replace A8 := Z.m (qk (vK A8) hkp (fun hs_ => (fun e_ => (Kd.R_away A2.o (fun _ hk => hk.2)) e_) hs_)); replace HK := Z.m (Kept.then_ (S := (fun k_ => P0_2_ k_)) (vT HK) hkp (fun k_ hs_ => (fun e_ => (A2.o.1 k_ e_.symm).1) hs_)); replace A2 := Z.m (Kd.Re rfl Bp (fun k_ e_ => A2.o.1 k_ e_)); replace HB := Z.m (hb); (try clear hb); (try clear hkp); (try clear Bp); have Cb := bc0 A3; have Cd := bc1 A3; have Ce := bc2 A3; have Di := qz A3.o 0; have Dj := qz A3.o 1; have Dk := qz A3.o 2; have Cf := bc0 A4; have Cg := bc1 A4; have Ch := bc2 A4; have Dl := qz A4.o 0; have Dm := qz A4.o 1; have Dn := qz A4.o 2))
             refine bodyPost_ret (results_ct rfl _ _ Ap 27 #[.int .i64 3, .int .i64 A9, .int .i64 (wrap64 (Ab + Am))] (0, 0) _ rfl (by refine bK ?_; apply st3; refine bK ?_; exact A4.o) Try.underlying27 rfl (by kernel_rfl)) rfl ?_
             exact ⟨_, by first | rfl | (simp [eN, eS] <;> rfl) | (simp only [← Ar]; first | rfl | (simp [eN, eS] <;> rfl)) | (simp [*, eN, eS] <;> rfl), by refine rK ?_; exact Kd.Rm (rf (rf (rf (Kd.Ry Al.o A4.o (by decide))))) (fun _ hk => hk.1), (by first | exact (by refine rK ?_; exact Kd.Rm (rf (rf (rf (Kd.Ry A2.o A4.o (by decide))))) (fun _ hk => hk.1.1)) | (simp only [A5, A6]; exact (by refine rK ?_; exact Kd.Rm (rf (rf (rf (Kd.Ry A2.o A4.o (by decide))))) (fun _ hk => hk.1.1)))), vB HB, vT HK⟩
            ·rw [if_neg c46] at H
             have AM := decide_eq_false c46
             (try simp only [A5] at AM)
             (try simp only [A6] at AM)
             clear c46
             have H' := Z.m H
             clear H
             have Ew := Ag.o
             have EY := Ac.o
             have Ex := Ah.o
             have EZ := Ad.o
             have Ci := bc0 A8
             have Cj := bc1 A8
             have Do := qz A8.o 0
             have Dp := qz A8.o 1
             have Ey := Ae.o
             have F0 := Af.o
             have Cl := bc0 A3
             have Cm := bc1 A3
             have Cn := bc2 A3
             have Dq := qz A3.o 0
             have Dr := qz A3.o 1
             have Ds := qz A3.o 2
             go_wp2_with (first | ((with_reducible refine gc (f := 74) rfl ?_); refine goesL_ (some 66) rfl rfl Try.func74 (by kernel_rfl) rfl #[.agg #[.int .i64 a0_0, .int .i64 a0_1, .slice (some Ao) Aa.length Ax], .slice A1 l1.length c1, .int .i64 A7] rfl (by (try simp only [List.map_toArray, List.map_cons, List.map_nil]); first | done | (simp only [Ar]; rfl) | rfl | (simp only [List.length_drop, List.length_take]; rfl)) ?_; (with_reducible refine (impl_turnGroup.calls kj15 a0_0 a0_1 (fun k_ => some k_ = (.slice (some Ao) Aa.length Ax : Value).ownBlock) (.slice (some Ao) Aa.length Ax) Aa _ _ l1 A7 AF w0 _ ?side1 ?side2 ?side3 ?side4 E5.o).mono ?_); (case side1 => repeat (first | (with_reducible first | exact HB.o | apply qa | apply qn | apply qd | refine qx ?_ AI.o | refine qx ?_ AJ.o | refine qx ?_ AH.o) | exact HB.o)); (case side2 => exact Kd.Rg rfl A2.o); (case side3 => exact Kd.Cc E9.o (vT HK) (fun k_ hs_ => (fun e_ => (A2.o.1 k_ e_.symm).1) hs_)); (case side4 => exact E7.o); rintro e Fs ⟨rfl, Bp, hb, hkp⟩; refine ⟨_, rfl, ?_⟩; replace Al := Z.m (Kd.Rm (ok' := fun k_ => (P0_2_ k_ ∨ w.heap.size ≤ k_)) (Kd.Rk ((Kd.Ra Al.o (Kd.Rt A2.o) (by decide))) hkp (fun k_ hk_ hs_ => (hk_.2) hs_)) (fun k_ hk_ => hk_.1.1)); replace A3 := Z.m (qk (vK A3) hkp (fun hs_ => (fun e_ => (Kd.R_ne A2.o A3.o (by decide)) e_) hs_)); replace A4 := Z.m (qk (vK A4) hkp (fun hs_ => (fun e_ => (Kd.R_ne A2.o A4.o (by decide)) e_) hs_)); replace A8 := Z.m (qk (vK A8) hkp (fun hs_ => (fun e_ => (Kd.R_away A2.o (fun _ hk => hk.2)) e_) hs_)); replace HK := Z.m (Kept.then_ (S := (fun k_ => P0_2_ k_)) (vT HK) hkp (fun k_ hs_ => (fun e_ => (A2.o.1 k_ e_.symm).1) hs_)); replace A2 := Z.m (Kd.Re rfl Bp (fun k_ e_ => A2.o.1 k_ e_)); replace HB := Z.m (hb); (try clear hb); (try clear hkp); (try clear Bp); have Co := bc0 A3; have Cp := bc1 A3; have Cq := bc2 A3; have Dt := qz A3.o 0; have Du := qz A3.o 1; have Dv := qz A3.o 2))
             (try simp only [← A5, ← A6])
             go_roundg kj15
             case measure => have := Bw.o; have := AS.o; omega
             case rel => exact ⟨(wrap64 (Ab + Am)), (As), (wrap64 (-Am)), (wrap64 (A9 + 1)), (AF), (Ai), (Aj), (Ak), (by first | rfl | (simp; done) | (simp [*]; done)), (by first | rfl | (simp; done) | (simp [*]; done)), (by first | rfl | (simp; done) | (simp [*]; done)), H', ⟨by have := Bw.o; have := AS.o; omega⟩, ⟨by (try simp only [A5]); (try simp only [A6]); refine rK ?_; exact Al.o⟩, ⟨by (try simp only [A5]); (try simp only [A6]); refine rK ?_; exact Kd.Rm A2.o (fun _ hk => hk.1)⟩, ⟨by (try simp only [A5]); (try simp only [A6]); refine bK ?_; exact A3.o⟩, ⟨by (try simp only [A5]); (try simp only [A6]); refine bK ?_; exact A4.o⟩, ⟨vT HK⟩, ⟨vB HB⟩⟩
          ·rw [if_neg c36] at H
           have BI := beq_eq_false_iff_ne.mpr c36
           have BJ := bne_iff_ne.mpr c36
           by_cases c62 : (wrap64 (Ab + Am)) < 0
           ·rw [if_pos c62] at H
            have AN := decide_eq_true c62
            clear c62
            simp only [Option.some.injEq, Prod.mk.injEq] at H
            obtain ⟨rfl, rfl, rfl, rfl, rfl⟩ := H
            have Ez := Ag.o
            have F1 := Ac.o
            have EA := Ah.o
            have F2 := Ad.o
            have Cr := bc0 A8
            have Cs := bc1 A8
            have Dw := qz A8.o 0
            have Dx := qz A8.o 1
            have EB := Af.o
            have F3 := Ae.o
            have Ct := bc0 A4
            have Cu := bc1 A4
            have Cv := bc2 A4
            have Dy := qz A4.o 0
            have Dz := qz A4.o 1
            have DA := qz A4.o 2
            go_wp2
            refine bodyPost_ret (results_ct rfl _ _ Ap 27 #[.int .i64 3, .int .i64 A9, .int .i64 (wrap64 (Ab + Am))] (0, 0) _ rfl (by refine bK ?_; apply st3; refine bK ?_; exact A4.o) Try.underlying27 rfl (by kernel_rfl)) rfl ?_
            exact ⟨_, by first | rfl | (simp [eN, eS] <;> rfl) | (simp only [← Ar]; first | rfl | (simp [eN, eS] <;> rfl)) | (simp [*, eN, eS] <;> rfl), by refine rK ?_; exact Kd.Rm (rf (rf (rf (Kd.Ry Al.o A4.o (by decide))))) (fun _ hk => hk.1), (by first | exact (by refine rK ?_; exact Kd.Rm (rf (rf (rf (Kd.Ry A2.o A4.o (by decide))))) (fun _ hk => hk.1.1)) | (simp only [A5, A6]; exact (by refine rK ?_; exact Kd.Rm (rf (rf (rf (Kd.Ry A2.o A4.o (by decide))))) (fun _ hk => hk.1.1)))), vB HB, vT HK⟩
           ·rw [if_neg c62] at H
            have AN := decide_eq_false c62
            (try simp only [A5] at AN)
            (try simp only [A6] at AN)
            clear c62
            by_cases c68 : (wrap64 (Ab + Am)) ≥ a0_1
            ·rw [if_pos c68] at H
             have AO := decide_eq_true c68
             clear c68
             simp only [Option.some.injEq, Prod.mk.injEq] at H
             obtain ⟨rfl, rfl, rfl, rfl, rfl⟩ := H
             have EC := Ag.o
             have F4 := Ac.o
             have ED := Ah.o
             have F5 := Ad.o
             have Cw := bc0 A8
             have Cx := bc1 A8
             have DB := qz A8.o 0
             have DC := qz A8.o 1
             have EE := Ae.o
             have F6 := Af.o
             have Cy := bc0 A3
             have Cz := bc1 A3
             have CA := bc2 A3
             have DD := qz A3.o 0
             have DE := qz A3.o 1
             have DF := qz A3.o 2
             have CB := bc0 A4
             have CC := bc1 A4
             have CD := bc2 A4
             have DG := qz A4.o 0
             have DH := qz A4.o 1
             have DI := qz A4.o 2
             go_wp2
             refine bodyPost_ret (results_ct rfl _ _ Ap 27 #[.int .i64 3, .int .i64 A9, .int .i64 (wrap64 (Ab + Am))] (0, 0) _ rfl (by refine bK ?_; apply st3; refine bK ?_; exact A4.o) Try.underlying27 rfl (by kernel_rfl)) rfl ?_
             exact ⟨_, by first | rfl | (simp [eN, eS] <;> rfl) | (simp only [← Ar]; first | rfl | (simp [eN, eS] <;> rfl)) | (simp [*, eN, eS] <;> rfl), by refine rK ?_; exact Kd.Rm (rf (rf (rf (Kd.Ry Al.o A4.o (by decide))))) (fun _ hk => hk.1), (by first | exact (by refine rK ?_; exact Kd.Rm (rf (rf (rf (Kd.Ry A2.o A4.o (by decide))))) (fun _ hk => hk.1.1)) | (simp only [A5, A6]; exact (by refine rK ?_; exact Kd.Rm (rf (rf (rf (Kd.Ry A2.o A4.o (by decide))))) (fun _ hk => hk.1.1)))), vB HB, vT HK⟩
            ·rw [if_neg c68] at H
             have AO := decide_eq_false c68
             (try simp only [A5] at AO)
             (try simp only [A6] at AO)
             clear c68
             have H' := Z.m H
             clear H
             have EF := Ag.o
             have F7 := Ac.o
             have EG := Ah.o
             have F8 := Ad.o
             have CE := bc0 A8
             have CF := bc1 A8
             have DJ := qz A8.o 0
             have DK := qz A8.o 1
             have EH := Ae.o
             have F9 := Af.o
             have CG := bc0 A3
             have CH := bc1 A3
             have CI := bc2 A3
             have DL := qz A3.o 0
             have DM := qz A3.o 1
             have DN := qz A3.o 2
             go_wp2
             (try simp only [← A5, ← A6])
             go_roundg kj15
             case measure => have := Bw.o; have := AS.o; omega
             case rel => exact ⟨(wrap64 (Ab + Am)), (As), (wrap64 (-Am)), (wrap64 (A9 + 1)), (Aa), (Ai), (Aj), (Ak), (by first | rfl | (simp; done) | (simp [*]; done)), (by first | rfl | (simp; done) | (simp [*]; done)), (by first | rfl | (simp; done) | (simp [*]; done)), H', ⟨by have := Bw.o; have := AS.o; omega⟩, ⟨by (try simp only [A5]); (try simp only [A6]); refine rK ?_; exact Al.o⟩, ⟨by (try simp only [A5]); (try simp only [A6]); refine rK ?_; exact Kd.Rm A2.o (fun _ hk => hk.1)⟩, ⟨by (try simp only [A5]); (try simp only [A6]); refine bK ?_; exact A3.o⟩, ⟨by (try simp only [A5]); (try simp only [A6]); refine bK ?_; exact A4.o⟩, ⟨vT HK⟩, ⟨vB HB⟩⟩
       ·replace c15 := Bool.eq_false_iff.mpr c15
        subst c15
        have H1 : (some (2, A9, Ab, As, A0)) = some (r1, r2, r3, r4, r5) := by rw [if_neg (show ¬ (false = true) by decide)] at H; exact H
        clear H
        have H := H1
        clear H1
        simp only [Option.some.injEq, Prod.mk.injEq] at H
        obtain ⟨rfl, rfl, rfl, rfl, rfl⟩ := H
        have EI := Ae.o
        have Fa := Af.o
        have CJ := bc0 A3
        have CK := bc1 A3
        have CL := bc2 A3
        have DO := qz A3.o 0
        have DP := qz A3.o 1
        have DQ := qz A3.o 2
        go_wp2_with (first | ((with_reducible refine gu (b := .append) (xs := #[.tmp 28, .tmp 30]) rfl ?_); at_builtin; refine Kd.R_append (Kd.int .i64) (w0 := w0) w0.heap.size rfl (.tmp 28) (.tmp 30) 43 3 (.int .i64 0) 8 rfl Try.underlying43 info3 rfl (by decide) (by omega) u8 AG A7 [.int .i64 A7] (fun k_ => (P0_2_ k_ ∨ w.heap.size ≤ k_)) (fun _ => False) rfl rfl ?aP (fun _ hk => hk.elim) ?aF ?aO ?aB ?aS ?aL ?_; (case aP => exact rfl); (case aB => exact (vB HB)); (case aF => exact (fun k_ hk => (.inr (Nat.le_trans (by first | exact HK.o.1 | exact (show Kept w _ (fun k_ => P0_2_ k_) from vT HK).1) hk)))); (case aO => exact (vR Al)); (case aS => exact (below_size (vB HB))); (case aL => have := Bl.o; omega); intro BR Ft ho hb hg hat; rw [← AK.o] at ho; have An := Z.m (ho); replace A2 := Z.m (Kd.Ro (vR A2) (Kd.Rt (vR Al)) (by decide) hg); replace A3 := Z.m (qg (g := Av) (o := .cells #[.int .i64 a0_0, .int .i64 a0_1, .slice Bz A0.length Ax] 32 (0, 0)) (vK A3) hg (Kd.R_ne Al.o A3.o (by decide))); replace A4 := Z.m (qg (g := Ap) (o := .cells #[.int .i64 Ai, .int .i64 Aj, .int .i64 Ak] 27 (0, 0)) (vK A4) hg (Kd.R_ne Al.o A4.o (by decide))); replace HB := Z.m (hb); replace HK := Z.m (Kept.of_grown (S := (fun k_ => P0_2_ k_)) hg (vT HK) (fun k_ e_ => (Al.o.1 k_ e_))); clear Al; clear ho hb hg hat; have CM := bc0 A3; have CN := bc1 A3; have CO := bc2 A3; have DR := qz A3.o 0; have DS := qz A3.o 1; have DT := qz A3.o 2; have p277 : 0 ≤ ((A7) : Int) := ofD; have q277 : (A7) < (A0.length : Int) := ofD; obtain ⟨Ao, e277, Ay, Az⟩ := at_T89 (Kd.RrZ A2.o).2.2 (A7) p277 q277; cases e277; replace p277 := eq_true p277; replace q277 := eq_true q277) | ((with_reducible refine gq (N := 12) rfl ?_); refine be (N := 12) (cs := #[.int .i64 0, .int .i64 0]) (t := 89) ?_; intro Aq hg Fu hbox hb; have A8 := Z.m (hbox); have BA := Z.m ((by rw [hg]; exact (by first | exact HK.o.1 | exact (show Kept w _ (fun k_ => P0_2_ k_) from vT HK).1) : w.heap.size ≤ Aq)); have AH := gW (w := w0) HB hg; have Ac := neL A3 hg; have Ag := neG A3 hg; have Ad := neL A4 hg; have Ah := neG A4 hg; replace A2 := Z.m (Kd.Rb (Kd.R_elderB (vR A2) Aq (Nat.le_of_eq hg.symm)) hb); replace An := Z.m (Kd.Rb (vR An) hb); replace A3 := kB A3 hb; replace A4 := kB A4 hb; replace HK := Z.m (Kept.below (S := (fun k_ => P0_2_ k_)) (vT HK) hb); replace HB := bB HB hb; clear hb hbox hg; have EJ := Ag.o; have Fb := Ac.o; have EK := Ah.o; have Fc := Ad.o; have CP := bc0 A8; have CQ := bc1 A8; have DU := qz A8.o 0; have DV := qz A8.o 1) | ((with_reducible refine gc (f := 73) rfl ?_); refine goesL_ (some 40) rfl rfl Try.func73 (by kernel_rfl) rfl #[.agg #[.int .i64 ((rd_T89 A0 (A7)).f0), .int .i64 ((rd_T89 A0 (A7)).f1)], .int .i64 AA] rfl (by (try simp only [List.map_toArray, List.map_cons, List.map_nil]); first | done | (simp only [Ar]; rfl) | rfl | (simp only [List.length_drop, List.length_take]; rfl)) ?_; (with_reducible refine (impl_GoesTo.calls k1 ((rd_T89 A0 (A7)).f0) ((rd_T89 A0 (A7)).f1) AA Am false _ Ef.o).mono ?_); rintro e Fv ⟨rfl, hb⟩; refine ⟨_, rfl, ?_⟩; replace A2 := Z.m (Kd.Rb (by refine rK ?_; exact (Kd.Rm (rf (rf (Kd.Rm A2.o (fun k_ hk => (⟨hk, hk.2⟩ : _ ∧ k_ ≠ Aq))))) (fun _ h_ => h_.1))) hb); replace An := Z.m (Kd.Rb (by refine rK ?_; exact (Kd.Rm (rf (rf (Kd.Ry An.o A8.o (by decide)))) (fun _ h_ => h_.1))) hb); replace A3 := Z.m (qb (g := Av) (o := .cells #[.int .i64 a0_0, .int .i64 a0_1, .slice (some Ao) A0.length Ax] 32 (0, 0)) (by refine bK ?_; (iterate 2 refine qF ?_ Ac); exact A3.o) hb); replace A4 := Z.m (qb (g := Ap) (o := .cells #[.int .i64 Ai, .int .i64 Aj, .int .i64 Ak] 27 (0, 0)) (by refine bK ?_; (iterate 2 refine qF ?_ Ad); exact A4.o) hb); replace A8 := Z.m (qb (g := Aq) (o := .cells #[.int .i64 ((rd_T89 A0 (A7)).f0), .int .i64 ((rd_T89 A0 (A7)).f1)] 89 (0, 0)) (by refine bK ?_; refine qp (cs := #[iV ((rd_T89 A0 (A7)).f0), iV 0]) ?_ 1 _ rfl; refine bK ?_; refine qp (cs := #[iV 0, iV 0]) ?_ 0 _ rfl; refine bK ?_; exact A8.o) hb); replace HK := Z.m (Kept.below (S := (fun k_ => P0_2_ k_)) (vT HK) hb); replace HB := bB HB hb; (try clear hb); (try clear Fj); (try clear hk); (try clear hi); have CR := bc0 A4; have CS := bc1 A4; have CT := bc2 A4; have DW := qz A4.o 0; have DX := qz A4.o 1; have DY := qz A4.o 2))
        refine bodyPost_ret (results_ct rfl _ _ Ap 27 #[.int .i64 2, .int .i64 A9, .int .i64 Ab] (0, 0) _ rfl (by refine bK ?_; apply st3; refine bK ?_; exact A4.o) Try.underlying27 rfl (by kernel_rfl)) rfl ?_
        exact ⟨_, by first | rfl | (simp [eN, eS] <;> rfl) | (simp only [← Ar]; first | rfl | (simp [eN, eS] <;> rfl)) | (simp [*, eN, eS] <;> rfl), by refine rK ?_; exact Kd.Rm (rf (rf (rf (Kd.Ry An.o A4.o (by decide))))) (fun _ hk => hk.1), (by first | exact (by refine rK ?_; exact Kd.Rm (rf (rf (rf (Kd.Ry A2.o A4.o (by decide))))) (fun _ hk => hk.1.1)) | (simp only [A5]; exact (by refine rK ?_; exact Kd.Rm (rf (rf (rf (Kd.Ry A2.o A4.o (by decide))))) (fun _ hk => hk.1.1)))), vB HB, vT HK⟩
      ·rw [if_neg c13] at H
       exact absurd H (by simp)
     ·rw [if_neg c12] at H
      exact absurd H (by simp)
    ·rw [if_neg c10] at H
     exact absurd H (by simp)
   ·rw [if_neg c9] at H
    have AT := decide_eq_false c9
    (try simp only [A5] at AT)
    (try simp only [A6] at AT)
    clear c9
    simp only [Option.some.injEq, Prod.mk.injEq] at H
    obtain ⟨rfl, rfl, rfl, rfl, rfl⟩ := H
    have EL := Ae.o
    have Fd := Af.o
    have CU := bc0 A3
    have CV := bc1 A3
    have CW := bc2 A3
    have DZ := qz A3.o 0
    have E0 := qz A3.o 1
    have E1 := qz A3.o 2
    have CX := bc0 A4
    have CY := bc1 A4
    have CZ := bc2 A4
    have E2 := qz A4.o 0
    have E3 := qz A4.o 1
    have E4 := qz A4.o 2
    go_wp2
    refine bodyPost_ret (results_ct rfl _ _ Ap 27 #[.int .i64 1, .int .i64 a0_0, .int .i64 Ab] (0, 0) _ rfl (by refine bK ?_; apply st3; refine bK ?_; exact A4.o) Try.underlying27 rfl (by kernel_rfl)) rfl ?_
    exact ⟨_, by first | rfl | (simp [eN, eS] <;> rfl) | (simp [*, eN, eS] <;> rfl), by refine rK ?_; exact Kd.Rm (rf (rf (rf (Kd.Ry Al.o A4.o (by decide))))) (fun _ hk => hk.1), (by first | exact (by refine rK ?_; exact Kd.Rm (rf (rf (rf (Kd.Ry A2.o A4.o (by decide))))) (fun _ hk => hk.1)) | (simp only [A5]; exact (by refine rK ?_; exact Kd.Rm (rf (rf (rf (Kd.Ry A2.o A4.o (by decide))))) (fun _ hk => hk.1)))), vB HB, vT HK⟩

end Go.Proofs.Ytoklfgjemfojgaa.PAll
