/- This text began as one that print.sh wrote for this claim (of the functions named below); it is this session's own: turned where Lean did not take the printed proof, where it was too long for a claim, or only in what it imports. -/
import Derived.Test.YtoklfgjemfojgaaHFnExactBoardAfterx0
namespace Go.Proofs.Ytoklfgjemfojgaa.PFnExactBoardAfter
open Go.RowKit Go.Proofs.YtoklfgjemfojgaaW.PrintWords Go.Proofs.YtoklfgjemfojgaaW.PrintLast Go.Proofs.YtoklfgjemfojgaaW.PrintMore
attribute [local go_sem] max2_int min2_int max_two min_two max_three min_three max_four min_four   -- for this text's walks alone
set_option linter.unusedVariables false
set_option linter.unusedSimpArgs false

/-! ### impl_besideOf: function 76 -/
mutual
def impl_besideOf.j0 : Nat → Int → List Int → Int → Int → Int → Int → List (S89) → Option (List Int)
 | 0, _, _, _, _, _, _, _ => none
 | k + 1, x1, x5, x6, x7, x302000, x302001, x302002 => if x7 > 0 then (if x5.length < 17592186044416 then (impl_besideOf.j1 k x1 (x5 ++ [wrap64 (x1 - 1)]) x6 x7 x302000 x302001 x302002) else (none)) else (impl_besideOf.j1 k x1 x5 x6 x7 x302000 x302001 x302002)
def impl_besideOf.j1 : Nat → Int → List Int → Int → Int → Int → Int → List (S89) → Option (List Int)
 | 0, _, _, _, _, _, _, _ => none
 | k + 1, x1, x5, x6, x7, x302000, x302001, x302002 => if (wrap64 (x7 + 1)) < x302001 then (if x5.length < 17592186044416 then ((some (x5 ++ [wrap64 (x1 + 1)] : List Int)).bind fun y311 => (if (wrap64 (x6 + 1)) < x302000 then (if y311.length < 17592186044416 then (some (y311 ++ [wrap64 (x1 + x302001)])) else (none)) else (some y311))) else (none)) else (if (wrap64 (x6 + 1)) < x302000 then (if x5.length < 17592186044416 then (some (x5 ++ [wrap64 (x1 + x302001)])) else (none)) else (some x5))
end
def impl_besideOf.f (k : Nat) (a0_0 : Int) (a0_1 : Int) (l0_2 : List (S89)) (a1 : Int) : Option (List Int) := (some (([] : List Int) : List Int)).bind fun y302 => (if a0_1 = 0 then (none) else (if (wrap64 (Int.tdiv a1 a0_1)) > 0 then (if y302.length < 17592186044416 then (impl_besideOf.j0 k a1 (y302 ++ [wrap64 (a1 - a0_1)]) (wrap64 (Int.tdiv a1 a0_1)) (Int.tmod a1 a0_1) a0_0 a0_1 l0_2) else (none)) else (impl_besideOf.j0 k a1 y302 (wrap64 (Int.tdiv a1 a0_1)) (Int.tmod a1 a0_1) a0_0 a0_1 l0_2)))
theorem impl_besideOf.mono_l : ∀ k, (∀ y0 y1 y2 y3 y4 y5 y6, LeO (impl_besideOf.j0 k y0 y1 y2 y3 y4 y5 y6) (impl_besideOf.j0 (k + 1) y0 y1 y2 y3 y4 y5 y6)) ∧ (∀ y0 y1 y2 y3 y4 y5 y6, LeO (impl_besideOf.j1 k y0 y1 y2 y3 y4 y5 y6) (impl_besideOf.j1 (k + 1) y0 y1 y2 y3 y4 y5 y6))
 | 0 => ⟨fun _ _ _ _ _ _ _ r h => by simp [impl_besideOf.j0] at h, fun _ _ _ _ _ _ _ r h => by simp [impl_besideOf.j1] at h⟩
 | k + 1 => by
  obtain ⟨ih0, ih1⟩ := impl_besideOf.mono_l k
  refine ⟨?_, ?_⟩
  ·intro y0 y1 y2 y3 y4 y5 y6
   unfold impl_besideOf.j0
   repeat' first
   | (with_reducible exact ih0 _ _ _ _ _ _ _)
   | (with_reducible exact ih1 _ _ _ _ _ _ _)
   | (with_reducible exact LeO.refl _)
   | (with_reducible exact LeO.none _)
   | (with_reducible refine LeO.ite ?_ ?_)
   | (with_reducible refine LeO.bind ?_ (fun _ => ?_))
   | exact ih0 _ _ _ _ _ _ _
   | exact ih1 _ _ _ _ _ _ _
   | exact LeO.none _
   | refine LeO.ite ?_ ?_
   | refine LeO.bind ?_ (fun _ => ?_)
  ·intro y0 y1 y2 y3 y4 y5 y6
   unfold impl_besideOf.j1
   repeat' first
   | (with_reducible exact ih0 _ _ _ _ _ _ _)
   | (with_reducible exact ih1 _ _ _ _ _ _ _)
   | (with_reducible exact LeO.refl _)
   | (with_reducible exact LeO.none _)
   | (with_reducible refine LeO.ite ?_ ?_)
   | (with_reducible refine LeO.bind ?_ (fun _ => ?_))
   | exact ih0 _ _ _ _ _ _ _
   | exact ih1 _ _ _ _ _ _ _
   | exact LeO.none _
   | refine LeO.ite ?_ ?_
   | refine LeO.bind ?_ (fun _ => ?_)
theorem impl_besideOf.mono : ∀ a0 a1 a2 a3 k, LeO (impl_besideOf.f k a0 a1 a2 a3) (impl_besideOf.f (k + 1) a0 a1 a2 a3) := by
 intro a0 a1 a2 a3 k
 obtain ⟨ih0, ih1⟩ := impl_besideOf.mono_l k
 unfold impl_besideOf.f
 repeat' first
   | (with_reducible exact ih0 _ _ _ _ _ _ _)
   | (with_reducible exact ih1 _ _ _ _ _ _ _)
   | (with_reducible exact LeO.refl _)
   | (with_reducible exact LeO.none _)
   | (with_reducible refine LeO.ite ?_ ?_)
   | (with_reducible refine LeO.bind ?_ (fun _ => ?_))
   | exact ih0 _ _ _ _ _ _ _
   | exact ih1 _ _ _ _ _ _ _
   | exact LeO.none _
   | refine LeO.ite ?_ ?_
   | refine LeO.bind ?_ (fun _ => ?_)
set_option maxHeartbeats 8000000 in
set_option maxRecDepth 100000 in
theorem impl_besideOf.calls (k : Nat) (a0_0 : Int) (a0_1 : Int) (A0_2 : Option Addr) (c0_2 : Nat) (l0_2 : List (S89)) (a1 : Int) (r : List Int) (w : World) (hr0_2 : Kd.C k89 w A0_2 l0_2.length l0_2) (hc0_2 : l0_2.length ≤ c0_2) (h : impl_besideOf.f k a0_0 a0_1 l0_2 a1 = some r) :
  Calls Try.prog 76 #[.agg #[.int .i64 a0_0, .int .i64 a0_1, .slice A0_2 l0_2.length c0_2], .int .i64 a1] w fun e w' => ∃ v0_ : Value, e = .returned (v0_) ∧ Kd.R (Kd.int .i64) 3 w' w.heap.size (fun _ => True) v0_ r ∧ Below w.heap.size w w' := by
 have hu32 := Try.underlying32
 have HR0_2 := Aside0.mk hr0_2
 have HC0_2 := Aside0.mk hc0_2
 clear hr0_2 hc0_2
 have HB := Aside0.mk (Below.refl w.heap.size w)
 have H : ((some (([] : List Int) : List Int)).bind fun y302 => (if a0_1 = 0 then (none) else (if (wrap64 (Int.tdiv a1 a0_1)) > 0 then (if y302.length < 17592186044416 then (impl_besideOf.j0 k a1 (y302 ++ [wrap64 (a1 - a0_1)]) (wrap64 (Int.tdiv a1 a0_1)) (Int.tmod a1 a0_1) a0_0 a0_1 l0_2) else (none)) else (impl_besideOf.j0 k a1 y302 (wrap64 (Int.tdiv a1 a0_1)) (Int.tmod a1 a0_1) a0_0 a0_1 l0_2)))) = some r := h
 clear h
 obtain ⟨y302, hy302⟩ : ∃ y_ : List Int, y_ = (([] : List Int)) := ⟨_, rfl⟩
 replace H : (if a0_1 = 0 then (none) else (if (wrap64 (Int.tdiv a1 a0_1)) > 0 then (if y302.length < 17592186044416 then (impl_besideOf.j0 k a1 (y302 ++ [wrap64 (a1 - a0_1)]) (wrap64 (Int.tdiv a1 a0_1)) (Int.tmod a1 a0_1) a0_0 a0_1 l0_2) else (none)) else (impl_besideOf.j0 k a1 y302 (wrap64 (Int.tdiv a1 a0_1)) (Int.tmod a1 a0_1) a0_0 a0_1 l0_2))) = some r := by first | (rw [hy302]; with_reducible exact H) | (have H2_ := (Option.bind_some _ _).symm.trans H; rw [hy302]; with_reducible exact H2_) | (have H2_ := (Option.bind_some _ _).symm.trans H; with_reducible exact H2_) | with_reducible exact H | (rw [hy302]; exact H) | exact H
 have Ny302 := Aside0.mk hy302
 clear hy302
 by_cases c3 : a0_1 = 0
 ·rw [if_pos c3] at H
  exact absurd H (by simp)
 ·rw [if_neg c3] at H
  have c3b0 := beq_eq_false_iff_ne.mpr c3
  have c3b1 := bne_iff_ne.mpr c3
  have HC4 := Aside0.mk H
  clear H
  go_enter Try.func76, Try.ntmps76
  go_upto_if 18 with (first | ((with_reducible refine gate_dst (N := 2) rfl ?_); refine box_ev (N := 2) (cs := #[.int .i64 a0_0, .int .i64 a0_1, .slice A0_2 l0_2.length c0_2]) (t := 32) ?_; intro gb301 hg w5 hbox hb; have BK301 := Aside0.mk (hbox); have GW301 := gW (w := w) HB hg; have GE301 := gW (w := w) HB hg; replace HB := bB HB hb; clear hb hbox hg) | ((with_reducible refine gate_dst (N := 8) rfl ?_); refine Kd.R_lit (Kd.int .i64) _ 3 ?hg (N := 8) ?hd (xs := ([] : List Int)) (inner := []) (ok := fun _ => True) (okp := fun _ => True) ?hr ?hp (fun _ hk => hk) trivial (Below.refl _ _) (Nat.le_refl _) (by simp) ?_; (case hd => rfl); (case hg => rfl); (case hr => first | (go_simp; done) | (go_simp; rfl)); (case hp => exact (Reps.none _ _)); intro v303 w6 ho7 hb hg_ hnew_; clear hg_ hnew_; (first | rw [← Ny302.out] at ho7 | (simp only [Int.reduceToNat] at ho7; rw [← Ny302.out] at ho7)); have HO304 := Aside0.mk (Kd.R_lower ho7 (below_size (viaB HB))); replace BK301 := kB BK301 hb; replace HB := bB HB hb; clear hb ho7; have hcz8_0 := bc0 BK301; have hcz8_1 := bc1 BK301; have hcz8_2 := bc2 BK301; have hfz8_0 := blk_frozen BK301.out 0; have hfz8_1 := blk_frozen BK301.out 1; have hfz8_2 := blk_frozen BK301.out 2))
  repeat (go_quiet (first | ((with_reducible refine gate_dst (N := 2) rfl ?_); refine box_ev (N := 2) (cs := #[.int .i64 a0_0, .int .i64 a0_1, .slice A0_2 l0_2.length c0_2]) (t := 32) ?_; intro gb301 hg w5 hbox hb; have BK301 := Aside0.mk (hbox); have GW301 := gW (w := w) HB hg; have GE301 := gW (w := w) HB hg; replace HB := bB HB hb; clear hb hbox hg) | ((with_reducible refine gate_dst (N := 8) rfl ?_); refine Kd.R_lit (Kd.int .i64) _ 3 ?hg (N := 8) ?hd (xs := ([] : List Int)) (inner := []) (ok := fun _ => True) (okp := fun _ => True) ?hr ?hp (fun _ hk => hk) trivial (Below.refl _ _) (Nat.le_refl _) (by simp) ?_; (case hd => rfl); (case hg => rfl); (case hr => first | (go_simp; done) | (go_simp; rfl)); (case hp => exact (Reps.none _ _)); intro v303 w6 ho7 hb hg_ hnew_; clear hg_ hnew_; (first | rw [← Ny302.out] at ho7 | (simp only [Int.reduceToNat] at ho7; rw [← Ny302.out] at ho7)); have HO304 := Aside0.mk (Kd.R_lower ho7 (below_size (viaB HB))); replace BK301 := kB BK301 hb; replace HB := bB HB hb; clear hb ho7; have hcz8_0 := bc0 BK301; have hcz8_1 := bc1 BK301; have hcz8_2 := bc2 BK301; have hfz8_0 := blk_frozen BK301.out 0; have hfz8_1 := blk_frozen BK301.out 1; have hfz8_2 := blk_frozen BK301.out 2)); go_upto_if 18 with (first | ((with_reducible refine gate_dst (N := 2) rfl ?_); refine box_ev (N := 2) (cs := #[.int .i64 a0_0, .int .i64 a0_1, .slice A0_2 l0_2.length c0_2]) (t := 32) ?_; intro gb301 hg w5 hbox hb; have BK301 := Aside0.mk (hbox); have GW301 := gW (w := w) HB hg; have GE301 := gW (w := w) HB hg; replace HB := bB HB hb; clear hb hbox hg) | ((with_reducible refine gate_dst (N := 8) rfl ?_); refine Kd.R_lit (Kd.int .i64) _ 3 ?hg (N := 8) ?hd (xs := ([] : List Int)) (inner := []) (ok := fun _ => True) (okp := fun _ => True) ?hr ?hp (fun _ hk => hk) trivial (Below.refl _ _) (Nat.le_refl _) (by simp) ?_; (case hd => rfl); (case hg => rfl); (case hr => first | (go_simp; done) | (go_simp; rfl)); (case hp => exact (Reps.none _ _)); intro v303 w6 ho7 hb hg_ hnew_; clear hg_ hnew_; (first | rw [← Ny302.out] at ho7 | (simp only [Int.reduceToNat] at ho7; rw [← Ny302.out] at ho7)); have HO304 := Aside0.mk (Kd.R_lower ho7 (below_size (viaB HB))); replace BK301 := kB BK301 hb; replace HB := bB HB hb; clear hb ho7; have hcz8_0 := bc0 BK301; have hcz8_1 := bc1 BK301; have hcz8_2 := bc2 BK301; have hfz8_0 := blk_frozen BK301.out 0; have hfz8_1 := blk_frozen BK301.out 1; have hfz8_2 := blk_frozen BK301.out 2)))
  (try simp only [Act.put, q1, q2, q3])
  go_cut [5] (fun v5 wc => ∃ (kq : Nat) (x5_3 : List Int), Aside0 (impl_besideOf.j0 kq a1 x5_3 (wrap64 (Int.tdiv a1 a0_1)) (Int.tmod a1 a0_1) a0_0 a0_1 l0_2 = some r) ∧ Aside0 (kq ≤ k) ∧ Aside0 (Kd.R (Kd.int .i64) 3 wc w.heap.size (fun _ => True) v5 x5_3) ∧ Aside0 (wc.heap[gb301]? = some (.cells #[.int .i64 a0_0, .int .i64 a0_1, (.slice A0_2 l0_2.length c0_2)] 32 (0, 0))) ∧ Aside0 (Below w.heap.size w wc))
  case first =>
   have H := HC4.out
   clear HC4
   by_cases c9 : (wrap64 (Int.tdiv a1 a0_1)) > 0
   ·rw [if_pos c9] at H
    have c9b0 := decide_eq_true c9
    clear c9
    (first | rw [c9b0] | (simp only [i64_w, i32_w]; rw [c9b0]) | skip)
    by_cases c10 : y302.length < 17592186044416
    ·rw [if_pos c10] at H
     have LMc10 := Aside0.mk c10
     clear c10
     obtain ⟨y305, hy305⟩ : ∃ y_ : List Int, y_ = (y302 ++ [wrap64 (a1 - a0_1)]) := ⟨_, rfl⟩
     replace H : (impl_besideOf.j0 k a1 y305 (wrap64 (Int.tdiv a1 a0_1)) (Int.tmod a1 a0_1) a0_0 a0_1 l0_2) = some r := by first | (rw [hy305]; with_reducible exact H) | (have H2_ := (Option.bind_some _ _).symm.trans H; rw [hy305]; with_reducible exact H2_) | (have H2_ := (Option.bind_some _ _).symm.trans H; with_reducible exact H2_) | with_reducible exact H | (rw [hy305]; exact H) | exact H
     have Ny305 := Aside0.mk hy305
     clear hy305
     have H' := Aside0.mk H
     clear H
     have hcz11_0 := bc0 BK301
     have hcz11_1 := bc1 BK301
     have hcz11_2 := bc2 BK301
     have hfz11_0 := blk_frozen BK301.out 0
     have hfz11_1 := blk_frozen BK301.out 1
     have hfz11_2 := blk_frozen BK301.out 2
     go_wp2_with (first | ((with_reducible refine gate_builtin (b := .append) (xs := #[.tmp 19, .tmp 24]) rfl ?_); at_builtin; refine Kd.R_append (Kd.int .i64) (w0 := w) w.heap.size rfl (.tmp 19) (.tmp 24) 43 3 (.int .i64 0) 8 rfl Try.underlying43 info3 rfl (by decide) (by omega) v303 y302 (wrap64 (a1 - a0_1)) [.int .i64 (wrap64 (a1 - a0_1))] (fun _ => True) (fun _ => False) rfl rfl ?aP (fun _ hk => hk.elim) ?aF ?aO ?aB ?aS ?aL ?_; (case aP => exact rfl); (case aB => exact (viaB HB)); (case aF => exact (fun _ _ => trivial)); (case aO => exact (viaR HO304)); (case aS => exact (below_size (viaB HB))); (case aL => have := LMc10.out; omega); intro v306 w12 ho hb hg hat; rw [← Ny305.out] at ho; have HO307 := Aside0.mk (ho); replace BK301 := Aside0.mk (blk_grown (g := gb301) (o := .cells #[.int .i64 a0_0, .int .i64 a0_1, .slice A0_2 l0_2.length c0_2] 32 (0, 0)) (viaK BK301) hg (Kd.R_ne HO304.out BK301.out (by decide))); replace HB := Aside0.mk (hb); clear HO304; clear ho hb hg hat))
     repeat (go_quiet (first | ((with_reducible refine gate_builtin (b := .append) (xs := #[.tmp 19, .tmp 24]) rfl ?_); at_builtin; refine Kd.R_append (Kd.int .i64) (w0 := w) w.heap.size rfl (.tmp 19) (.tmp 24) 43 3 (.int .i64 0) 8 rfl Try.underlying43 info3 rfl (by decide) (by omega) v303 y302 (wrap64 (a1 - a0_1)) [.int .i64 (wrap64 (a1 - a0_1))] (fun _ => True) (fun _ => False) rfl rfl ?aP (fun _ hk => hk.elim) ?aF ?aO ?aB ?aS ?aL ?_; (case aP => exact rfl); (case aB => exact (viaB HB)); (case aF => exact (fun _ _ => trivial)); (case aO => exact (viaR HO304)); (case aS => exact (below_size (viaB HB))); (case aL => have := LMc10.out; omega); intro v306 w12 ho hb hg hat; rw [← Ny305.out] at ho; have HO307 := Aside0.mk (ho); replace BK301 := Aside0.mk (blk_grown (g := gb301) (o := .cells #[.int .i64 a0_0, .int .i64 a0_1, .slice A0_2 l0_2.length c0_2] 32 (0, 0)) (viaK BK301) hg (Kd.R_ne HO304.out BK301.out (by decide))); replace HB := Aside0.mk (hb); clear HO304; clear ho hb hg hat)); try go_wp2_with (first | ((with_reducible refine gate_builtin (b := .append) (xs := #[.tmp 19, .tmp 24]) rfl ?_); at_builtin; refine Kd.R_append (Kd.int .i64) (w0 := w) w.heap.size rfl (.tmp 19) (.tmp 24) 43 3 (.int .i64 0) 8 rfl Try.underlying43 info3 rfl (by decide) (by omega) v303 y302 (wrap64 (a1 - a0_1)) [.int .i64 (wrap64 (a1 - a0_1))] (fun _ => True) (fun _ => False) rfl rfl ?aP (fun _ hk => hk.elim) ?aF ?aO ?aB ?aS ?aL ?_; (case aP => exact rfl); (case aB => exact (viaB HB)); (case aF => exact (fun _ _ => trivial)); (case aO => exact (viaR HO304)); (case aS => exact (below_size (viaB HB))); (case aL => have := LMc10.out; omega); intro v306 w12 ho hb hg hat; rw [← Ny305.out] at ho; have HO307 := Aside0.mk (ho); replace BK301 := Aside0.mk (blk_grown (g := gb301) (o := .cells #[.int .i64 a0_0, .int .i64 a0_1, .slice A0_2 l0_2.length c0_2] 32 (0, 0)) (viaK BK301) hg (Kd.R_ne HO304.out BK301.out (by decide))); replace HB := Aside0.mk (hb); clear HO304; clear ho hb hg hat)))
     go_meet
     case rel => exact ⟨_, (y305), H', ⟨by first | omega | exact Nat.le_refl _⟩, ⟨viaR HO307⟩, ⟨viaK BK301⟩, ⟨viaB HB⟩⟩
    ·rw [if_neg c10] at H
     exact absurd H (by simp)
   ·rw [if_neg c9] at H
    have c9b0 := decide_eq_false c9
    clear c9
    (first | rw [c9b0] | (simp only [i64_w, i32_w]; rw [c9b0]) | skip)
    have H' := Aside0.mk H
    clear H
    go_wp2
    repeat (go_quiet (fail); try go_wp2)
    go_meet
    case rel => exact ⟨_, (y302), H', ⟨by first | omega | exact Nat.le_refl _⟩, ⟨viaR HO304⟩, ⟨viaK BK301⟩, ⟨viaB HB⟩⟩
  case rest =>
   clear HC4
   (try clear c1); (try clear p2); (try clear c3); (try clear c3b0); (try clear c3b1); (try clear p6); (try clear c7); (try clear c9); (try clear c9b0); (try clear c10)
   (try clear hcz11_0 hcz11_1 hcz11_2); (try clear hcz8_0 hcz8_1 hcz8_2); (try clear hfz11_0 hfz11_1 hfz11_2); (try clear hfz8_0 hfz8_1 hfz8_2)
   obtain ⟨kq, x5_3, HA, HJ3, HO_5, BK301, HB⟩ := hcut
   cases kq with
   | zero => exact absurd HA.out (by simp [impl_besideOf.j0])
   | succ kj3 =>
    have H := HA.out
    clear HA
    simp only [impl_besideOf.j0] at H
    have HC13 := Aside0.mk H
    clear H
    go_upto_if 27 with (fail)
    repeat (go_quiet (fail); go_upto_if 27 with (fail))
    go_cut [5] (fun v5 wc => ∃ (kq : Nat) (x5_12 : List Int), Aside0 (impl_besideOf.j1 kq a1 x5_12 (wrap64 (Int.tdiv a1 a0_1)) (Int.tmod a1 a0_1) a0_0 a0_1 l0_2 = some r) ∧ Aside0 (kq ≤ kj3) ∧ Aside0 (Kd.R (Kd.int .i64) 3 wc w.heap.size (fun _ => True) v5 x5_12) ∧ Aside0 (wc.heap[gb301]? = some (.cells #[.int .i64 a0_0, .int .i64 a0_1, (.slice A0_2 l0_2.length c0_2)] 32 (0, 0))) ∧ Aside0 (Below w.heap.size w wc))
    case first =>
     have H := HC13.out
     clear HC13
     by_cases c14 : (Int.tmod a1 a0_1) > 0
     ·rw [if_pos c14] at H
      have c14b0 := decide_eq_true c14
      clear c14
      (first | rw [c14b0] | (simp only [i64_w, i32_w]; rw [c14b0]) | skip)
      by_cases c15 : x5_3.length < 17592186044416
      ·rw [if_pos c15] at H
       have LMc15 := Aside0.mk c15
       clear c15
       obtain ⟨y308, hy308⟩ : ∃ y_ : List Int, y_ = (x5_3 ++ [wrap64 (a1 - 1)]) := ⟨_, rfl⟩
       replace H : (impl_besideOf.j1 kj3 a1 y308 (wrap64 (Int.tdiv a1 a0_1)) (Int.tmod a1 a0_1) a0_0 a0_1 l0_2) = some r := by first | (rw [hy308]; with_reducible exact H) | (have H2_ := (Option.bind_some _ _).symm.trans H; rw [hy308]; with_reducible exact H2_) | (have H2_ := (Option.bind_some _ _).symm.trans H; with_reducible exact H2_) | with_reducible exact H | (rw [hy308]; exact H) | exact H
       have Ny308 := Aside0.mk hy308
       clear hy308
       have H' := Aside0.mk H
       clear H
       go_wp2_with (first | ((with_reducible refine gate_builtin (b := .append) (xs := #[.tmp 28, .tmp 31]) rfl ?_); at_builtin; refine Kd.R_append (Kd.int .i64) (w0 := w) w.heap.size rfl (.tmp 28) (.tmp 31) 43 3 (.int .i64 0) 8 rfl Try.underlying43 info3 rfl (by decide) (by omega) u5 x5_3 (wrap64 (a1 - 1)) [.int .i64 (wrap64 (a1 - 1))] (fun _ => True) (fun _ => False) rfl rfl ?aP (fun _ hk => hk.elim) ?aF ?aO ?aB ?aS ?aL ?_; (case aP => exact rfl); (case aB => exact (viaB HB)); (case aF => exact (fun _ _ => trivial)); (case aO => exact (viaR HO_5)); (case aS => exact (below_size (viaB HB))); (case aL => have := LMc15.out; omega); intro v309 w16 ho hb hg hat; rw [← Ny308.out] at ho; have HO310 := Aside0.mk (ho); replace BK301 := Aside0.mk (blk_grown (g := gb301) (o := .cells #[.int .i64 a0_0, .int .i64 a0_1, .slice A0_2 l0_2.length c0_2] 32 (0, 0)) (viaK BK301) hg (Kd.R_ne HO_5.out BK301.out (by decide))); replace HB := Aside0.mk (hb); clear HO_5; clear ho hb hg hat))
       repeat (go_quiet (first | ((with_reducible refine gate_builtin (b := .append) (xs := #[.tmp 28, .tmp 31]) rfl ?_); at_builtin; refine Kd.R_append (Kd.int .i64) (w0 := w) w.heap.size rfl (.tmp 28) (.tmp 31) 43 3 (.int .i64 0) 8 rfl Try.underlying43 info3 rfl (by decide) (by omega) u5 x5_3 (wrap64 (a1 - 1)) [.int .i64 (wrap64 (a1 - 1))] (fun _ => True) (fun _ => False) rfl rfl ?aP (fun _ hk => hk.elim) ?aF ?aO ?aB ?aS ?aL ?_; (case aP => exact rfl); (case aB => exact (viaB HB)); (case aF => exact (fun _ _ => trivial)); (case aO => exact (viaR HO_5)); (case aS => exact (below_size (viaB HB))); (case aL => have := LMc15.out; omega); intro v309 w16 ho hb hg hat; rw [← Ny308.out] at ho; have HO310 := Aside0.mk (ho); replace BK301 := Aside0.mk (blk_grown (g := gb301) (o := .cells #[.int .i64 a0_0, .int .i64 a0_1, .slice A0_2 l0_2.length c0_2] 32 (0, 0)) (viaK BK301) hg (Kd.R_ne HO_5.out BK301.out (by decide))); replace HB := Aside0.mk (hb); clear HO_5; clear ho hb hg hat)); try go_wp2_with (first | ((with_reducible refine gate_builtin (b := .append) (xs := #[.tmp 28, .tmp 31]) rfl ?_); at_builtin; refine Kd.R_append (Kd.int .i64) (w0 := w) w.heap.size rfl (.tmp 28) (.tmp 31) 43 3 (.int .i64 0) 8 rfl Try.underlying43 info3 rfl (by decide) (by omega) u5 x5_3 (wrap64 (a1 - 1)) [.int .i64 (wrap64 (a1 - 1))] (fun _ => True) (fun _ => False) rfl rfl ?aP (fun _ hk => hk.elim) ?aF ?aO ?aB ?aS ?aL ?_; (case aP => exact rfl); (case aB => exact (viaB HB)); (case aF => exact (fun _ _ => trivial)); (case aO => exact (viaR HO_5)); (case aS => exact (below_size (viaB HB))); (case aL => have := LMc15.out; omega); intro v309 w16 ho hb hg hat; rw [← Ny308.out] at ho; have HO310 := Aside0.mk (ho); replace BK301 := Aside0.mk (blk_grown (g := gb301) (o := .cells #[.int .i64 a0_0, .int .i64 a0_1, .slice A0_2 l0_2.length c0_2] 32 (0, 0)) (viaK BK301) hg (Kd.R_ne HO_5.out BK301.out (by decide))); replace HB := Aside0.mk (hb); clear HO_5; clear ho hb hg hat)))
       go_meet
       case rel => exact ⟨_, (y308), H', ⟨by have := HJ3.out; first | omega | exact Nat.le_refl _⟩, ⟨viaR HO310⟩, ⟨viaK BK301⟩, ⟨viaB HB⟩⟩
      ·rw [if_neg c15] at H
       exact absurd H (by simp)
     ·rw [if_neg c14] at H
      have c14b0 := decide_eq_false c14
      clear c14
      (first | rw [c14b0] | (simp only [i64_w, i32_w]; rw [c14b0]) | skip)
      have H' := Aside0.mk H
      clear H
      go_wp2
      repeat (go_quiet (fail); try go_wp2)
      go_meet
      case rel => exact ⟨_, (x5_3), H', ⟨by have := HJ3.out; first | omega | exact Nat.le_refl _⟩, ⟨viaR HO_5⟩, ⟨viaK BK301⟩, ⟨viaB HB⟩⟩
    case rest =>
     clear HC13
     (try clear c1); (try clear p2); (try clear c3); (try clear c3b0); (try clear c3b1); (try clear p6); (try clear c7); (try clear c9); (try clear c9b0); (try clear c10); (try clear c14); (try clear c14b0); (try clear c15)
     (try clear hcz11_0 hcz11_1 hcz11_2); (try clear hcz8_0 hcz8_1 hcz8_2); (try clear hfz11_0 hfz11_1 hfz11_2); (try clear hfz8_0 hfz8_1 hfz8_2)
     (try clear p2); (try clear p6)
     obtain ⟨kq, x5_12, HA, HJ12, HO_5, BK301, HB⟩ := hcut
     cases kq with
     | zero => exact absurd HA.out (by simp [impl_besideOf.j1])
     | succ kj12 =>
      have H := HA.out
      clear HA
      simp only [impl_besideOf.j1] at H
      by_cases c17 : (wrap64 ((Int.tmod a1 a0_1) + 1)) < a0_1
      ·rw [if_pos c17] at H
       have c17b0 := decide_eq_true c17
       clear c17
       by_cases c18 : x5_12.length < 17592186044416
       ·rw [if_pos c18] at H
        have LMc18 := Aside0.mk c18
        clear c18
        obtain ⟨y311, hy311⟩ : ∃ y_ : List Int, y_ = (x5_12 ++ [wrap64 (a1 + 1)]) := ⟨_, rfl⟩
        replace H : (if (wrap64 ((wrap64 (Int.tdiv a1 a0_1)) + 1)) < a0_0 then (if y311.length < 17592186044416 then (some (y311 ++ [wrap64 (a1 + a0_1)])) else (none)) else (some y311)) = some r := by first | (rw [hy311]; with_reducible exact H) | (have H2_ := (Option.bind_some _ _).symm.trans H; rw [hy311]; with_reducible exact H2_) | (have H2_ := (Option.bind_some _ _).symm.trans H; with_reducible exact H2_) | with_reducible exact H | (rw [hy311]; exact H) | exact H
        have Ny311 := Aside0.mk hy311
        clear hy311
        by_cases c19 : (wrap64 ((wrap64 (Int.tdiv a1 a0_1)) + 1)) < a0_0
        ·rw [if_pos c19] at H
         have c19b0 := decide_eq_true c19
         clear c19
         by_cases c20 : y311.length < 17592186044416
         ·rw [if_pos c20] at H
          have LMc20 := Aside0.mk c20
          clear c20
          obtain ⟨y314, hy314⟩ : ∃ y_ : List Int, y_ = (y311 ++ [wrap64 (a1 + a0_1)]) := ⟨_, rfl⟩
          replace H : (some y314) = some r := by first | (rw [hy314]; with_reducible exact H) | (have H2_ := (Option.bind_some _ _).symm.trans H; rw [hy314]; with_reducible exact H2_) | (have H2_ := (Option.bind_some _ _).symm.trans H; with_reducible exact H2_) | with_reducible exact H | (rw [hy314]; exact H) | exact H
          have Ny314 := Aside0.mk hy314
          clear hy314
          obtain rfl := Option.some.inj H
          have hcz21_0 := bc0 BK301
          have hcz21_1 := bc1 BK301
          have hcz21_2 := bc2 BK301
          have hfz21_0 := blk_frozen BK301.out 0
          have hfz21_1 := blk_frozen BK301.out 1
          have hfz21_2 := blk_frozen BK301.out 2
          go_wp2_with (first | ((with_reducible refine gate_builtin (b := .append) (xs := #[.tmp 38, .tmp 41]) rfl ?_); at_builtin; refine Kd.R_append (Kd.int .i64) (w0 := w) w.heap.size rfl (.tmp 38) (.tmp 41) 43 3 (.int .i64 0) 8 rfl Try.underlying43 info3 rfl (by decide) (by omega) u5 x5_12 (wrap64 (a1 + 1)) [.int .i64 (wrap64 (a1 + 1))] (fun _ => True) (fun _ => False) rfl rfl ?aP (fun _ hk => hk.elim) ?aF ?aO ?aB ?aS ?aL ?_; (case aP => exact rfl); (case aB => exact (viaB HB)); (case aF => exact (fun _ _ => trivial)); (case aO => exact (viaR HO_5)); (case aS => exact (below_size (viaB HB))); (case aL => have := LMc18.out; omega); intro v312 w22 ho hb hg hat; rw [← Ny311.out] at ho; have HO313 := Aside0.mk (ho); replace BK301 := Aside0.mk (blk_grown (g := gb301) (o := .cells #[.int .i64 a0_0, .int .i64 a0_1, .slice A0_2 l0_2.length c0_2] 32 (0, 0)) (viaK BK301) hg (Kd.R_ne HO_5.out BK301.out (by decide))); replace HB := Aside0.mk (hb); clear HO_5; clear ho hb hg hat; have hcz23_0 := bc0 BK301; have hcz23_1 := bc1 BK301; have hcz23_2 := bc2 BK301; have hfz23_0 := blk_frozen BK301.out 0; have hfz23_1 := blk_frozen BK301.out 1; have hfz23_2 := blk_frozen BK301.out 2) | ((with_reducible refine gate_builtin (b := .append) (xs := #[.tmp 48, .tmp 53]) rfl ?_); at_builtin; refine Kd.R_append (Kd.int .i64) (w0 := w) w.heap.size rfl (.tmp 48) (.tmp 53) 43 3 (.int .i64 0) 8 rfl Try.underlying43 info3 rfl (by decide) (by omega) v312 y311 (wrap64 (a1 + a0_1)) [.int .i64 (wrap64 (a1 + a0_1))] (fun _ => True) (fun _ => False) rfl rfl ?aP (fun _ hk => hk.elim) ?aF ?aO ?aB ?aS ?aL ?_; (case aP => exact rfl); (case aB => exact (viaB HB)); (case aF => exact (fun _ _ => trivial)); (case aO => exact (viaR HO313)); (case aS => exact (below_size (viaB HB))); (case aL => have := LMc20.out; omega); intro v315 w24 ho hb hg hat; rw [← Ny314.out] at ho; have HO316 := Aside0.mk (ho); replace BK301 := Aside0.mk (blk_grown (g := gb301) (o := .cells #[.int .i64 a0_0, .int .i64 a0_1, .slice A0_2 l0_2.length c0_2] 32 (0, 0)) (viaK BK301) hg (Kd.R_ne HO313.out BK301.out (by decide))); replace HB := Aside0.mk (hb); clear HO313; clear ho hb hg hat))
          repeat (go_quiet (first | ((with_reducible refine gate_builtin (b := .append) (xs := #[.tmp 38, .tmp 41]) rfl ?_); at_builtin; refine Kd.R_append (Kd.int .i64) (w0 := w) w.heap.size rfl (.tmp 38) (.tmp 41) 43 3 (.int .i64 0) 8 rfl Try.underlying43 info3 rfl (by decide) (by omega) u5 x5_12 (wrap64 (a1 + 1)) [.int .i64 (wrap64 (a1 + 1))] (fun _ => True) (fun _ => False) rfl rfl ?aP (fun _ hk => hk.elim) ?aF ?aO ?aB ?aS ?aL ?_; (case aP => exact rfl); (case aB => exact (viaB HB)); (case aF => exact (fun _ _ => trivial)); (case aO => exact (viaR HO_5)); (case aS => exact (below_size (viaB HB))); (case aL => have := LMc18.out; omega); intro v312 w22 ho hb hg hat; rw [← Ny311.out] at ho; have HO313 := Aside0.mk (ho); replace BK301 := Aside0.mk (blk_grown (g := gb301) (o := .cells #[.int .i64 a0_0, .int .i64 a0_1, .slice A0_2 l0_2.length c0_2] 32 (0, 0)) (viaK BK301) hg (Kd.R_ne HO_5.out BK301.out (by decide))); replace HB := Aside0.mk (hb); clear HO_5; clear ho hb hg hat; have hcz23_0 := bc0 BK301; have hcz23_1 := bc1 BK301; have hcz23_2 := bc2 BK301; have hfz23_0 := blk_frozen BK301.out 0; have hfz23_1 := blk_frozen BK301.out 1; have hfz23_2 := blk_frozen BK301.out 2) | ((with_reducible refine gate_builtin (b := .append) (xs := #[.tmp 48, .tmp 53]) rfl ?_); at_builtin; refine Kd.R_append (Kd.int .i64) (w0 := w) w.heap.size rfl (.tmp 48) (.tmp 53) 43 3 (.int .i64 0) 8 rfl Try.underlying43 info3 rfl (by decide) (by omega) v312 y311 (wrap64 (a1 + a0_1)) [.int .i64 (wrap64 (a1 + a0_1))] (fun _ => True) (fun _ => False) rfl rfl ?aP (fun _ hk => hk.elim) ?aF ?aO ?aB ?aS ?aL ?_; (case aP => exact rfl); (case aB => exact (viaB HB)); (case aF => exact (fun _ _ => trivial)); (case aO => exact (viaR HO313)); (case aS => exact (below_size (viaB HB))); (case aL => have := LMc20.out; omega); intro v315 w24 ho hb hg hat; rw [← Ny314.out] at ho; have HO316 := Aside0.mk (ho); replace BK301 := Aside0.mk (blk_grown (g := gb301) (o := .cells #[.int .i64 a0_0, .int .i64 a0_1, .slice A0_2 l0_2.length c0_2] 32 (0, 0)) (viaK BK301) hg (Kd.R_ne HO313.out BK301.out (by decide))); replace HB := Aside0.mk (hb); clear HO313; clear ho hb hg hat)); try go_wp2_with (first | ((with_reducible refine gate_builtin (b := .append) (xs := #[.tmp 38, .tmp 41]) rfl ?_); at_builtin; refine Kd.R_append (Kd.int .i64) (w0 := w) w.heap.size rfl (.tmp 38) (.tmp 41) 43 3 (.int .i64 0) 8 rfl Try.underlying43 info3 rfl (by decide) (by omega) u5 x5_12 (wrap64 (a1 + 1)) [.int .i64 (wrap64 (a1 + 1))] (fun _ => True) (fun _ => False) rfl rfl ?aP (fun _ hk => hk.elim) ?aF ?aO ?aB ?aS ?aL ?_; (case aP => exact rfl); (case aB => exact (viaB HB)); (case aF => exact (fun _ _ => trivial)); (case aO => exact (viaR HO_5)); (case aS => exact (below_size (viaB HB))); (case aL => have := LMc18.out; omega); intro v312 w22 ho hb hg hat; rw [← Ny311.out] at ho; have HO313 := Aside0.mk (ho); replace BK301 := Aside0.mk (blk_grown (g := gb301) (o := .cells #[.int .i64 a0_0, .int .i64 a0_1, .slice A0_2 l0_2.length c0_2] 32 (0, 0)) (viaK BK301) hg (Kd.R_ne HO_5.out BK301.out (by decide))); replace HB := Aside0.mk (hb); clear HO_5; clear ho hb hg hat; have hcz23_0 := bc0 BK301; have hcz23_1 := bc1 BK301; have hcz23_2 := bc2 BK301; have hfz23_0 := blk_frozen BK301.out 0; have hfz23_1 := blk_frozen BK301.out 1; have hfz23_2 := blk_frozen BK301.out 2) | ((with_reducible refine gate_builtin (b := .append) (xs := #[.tmp 48, .tmp 53]) rfl ?_); at_builtin; refine Kd.R_append (Kd.int .i64) (w0 := w) w.heap.size rfl (.tmp 48) (.tmp 53) 43 3 (.int .i64 0) 8 rfl Try.underlying43 info3 rfl (by decide) (by omega) v312 y311 (wrap64 (a1 + a0_1)) [.int .i64 (wrap64 (a1 + a0_1))] (fun _ => True) (fun _ => False) rfl rfl ?aP (fun _ hk => hk.elim) ?aF ?aO ?aB ?aS ?aL ?_; (case aP => exact rfl); (case aB => exact (viaB HB)); (case aF => exact (fun _ _ => trivial)); (case aO => exact (viaR HO313)); (case aS => exact (below_size (viaB HB))); (case aL => have := LMc20.out; omega); intro v315 w24 ho hb hg hat; rw [← Ny314.out] at ho; have HO316 := Aside0.mk (ho); replace BK301 := Aside0.mk (blk_grown (g := gb301) (o := .cells #[.int .i64 a0_0, .int .i64 a0_1, .slice A0_2 l0_2.length c0_2] 32 (0, 0)) (viaK BK301) hg (Kd.R_ne HO313.out BK301.out (by decide))); replace HB := Aside0.mk (hb); clear HO313; clear ho hb hg hat)))
          go_ret
          exact ⟨_, by first | rfl | (simp [errW_none, errW_some] <;> rfl) | (simp [*, errW_none, errW_some] <;> rfl), viaR HO316, viaB HB⟩
         ·rw [if_neg c20] at H
          exact absurd H (by simp)
        ·rw [if_neg c19] at H
         have c19b0 := decide_eq_false c19
         clear c19
         obtain rfl := Option.some.inj H
         have hcz25_0 := bc0 BK301
         have hcz25_1 := bc1 BK301
         have hcz25_2 := bc2 BK301
         have hfz25_0 := blk_frozen BK301.out 0
         have hfz25_1 := blk_frozen BK301.out 1
         have hfz25_2 := blk_frozen BK301.out 2
         go_wp2_with (first | ((with_reducible refine gate_builtin (b := .append) (xs := #[.tmp 38, .tmp 41]) rfl ?_); at_builtin; refine Kd.R_append (Kd.int .i64) (w0 := w) w.heap.size rfl (.tmp 38) (.tmp 41) 43 3 (.int .i64 0) 8 rfl Try.underlying43 info3 rfl (by decide) (by omega) u5 x5_12 (wrap64 (a1 + 1)) [.int .i64 (wrap64 (a1 + 1))] (fun _ => True) (fun _ => False) rfl rfl ?aP (fun _ hk => hk.elim) ?aF ?aO ?aB ?aS ?aL ?_; (case aP => exact rfl); (case aB => exact (viaB HB)); (case aF => exact (fun _ _ => trivial)); (case aO => exact (viaR HO_5)); (case aS => exact (below_size (viaB HB))); (case aL => have := LMc18.out; omega); intro v312 w26 ho hb hg hat; rw [← Ny311.out] at ho; have HO313 := Aside0.mk (ho); replace BK301 := Aside0.mk (blk_grown (g := gb301) (o := .cells #[.int .i64 a0_0, .int .i64 a0_1, .slice A0_2 l0_2.length c0_2] 32 (0, 0)) (viaK BK301) hg (Kd.R_ne HO_5.out BK301.out (by decide))); replace HB := Aside0.mk (hb); clear HO_5; clear ho hb hg hat; have hcz27_0 := bc0 BK301; have hcz27_1 := bc1 BK301; have hcz27_2 := bc2 BK301; have hfz27_0 := blk_frozen BK301.out 0; have hfz27_1 := blk_frozen BK301.out 1; have hfz27_2 := blk_frozen BK301.out 2))
         repeat (go_quiet (first | ((with_reducible refine gate_builtin (b := .append) (xs := #[.tmp 38, .tmp 41]) rfl ?_); at_builtin; refine Kd.R_append (Kd.int .i64) (w0 := w) w.heap.size rfl (.tmp 38) (.tmp 41) 43 3 (.int .i64 0) 8 rfl Try.underlying43 info3 rfl (by decide) (by omega) u5 x5_12 (wrap64 (a1 + 1)) [.int .i64 (wrap64 (a1 + 1))] (fun _ => True) (fun _ => False) rfl rfl ?aP (fun _ hk => hk.elim) ?aF ?aO ?aB ?aS ?aL ?_; (case aP => exact rfl); (case aB => exact (viaB HB)); (case aF => exact (fun _ _ => trivial)); (case aO => exact (viaR HO_5)); (case aS => exact (below_size (viaB HB))); (case aL => have := LMc18.out; omega); intro v312 w26 ho hb hg hat; rw [← Ny311.out] at ho; have HO313 := Aside0.mk (ho); replace BK301 := Aside0.mk (blk_grown (g := gb301) (o := .cells #[.int .i64 a0_0, .int .i64 a0_1, .slice A0_2 l0_2.length c0_2] 32 (0, 0)) (viaK BK301) hg (Kd.R_ne HO_5.out BK301.out (by decide))); replace HB := Aside0.mk (hb); clear HO_5; clear ho hb hg hat; have hcz27_0 := bc0 BK301; have hcz27_1 := bc1 BK301; have hcz27_2 := bc2 BK301; have hfz27_0 := blk_frozen BK301.out 0; have hfz27_1 := blk_frozen BK301.out 1; have hfz27_2 := blk_frozen BK301.out 2)); try go_wp2_with (first | ((with_reducible refine gate_builtin (b := .append) (xs := #[.tmp 38, .tmp 41]) rfl ?_); at_builtin; refine Kd.R_append (Kd.int .i64) (w0 := w) w.heap.size rfl (.tmp 38) (.tmp 41) 43 3 (.int .i64 0) 8 rfl Try.underlying43 info3 rfl (by decide) (by omega) u5 x5_12 (wrap64 (a1 + 1)) [.int .i64 (wrap64 (a1 + 1))] (fun _ => True) (fun _ => False) rfl rfl ?aP (fun _ hk => hk.elim) ?aF ?aO ?aB ?aS ?aL ?_; (case aP => exact rfl); (case aB => exact (viaB HB)); (case aF => exact (fun _ _ => trivial)); (case aO => exact (viaR HO_5)); (case aS => exact (below_size (viaB HB))); (case aL => have := LMc18.out; omega); intro v312 w26 ho hb hg hat; rw [← Ny311.out] at ho; have HO313 := Aside0.mk (ho); replace BK301 := Aside0.mk (blk_grown (g := gb301) (o := .cells #[.int .i64 a0_0, .int .i64 a0_1, .slice A0_2 l0_2.length c0_2] 32 (0, 0)) (viaK BK301) hg (Kd.R_ne HO_5.out BK301.out (by decide))); replace HB := Aside0.mk (hb); clear HO_5; clear ho hb hg hat; have hcz27_0 := bc0 BK301; have hcz27_1 := bc1 BK301; have hcz27_2 := bc2 BK301; have hfz27_0 := blk_frozen BK301.out 0; have hfz27_1 := blk_frozen BK301.out 1; have hfz27_2 := blk_frozen BK301.out 2)))
         go_ret
         exact ⟨_, by first | rfl | (simp [errW_none, errW_some] <;> rfl) | (simp [*, errW_none, errW_some] <;> rfl), viaR HO313, viaB HB⟩
       ·rw [if_neg c18] at H
        exact absurd H (by simp)
      ·rw [if_neg c17] at H
       have c17b0 := decide_eq_false c17
       clear c17
       by_cases c28 : (wrap64 ((wrap64 (Int.tdiv a1 a0_1)) + 1)) < a0_0
       ·rw [if_pos c28] at H
        have c28b0 := decide_eq_true c28
        clear c28
        by_cases c29 : x5_12.length < 17592186044416
        ·rw [if_pos c29] at H
         have LMc29 := Aside0.mk c29
         clear c29
         obtain ⟨y317, hy317⟩ : ∃ y_ : List Int, y_ = (x5_12 ++ [wrap64 (a1 + a0_1)]) := ⟨_, rfl⟩
         replace H : (some y317) = some r := by first | (rw [hy317]; with_reducible exact H) | (have H2_ := (Option.bind_some _ _).symm.trans H; rw [hy317]; with_reducible exact H2_) | (have H2_ := (Option.bind_some _ _).symm.trans H; with_reducible exact H2_) | with_reducible exact H | (rw [hy317]; exact H) | exact H
         have Ny317 := Aside0.mk hy317
         clear hy317
         obtain rfl := Option.some.inj H
         have hcz30_0 := bc0 BK301
         have hcz30_1 := bc1 BK301
         have hcz30_2 := bc2 BK301
         have hfz30_0 := blk_frozen BK301.out 0
         have hfz30_1 := blk_frozen BK301.out 1
         have hfz30_2 := blk_frozen BK301.out 2
         go_wp2_with (first | ((with_reducible refine gate_builtin (b := .append) (xs := #[.tmp 48, .tmp 53]) rfl ?_); at_builtin; refine Kd.R_append (Kd.int .i64) (w0 := w) w.heap.size rfl (.tmp 48) (.tmp 53) 43 3 (.int .i64 0) 8 rfl Try.underlying43 info3 rfl (by decide) (by omega) u5 x5_12 (wrap64 (a1 + a0_1)) [.int .i64 (wrap64 (a1 + a0_1))] (fun _ => True) (fun _ => False) rfl rfl ?aP (fun _ hk => hk.elim) ?aF ?aO ?aB ?aS ?aL ?_; (case aP => exact rfl); (case aB => exact (viaB HB)); (case aF => exact (fun _ _ => trivial)); (case aO => exact (viaR HO_5)); (case aS => exact (below_size (viaB HB))); (case aL => have := LMc29.out; omega); intro v318 w31 ho hb hg hat; rw [← Ny317.out] at ho; have HO319 := Aside0.mk (ho); replace BK301 := Aside0.mk (blk_grown (g := gb301) (o := .cells #[.int .i64 a0_0, .int .i64 a0_1, .slice A0_2 l0_2.length c0_2] 32 (0, 0)) (viaK BK301) hg (Kd.R_ne HO_5.out BK301.out (by decide))); replace HB := Aside0.mk (hb); clear HO_5; clear ho hb hg hat))
         repeat (go_quiet (first | ((with_reducible refine gate_builtin (b := .append) (xs := #[.tmp 48, .tmp 53]) rfl ?_); at_builtin; refine Kd.R_append (Kd.int .i64) (w0 := w) w.heap.size rfl (.tmp 48) (.tmp 53) 43 3 (.int .i64 0) 8 rfl Try.underlying43 info3 rfl (by decide) (by omega) u5 x5_12 (wrap64 (a1 + a0_1)) [.int .i64 (wrap64 (a1 + a0_1))] (fun _ => True) (fun _ => False) rfl rfl ?aP (fun _ hk => hk.elim) ?aF ?aO ?aB ?aS ?aL ?_; (case aP => exact rfl); (case aB => exact (viaB HB)); (case aF => exact (fun _ _ => trivial)); (case aO => exact (viaR HO_5)); (case aS => exact (below_size (viaB HB))); (case aL => have := LMc29.out; omega); intro v318 w31 ho hb hg hat; rw [← Ny317.out] at ho; have HO319 := Aside0.mk (ho); replace BK301 := Aside0.mk (blk_grown (g := gb301) (o := .cells #[.int .i64 a0_0, .int .i64 a0_1, .slice A0_2 l0_2.length c0_2] 32 (0, 0)) (viaK BK301) hg (Kd.R_ne HO_5.out BK301.out (by decide))); replace HB := Aside0.mk (hb); clear HO_5; clear ho hb hg hat)); try go_wp2_with (first | ((with_reducible refine gate_builtin (b := .append) (xs := #[.tmp 48, .tmp 53]) rfl ?_); at_builtin; refine Kd.R_append (Kd.int .i64) (w0 := w) w.heap.size rfl (.tmp 48) (.tmp 53) 43 3 (.int .i64 0) 8 rfl Try.underlying43 info3 rfl (by decide) (by omega) u5 x5_12 (wrap64 (a1 + a0_1)) [.int .i64 (wrap64 (a1 + a0_1))] (fun _ => True) (fun _ => False) rfl rfl ?aP (fun _ hk => hk.elim) ?aF ?aO ?aB ?aS ?aL ?_; (case aP => exact rfl); (case aB => exact (viaB HB)); (case aF => exact (fun _ _ => trivial)); (case aO => exact (viaR HO_5)); (case aS => exact (below_size (viaB HB))); (case aL => have := LMc29.out; omega); intro v318 w31 ho hb hg hat; rw [← Ny317.out] at ho; have HO319 := Aside0.mk (ho); replace BK301 := Aside0.mk (blk_grown (g := gb301) (o := .cells #[.int .i64 a0_0, .int .i64 a0_1, .slice A0_2 l0_2.length c0_2] 32 (0, 0)) (viaK BK301) hg (Kd.R_ne HO_5.out BK301.out (by decide))); replace HB := Aside0.mk (hb); clear HO_5; clear ho hb hg hat)))
         go_ret
         exact ⟨_, by first | rfl | (simp [errW_none, errW_some] <;> rfl) | (simp [*, errW_none, errW_some] <;> rfl), viaR HO319, viaB HB⟩
        ·rw [if_neg c29] at H
         exact absurd H (by simp)
       ·rw [if_neg c28] at H
        have c28b0 := decide_eq_false c28
        clear c28
        obtain rfl := Option.some.inj H
        have hcz32_0 := bc0 BK301
        have hcz32_1 := bc1 BK301
        have hcz32_2 := bc2 BK301
        have hfz32_0 := blk_frozen BK301.out 0
        have hfz32_1 := blk_frozen BK301.out 1
        have hfz32_2 := blk_frozen BK301.out 2
        go_wp2
        repeat (go_quiet (fail); try go_wp2)
        go_ret
        exact ⟨_, by first | rfl | (simp [errW_none, errW_some] <;> rfl) | (simp [*, errW_none, errW_some] <;> rfl), viaR HO_5, viaB HB⟩

end Go.Proofs.Ytoklfgjemfojgaa.PFnExactBoardAfter
