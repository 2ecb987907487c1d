/- This text began as one that print.sh wrote for this seat (of the functions named below); it is this session's own: turned where Lean did not take the printed proof, where it was too long for a claim, or only in what it imports. -/
import Derived.Test.YtoklfgjemfojgaaG0
import Derived.Test.YtoklfgjemfojgaaG2
import Derived.Test.YtoklfgjemfojgaaG12
namespace Go.Proofs.Ytoklfgjemfojgaa.PAll
open Go.RowKit Go.Proofs.YtoklfgjemfojgaaW.PrintWords Go.Proofs.YtoklfgjemfojgaaW.PrintLast Go.Proofs.YtoklfgjemfojgaaW.PrintMore
attribute [local go_sem] max2_int min2_int max_two min_two max_three min_three max_four min_four   -- for this text's walks alone
set_option linter.unusedVariables false
set_option linter.unusedSimpArgs false

attribute [local go_sem high] eqA89
/-! ### impl_DifferentCells: function 70 -/
mutual
def impl_DifferentCells.j0 : Nat → Bool → Int → Int → List (S89) → Int → Int → List (S89) → Option (List Int × Bool)
 | 0, _, _, _, _, _, _, _ => none
 | k + 1, x29, x868000, x868001, x868002, x869000, x869001, x869002 => if x29 = true then (some (([] : List Int), false)) else (impl_DifferentCells.l0 k (([] : List Int)) (x868002.length : Int) 0 x868000 x868001 x868002 x869000 x869001 x869002)
def impl_DifferentCells.l0 : Nat → List Int → Int → Int → Int → Int → List (S89) → Int → Int → List (S89) → Option (List Int × Bool)
 | 0, _, _, _, _, _, _, _, _, _ => none
 | k + 1, x6, x33, x34, x868000, x868001, x868002, x869000, x869001, x869002 => if x34 < x33 then (if 0 ≤ x34 then (if x34 < (x868002.length : Int) then (if x34 < (x869002.length : Int) then (if (!(((rd_T89 x868002 x34).f0) == ((rd_T89 x869002 x34).f0)) || (!(((rd_T89 x868002 x34).f1) == ((rd_T89 x869002 x34).f1)))) = true then (if x6.length < 17592186044416 then (impl_DifferentCells.l0 k (x6 ++ [x34]) x33 (wrap64 (x34 + 1)) x868000 x868001 x868002 x869000 x869001 x869002) else (none)) else (impl_DifferentCells.l0 k x6 x33 (wrap64 (x34 + 1)) x868000 x868001 x868002 x869000 x869001 x869002)) else (none)) else (none)) else (none)) else (some (x6, true))
end
def impl_DifferentCells.f (k : Nat) (a0_0 : Int) (a0_1 : Int) (l0_2 : List (S89)) (a1_0 : Int) (a1_1 : Int) (l1_2 : List (S89)) : Option (List Int × Bool) := (impl_IsBoard.f k a0_0 a0_1 l0_2).bind fun t869 => (if t869 = true then ((impl_IsBoard.f k a1_0 a1_1 l1_2).bind fun t870 => (if t870 = true then (if a0_0 = a1_0 then (impl_DifferentCells.j0 k (a0_1 != a1_1) a0_0 a0_1 l0_2 a1_0 a1_1 l1_2) else (impl_DifferentCells.j0 k true a0_0 a0_1 l0_2 a1_0 a1_1 l1_2)) else (impl_DifferentCells.j0 k true a0_0 a0_1 l0_2 a1_0 a1_1 l1_2))) else (impl_DifferentCells.j0 k true a0_0 a0_1 l0_2 a1_0 a1_1 l1_2))
theorem impl_DifferentCells.mono_l : ∀ k, (∀ y0 y1 y2 y3 y4 y5 y6, LeO (impl_DifferentCells.j0 k y0 y1 y2 y3 y4 y5 y6) (impl_DifferentCells.j0 (k + 1) y0 y1 y2 y3 y4 y5 y6)) ∧ (∀ y0 y1 y2 y3 y4 y5 y6 y7 y8, LeO (impl_DifferentCells.l0 k y0 y1 y2 y3 y4 y5 y6 y7 y8) (impl_DifferentCells.l0 (k + 1) y0 y1 y2 y3 y4 y5 y6 y7 y8))
 | 0 => ⟨fun _ _ _ _ _ _ _ r h => by simp [impl_DifferentCells.j0] at h, fun _ _ _ _ _ _ _ _ _ r h => by simp [impl_DifferentCells.l0] at h⟩
 | k + 1 => by
  obtain ⟨ih0, ih1⟩ := impl_DifferentCells.mono_l k
  refine ⟨?_, ?_⟩
  ·intro y0 y1 y2 y3 y4 y5 y6
   unfold impl_DifferentCells.j0
   repeat' first | (with_reducible first | exact ih0 _ _ _ _ _ _ _ | exact ih1 _ _ _ _ _ _ _ _ _ | exact impl_IsBoard.mono _ _ _ _ | exact LeO.refl _ | exact LeO.none _ | refine LeO.ite ?_ ?_ | refine LeO.bind ?_ (fun _ => ?_)) | exact ih0 _ _ _ _ _ _ _ | exact ih1 _ _ _ _ _ _ _ _ _ | exact impl_IsBoard.mono _ _ _ _ | exact LeO.none _ | refine LeO.ite ?_ ?_ | refine LeO.bind ?_ (fun _ => ?_)
  ·intro y0 y1 y2 y3 y4 y5 y6 y7 y8
   unfold impl_DifferentCells.l0
   repeat' first | (with_reducible first | exact ih0 _ _ _ _ _ _ _ | exact ih1 _ _ _ _ _ _ _ _ _ | exact impl_IsBoard.mono _ _ _ _ | exact LeO.refl _ | exact LeO.none _ | refine LeO.ite ?_ ?_ | refine LeO.bind ?_ (fun _ => ?_)) | exact ih0 _ _ _ _ _ _ _ | exact ih1 _ _ _ _ _ _ _ _ _ | exact impl_IsBoard.mono _ _ _ _ | exact LeO.none _ | refine LeO.ite ?_ ?_ | refine LeO.bind ?_ (fun _ => ?_)
theorem impl_DifferentCells.mono : ∀ a0 a1 a2 a3 a4 a5 k, LeO (impl_DifferentCells.f k a0 a1 a2 a3 a4 a5) (impl_DifferentCells.f (k + 1) a0 a1 a2 a3 a4 a5) := by
 intro a0 a1 a2 a3 a4 a5 k
 obtain ⟨ih0, ih1⟩ := impl_DifferentCells.mono_l k
 unfold impl_DifferentCells.f
 repeat' first | (with_reducible first | exact ih0 _ _ _ _ _ _ _ | exact ih1 _ _ _ _ _ _ _ _ _ | exact impl_IsBoard.mono _ _ _ _ | exact LeO.refl _ | exact LeO.none _ | refine LeO.ite ?_ ?_ | refine LeO.bind ?_ (fun _ => ?_)) | exact ih0 _ _ _ _ _ _ _ | exact ih1 _ _ _ _ _ _ _ _ _ | exact impl_IsBoard.mono _ _ _ _ | exact LeO.none _ | refine LeO.ite ?_ ?_ | refine LeO.bind ?_ (fun _ => ?_)
set_option maxHeartbeats 8000000 in
set_option maxRecDepth 100000 in
theorem impl_DifferentCells.calls (k : Nat) (a0_0 : Int) (a0_1 : Int) (A0_2 : Option Addr) (c0_2 : Nat) (l0_2 : List (S89)) (a1_0 : Int) (a1_1 : Int) (A1_2 : Option Addr) (c1_2 : Nat) (l1_2 : List (S89)) (r1 : List Int) (r2 : Bool) (w : World) (hr0_2 : Kd.C k89 w A0_2 l0_2.length l0_2) (hc0_2 : l0_2.length ≤ c0_2) (hr1_2 : Kd.C k89 w A1_2 l1_2.length l1_2) (hc1_2 : l1_2.length ≤ c1_2) (h : impl_DifferentCells.f k a0_0 a0_1 l0_2 a1_0 a1_1 l1_2 = some (r1, r2)) :
  Calls Try.prog 70 #[.agg #[.int .i64 a0_0, .int .i64 a0_1, .slice A0_2 l0_2.length c0_2], .agg #[.int .i64 a1_0, .int .i64 a1_1, .slice A1_2 l1_2.length c1_2]] w fun e w' => ∃ v0_ : Value, e = .returned (.tuple #[v0_, .bool r2]) ∧ Kd.R (Kd.int .i64) 3 w' w.heap.size (fun _ => True) v0_ r1 ∧ Below w.heap.size w w' := by
 have hu32 := Try.underlying32
 have hu89 := Try.underlying89
 have HR0_2 := Aside0.mk hr0_2
 have HC0_2 := Aside0.mk hc0_2
 clear hr0_2 hc0_2
 have HR1_2 := Aside0.mk hr1_2
 have HC1_2 := Aside0.mk hc1_2
 clear hr1_2 hc1_2
 have HB := Aside0.mk (Below.refl w.heap.size w)
 have H : ((impl_IsBoard.f k a0_0 a0_1 l0_2).bind fun t869 => (if t869 = true then ((impl_IsBoard.f k a1_0 a1_1 l1_2).bind fun t870 => (if t870 = true then (if a0_0 = a1_0 then (impl_DifferentCells.j0 k (a0_1 != a1_1) a0_0 a0_1 l0_2 a1_0 a1_1 l1_2) else (impl_DifferentCells.j0 k true a0_0 a0_1 l0_2 a1_0 a1_1 l1_2)) else (impl_DifferentCells.j0 k true a0_0 a0_1 l0_2 a1_0 a1_1 l1_2))) else (impl_DifferentCells.j0 k true a0_0 a0_1 l0_2 a1_0 a1_1 l1_2))) = some (r1, r2) := h
 clear h
 have HC3 := Aside0.mk H
 clear H
 go_enter Try.func70, Try.ntmps70
 go_upto_region 1 with (first | ((with_reducible refine gate_dst (N := 2) rfl ?_); refine box_ev (N := 2) (cs := #[.int .i64 a0_0, .int .i64 a0_1, .slice A0_2 l0_2.length c0_2]) (t := 32) ?_; intro gb867 hg w4 hbox hb; have BK867 := Aside0.mk (hbox); have GW867 := gW (w := w) HB hg; have GE867 := gW (w := w) HB hg; replace HB := bB HB hb; clear hb hbox hg) | ((with_reducible refine gate_dst (N := 3) rfl ?_); refine box_ev (N := 3) (cs := #[.int .i64 a1_0, .int .i64 a1_1, .slice A1_2 l1_2.length c1_2]) (t := 32) ?_; intro gb868 hg w5 hbox hb; have BK868 := Aside0.mk (hbox); have GW868 := gW (w := w) HB hg; have GE868 := gW (w := w) HB hg; have NB867_868 := neL BK867 hg; have NB868_867 := neG BK867 hg; replace BK867 := kB BK867 hb; replace HB := bB HB hb; clear hb hbox hg))
 repeat (go_quiet (first | ((with_reducible refine gate_dst (N := 2) rfl ?_); refine box_ev (N := 2) (cs := #[.int .i64 a0_0, .int .i64 a0_1, .slice A0_2 l0_2.length c0_2]) (t := 32) ?_; intro gb867 hg w4 hbox hb; have BK867 := Aside0.mk (hbox); have GW867 := gW (w := w) HB hg; have GE867 := gW (w := w) HB hg; replace HB := bB HB hb; clear hb hbox hg) | ((with_reducible refine gate_dst (N := 3) rfl ?_); refine box_ev (N := 3) (cs := #[.int .i64 a1_0, .int .i64 a1_1, .slice A1_2 l1_2.length c1_2]) (t := 32) ?_; intro gb868 hg w5 hbox hb; have BK868 := Aside0.mk (hbox); have GW868 := gW (w := w) HB hg; have GE868 := gW (w := w) HB hg; have NB867_868 := neL BK867 hg; have NB868_867 := neG BK867 hg; replace BK867 := kB BK867 hb; replace HB := bB HB hb; clear hb hbox hg)); go_upto_region 1 with (first | ((with_reducible refine gate_dst (N := 2) rfl ?_); refine box_ev (N := 2) (cs := #[.int .i64 a0_0, .int .i64 a0_1, .slice A0_2 l0_2.length c0_2]) (t := 32) ?_; intro gb867 hg w4 hbox hb; have BK867 := Aside0.mk (hbox); have GW867 := gW (w := w) HB hg; have GE867 := gW (w := w) HB hg; replace HB := bB HB hb; clear hb hbox hg) | ((with_reducible refine gate_dst (N := 3) rfl ?_); refine box_ev (N := 3) (cs := #[.int .i64 a1_0, .int .i64 a1_1, .slice A1_2 l1_2.length c1_2]) (t := 32) ?_; intro gb868 hg w5 hbox hb; have BK868 := Aside0.mk (hbox); have GW868 := gW (w := w) HB hg; have GE868 := gW (w := w) HB hg; have NB867_868 := neL BK867 hg; have NB868_867 := neG BK867 hg; replace BK867 := kB BK867 hb; replace HB := bB HB hb; clear hb hbox hg)))
 (try simp only [Act.put, q1, q2, q3])
 go_cut [29] (fun v29 wc => ∃ (kq : Nat) (x29_2 : Bool), v29 = .bool x29_2 ∧ Aside0 (impl_DifferentCells.j0 kq x29_2 a0_0 a0_1 l0_2 a1_0 a1_1 l1_2 = some (r1, r2)) ∧ Aside0 (kq ≤ k) ∧ Aside0 (wc.heap[gb867]? = some (.cells #[.int .i64 a0_0, .int .i64 a0_1, (.slice A0_2 l0_2.length c0_2)] 32 (0, 0))) ∧ Aside0 (wc.heap[gb868]? = some (.cells #[.int .i64 a1_0, .int .i64 a1_1, (.slice A1_2 l1_2.length c1_2)] 32 (0, 0))) ∧ Aside0 (Below w.heap.size w wc))
 case first =>
  have H := HC3.out
  clear HC3
  replace H := Option.bind_eq_some_iff.mp H
  obtain ⟨t869, A60, H⟩ := H
  replace H : (if t869 = true then ((impl_IsBoard.f k a1_0 a1_1 l1_2).bind fun t870 => (if t870 = true then (if a0_0 = a1_0 then (impl_DifferentCells.j0 k (a0_1 != a1_1) a0_0 a0_1 l0_2 a1_0 a1_1 l1_2) else (impl_DifferentCells.j0 k true a0_0 a0_1 l0_2 a1_0 a1_1 l1_2)) else (impl_DifferentCells.j0 k true a0_0 a0_1 l0_2 a1_0 a1_1 l1_2))) else (impl_DifferentCells.j0 k true a0_0 a0_1 l0_2 a1_0 a1_1 l1_2)) = some (r1, r2) := H
  have A6 := Aside0.mk A60
  clear A60
  by_cases c7 : t869 = true
  ·subst c7
   have H1 : ((impl_IsBoard.f k a1_0 a1_1 l1_2).bind fun t870 => (if t870 = true then (if a0_0 = a1_0 then (impl_DifferentCells.j0 k (a0_1 != a1_1) a0_0 a0_1 l0_2 a1_0 a1_1 l1_2) else (impl_DifferentCells.j0 k true a0_0 a0_1 l0_2 a1_0 a1_1 l1_2)) else (impl_DifferentCells.j0 k true a0_0 a0_1 l0_2 a1_0 a1_1 l1_2))) = some (r1, r2) := by rw [if_pos rfl] at H; exact H
   clear H
   have H := H1
   clear H1
   replace H := Option.bind_eq_some_iff.mp H
   obtain ⟨t870, A80, H⟩ := H
   replace H : (if t870 = true then (if a0_0 = a1_0 then (impl_DifferentCells.j0 k (a0_1 != a1_1) a0_0 a0_1 l0_2 a1_0 a1_1 l1_2) else (impl_DifferentCells.j0 k true a0_0 a0_1 l0_2 a1_0 a1_1 l1_2)) else (impl_DifferentCells.j0 k true a0_0 a0_1 l0_2 a1_0 a1_1 l1_2)) = some (r1, r2) := H
   have A8 := Aside0.mk A80
   clear A80
   by_cases c9 : t870 = true
   ·subst c9
    have H1 : (if a0_0 = a1_0 then (impl_DifferentCells.j0 k (a0_1 != a1_1) a0_0 a0_1 l0_2 a1_0 a1_1 l1_2) else (impl_DifferentCells.j0 k true a0_0 a0_1 l0_2 a1_0 a1_1 l1_2)) = some (r1, r2) := by rw [if_pos rfl] at H; exact H
    clear H
    have H := H1
    clear H1
    by_cases c10 : a0_0 = a1_0
    ·rw [if_pos c10] at H
     have c10b0 := beq_iff_eq.mpr c10
     have c10b1 := bne_eq_false_iff_eq.mpr c10
     clear c10
     (first | rw [c10b0] | (simp only [i64_w, i32_w]; rw [c10b0]) | skip)
     have H' := Aside0.mk H
     clear H
     have hnb11 := NB867_868.out
     have hnc11 := NB868_867.out
     have hcz12_0 := bc0 BK867
     have hcz12_1 := bc1 BK867
     have hcz12_2 := bc2 BK867
     have hfz12_0 := blk_frozen BK867.out 0
     have hfz12_1 := blk_frozen BK867.out 1
     have hfz12_2 := blk_frozen BK867.out 2
     go_wp2_with (first | (go_at_call 59; (with_reducible refine (impl_IsBoard.calls k a0_0 a0_1 _ _ l0_2 true _ ?side1 ?side2 A6.out).mono ?_); (case side1 => repeat (first | exact (Kd.C_below HR0_2.out HB.out) | (with_reducible refine Kd.C_alloc ?_ _) | (with_reducible refine Kd.C_drewN ?_ _) | (with_reducible refine Kd.C_drew ?_))); (case side2 => exact HC0_2.out); rintro e w13 ⟨rfl, hb⟩; replace BK867 := kB BK867 hb; replace BK868 := kB BK868 hb; replace HB := bB HB hb; (try clear hb); (try clear hb2); (try clear hk); (try clear hi); have hcz14_0 := bc0 BK868; have hcz14_1 := bc1 BK868; have hcz14_2 := bc2 BK868; have hfz14_0 := blk_frozen BK868.out 0; have hfz14_1 := blk_frozen BK868.out 1; have hfz14_2 := blk_frozen BK868.out 2) | (go_at_call 59; (with_reducible refine (impl_IsBoard.calls k a1_0 a1_1 _ _ l1_2 true _ ?side1 ?side2 A8.out).mono ?_); (case side1 => repeat (first | exact (Kd.C_below HR1_2.out HB.out) | (with_reducible refine Kd.C_alloc ?_ _) | (with_reducible refine Kd.C_drewN ?_ _) | (with_reducible refine Kd.C_drew ?_))); (case side2 => exact HC1_2.out); rintro e w15 ⟨rfl, hb⟩; replace BK867 := kB BK867 hb; replace BK868 := kB BK868 hb; replace HB := bB HB hb; (try clear hb); (try clear hb2); (try clear hk); (try clear hi); have hcz16_0 := bc0 BK867; have hcz16_1 := bc1 BK867; have hcz16_2 := bc2 BK867; have hfz16_0 := blk_frozen BK867.out 0; have hfz16_1 := blk_frozen BK867.out 1; have hfz16_2 := blk_frozen BK867.out 2; have hcz17_0 := bc0 BK868; have hcz17_1 := bc1 BK868; have hcz17_2 := bc2 BK868; have hfz17_0 := blk_frozen BK868.out 0; have hfz17_1 := blk_frozen BK868.out 1; have hfz17_2 := blk_frozen BK868.out 2))
     repeat (go_quiet (first | (go_at_call 59; (with_reducible refine (impl_IsBoard.calls k a0_0 a0_1 _ _ l0_2 true _ ?side1 ?side2 A6.out).mono ?_); (case side1 => repeat (first | exact (Kd.C_below HR0_2.out HB.out) | (with_reducible refine Kd.C_alloc ?_ _) | (with_reducible refine Kd.C_drewN ?_ _) | (with_reducible refine Kd.C_drew ?_))); (case side2 => exact HC0_2.out); rintro e w13 ⟨rfl, hb⟩; replace BK867 := kB BK867 hb; replace BK868 := kB BK868 hb; replace HB := bB HB hb; (try clear hb); (try clear hb2); (try clear hk); (try clear hi); have hcz14_0 := bc0 BK868; have hcz14_1 := bc1 BK868; have hcz14_2 := bc2 BK868; have hfz14_0 := blk_frozen BK868.out 0; have hfz14_1 := blk_frozen BK868.out 1; have hfz14_2 := blk_frozen BK868.out 2) | (go_at_call 59; (with_reducible refine (impl_IsBoard.calls k a1_0 a1_1 _ _ l1_2 true _ ?side1 ?side2 A8.out).mono ?_); (case side1 => repeat (first | exact (Kd.C_below HR1_2.out HB.out) | (with_reducible refine Kd.C_alloc ?_ _) | (with_reducible refine Kd.C_drewN ?_ _) | (with_reducible refine Kd.C_drew ?_))); (case side2 => exact HC1_2.out); rintro e w15 ⟨rfl, hb⟩; replace BK867 := kB BK867 hb; replace BK868 := kB BK868 hb; replace HB := bB HB hb; (try clear hb); (try clear hb2); (try clear hk); (try clear hi); have hcz16_0 := bc0 BK867; have hcz16_1 := bc1 BK867; have hcz16_2 := bc2 BK867; have hfz16_0 := blk_frozen BK867.out 0; have hfz16_1 := blk_frozen BK867.out 1; have hfz16_2 := blk_frozen BK867.out 2; have hcz17_0 := bc0 BK868; have hcz17_1 := bc1 BK868; have hcz17_2 := bc2 BK868; have hfz17_0 := blk_frozen BK868.out 0; have hfz17_1 := blk_frozen BK868.out 1; have hfz17_2 := blk_frozen BK868.out 2)); try go_wp2_with (first | (go_at_call 59; (with_reducible refine (impl_IsBoard.calls k a0_0 a0_1 _ _ l0_2 true _ ?side1 ?side2 A6.out).mono ?_); (case side1 => repeat (first | exact (Kd.C_below HR0_2.out HB.out) | (with_reducible refine Kd.C_alloc ?_ _) | (with_reducible refine Kd.C_drewN ?_ _) | (with_reducible refine Kd.C_drew ?_))); (case side2 => exact HC0_2.out); rintro e w13 ⟨rfl, hb⟩; replace BK867 := kB BK867 hb; replace BK868 := kB BK868 hb; replace HB := bB HB hb; (try clear hb); (try clear hb2); (try clear hk); (try clear hi); have hcz14_0 := bc0 BK868; have hcz14_1 := bc1 BK868; have hcz14_2 := bc2 BK868; have hfz14_0 := blk_frozen BK868.out 0; have hfz14_1 := blk_frozen BK868.out 1; have hfz14_2 := blk_frozen BK868.out 2) | (go_at_call 59; (with_reducible refine (impl_IsBoard.calls k a1_0 a1_1 _ _ l1_2 true _ ?side1 ?side2 A8.out).mono ?_); (case side1 => repeat (first | exact (Kd.C_below HR1_2.out HB.out) | (with_reducible refine Kd.C_alloc ?_ _) | (with_reducible refine Kd.C_drewN ?_ _) | (with_reducible refine Kd.C_drew ?_))); (case side2 => exact HC1_2.out); rintro e w15 ⟨rfl, hb⟩; replace BK867 := kB BK867 hb; replace BK868 := kB BK868 hb; replace HB := bB HB hb; (try clear hb); (try clear hb2); (try clear hk); (try clear hi); have hcz16_0 := bc0 BK867; have hcz16_1 := bc1 BK867; have hcz16_2 := bc2 BK867; have hfz16_0 := blk_frozen BK867.out 0; have hfz16_1 := blk_frozen BK867.out 1; have hfz16_2 := blk_frozen BK867.out 2; have hcz17_0 := bc0 BK868; have hcz17_1 := bc1 BK868; have hcz17_2 := bc2 BK868; have hfz17_0 := blk_frozen BK868.out 0; have hfz17_1 := blk_frozen BK868.out 1; have hfz17_2 := blk_frozen BK868.out 2)))
     go_meet
     case rel => exact ⟨_, ((a0_1 != a1_1)), (by first | rfl | (simp; done) | (simp [*]; done)), H', ⟨by first | omega | exact Nat.le_refl _⟩, ⟨viaK BK867⟩, ⟨viaK BK868⟩, ⟨viaB HB⟩⟩
    ·rw [if_neg c10] at H
     have c10b0 := beq_eq_false_iff_ne.mpr c10
     have c10b1 := bne_iff_ne.mpr c10
     (first | rw [c10b0] | (simp only [i64_w, i32_w]; rw [c10b0]) | skip)
     have H' := Aside0.mk H
     clear H
     have hnb18 := NB867_868.out
     have hnc18 := NB868_867.out
     have hcz19_0 := bc0 BK867
     have hcz19_1 := bc1 BK867
     have hcz19_2 := bc2 BK867
     have hfz19_0 := blk_frozen BK867.out 0
     have hfz19_1 := blk_frozen BK867.out 1
     have hfz19_2 := blk_frozen BK867.out 2
     go_wp2_with (first | (go_at_call 59; (with_reducible refine (impl_IsBoard.calls k a0_0 a0_1 _ _ l0_2 true _ ?side1 ?side2 A6.out).mono ?_); (case side1 => repeat (first | exact (Kd.C_below HR0_2.out HB.out) | (with_reducible refine Kd.C_alloc ?_ _) | (with_reducible refine Kd.C_drewN ?_ _) | (with_reducible refine Kd.C_drew ?_))); (case side2 => exact HC0_2.out); rintro e w20 ⟨rfl, hb⟩; replace BK867 := kB BK867 hb; replace BK868 := kB BK868 hb; replace HB := bB HB hb; (try clear hb); (try clear hb2); (try clear hk); (try clear hi); have hcz21_0 := bc0 BK868; have hcz21_1 := bc1 BK868; have hcz21_2 := bc2 BK868; have hfz21_0 := blk_frozen BK868.out 0; have hfz21_1 := blk_frozen BK868.out 1; have hfz21_2 := blk_frozen BK868.out 2) | (go_at_call 59; (with_reducible refine (impl_IsBoard.calls k a1_0 a1_1 _ _ l1_2 true _ ?side1 ?side2 A8.out).mono ?_); (case side1 => repeat (first | exact (Kd.C_below HR1_2.out HB.out) | (with_reducible refine Kd.C_alloc ?_ _) | (with_reducible refine Kd.C_drewN ?_ _) | (with_reducible refine Kd.C_drew ?_))); (case side2 => exact HC1_2.out); rintro e w22 ⟨rfl, hb⟩; replace BK867 := kB BK867 hb; replace BK868 := kB BK868 hb; replace HB := bB HB hb; (try clear hb); (try clear hb2); (try clear hk); (try clear hi); have hcz23_0 := bc0 BK867; have hcz23_1 := bc1 BK867; have hcz23_2 := bc2 BK867; have hfz23_0 := blk_frozen BK867.out 0; have hfz23_1 := blk_frozen BK867.out 1; have hfz23_2 := blk_frozen BK867.out 2; have hcz24_0 := bc0 BK868; have hcz24_1 := bc1 BK868; have hcz24_2 := bc2 BK868; have hfz24_0 := blk_frozen BK868.out 0; have hfz24_1 := blk_frozen BK868.out 1; have hfz24_2 := blk_frozen BK868.out 2))
     repeat (go_quiet (first | (go_at_call 59; (with_reducible refine (impl_IsBoard.calls k a0_0 a0_1 _ _ l0_2 true _ ?side1 ?side2 A6.out).mono ?_); (case side1 => repeat (first | exact (Kd.C_below HR0_2.out HB.out) | (with_reducible refine Kd.C_alloc ?_ _) | (with_reducible refine Kd.C_drewN ?_ _) | (with_reducible refine Kd.C_drew ?_))); (case side2 => exact HC0_2.out); rintro e w20 ⟨rfl, hb⟩; replace BK867 := kB BK867 hb; replace BK868 := kB BK868 hb; replace HB := bB HB hb; (try clear hb); (try clear hb2); (try clear hk); (try clear hi); have hcz21_0 := bc0 BK868; have hcz21_1 := bc1 BK868; have hcz21_2 := bc2 BK868; have hfz21_0 := blk_frozen BK868.out 0; have hfz21_1 := blk_frozen BK868.out 1; have hfz21_2 := blk_frozen BK868.out 2) | (go_at_call 59; (with_reducible refine (impl_IsBoard.calls k a1_0 a1_1 _ _ l1_2 true _ ?side1 ?side2 A8.out).mono ?_); (case side1 => repeat (first | exact (Kd.C_below HR1_2.out HB.out) | (with_reducible refine Kd.C_alloc ?_ _) | (with_reducible refine Kd.C_drewN ?_ _) | (with_reducible refine Kd.C_drew ?_))); (case side2 => exact HC1_2.out); rintro e w22 ⟨rfl, hb⟩; replace BK867 := kB BK867 hb; replace BK868 := kB BK868 hb; replace HB := bB HB hb; (try clear hb); (try clear hb2); (try clear hk); (try clear hi); have hcz23_0 := bc0 BK867; have hcz23_1 := bc1 BK867; have hcz23_2 := bc2 BK867; have hfz23_0 := blk_frozen BK867.out 0; have hfz23_1 := blk_frozen BK867.out 1; have hfz23_2 := blk_frozen BK867.out 2; have hcz24_0 := bc0 BK868; have hcz24_1 := bc1 BK868; have hcz24_2 := bc2 BK868; have hfz24_0 := blk_frozen BK868.out 0; have hfz24_1 := blk_frozen BK868.out 1; have hfz24_2 := blk_frozen BK868.out 2)); try go_wp2_with (first | (go_at_call 59; (with_reducible refine (impl_IsBoard.calls k a0_0 a0_1 _ _ l0_2 true _ ?side1 ?side2 A6.out).mono ?_); (case side1 => repeat (first | exact (Kd.C_below HR0_2.out HB.out) | (with_reducible refine Kd.C_alloc ?_ _) | (with_reducible refine Kd.C_drewN ?_ _) | (with_reducible refine Kd.C_drew ?_))); (case side2 => exact HC0_2.out); rintro e w20 ⟨rfl, hb⟩; replace BK867 := kB BK867 hb; replace BK868 := kB BK868 hb; replace HB := bB HB hb; (try clear hb); (try clear hb2); (try clear hk); (try clear hi); have hcz21_0 := bc0 BK868; have hcz21_1 := bc1 BK868; have hcz21_2 := bc2 BK868; have hfz21_0 := blk_frozen BK868.out 0; have hfz21_1 := blk_frozen BK868.out 1; have hfz21_2 := blk_frozen BK868.out 2) | (go_at_call 59; (with_reducible refine (impl_IsBoard.calls k a1_0 a1_1 _ _ l1_2 true _ ?side1 ?side2 A8.out).mono ?_); (case side1 => repeat (first | exact (Kd.C_below HR1_2.out HB.out) | (with_reducible refine Kd.C_alloc ?_ _) | (with_reducible refine Kd.C_drewN ?_ _) | (with_reducible refine Kd.C_drew ?_))); (case side2 => exact HC1_2.out); rintro e w22 ⟨rfl, hb⟩; replace BK867 := kB BK867 hb; replace BK868 := kB BK868 hb; replace HB := bB HB hb; (try clear hb); (try clear hb2); (try clear hk); (try clear hi); have hcz23_0 := bc0 BK867; have hcz23_1 := bc1 BK867; have hcz23_2 := bc2 BK867; have hfz23_0 := blk_frozen BK867.out 0; have hfz23_1 := blk_frozen BK867.out 1; have hfz23_2 := blk_frozen BK867.out 2; have hcz24_0 := bc0 BK868; have hcz24_1 := bc1 BK868; have hcz24_2 := bc2 BK868; have hfz24_0 := blk_frozen BK868.out 0; have hfz24_1 := blk_frozen BK868.out 1; have hfz24_2 := blk_frozen BK868.out 2)))
     go_meet
     case rel => exact ⟨_, (true), (by first | rfl | (simp; done) | (simp [*]; done)), H', ⟨by first | omega | exact Nat.le_refl _⟩, ⟨viaK BK867⟩, ⟨viaK BK868⟩, ⟨viaB HB⟩⟩
   ·replace c9 := Bool.eq_false_iff.mpr c9
    subst c9
    have H1 : (impl_DifferentCells.j0 k true a0_0 a0_1 l0_2 a1_0 a1_1 l1_2) = some (r1, r2) := by rw [if_neg (show ¬ (false = true) by decide)] at H; exact H
    clear H
    have H := H1
    clear H1
    have H' := Aside0.mk H
    clear H
    have hnb25 := NB867_868.out
    have hnc25 := NB868_867.out
    have hcz26_0 := bc0 BK867
    have hcz26_1 := bc1 BK867
    have hcz26_2 := bc2 BK867
    have hfz26_0 := blk_frozen BK867.out 0
    have hfz26_1 := blk_frozen BK867.out 1
    have hfz26_2 := blk_frozen BK867.out 2
    go_wp2_with (first | (go_at_call 59; (with_reducible refine (impl_IsBoard.calls k a0_0 a0_1 _ _ l0_2 true _ ?side1 ?side2 A6.out).mono ?_); (case side1 => repeat (first | exact (Kd.C_below HR0_2.out HB.out) | (with_reducible refine Kd.C_alloc ?_ _) | (with_reducible refine Kd.C_drewN ?_ _) | (with_reducible refine Kd.C_drew ?_))); (case side2 => exact HC0_2.out); rintro e w27 ⟨rfl, hb⟩; replace BK867 := kB BK867 hb; replace BK868 := kB BK868 hb; replace HB := bB HB hb; (try clear hb); (try clear hb2); (try clear hk); (try clear hi); have hcz28_0 := bc0 BK868; have hcz28_1 := bc1 BK868; have hcz28_2 := bc2 BK868; have hfz28_0 := blk_frozen BK868.out 0; have hfz28_1 := blk_frozen BK868.out 1; have hfz28_2 := blk_frozen BK868.out 2) | (go_at_call 59; (with_reducible refine (impl_IsBoard.calls k a1_0 a1_1 _ _ l1_2 false _ ?side1 ?side2 A8.out).mono ?_); (case side1 => repeat (first | exact (Kd.C_below HR1_2.out HB.out) | (with_reducible refine Kd.C_alloc ?_ _) | (with_reducible refine Kd.C_drewN ?_ _) | (with_reducible refine Kd.C_drew ?_))); (case side2 => exact HC1_2.out); rintro e w29 ⟨rfl, hb⟩; replace BK867 := kB BK867 hb; replace BK868 := kB BK868 hb; replace HB := bB HB hb; (try clear hb); (try clear hb2); (try clear hk); (try clear hi)))
    repeat (go_quiet (first | (go_at_call 59; (with_reducible refine (impl_IsBoard.calls k a0_0 a0_1 _ _ l0_2 true _ ?side1 ?side2 A6.out).mono ?_); (case side1 => repeat (first | exact (Kd.C_below HR0_2.out HB.out) | (with_reducible refine Kd.C_alloc ?_ _) | (with_reducible refine Kd.C_drewN ?_ _) | (with_reducible refine Kd.C_drew ?_))); (case side2 => exact HC0_2.out); rintro e w27 ⟨rfl, hb⟩; replace BK867 := kB BK867 hb; replace BK868 := kB BK868 hb; replace HB := bB HB hb; (try clear hb); (try clear hb2); (try clear hk); (try clear hi); have hcz28_0 := bc0 BK868; have hcz28_1 := bc1 BK868; have hcz28_2 := bc2 BK868; have hfz28_0 := blk_frozen BK868.out 0; have hfz28_1 := blk_frozen BK868.out 1; have hfz28_2 := blk_frozen BK868.out 2) | (go_at_call 59; (with_reducible refine (impl_IsBoard.calls k a1_0 a1_1 _ _ l1_2 false _ ?side1 ?side2 A8.out).mono ?_); (case side1 => repeat (first | exact (Kd.C_below HR1_2.out HB.out) | (with_reducible refine Kd.C_alloc ?_ _) | (with_reducible refine Kd.C_drewN ?_ _) | (with_reducible refine Kd.C_drew ?_))); (case side2 => exact HC1_2.out); rintro e w29 ⟨rfl, hb⟩; replace BK867 := kB BK867 hb; replace BK868 := kB BK868 hb; replace HB := bB HB hb; (try clear hb); (try clear hb2); (try clear hk); (try clear hi))); try go_wp2_with (first | (go_at_call 59; (with_reducible refine (impl_IsBoard.calls k a0_0 a0_1 _ _ l0_2 true _ ?side1 ?side2 A6.out).mono ?_); (case side1 => repeat (first | exact (Kd.C_below HR0_2.out HB.out) | (with_reducible refine Kd.C_alloc ?_ _) | (with_reducible refine Kd.C_drewN ?_ _) | (with_reducible refine Kd.C_drew ?_))); (case side2 => exact HC0_2.out); rintro e w27 ⟨rfl, hb⟩; replace BK867 := kB BK867 hb; replace BK868 := kB BK868 hb; replace HB := bB HB hb; (try clear hb); (try clear hb2); (try clear hk); (try clear hi); have hcz28_0 := bc0 BK868; have hcz28_1 := bc1 BK868; have hcz28_2 := bc2 BK868; have hfz28_0 := blk_frozen BK868.out 0; have hfz28_1 := blk_frozen BK868.out 1; have hfz28_2 := blk_frozen BK868.out 2) | (go_at_call 59; (with_reducible refine (impl_IsBoard.calls k a1_0 a1_1 _ _ l1_2 false _ ?side1 ?side2 A8.out).mono ?_); (case side1 => repeat (first | exact (Kd.C_below HR1_2.out HB.out) | (with_reducible refine Kd.C_alloc ?_ _) | (with_reducible refine Kd.C_drewN ?_ _) | (with_reducible refine Kd.C_drew ?_))); (case side2 => exact HC1_2.out); rintro e w29 ⟨rfl, hb⟩; replace BK867 := kB BK867 hb; replace BK868 := kB BK868 hb; replace HB := bB HB hb; (try clear hb); (try clear hb2); (try clear hk); (try clear hi))))
    go_meet
    case rel => exact ⟨_, (true), (by first | rfl | (simp; done) | (simp [*]; done)), H', ⟨by first | omega | exact Nat.le_refl _⟩, ⟨viaK BK867⟩, ⟨viaK BK868⟩, ⟨viaB HB⟩⟩
  ·replace c7 := Bool.eq_false_iff.mpr c7
   subst c7
   have H1 : (impl_DifferentCells.j0 k true a0_0 a0_1 l0_2 a1_0 a1_1 l1_2) = some (r1, r2) := by rw [if_neg (show ¬ (false = true) by decide)] at H; exact H
   clear H
   have H := H1
   clear H1
   have H' := Aside0.mk H
   clear H
   have hnb30 := NB867_868.out
   have hnc30 := NB868_867.out
   have hcz31_0 := bc0 BK867
   have hcz31_1 := bc1 BK867
   have hcz31_2 := bc2 BK867
   have hfz31_0 := blk_frozen BK867.out 0
   have hfz31_1 := blk_frozen BK867.out 1
   have hfz31_2 := blk_frozen BK867.out 2
   go_wp2_with (first | (go_at_call 59; (with_reducible refine (impl_IsBoard.calls k a0_0 a0_1 _ _ l0_2 false _ ?side1 ?side2 A6.out).mono ?_); (case side1 => repeat (first | exact (Kd.C_below HR0_2.out HB.out) | (with_reducible refine Kd.C_alloc ?_ _) | (with_reducible refine Kd.C_drewN ?_ _) | (with_reducible refine Kd.C_drew ?_))); (case side2 => exact HC0_2.out); rintro e w32 ⟨rfl, hb⟩; replace BK867 := kB BK867 hb; replace BK868 := kB BK868 hb; replace HB := bB HB hb; (try clear hb); (try clear hb2); (try clear hk); (try clear hi)))
   repeat (go_quiet (first | (go_at_call 59; (with_reducible refine (impl_IsBoard.calls k a0_0 a0_1 _ _ l0_2 false _ ?side1 ?side2 A6.out).mono ?_); (case side1 => repeat (first | exact (Kd.C_below HR0_2.out HB.out) | (with_reducible refine Kd.C_alloc ?_ _) | (with_reducible refine Kd.C_drewN ?_ _) | (with_reducible refine Kd.C_drew ?_))); (case side2 => exact HC0_2.out); rintro e w32 ⟨rfl, hb⟩; replace BK867 := kB BK867 hb; replace BK868 := kB BK868 hb; replace HB := bB HB hb; (try clear hb); (try clear hb2); (try clear hk); (try clear hi))); try go_wp2_with (first | (go_at_call 59; (with_reducible refine (impl_IsBoard.calls k a0_0 a0_1 _ _ l0_2 false _ ?side1 ?side2 A6.out).mono ?_); (case side1 => repeat (first | exact (Kd.C_below HR0_2.out HB.out) | (with_reducible refine Kd.C_alloc ?_ _) | (with_reducible refine Kd.C_drewN ?_ _) | (with_reducible refine Kd.C_drew ?_))); (case side2 => exact HC0_2.out); rintro e w32 ⟨rfl, hb⟩; replace BK867 := kB BK867 hb; replace BK868 := kB BK868 hb; replace HB := bB HB hb; (try clear hb); (try clear hb2); (try clear hk); (try clear hi))))
   go_meet
   case rel => exact ⟨_, (true), (by first | rfl | (simp; done) | (simp [*]; done)), H', ⟨by first | omega | exact Nat.le_refl _⟩, ⟨viaK BK867⟩, ⟨viaK BK868⟩, ⟨viaB HB⟩⟩
 case rest =>
  clear HC3
  obtain ⟨kq, x29_2, rfl, HA, HJ2, BK867, BK868, HB⟩ := hcut
  cases kq with
  | zero => exact absurd HA.out (by simp [impl_DifferentCells.j0])
  | succ kj2 =>
   have H := HA.out
   clear HA
   simp only [impl_DifferentCells.j0] at H
   by_cases c33 : x29_2 = true
   ·subst c33
    have H1 : (some (([] : List Int), false)) = some (r1, r2) := by rw [if_pos rfl] at H; exact H
    clear H
    have H := H1
    clear H1
    simp only [Option.some.injEq, Prod.mk.injEq] at H
    obtain ⟨rfl, rfl⟩ := H
    go_wp2
    repeat (go_quiet (fail); try go_wp2)
    go_ret2
    exact ⟨_, by first | rfl | (simp [errW_none, errW_some] <;> rfl) | (simp [*, errW_none, errW_some] <;> rfl), by first | exact Kd.R_nil _ _ _ _ _ | exact Kd.N_nil _ _ _ _ _ | exact Kd.V_nil _ _ _ _ _ | exact Kd.Q_nil _ _ _ _ _ | exact Kd.S_nil _ _ _ _ _, viaB HB⟩
   ·replace c33 := Bool.eq_false_iff.mpr c33
    subst c33
    have H1 : (impl_DifferentCells.l0 kj2 (([] : List Int)) (l0_2.length : Int) 0 a0_0 a0_1 l0_2 a1_0 a1_1 l1_2) = some (r1, r2) := by rw [if_neg (show ¬ (false = true) by decide)] at H; exact H
    clear H
    have H := H1
    clear H1
    obtain ⟨y871, hy871⟩ : ∃ y_ : List Int, y_ = (([] : List Int)) := ⟨_, rfl⟩
    replace H : (impl_DifferentCells.l0 kj2 y871 (l0_2.length : Int) 0 a0_0 a0_1 l0_2 a1_0 a1_1 l1_2) = some (r1, r2) := by first | (rw [hy871]; with_reducible exact H) | (have H2_ := (Option.bind_some _ _).symm.trans H; rw [hy871]; with_reducible exact H2_) | (have H2_ := (Option.bind_some _ _).symm.trans H; with_reducible exact H2_) | with_reducible exact H | (rw [hy871]; exact H) | exact H
    have Ny871 := Aside0.mk hy871
    clear hy871
    have H' := Aside0.mk H
    clear H
    go_wp2_with (first | ((with_reducible refine gate_dst (N := 30) rfl ?_); refine Kd.R_lit (Kd.int .i64) _ 3 ?hg (N := 30) ?hd (xs := ([] : List Int)) (inner := []) (ok := fun _ => True) (okp := fun _ => True) ?hr ?hp (fun _ hk => hk) trivial (Below.refl _ _) (Nat.le_refl _) (by simp) ?_; (case hd => rfl); (case hg => rfl); (case hr => first | (go_simp; done) | (go_simp; rfl)); (case hp => exact (Reps.none _ _)); intro v872 w34 ho35 hb hg_ hnew_; clear hg_ hnew_; (first | rw [← Ny871.out] at ho35 | (simp only [Int.reduceToNat] at ho35; rw [← Ny871.out] at ho35)); have HO873 := Aside0.mk (Kd.R_lower ho35 (below_size (viaB HB))); replace BK867 := kB BK867 hb; replace BK868 := kB BK868 hb; replace HB := bB HB hb; clear hb ho35; have hnb36 := NB867_868.out; have hnc36 := NB868_867.out; have hcz37_0 := bc0 BK867; have hcz37_1 := bc1 BK867; have hcz37_2 := bc2 BK867; have hfz37_0 := blk_frozen BK867.out 0; have hfz37_1 := blk_frozen BK867.out 1; have hfz37_2 := blk_frozen BK867.out 2))
    repeat (go_quiet (first | ((with_reducible refine gate_dst (N := 30) rfl ?_); refine Kd.R_lit (Kd.int .i64) _ 3 ?hg (N := 30) ?hd (xs := ([] : List Int)) (inner := []) (ok := fun _ => True) (okp := fun _ => True) ?hr ?hp (fun _ hk => hk) trivial (Below.refl _ _) (Nat.le_refl _) (by simp) ?_; (case hd => rfl); (case hg => rfl); (case hr => first | (go_simp; done) | (go_simp; rfl)); (case hp => exact (Reps.none _ _)); intro v872 w34 ho35 hb hg_ hnew_; clear hg_ hnew_; (first | rw [← Ny871.out] at ho35 | (simp only [Int.reduceToNat] at ho35; rw [← Ny871.out] at ho35)); have HO873 := Aside0.mk (Kd.R_lower ho35 (below_size (viaB HB))); replace BK867 := kB BK867 hb; replace BK868 := kB BK868 hb; replace HB := bB HB hb; clear hb ho35; have hnb36 := NB867_868.out; have hnc36 := NB868_867.out; have hcz37_0 := bc0 BK867; have hcz37_1 := bc1 BK867; have hcz37_2 := bc2 BK867; have hfz37_0 := blk_frozen BK867.out 0; have hfz37_1 := blk_frozen BK867.out 1; have hfz37_2 := blk_frozen BK867.out 2)); try go_wp2_with (first | ((with_reducible refine gate_dst (N := 30) rfl ?_); refine Kd.R_lit (Kd.int .i64) _ 3 ?hg (N := 30) ?hd (xs := ([] : List Int)) (inner := []) (ok := fun _ => True) (okp := fun _ => True) ?hr ?hp (fun _ hk => hk) trivial (Below.refl _ _) (Nat.le_refl _) (by simp) ?_; (case hd => rfl); (case hg => rfl); (case hr => first | (go_simp; done) | (go_simp; rfl)); (case hp => exact (Reps.none _ _)); intro v872 w34 ho35 hb hg_ hnew_; clear hg_ hnew_; (first | rw [← Ny871.out] at ho35 | (simp only [Int.reduceToNat] at ho35; rw [← Ny871.out] at ho35)); have HO873 := Aside0.mk (Kd.R_lower ho35 (below_size (viaB HB))); replace BK867 := kB BK867 hb; replace BK868 := kB BK868 hb; replace HB := bB HB hb; clear hb ho35; have hnb36 := NB867_868.out; have hnc36 := NB868_867.out; have hcz37_0 := bc0 BK867; have hcz37_1 := bc1 BK867; have hcz37_2 := bc2 BK867; have hfz37_0 := blk_frozen BK867.out 0; have hfz37_1 := blk_frozen BK867.out 1; have hfz37_2 := blk_frozen BK867.out 2)))
    go_loopg [6, 34] kj2 (fun kq v6 v34 w' => ∃ (x6_2 : List Int) (x34_2 : Int), v34 = .int .i64 x34_2 ∧ Aside0 (impl_DifferentCells.l0 kq x6_2 (l0_2.length : Int) x34_2 a0_0 a0_1 l0_2 a1_0 a1_1 l1_2 = some (r1, r2)) ∧ Aside0 (kq ≤ kj2) ∧ Aside0 (Kd.R (Kd.int .i64) 3 w' w.heap.size (fun _ => True) v6 x6_2) ∧ Aside0 (w'.heap[gb867]? = some (.cells #[.int .i64 a0_0, .int .i64 a0_1, (.slice A0_2 l0_2.length c0_2)] 32 (0, 0))) ∧ Aside0 (w'.heap[gb868]? = some (.cells #[.int .i64 a1_0, .int .i64 a1_1, (.slice A1_2 l1_2.length c1_2)] 32 (0, 0))) ∧ Aside0 (Below w.heap.size w w'))
    case atStart => exact ⟨(y871), (0), (by first | rfl | (simp; done) | (simp [*]; done)), H', ⟨Nat.le_refl _⟩, ⟨viaR HO873⟩, ⟨viaK BK867⟩, ⟨viaK BK868⟩, ⟨viaB HB⟩⟩
    case round =>
     clear H'
     (try clear c33)
     (try clear hcz37_0); (try clear hcz37_1); (try clear hcz37_2); (try clear hfz37_0); (try clear hfz37_1); (try clear hfz37_2)
     obtain ⟨x6_2, x34_2, rfl, HA, HK2, HO_6, BK867, BK868, HB⟩ := hrel
     cases gk with
     | zero => exact absurd HA.out (by simp [impl_DifferentCells.l0])
     | succ k2 =>
      have H := HA.out
      clear HA
      simp only [impl_DifferentCells.l0] at H
      by_cases c38 : x34_2 < (l0_2.length : Int)
      ·rw [if_pos c38] at H
       have c38b0 := decide_eq_true c38
       clear c38
       by_cases c39 : 0 ≤ x34_2
       ·rw [if_pos c39] at H
        have c39b0 := decide_eq_true c39
        clear c39
        by_cases c40 : x34_2 < (l0_2.length : Int)
        ·rw [if_pos c40] at H
         have c40b0 := decide_eq_true c40
         clear c40
         by_cases c41 : x34_2 < (l1_2.length : Int)
         ·rw [if_pos c41] at H
          have c41b0 := decide_eq_true c41
          clear c41
          by_cases c42 : (!(((rd_T89 l0_2 x34_2).f0) == ((rd_T89 l1_2 x34_2).f0)) || (!(((rd_T89 l0_2 x34_2).f1) == ((rd_T89 l1_2 x34_2).f1)))) = true
          ·rw [if_pos c42] at H
           have c42b0 : (!(((rd_T89 l0_2 x34_2).f0) == ((rd_T89 l1_2 x34_2).f0)) || (!(((rd_T89 l0_2 x34_2).f1) == ((rd_T89 l1_2 x34_2).f1)))) = true := c42
           clear c42
           by_cases c43 : x6_2.length < 17592186044416
           ·rw [if_pos c43] at H
            have LMc43 := Aside0.mk c43
            clear c43
            obtain ⟨y876, hy876⟩ : ∃ y_ : List Int, y_ = (x6_2 ++ [x34_2]) := ⟨_, rfl⟩
            replace H : (impl_DifferentCells.l0 k2 y876 (l0_2.length : Int) (wrap64 (x34_2 + 1)) a0_0 a0_1 l0_2 a1_0 a1_1 l1_2) = some (r1, r2) := by first | (rw [hy876]; with_reducible exact H) | (have H2_ := (Option.bind_some _ _).symm.trans H; rw [hy876]; with_reducible exact H2_) | (have H2_ := (Option.bind_some _ _).symm.trans H; with_reducible exact H2_) | with_reducible exact H | (rw [hy876]; exact H) | exact H
            have Ny876 := Aside0.mk hy876
            clear hy876
            have H' := Aside0.mk H
            clear H
            have hnb44 := NB867_868.out
            have hnc44 := NB868_867.out
            have hcz45_0 := bc0 BK867
            have hcz45_1 := bc1 BK867
            have hcz45_2 := bc2 BK867
            have hfz45_0 := blk_frozen BK867.out 0
            have hfz45_1 := blk_frozen BK867.out 1
            have hfz45_2 := blk_frozen BK867.out 2
            have p874 : 0 ≤ (x34_2 : Int) := ofD
            have q874 : x34_2 < (l0_2.length : Int) := ofD
            obtain ⟨ad874, e874, hx874_0, hx874_1⟩ := at_T89 HR0_2.out x34_2 p874 q874
            cases e874
            replace hx874_0 := (HB.out.cell (World.block_lt_of_cell? w _ hx874_0)).trans hx874_0
            replace hx874_1 := (HB.out.cell (World.block_lt_of_cell? w _ hx874_1)).trans hx874_1
            replace p874 := eq_true p874
            replace q874 := eq_true q874
            have hcz46_0 := bc0 BK868
            have hcz46_1 := bc1 BK868
            have hcz46_2 := bc2 BK868
            have hfz46_0 := blk_frozen BK868.out 0
            have hfz46_1 := blk_frozen BK868.out 1
            have hfz46_2 := blk_frozen BK868.out 2
            have p875 : 0 ≤ (x34_2 : Int) := ofD
            have q875 : x34_2 < (l1_2.length : Int) := ofD
            obtain ⟨ad875, e875, hx875_0, hx875_1⟩ := at_T89 HR1_2.out x34_2 p875 q875
            cases e875
            replace hx875_0 := (HB.out.cell (World.block_lt_of_cell? w _ hx875_0)).trans hx875_0
            replace hx875_1 := (HB.out.cell (World.block_lt_of_cell? w _ hx875_1)).trans hx875_1
            replace p875 := eq_true p875
            replace q875 := eq_true q875
            go_wp2_with (first | ((with_reducible refine gate_builtin (b := .append) (xs := #[.tmp 48, .tmp 50]) rfl ?_); at_builtin; refine Kd.R_append (Kd.int .i64) (w0 := w) w.heap.size rfl (.tmp 48) (.tmp 50) 43 3 (.int .i64 0) 8 rfl Try.underlying43 info3 rfl (by decide) (by omega) u6 x6_2 x34_2 [.int .i64 x34_2] (fun _ => True) (fun _ => False) rfl rfl ?aP (fun _ hk => hk.elim) ?aF ?aO ?aB ?aS ?aL ?_; (case aP => exact rfl); (case aB => exact (viaB HB)); (case aF => exact (fun _ _ => trivial)); (case aO => exact (viaR HO_6)); (case aS => exact (below_size (viaB HB))); (case aL => have := LMc43.out; omega); intro v877 w47 ho hb hg hat; rw [← Ny876.out] at ho; have HO878 := Aside0.mk (ho); replace BK867 := Aside0.mk (blk_grown (g := gb867) (o := .cells #[.int .i64 a0_0, .int .i64 a0_1, .slice (some ad874) l0_2.length c0_2] 32 (0, 0)) (viaK BK867) hg (Kd.R_ne HO_6.out BK867.out (by decide))); replace BK868 := Aside0.mk (blk_grown (g := gb868) (o := .cells #[.int .i64 a1_0, .int .i64 a1_1, .slice (some ad875) l1_2.length c1_2] 32 (0, 0)) (viaK BK868) hg (Kd.R_ne HO_6.out BK868.out (by decide))); replace HB := Aside0.mk (hb); clear HO_6; clear ho hb hg hat))
            repeat (go_quiet (first | ((with_reducible refine gate_builtin (b := .append) (xs := #[.tmp 48, .tmp 50]) rfl ?_); at_builtin; refine Kd.R_append (Kd.int .i64) (w0 := w) w.heap.size rfl (.tmp 48) (.tmp 50) 43 3 (.int .i64 0) 8 rfl Try.underlying43 info3 rfl (by decide) (by omega) u6 x6_2 x34_2 [.int .i64 x34_2] (fun _ => True) (fun _ => False) rfl rfl ?aP (fun _ hk => hk.elim) ?aF ?aO ?aB ?aS ?aL ?_; (case aP => exact rfl); (case aB => exact (viaB HB)); (case aF => exact (fun _ _ => trivial)); (case aO => exact (viaR HO_6)); (case aS => exact (below_size (viaB HB))); (case aL => have := LMc43.out; omega); intro v877 w47 ho hb hg hat; rw [← Ny876.out] at ho; have HO878 := Aside0.mk (ho); replace BK867 := Aside0.mk (blk_grown (g := gb867) (o := .cells #[.int .i64 a0_0, .int .i64 a0_1, .slice (some ad874) l0_2.length c0_2] 32 (0, 0)) (viaK BK867) hg (Kd.R_ne HO_6.out BK867.out (by decide))); replace BK868 := Aside0.mk (blk_grown (g := gb868) (o := .cells #[.int .i64 a1_0, .int .i64 a1_1, .slice (some ad875) l1_2.length c1_2] 32 (0, 0)) (viaK BK868) hg (Kd.R_ne HO_6.out BK868.out (by decide))); replace HB := Aside0.mk (hb); clear HO_6; clear ho hb hg hat)); try go_wp2_with (first | ((with_reducible refine gate_builtin (b := .append) (xs := #[.tmp 48, .tmp 50]) rfl ?_); at_builtin; refine Kd.R_append (Kd.int .i64) (w0 := w) w.heap.size rfl (.tmp 48) (.tmp 50) 43 3 (.int .i64 0) 8 rfl Try.underlying43 info3 rfl (by decide) (by omega) u6 x6_2 x34_2 [.int .i64 x34_2] (fun _ => True) (fun _ => False) rfl rfl ?aP (fun _ hk => hk.elim) ?aF ?aO ?aB ?aS ?aL ?_; (case aP => exact rfl); (case aB => exact (viaB HB)); (case aF => exact (fun _ _ => trivial)); (case aO => exact (viaR HO_6)); (case aS => exact (below_size (viaB HB))); (case aL => have := LMc43.out; omega); intro v877 w47 ho hb hg hat; rw [← Ny876.out] at ho; have HO878 := Aside0.mk (ho); replace BK867 := Aside0.mk (blk_grown (g := gb867) (o := .cells #[.int .i64 a0_0, .int .i64 a0_1, .slice (some ad874) l0_2.length c0_2] 32 (0, 0)) (viaK BK867) hg (Kd.R_ne HO_6.out BK867.out (by decide))); replace BK868 := Aside0.mk (blk_grown (g := gb868) (o := .cells #[.int .i64 a1_0, .int .i64 a1_1, .slice (some ad875) l1_2.length c1_2] 32 (0, 0)) (viaK BK868) hg (Kd.R_ne HO_6.out BK868.out (by decide))); replace HB := Aside0.mk (hb); clear HO_6; clear ho hb hg hat)))
            go_roundg k2
            case measure => have := HJ2.out; have := HK2.out; omega
            case rel => exact ⟨(y876), (wrap64 (x34_2 + 1)), (by first | rfl | (simp; done) | (simp [*]; done)), H', ⟨by have := HJ2.out; have := HK2.out; omega⟩, ⟨viaR HO878⟩, ⟨viaK BK867⟩, ⟨viaK BK868⟩, ⟨viaB HB⟩⟩
           ·rw [if_neg c43] at H
            exact absurd H (by simp)
          ·rw [if_neg c42] at H
           have c42b0 : (!(((rd_T89 l0_2 x34_2).f0) == ((rd_T89 l1_2 x34_2).f0)) || (!(((rd_T89 l0_2 x34_2).f1) == ((rd_T89 l1_2 x34_2).f1)))) = false := by simpa using c42
           clear c42
           have H' := Aside0.mk H
           clear H
           have hnb48 := NB867_868.out
           have hnc48 := NB868_867.out
           have hcz49_0 := bc0 BK867
           have hcz49_1 := bc1 BK867
           have hcz49_2 := bc2 BK867
           have hfz49_0 := blk_frozen BK867.out 0
           have hfz49_1 := blk_frozen BK867.out 1
           have hfz49_2 := blk_frozen BK867.out 2
           have p874 : 0 ≤ (x34_2 : Int) := ofD
           have q874 : x34_2 < (l0_2.length : Int) := ofD
           obtain ⟨ad874, e874, hx874_0, hx874_1⟩ := at_T89 HR0_2.out x34_2 p874 q874
           cases e874
           replace hx874_0 := (HB.out.cell (World.block_lt_of_cell? w _ hx874_0)).trans hx874_0
           replace hx874_1 := (HB.out.cell (World.block_lt_of_cell? w _ hx874_1)).trans hx874_1
           replace p874 := eq_true p874
           replace q874 := eq_true q874
           have hcz50_0 := bc0 BK868
           have hcz50_1 := bc1 BK868
           have hcz50_2 := bc2 BK868
           have hfz50_0 := blk_frozen BK868.out 0
           have hfz50_1 := blk_frozen BK868.out 1
           have hfz50_2 := blk_frozen BK868.out 2
           have p875 : 0 ≤ (x34_2 : Int) := ofD
           have q875 : x34_2 < (l1_2.length : Int) := ofD
           obtain ⟨ad875, e875, hx875_0, hx875_1⟩ := at_T89 HR1_2.out x34_2 p875 q875
           cases e875
           replace hx875_0 := (HB.out.cell (World.block_lt_of_cell? w _ hx875_0)).trans hx875_0
           replace hx875_1 := (HB.out.cell (World.block_lt_of_cell? w _ hx875_1)).trans hx875_1
           replace p875 := eq_true p875
           replace q875 := eq_true q875
           go_wp2
           repeat (go_quiet (fail); try go_wp2)
           go_roundg k2
           case measure => have := HJ2.out; have := HK2.out; omega
           case rel => exact ⟨(x6_2), (wrap64 (x34_2 + 1)), (by first | rfl | (simp; done) | (simp [*]; done)), H', ⟨by have := HJ2.out; have := HK2.out; omega⟩, ⟨viaR HO_6⟩, ⟨viaK BK867⟩, ⟨viaK BK868⟩, ⟨viaB HB⟩⟩
         ·rw [if_neg c41] at H
          exact absurd H (by simp)
        ·rw [if_neg c40] at H
         exact absurd H (by simp)
       ·rw [if_neg c39] at H
        exact absurd H (by simp)
      ·rw [if_neg c38] at H
       have c38b0 := decide_eq_false c38
       clear c38
       simp only [Option.some.injEq, Prod.mk.injEq] at H
       obtain ⟨rfl, rfl⟩ := H
       go_wp2
       repeat (go_quiet (fail); try go_wp2)
       go_ret2
       exact ⟨_, by first | rfl | (simp [errW_none, errW_some] <;> rfl) | (simp [*, errW_none, errW_some] <;> rfl), viaR HO_6, viaB HB⟩

end Go.Proofs.Ytoklfgjemfojgaa.PAll
