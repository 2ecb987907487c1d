/- This text began as one that print.sh wrote for this seat (of the functions named below); it is this session's own: turned where Lean did not take the printed proof, where it was too long for a claim, or only in what it imports. -/
import Derived.Test.YtoklfgjemfojgaaG0
import Derived.Test.YtoklfgjemfojgaaG9
import Derived.Test.YtoklfgjemfojgaaG13
import Derived.Test.YtoklfgjemfojgaaG18
import Derived.Test.YtoklfgjemfojgaaG22
namespace Go.Proofs.Ytoklfgjemfojgaa.PAll
open Go.RowKit Go.Proofs.YtoklfgjemfojgaaW.PrintWords Go.Proofs.YtoklfgjemfojgaaW.PrintLast Go.Proofs.YtoklfgjemfojgaaW.PrintMore
attribute [local go_sem] max2_int min2_int max_two min_two max_three min_three max_four min_four   -- for this text's walks alone
set_option linter.unusedVariables false
set_option linter.unusedSimpArgs false

/-! ### spec_ColumnsTo: function 25 -/
def spec_ColumnsTo.l0 : Nat → Int → List Int → Int → Int → Int → List (S89) → Option (List Int × Bool)
 | 0, _, _, _, _, _, _ => none
 | k + 1, x1, x6, x7, x440000, x440001, x440002 => if x7 < x440001 then ((spec_flRun.f k x440000 x440001 x440002 x7).bind fun bt441 => (if bt441.1 = 1 then (if bt441.2.2.1 = x1 then (if x6.length < 17592186044416 then (spec_ColumnsTo.l0 k x1 (x6 ++ [x7]) (wrap64 (x7 + 1)) x440000 x440001 x440002) else (none)) else (spec_ColumnsTo.l0 k x1 x6 (wrap64 (x7 + 1)) x440000 x440001 x440002)) else (spec_ColumnsTo.l0 k x1 x6 (wrap64 (x7 + 1)) x440000 x440001 x440002))) else (some (x6, true))
def spec_ColumnsTo.f (k : Nat) (a0_0 : Int) (a0_1 : Int) (l0_2 : List (S89)) (a1 : Int) : Option (List Int × Bool) := (spec_flHas.f k a0_0 a0_1 l0_2 a1).bind fun t440 => (if t440 = true then (spec_ColumnsTo.l0 k a1 ([] : List Int) 0 a0_0 a0_1 l0_2) else (some (([] : List Int), false)))
theorem spec_ColumnsTo.mono_l : ∀ k, (∀ y0 y1 y2 y3 y4 y5, LeO (spec_ColumnsTo.l0 k y0 y1 y2 y3 y4 y5) (spec_ColumnsTo.l0 (k + 1) y0 y1 y2 y3 y4 y5))
 | 0 => fun _ _ _ _ _ _ r h => by simp [spec_ColumnsTo.l0] at h
 | k + 1 => by
  have ih0 := spec_ColumnsTo.mono_l k
  ·intro y0 y1 y2 y3 y4 y5
   unfold spec_ColumnsTo.l0
   repeat' first | (with_reducible first | exact ih0 _ _ _ _ _ _ | exact spec_flHas.mono _ _ _ _ _ | exact spec_flRun.mono _ _ _ _ _ | exact LeO.refl _ | exact LeO.none _ | refine LeO.ite ?_ ?_ | refine LeO.bind ?_ (fun _ => ?_)) | exact ih0 _ _ _ _ _ _ | exact spec_flHas.mono _ _ _ _ _ | exact spec_flRun.mono _ _ _ _ _ | exact LeO.none _ | refine LeO.ite ?_ ?_ | refine LeO.bind ?_ (fun _ => ?_)
theorem spec_ColumnsTo.mono : ∀ a0 a1 a2 a3 k, LeO (spec_ColumnsTo.f k a0 a1 a2 a3) (spec_ColumnsTo.f (k + 1) a0 a1 a2 a3) := by
 intro a0 a1 a2 a3 k
 have ih0 := spec_ColumnsTo.mono_l k
 unfold spec_ColumnsTo.f
 repeat' first | (with_reducible first | exact ih0 _ _ _ _ _ _ | exact spec_flHas.mono _ _ _ _ _ | exact spec_flRun.mono _ _ _ _ _ | exact LeO.refl _ | exact LeO.none _ | refine LeO.ite ?_ ?_ | refine LeO.bind ?_ (fun _ => ?_)) | exact ih0 _ _ _ _ _ _ | exact spec_flHas.mono _ _ _ _ _ | exact spec_flRun.mono _ _ _ _ _ | exact LeO.none _ | refine LeO.ite ?_ ?_ | refine LeO.bind ?_ (fun _ => ?_)
set_option maxHeartbeats 8000000 in
set_option maxRecDepth 100000 in
theorem spec_ColumnsTo.calls (k : Nat) (a0_0 : Int) (a0_1 : Int) (A0_2 : Option Addr) (c0_2 : Nat) (l0_2 : List (S89)) (a1 : Int) (r1 : List Int) (r2 : Bool) (w : World) (hr0_2 : Kd.C k89 w A0_2 l0_2.length l0_2) (hc0_2 : l0_2.length ≤ c0_2) (h : spec_ColumnsTo.f k a0_0 a0_1 l0_2 a1 = some (r1, r2)) :
  Calls Try.prog 25 #[.agg #[.int .i64 a0_0, .int .i64 a0_1, .slice A0_2 l0_2.length c0_2], .int .i64 a1] w fun e w' => ∃ v0_ : Value, e = .returned (.tuple #[v0_, .bool r2]) ∧ Kd.R (Kd.int .i64) 3 w' w.heap.size (fun _ => True) v0_ r1 ∧ Below w.heap.size w w' := by
 have hu32 := Try.underlying32
 have hu27 := Try.underlying27
 have HR0_2 := Aside0.mk hr0_2
 have HC0_2 := Aside0.mk hc0_2
 clear hr0_2 hc0_2
 have HB := Aside0.mk (Below.refl w.heap.size w)
 have H : ((spec_flHas.f k a0_0 a0_1 l0_2 a1).bind fun t440 => (if t440 = true then (spec_ColumnsTo.l0 k a1 ([] : List Int) 0 a0_0 a0_1 l0_2) else (some (([] : List Int), false)))) = some (r1, r2) := h
 clear h
 replace H := Option.bind_eq_some_iff.mp H
 obtain ⟨t440, A30, H⟩ := H
 replace H : (if t440 = true then (spec_ColumnsTo.l0 k a1 ([] : List Int) 0 a0_0 a0_1 l0_2) else (some (([] : List Int), false))) = some (r1, r2) := H
 have A3 := Aside0.mk A30
 clear A30
 by_cases c4 : t440 = true
 ·subst c4
  have H1 : (spec_ColumnsTo.l0 k a1 ([] : List Int) 0 a0_0 a0_1 l0_2) = some (r1, r2) := by rw [if_pos rfl] at H; exact H
  clear H
  have H := H1
  clear H1
  have H' := Aside0.mk H
  clear H
  go_enter Try.func25, Try.ntmps25
  go_wp2_with (first | ((with_reducible refine gate_dst (N := 2) rfl ?_); refine box_ev (N := 2) (cs := #[.int .i64 a0_0, .int .i64 a0_1, .slice A0_2 l0_2.length c0_2]) (t := 32) ?_; intro gb439 hg w5 hbox hb; have BK439 := Aside0.mk (hbox); have GW439 := gW (w := w) HB hg; have GE439 := gW (w := w) HB hg; replace HB := bB HB hb; clear hb hbox hg; have hcz6_0 := bc0 BK439; have hcz6_1 := bc1 BK439; have hcz6_2 := bc2 BK439; have hfz6_0 := blk_frozen BK439.out 0; have hfz6_1 := blk_frozen BK439.out 1; have hfz6_2 := blk_frozen BK439.out 2) | ((with_reducible refine gate_callee (f := 50) rfl ?_); refine goesA (some 12) _ #[.agg #[.int .i64 a0_0, .int .i64 a0_1, .slice A0_2 l0_2.length c0_2], .int .i64 a1] ?_ Try.func50; (with_reducible refine (spec_flHas.calls k a0_0 a0_1 _ _ l0_2 a1 true _ ?side1 ?side2 A3.out).mono ?_); (case side1 => repeat (first | exact (Kd.C_below HR0_2.out HB.out) | (with_reducible refine Kd.C_alloc ?_ _) | (with_reducible refine Kd.C_drewN ?_ _) | (with_reducible refine Kd.C_drew ?_))); (case side2 => exact HC0_2.out); rintro e w7 ⟨rfl, hb⟩; refine ⟨_, rfl, ?_⟩; replace BK439 := kB BK439 hb; replace HB := bB HB hb; (try clear hb); (try clear hb2); (try clear hk); (try clear hi)))
  go_loopg [6, 7] k (fun kq v6 v7 w' => ∃ (x6_1 : List Int) (x7_1 : Int), v7 = .int .i64 x7_1 ∧ Aside0 (spec_ColumnsTo.l0 kq a1 x6_1 x7_1 a0_0 a0_1 l0_2 = some (r1, r2)) ∧ Aside0 (kq ≤ k) ∧ Aside0 (Kd.R (Kd.int .i64) 3 w' w.heap.size (fun _ => True) v6 x6_1) ∧ Aside0 (w'.heap[gb439]? = some (.cells #[.int .i64 a0_0, .int .i64 a0_1, (.slice A0_2 l0_2.length c0_2)] 32 (0, 0))) ∧ Aside0 (Below w.heap.size w w'))
  case atStart => exact ⟨(([] : List Int)), (0), (by first | rfl | (simp; done) | (simp [*]; done)), H', ⟨Nat.le_refl _⟩, ⟨by first | exact Kd.R_nil _ _ _ _ _ | exact Kd.N_nil _ _ _ _ _ | exact Kd.V_nil _ _ _ _ _ | exact Kd.Q_nil _ _ _ _ _ | exact Kd.S_nil _ _ _ _ _⟩, ⟨viaK BK439⟩, ⟨viaB HB⟩⟩
  case round =>
   clear H'
   (try clear c4)
   (try clear hcz6_0); (try clear hcz6_1); (try clear hcz6_2); (try clear hfz6_0); (try clear hfz6_1); (try clear hfz6_2)
   obtain ⟨x6_1, x7_1, rfl, HA, HK1, HO_6, BK439, HB⟩ := hrel
   cases gk with
   | zero => exact absurd HA.out (by simp [spec_ColumnsTo.l0])
   | succ k1 =>
    have H := HA.out
    clear HA
    simp only [spec_ColumnsTo.l0] at H
    by_cases c8 : x7_1 < a0_1
    ·rw [if_pos c8] at H
     have c8b0 := decide_eq_true c8
     clear c8
     replace H := Option.bind_eq_some_iff.mp H
     obtain ⟨⟨t441, t442, t443, t444, t445, t446⟩, A90, H⟩ := H
     replace H : (if t441 = 1 then (if t443 = a1 then (if x6_1.length < 17592186044416 then (spec_ColumnsTo.l0 k1 a1 (x6_1 ++ [x7_1]) (wrap64 (x7_1 + 1)) a0_0 a0_1 l0_2) else (none)) else (spec_ColumnsTo.l0 k1 a1 x6_1 (wrap64 (x7_1 + 1)) a0_0 a0_1 l0_2)) else (spec_ColumnsTo.l0 k1 a1 x6_1 (wrap64 (x7_1 + 1)) a0_0 a0_1 l0_2)) = some (r1, r2) := H
     have A9 := Aside0.mk A90
     clear A90
     by_cases c10 : t441 = 1
     ·rw [if_pos c10] at H
      have c10b0 := beq_iff_eq.mpr c10
      have c10b1 := bne_eq_false_iff_eq.mpr c10
      clear c10
      by_cases c11 : t443 = a1
      ·rw [if_pos c11] at H
       have c11b0 := beq_iff_eq.mpr c11
       have c11b1 := bne_eq_false_iff_eq.mpr c11
       clear c11
       by_cases c12 : x6_1.length < 17592186044416
       ·rw [if_pos c12] at H
        have LMc12 := Aside0.mk c12
        clear c12
        obtain ⟨y451, hy451⟩ : ∃ y_ : List Int, y_ = (x6_1 ++ [x7_1]) := ⟨_, rfl⟩
        replace H : (spec_ColumnsTo.l0 k1 a1 y451 (wrap64 (x7_1 + 1)) a0_0 a0_1 l0_2) = some (r1, r2) := by first | (rw [hy451]; with_reducible exact H) | (have H2_ := (Option.bind_some _ _).symm.trans H; rw [hy451]; with_reducible exact H2_) | (have H2_ := (Option.bind_some _ _).symm.trans H; with_reducible exact H2_) | with_reducible exact H | (rw [hy451]; exact H) | exact H
        have Ny451 := Aside0.mk hy451
        clear hy451
        have H' := Aside0.mk H
        clear H
        have hcz13_0 := bc0 BK439
        have hcz13_1 := bc1 BK439
        have hcz13_2 := bc2 BK439
        have hfz13_0 := blk_frozen BK439.out 0
        have hfz13_1 := blk_frozen BK439.out 1
        have hfz13_2 := blk_frozen BK439.out 2
        go_wp2_with (first | ((with_reducible refine gate_callee (f := 51) rfl ?_); refine goesA (some 23) _ #[.agg #[.int .i64 a0_0, .int .i64 a0_1, .slice A0_2 l0_2.length c0_2], .int .i64 x7_1] ?_ Try.func51; (with_reducible refine (spec_flRun.calls k1 a0_0 a0_1 _ _ l0_2 x7_1 t441 t442 t443 t444 t445 t446 _ ?side1 ?side2 A9.out).mono ?_); (case side1 => repeat (first | exact (Kd.C_below HR0_2.out HB.out) | (with_reducible refine Kd.C_alloc ?_ _) | (with_reducible refine Kd.C_drewN ?_ _) | (with_reducible refine Kd.C_drew ?_))); (case side2 => exact HC0_2.out); rintro e w14 ⟨v447, rfl, ho0, hb⟩; refine ⟨_, rfl, ?_⟩; have HO448 := Aside0.mk (Kd.R_lower ho0 (below_size (viaB HB))); replace HO_6 := Aside0.mk (Kd.R_below (viaR HO_6) hb); replace BK439 := kB BK439 hb; replace HB := bB HB hb; (try clear hb); (try clear hb2); (try clear hk); (try clear hi); (try clear ho0)) | ((with_reducible refine gate_dst (N := 8) rfl ?_); refine box_ev (N := 8) (cs := #[.int .i64 0, .int .i64 0, .int .i64 0]) (t := 27) ?_; intro gb449 hg w15 hbox hb; have BK449 := Aside0.mk (hbox); have GW449 := gW (w := w) HB hg; have GE449 := gW (w := w) HB hg; have NB439_449 := neL BK439 hg; have NB449_439 := neG BK439 hg; replace HO_6 := Aside0.mk (Kd.R_below (viaR HO_6) hb); replace HO448 := Aside0.mk (Kd.R_below (viaR HO448) hb); replace BK439 := kB BK439 hb; replace HB := bB HB hb; clear hb hbox hg) | ((with_reducible refine gate_dst (N := 9) rfl ?_); refine box_ev (N := 9) (cs := #[.int .i64 0, .int .i64 0, .slice none 0 0]) (t := 32) ?_; intro gb450 hg w16 hbox hb; have BK450 := Aside0.mk (hbox); have GW450 := gW (w := w) HB hg; have GE450 := gW (w := w) HB hg; have NB439_450 := neL BK439 hg; have NB450_439 := neG BK439 hg; have NB449_450 := neL BK449 hg; have NB450_449 := neG BK449 hg; replace HO_6 := Aside0.mk (Kd.R_below (viaR HO_6) hb); replace HO448 := Aside0.mk (Kd.R_below (viaR HO448) hb); replace BK439 := kB BK439 hb; replace BK449 := kB BK449 hb; replace HB := bB HB hb; clear hb hbox hg; have hnb17 := NB449_439.out; have hnc17 := NB439_449.out; have hnb18 := NB449_450.out; have hnc18 := NB450_449.out; have hcz19_0 := bc0 BK449; have hcz19_1 := bc1 BK449; have hcz19_2 := bc2 BK449; have hfz19_0 := blk_frozen BK449.out 0; have hfz19_1 := blk_frozen BK449.out 1; have hfz19_2 := blk_frozen BK449.out 2; have hnb20 := NB450_439.out; have hnc20 := NB439_450.out; have hcz21_0 := bc0 BK450; have hcz21_1 := bc1 BK450; have hcz21_2 := bc2 BK450; have hfz21_0 := blk_frozen BK450.out 0; have hfz21_1 := blk_frozen BK450.out 1; have hfz21_2 := blk_frozen BK450.out 2; obtain ⟨Ao22, co22, eo22⟩ := Kd.R_slice HO448.out; subst eo22) | ((with_reducible refine gate_builtin (b := .append) (xs := #[.tmp 35, .tmp 37]) rfl ?_); at_builtin; refine Kd.R_append (Kd.int .i64) (w0 := w) w.heap.size rfl (.tmp 35) (.tmp 37) 43 3 (.int .i64 0) 8 rfl Try.underlying43 info3 rfl (by decide) (by omega) u6 x6_1 x7_1 [.int .i64 x7_1] (fun _ => True) (fun _ => False) rfl (by first | (go_simp; done) | (go_simp; rfl)) ?aP (fun _ hk => hk.elim) ?aF ?aO ?aB ?aS ?aL ?_; (case aP => exact rfl); (case aB => exact (viaB HB)); (case aF => exact (fun _ _ => trivial)); (case aO => exact (by (with_reducible repeat (first | apply Kd.R_alloc | apply Kd.R_drewN | apply Kd.R_drew)); exact Kd.R_mono (Kd.R_far (p := ⟨gb450, 2, none⟩) (Kd.R_far (p := ⟨gb450, 1, none⟩) (Kd.R_far (p := ⟨gb450, 0, none⟩) (Kd.R_far (p := ⟨gb449, 2, none⟩) (Kd.R_far (p := ⟨gb449, 1, none⟩) (Kd.R_far (p := ⟨gb449, 0, none⟩) (Kd.R_types (Kd.R_types HO_6.out BK449.out (by decide)) BK450.out (by decide)) (fun _ hk => hk.1.2) (.int .i64 t441)) (fun _ hk => hk.1.2) (.int .i64 t442)) (fun _ hk => hk.1.2) (.int .i64 t443)) (fun _ hk => hk.2) (.int .i64 t444)) (fun _ hk => hk.2) (.int .i64 t445)) (fun _ hk => hk.2) (.slice Ao22 t446.length co22)) (fun _ hk => trivial))); (case aS => exact (below_size (viaB HB))); (case aL => have := LMc12.out; omega); intro v452 w23 ho hb hg hat; rw [← Ny451.out] at ho; have HO453 := Aside0.mk (ho); replace BK439 := Aside0.mk (blk_grown (g := gb439) (o := .cells #[.int .i64 a0_0, .int .i64 a0_1, .slice A0_2 l0_2.length c0_2] 32 (0, 0)) (by (with_reducible repeat (first | refine blk_drewN ?_ _ | refine blk_drew ?_ | refine blk_alloc ?_ _)); refine blk_far ?_ NB439_450.out _; (with_reducible repeat (first | refine blk_drewN ?_ _ | refine blk_drew ?_ | refine blk_alloc ?_ _)); refine blk_far ?_ NB439_450.out _; (with_reducible repeat (first | refine blk_drewN ?_ _ | refine blk_drew ?_ | refine blk_alloc ?_ _)); refine blk_far ?_ NB439_450.out _; (with_reducible repeat (first | refine blk_drewN ?_ _ | refine blk_drew ?_ | refine blk_alloc ?_ _)); refine blk_far ?_ NB439_449.out _; (with_reducible repeat (first | refine blk_drewN ?_ _ | refine blk_drew ?_ | refine blk_alloc ?_ _)); refine blk_far ?_ NB439_449.out _; (with_reducible repeat (first | refine blk_drewN ?_ _ | refine blk_drew ?_ | refine blk_alloc ?_ _)); refine blk_far ?_ NB439_449.out _; (with_reducible repeat (first | refine blk_drewN ?_ _ | refine blk_drew ?_ | refine blk_alloc ?_ _)); exact BK439.out) hg (Kd.R_ne HO_6.out BK439.out (by decide))); replace HO448 := Aside0.mk (Kd.R_over' (by (with_reducible repeat (first | apply Kd.R_alloc | apply Kd.R_drewN | apply Kd.R_drew)); exact (Kd.R_mono (Kd.R_mono (Kd.R_far (p := ⟨gb450, 2, none⟩) (Kd.R_far (p := ⟨gb450, 1, none⟩) (Kd.R_far (p := ⟨gb450, 0, none⟩) (Kd.R_far (p := ⟨gb449, 2, none⟩) (Kd.R_far (p := ⟨gb449, 1, none⟩) (Kd.R_far (p := ⟨gb449, 0, none⟩) (Kd.R_types (Kd.R_types HO448.out BK449.out (by decide)) BK450.out (by decide)) (fun _ hk => hk.1.2) (.int .i64 t441)) (fun _ hk => hk.1.2) (.int .i64 t442)) (fun _ hk => hk.1.2) (.int .i64 t443)) (fun _ hk => hk.2) (.int .i64 t444)) (fun _ hk => hk.2) (.int .i64 t445)) (fun _ hk => hk.2) (.slice Ao22 t446.length co22)) (fun _ h_ => h_.1)) (fun _ h_ => h_.1))) (Kd.R_typed (by (with_reducible repeat (first | apply Kd.R_alloc | apply Kd.R_drewN | apply Kd.R_drew)); exact (Kd.R_mono (Kd.R_mono (Kd.R_far (p := ⟨gb450, 2, none⟩) (Kd.R_far (p := ⟨gb450, 1, none⟩) (Kd.R_far (p := ⟨gb450, 0, none⟩) (Kd.R_far (p := ⟨gb449, 2, none⟩) (Kd.R_far (p := ⟨gb449, 1, none⟩) (Kd.R_far (p := ⟨gb449, 0, none⟩) (Kd.R_types (Kd.R_types HO_6.out BK449.out (by decide)) BK450.out (by decide)) (fun _ hk => hk.1.2) (.int .i64 t441)) (fun _ hk => hk.1.2) (.int .i64 t442)) (fun _ hk => hk.1.2) (.int .i64 t443)) (fun _ hk => hk.2) (.int .i64 t444)) (fun _ hk => hk.2) (.int .i64 t445)) (fun _ hk => hk.2) (.slice Ao22 t446.length co22)) (fun _ h_ => h_.1)) (fun _ h_ => h_.1)))) (by decide) hg); replace BK449 := Aside0.mk (blk_grown (g := gb449) (o := .cells #[.int .i64 t441, .int .i64 t442, .int .i64 t443] 27 (0, 0)) (by (with_reducible repeat (first | refine blk_drewN ?_ _ | refine blk_drew ?_ | refine blk_alloc ?_ _)); refine blk_far ?_ NB449_450.out _; (with_reducible repeat (first | refine blk_drewN ?_ _ | refine blk_drew ?_ | refine blk_alloc ?_ _)); refine blk_far ?_ NB449_450.out _; (with_reducible repeat (first | refine blk_drewN ?_ _ | refine blk_drew ?_ | refine blk_alloc ?_ _)); refine blk_far ?_ NB449_450.out _; (with_reducible repeat (first | refine blk_drewN ?_ _ | refine blk_drew ?_ | refine blk_alloc ?_ _)); refine blk_put (cs := #[.int .i64 t441, .int .i64 t442, .int .i64 0]) ?_ 2 _ rfl; (with_reducible repeat (first | refine blk_drewN ?_ _ | refine blk_drew ?_ | refine blk_alloc ?_ _)); refine blk_put (cs := #[.int .i64 t441, .int .i64 0, .int .i64 0]) ?_ 1 _ rfl; (with_reducible repeat (first | refine blk_drewN ?_ _ | refine blk_drew ?_ | refine blk_alloc ?_ _)); refine blk_put (cs := #[.int .i64 0, .int .i64 0, .int .i64 0]) ?_ 0 _ rfl; (with_reducible repeat (first | refine blk_drewN ?_ _ | refine blk_drew ?_ | refine blk_alloc ?_ _)); exact BK449.out) hg (Kd.R_ne HO_6.out BK449.out (by decide))); replace BK450 := Aside0.mk (blk_grown (g := gb450) (o := .cells #[.int .i64 t444, .int .i64 t445, .slice Ao22 t446.length co22] 32 (0, 0)) (by (with_reducible repeat (first | refine blk_drewN ?_ _ | refine blk_drew ?_ | refine blk_alloc ?_ _)); refine blk_put (cs := #[.int .i64 t444, .int .i64 t445, .slice none 0 0]) ?_ 2 _ rfl; (with_reducible repeat (first | refine blk_drewN ?_ _ | refine blk_drew ?_ | refine blk_alloc ?_ _)); refine blk_put (cs := #[.int .i64 t444, .int .i64 0, .slice none 0 0]) ?_ 1 _ rfl; (with_reducible repeat (first | refine blk_drewN ?_ _ | refine blk_drew ?_ | refine blk_alloc ?_ _)); refine blk_put (cs := #[.int .i64 0, .int .i64 0, .slice none 0 0]) ?_ 0 _ rfl; (with_reducible repeat (first | refine blk_drewN ?_ _ | refine blk_drew ?_ | refine blk_alloc ?_ _)); refine blk_far ?_ NB450_449.out _; (with_reducible repeat (first | refine blk_drewN ?_ _ | refine blk_drew ?_ | refine blk_alloc ?_ _)); refine blk_far ?_ NB450_449.out _; (with_reducible repeat (first | refine blk_drewN ?_ _ | refine blk_drew ?_ | refine blk_alloc ?_ _)); refine blk_far ?_ NB450_449.out _; (with_reducible repeat (first | refine blk_drewN ?_ _ | refine blk_drew ?_ | refine blk_alloc ?_ _)); exact BK450.out) hg (Kd.R_ne HO_6.out BK450.out (by decide))); replace HB := Aside0.mk (hb); clear HO_6; clear ho hb hg hat))
        go_roundg k1
        case measure => have := HK1.out; omega
        case rel => exact ⟨(y451), (wrap64 (x7_1 + 1)), (by first | rfl | (simp; done) | (simp [*]; done)), H', ⟨by have := HK1.out; omega⟩, ⟨viaR HO453⟩, ⟨viaK BK439⟩, ⟨viaB HB⟩⟩
       ·rw [if_neg c12] at H
        exact absurd H (by simp)
      ·rw [if_neg c11] at H
       have c11b0 := beq_eq_false_iff_ne.mpr c11
       have c11b1 := bne_iff_ne.mpr c11
       have H' := Aside0.mk H
       clear H
       have hcz24_0 := bc0 BK439
       have hcz24_1 := bc1 BK439
       have hcz24_2 := bc2 BK439
       have hfz24_0 := blk_frozen BK439.out 0
       have hfz24_1 := blk_frozen BK439.out 1
       have hfz24_2 := blk_frozen BK439.out 2
       go_wp2_with (first | ((with_reducible refine gate_callee (f := 51) rfl ?_); refine goesA (some 23) _ #[.agg #[.int .i64 a0_0, .int .i64 a0_1, .slice A0_2 l0_2.length c0_2], .int .i64 x7_1] ?_ Try.func51; (with_reducible refine (spec_flRun.calls k1 a0_0 a0_1 _ _ l0_2 x7_1 t441 t442 t443 t444 t445 t446 _ ?side1 ?side2 A9.out).mono ?_); (case side1 => repeat (first | exact (Kd.C_below HR0_2.out HB.out) | (with_reducible refine Kd.C_alloc ?_ _) | (with_reducible refine Kd.C_drewN ?_ _) | (with_reducible refine Kd.C_drew ?_))); (case side2 => exact HC0_2.out); rintro e w25 ⟨v447, rfl, ho0, hb⟩; refine ⟨_, rfl, ?_⟩; have HO448 := Aside0.mk (Kd.R_lower ho0 (below_size (viaB HB))); replace HO_6 := Aside0.mk (Kd.R_below (viaR HO_6) hb); replace BK439 := kB BK439 hb; replace HB := bB HB hb; (try clear hb); (try clear hb2); (try clear hk); (try clear hi); (try clear ho0)) | ((with_reducible refine gate_dst (N := 8) rfl ?_); refine box_ev (N := 8) (cs := #[.int .i64 0, .int .i64 0, .int .i64 0]) (t := 27) ?_; intro gb449 hg w26 hbox hb; have BK449 := Aside0.mk (hbox); have GW449 := gW (w := w) HB hg; have GE449 := gW (w := w) HB hg; have NB439_449 := neL BK439 hg; have NB449_439 := neG BK439 hg; replace HO_6 := Aside0.mk (Kd.R_below (viaR HO_6) hb); replace HO448 := Aside0.mk (Kd.R_below (viaR HO448) hb); replace BK439 := kB BK439 hb; replace HB := bB HB hb; clear hb hbox hg) | ((with_reducible refine gate_dst (N := 9) rfl ?_); refine box_ev (N := 9) (cs := #[.int .i64 0, .int .i64 0, .slice none 0 0]) (t := 32) ?_; intro gb450 hg w27 hbox hb; have BK450 := Aside0.mk (hbox); have GW450 := gW (w := w) HB hg; have GE450 := gW (w := w) HB hg; have NB439_450 := neL BK439 hg; have NB450_439 := neG BK439 hg; have NB449_450 := neL BK449 hg; have NB450_449 := neG BK449 hg; replace HO_6 := Aside0.mk (Kd.R_below (viaR HO_6) hb); replace HO448 := Aside0.mk (Kd.R_below (viaR HO448) hb); replace BK439 := kB BK439 hb; replace BK449 := kB BK449 hb; replace HB := bB HB hb; clear hb hbox hg; have hnb28 := NB449_439.out; have hnc28 := NB439_449.out; have hnb29 := NB449_450.out; have hnc29 := NB450_449.out; have hcz30_0 := bc0 BK449; have hcz30_1 := bc1 BK449; have hcz30_2 := bc2 BK449; have hfz30_0 := blk_frozen BK449.out 0; have hfz30_1 := blk_frozen BK449.out 1; have hfz30_2 := blk_frozen BK449.out 2; have hnb31 := NB450_439.out; have hnc31 := NB439_450.out; have hcz32_0 := bc0 BK450; have hcz32_1 := bc1 BK450; have hcz32_2 := bc2 BK450; have hfz32_0 := blk_frozen BK450.out 0; have hfz32_1 := blk_frozen BK450.out 1; have hfz32_2 := blk_frozen BK450.out 2; obtain ⟨Ao33, co33, eo33⟩ := Kd.R_slice HO448.out; subst eo33))
       go_roundg k1
       case measure => have := HK1.out; omega
       case rel => exact ⟨(x6_1), (wrap64 (x7_1 + 1)), (by first | rfl | (simp; done) | (simp [*]; done)), H', ⟨by have := HK1.out; omega⟩, ⟨by (with_reducible repeat (first | apply Kd.R_alloc | apply Kd.R_drewN | apply Kd.R_drew)); exact Kd.R_mono (Kd.R_far (p := ⟨gb450, 2, none⟩) (Kd.R_far (p := ⟨gb450, 1, none⟩) (Kd.R_far (p := ⟨gb450, 0, none⟩) (Kd.R_far (p := ⟨gb449, 2, none⟩) (Kd.R_far (p := ⟨gb449, 1, none⟩) (Kd.R_far (p := ⟨gb449, 0, none⟩) (Kd.R_types (Kd.R_types HO_6.out BK449.out (by decide)) BK450.out (by decide)) (fun _ hk => hk.1.2) (.int .i64 t441)) (fun _ hk => hk.1.2) (.int .i64 t442)) (fun _ hk => hk.1.2) (.int .i64 t443)) (fun _ hk => hk.2) (.int .i64 t444)) (fun _ hk => hk.2) (.int .i64 t445)) (fun _ hk => hk.2) (.slice Ao33 t446.length co33)) (fun _ hk => trivial)⟩, ⟨by (with_reducible repeat (first | refine blk_drewN ?_ _ | refine blk_drew ?_ | refine blk_alloc ?_ _)); refine blk_far ?_ NB439_450.out _; (with_reducible repeat (first | refine blk_drewN ?_ _ | refine blk_drew ?_ | refine blk_alloc ?_ _)); refine blk_far ?_ NB439_450.out _; (with_reducible repeat (first | refine blk_drewN ?_ _ | refine blk_drew ?_ | refine blk_alloc ?_ _)); refine blk_far ?_ NB439_450.out _; (with_reducible repeat (first | refine blk_drewN ?_ _ | refine blk_drew ?_ | refine blk_alloc ?_ _)); refine blk_far ?_ NB439_449.out _; (with_reducible repeat (first | refine blk_drewN ?_ _ | refine blk_drew ?_ | refine blk_alloc ?_ _)); refine blk_far ?_ NB439_449.out _; (with_reducible repeat (first | refine blk_drewN ?_ _ | refine blk_drew ?_ | refine blk_alloc ?_ _)); refine blk_far ?_ NB439_449.out _; (with_reducible repeat (first | refine blk_drewN ?_ _ | refine blk_drew ?_ | refine blk_alloc ?_ _)); exact BK439.out⟩, ⟨viaB HB⟩⟩
     ·rw [if_neg c10] at H
      have c10b0 := beq_eq_false_iff_ne.mpr c10
      have c10b1 := bne_iff_ne.mpr c10
      have H' := Aside0.mk H
      clear H
      have hcz34_0 := bc0 BK439
      have hcz34_1 := bc1 BK439
      have hcz34_2 := bc2 BK439
      have hfz34_0 := blk_frozen BK439.out 0
      have hfz34_1 := blk_frozen BK439.out 1
      have hfz34_2 := blk_frozen BK439.out 2
      go_wp2_with (first | ((with_reducible refine gate_callee (f := 51) rfl ?_); refine goesA (some 23) _ #[.agg #[.int .i64 a0_0, .int .i64 a0_1, .slice A0_2 l0_2.length c0_2], .int .i64 x7_1] ?_ Try.func51; (with_reducible refine (spec_flRun.calls k1 a0_0 a0_1 _ _ l0_2 x7_1 t441 t442 t443 t444 t445 t446 _ ?side1 ?side2 A9.out).mono ?_); (case side1 => repeat (first | exact (Kd.C_below HR0_2.out HB.out) | (with_reducible refine Kd.C_alloc ?_ _) | (with_reducible refine Kd.C_drewN ?_ _) | (with_reducible refine Kd.C_drew ?_))); (case side2 => exact HC0_2.out); rintro e w35 ⟨v447, rfl, ho0, hb⟩; refine ⟨_, rfl, ?_⟩; have HO448 := Aside0.mk (Kd.R_lower ho0 (below_size (viaB HB))); replace HO_6 := Aside0.mk (Kd.R_below (viaR HO_6) hb); replace BK439 := kB BK439 hb; replace HB := bB HB hb; (try clear hb); (try clear hb2); (try clear hk); (try clear hi); (try clear ho0)) | ((with_reducible refine gate_dst (N := 8) rfl ?_); refine box_ev (N := 8) (cs := #[.int .i64 0, .int .i64 0, .int .i64 0]) (t := 27) ?_; intro gb449 hg w36 hbox hb; have BK449 := Aside0.mk (hbox); have GW449 := gW (w := w) HB hg; have GE449 := gW (w := w) HB hg; have NB439_449 := neL BK439 hg; have NB449_439 := neG BK439 hg; replace HO_6 := Aside0.mk (Kd.R_below (viaR HO_6) hb); replace HO448 := Aside0.mk (Kd.R_below (viaR HO448) hb); replace BK439 := kB BK439 hb; replace HB := bB HB hb; clear hb hbox hg) | ((with_reducible refine gate_dst (N := 9) rfl ?_); refine box_ev (N := 9) (cs := #[.int .i64 0, .int .i64 0, .slice none 0 0]) (t := 32) ?_; intro gb450 hg w37 hbox hb; have BK450 := Aside0.mk (hbox); have GW450 := gW (w := w) HB hg; have GE450 := gW (w := w) HB hg; have NB439_450 := neL BK439 hg; have NB450_439 := neG BK439 hg; have NB449_450 := neL BK449 hg; have NB450_449 := neG BK449 hg; replace HO_6 := Aside0.mk (Kd.R_below (viaR HO_6) hb); replace HO448 := Aside0.mk (Kd.R_below (viaR HO448) hb); replace BK439 := kB BK439 hb; replace BK449 := kB BK449 hb; replace HB := bB HB hb; clear hb hbox hg; have hnb38 := NB449_439.out; have hnc38 := NB439_449.out; have hnb39 := NB449_450.out; have hnc39 := NB450_449.out; have hcz40_0 := bc0 BK449; have hcz40_1 := bc1 BK449; have hcz40_2 := bc2 BK449; have hfz40_0 := blk_frozen BK449.out 0; have hfz40_1 := blk_frozen BK449.out 1; have hfz40_2 := blk_frozen BK449.out 2; have hnb41 := NB450_439.out; have hnc41 := NB439_450.out; have hcz42_0 := bc0 BK450; have hcz42_1 := bc1 BK450; have hcz42_2 := bc2 BK450; have hfz42_0 := blk_frozen BK450.out 0; have hfz42_1 := blk_frozen BK450.out 1; have hfz42_2 := blk_frozen BK450.out 2; obtain ⟨Ao43, co43, eo43⟩ := Kd.R_slice HO448.out; subst eo43))
      go_roundg k1
      case measure => have := HK1.out; omega
      case rel => exact ⟨(x6_1), (wrap64 (x7_1 + 1)), (by first | rfl | (simp; done) | (simp [*]; done)), H', ⟨by have := HK1.out; omega⟩, ⟨by (with_reducible repeat (first | apply Kd.R_alloc | apply Kd.R_drewN | apply Kd.R_drew)); exact Kd.R_mono (Kd.R_far (p := ⟨gb450, 2, none⟩) (Kd.R_far (p := ⟨gb450, 1, none⟩) (Kd.R_far (p := ⟨gb450, 0, none⟩) (Kd.R_far (p := ⟨gb449, 2, none⟩) (Kd.R_far (p := ⟨gb449, 1, none⟩) (Kd.R_far (p := ⟨gb449, 0, none⟩) (Kd.R_types (Kd.R_types HO_6.out BK449.out (by decide)) BK450.out (by decide)) (fun _ hk => hk.1.2) (.int .i64 t441)) (fun _ hk => hk.1.2) (.int .i64 t442)) (fun _ hk => hk.1.2) (.int .i64 t443)) (fun _ hk => hk.2) (.int .i64 t444)) (fun _ hk => hk.2) (.int .i64 t445)) (fun _ hk => hk.2) (.slice Ao43 t446.length co43)) (fun _ hk => trivial)⟩, ⟨by (with_reducible repeat (first | refine blk_drewN ?_ _ | refine blk_drew ?_ | refine blk_alloc ?_ _)); refine blk_far ?_ NB439_450.out _; (with_reducible repeat (first | refine blk_drewN ?_ _ | refine blk_drew ?_ | refine blk_alloc ?_ _)); refine blk_far ?_ NB439_450.out _; (with_reducible repeat (first | refine blk_drewN ?_ _ | refine blk_drew ?_ | refine blk_alloc ?_ _)); refine blk_far ?_ NB439_450.out _; (with_reducible repeat (first | refine blk_drewN ?_ _ | refine blk_drew ?_ | refine blk_alloc ?_ _)); refine blk_far ?_ NB439_449.out _; (with_reducible repeat (first | refine blk_drewN ?_ _ | refine blk_drew ?_ | refine blk_alloc ?_ _)); refine blk_far ?_ NB439_449.out _; (with_reducible repeat (first | refine blk_drewN ?_ _ | refine blk_drew ?_ | refine blk_alloc ?_ _)); refine blk_far ?_ NB439_449.out _; (with_reducible repeat (first | refine blk_drewN ?_ _ | refine blk_drew ?_ | refine blk_alloc ?_ _)); exact BK439.out⟩, ⟨viaB HB⟩⟩
    ·rw [if_neg c8] at H
     have c8b0 := decide_eq_false c8
     clear c8
     simp only [Option.some.injEq, Prod.mk.injEq] at H
     obtain ⟨rfl, rfl⟩ := H
     have hcz44_0 := bc0 BK439
     have hcz44_1 := bc1 BK439
     have hcz44_2 := bc2 BK439
     have hfz44_0 := blk_frozen BK439.out 0
     have hfz44_1 := blk_frozen BK439.out 1
     have hfz44_2 := blk_frozen BK439.out 2
     go_wp2
     go_ret2
     exact ⟨_, by first | rfl | (simp [errW_none, errW_some] <;> rfl) | (simp [*, errW_none, errW_some] <;> rfl), viaR HO_6, viaB HB⟩
 ·replace c4 := Bool.eq_false_iff.mpr c4
  subst c4
  have H1 : (some (([] : List Int), false)) = some (r1, r2) := by rw [if_neg (show ¬ (false = true) by decide)] at H; exact H
  clear H
  have H := H1
  clear H1
  simp only [Option.some.injEq, Prod.mk.injEq] at H
  obtain ⟨rfl, rfl⟩ := H
  go_enter Try.func25, Try.ntmps25
  go_wp2_with (first | ((with_reducible refine gate_dst (N := 2) rfl ?_); refine box_ev (N := 2) (cs := #[.int .i64 a0_0, .int .i64 a0_1, .slice A0_2 l0_2.length c0_2]) (t := 32) ?_; intro gb439 hg w45 hbox hb; have BK439 := Aside0.mk (hbox); have GW439 := gW (w := w) HB hg; have GE439 := gW (w := w) HB hg; replace HB := bB HB hb; clear hb hbox hg; have hcz46_0 := bc0 BK439; have hcz46_1 := bc1 BK439; have hcz46_2 := bc2 BK439; have hfz46_0 := blk_frozen BK439.out 0; have hfz46_1 := blk_frozen BK439.out 1; have hfz46_2 := blk_frozen BK439.out 2) | ((with_reducible refine gate_callee (f := 50) rfl ?_); refine goesA (some 12) _ #[.agg #[.int .i64 a0_0, .int .i64 a0_1, .slice A0_2 l0_2.length c0_2], .int .i64 a1] ?_ Try.func50; (with_reducible refine (spec_flHas.calls k a0_0 a0_1 _ _ l0_2 a1 false _ ?side1 ?side2 A3.out).mono ?_); (case side1 => repeat (first | exact (Kd.C_below HR0_2.out HB.out) | (with_reducible refine Kd.C_alloc ?_ _) | (with_reducible refine Kd.C_drewN ?_ _) | (with_reducible refine Kd.C_drew ?_))); (case side2 => exact HC0_2.out); rintro e w47 ⟨rfl, hb⟩; refine ⟨_, rfl, ?_⟩; replace BK439 := kB BK439 hb; replace HB := bB HB hb; (try clear hb); (try clear hb2); (try clear hk); (try clear hi)))
  go_ret2
  exact ⟨_, by first | rfl | (simp [errW_none, errW_some] <;> rfl) | (simp [*, errW_none, errW_some] <;> rfl), by first | exact Kd.R_nil _ _ _ _ _ | exact Kd.N_nil _ _ _ _ _ | exact Kd.V_nil _ _ _ _ _ | exact Kd.Q_nil _ _ _ _ _ | exact Kd.S_nil _ _ _ _ _, viaB HB⟩

/-! ### impl_ColumnsTo: function 26 -/
def impl_ColumnsTo.l0 : Nat → Int → List Int → Int → Int → Int → List (S89) → Option (List Int × Bool)
 | 0, _, _, _, _, _, _ => none
 | k + 1, x1, x6, x7, x455000, x455001, x455002 => if x7 < x455001 then ((impl_FallOf.f k x455000 x455001 x455002 x7).bind fun bt459 => (if bt459.1 = 1 then (if bt459.2.2.1 = x1 then (if x6.length < 17592186044416 then (impl_ColumnsTo.l0 k x1 (x6 ++ [x7]) (wrap64 (x7 + 1)) x455000 x455001 x455002) else (none)) else (impl_ColumnsTo.l0 k x1 x6 (wrap64 (x7 + 1)) x455000 x455001 x455002)) else (impl_ColumnsTo.l0 k x1 x6 (wrap64 (x7 + 1)) x455000 x455001 x455002))) else (some (x6, true))
def impl_ColumnsTo.f (k : Nat) (a0_0 : Int) (a0_1 : Int) (l0_2 : List (S89)) (a1 : Int) : Option (List Int × Bool) := (impl_validEntry.f k a0_0 a0_1 l0_2 a1).bind fun t455 => (if t455 = true then (impl_ColumnsTo.l0 k a1 (([] : List Int)) 0 a0_0 a0_1 l0_2) else (some (([] : List Int), false)))
theorem impl_ColumnsTo.mono_l : ∀ k, (∀ y0 y1 y2 y3 y4 y5, LeO (impl_ColumnsTo.l0 k y0 y1 y2 y3 y4 y5) (impl_ColumnsTo.l0 (k + 1) y0 y1 y2 y3 y4 y5))
 | 0 => fun _ _ _ _ _ _ r h => by simp [impl_ColumnsTo.l0] at h
 | k + 1 => by
  have ih0 := impl_ColumnsTo.mono_l k
  ·intro y0 y1 y2 y3 y4 y5
   unfold impl_ColumnsTo.l0
   repeat' first | (with_reducible first | exact ih0 _ _ _ _ _ _ | exact impl_FallOf.mono _ _ _ _ _ | exact impl_validEntry.mono _ _ _ _ _ | exact LeO.refl _ | exact LeO.none _ | refine LeO.ite ?_ ?_ | refine LeO.bind ?_ (fun _ => ?_)) | exact ih0 _ _ _ _ _ _ | exact impl_FallOf.mono _ _ _ _ _ | exact impl_validEntry.mono _ _ _ _ _ | exact LeO.none _ | refine LeO.ite ?_ ?_ | refine LeO.bind ?_ (fun _ => ?_)
theorem impl_ColumnsTo.mono : ∀ a0 a1 a2 a3 k, LeO (impl_ColumnsTo.f k a0 a1 a2 a3) (impl_ColumnsTo.f (k + 1) a0 a1 a2 a3) := by
 intro a0 a1 a2 a3 k
 have ih0 := impl_ColumnsTo.mono_l k
 unfold impl_ColumnsTo.f
 repeat' first | (with_reducible first | exact ih0 _ _ _ _ _ _ | exact impl_FallOf.mono _ _ _ _ _ | exact impl_validEntry.mono _ _ _ _ _ | exact LeO.refl _ | exact LeO.none _ | refine LeO.ite ?_ ?_ | refine LeO.bind ?_ (fun _ => ?_)) | exact ih0 _ _ _ _ _ _ | exact impl_FallOf.mono _ _ _ _ _ | exact impl_validEntry.mono _ _ _ _ _ | exact LeO.none _ | refine LeO.ite ?_ ?_ | refine LeO.bind ?_ (fun _ => ?_)
set_option maxHeartbeats 8000000 in
set_option maxRecDepth 100000 in
theorem impl_ColumnsTo.calls (k : Nat) (a0_0 : Int) (a0_1 : Int) (A0_2 : Option Addr) (c0_2 : Nat) (l0_2 : List (S89)) (a1 : Int) (r1 : List Int) (r2 : Bool) (w : World) (hr0_2 : Kd.C k89 w A0_2 l0_2.length l0_2) (hc0_2 : l0_2.length ≤ c0_2) (h : impl_ColumnsTo.f k a0_0 a0_1 l0_2 a1 = some (r1, r2)) :
  Calls Try.prog 26 #[.agg #[.int .i64 a0_0, .int .i64 a0_1, .slice A0_2 l0_2.length c0_2], .int .i64 a1] w fun e w' => ∃ v0_ : Value, e = .returned (.tuple #[v0_, .bool r2]) ∧ Kd.R (Kd.int .i64) 3 w' w.heap.size (fun _ => True) v0_ r1 ∧ Below w.heap.size w w' := by
 have hu32 := Try.underlying32
 have hu27 := Try.underlying27
 have HR0_2 := Aside0.mk hr0_2
 have HC0_2 := Aside0.mk hc0_2
 clear hr0_2 hc0_2
 have HB := Aside0.mk (Below.refl w.heap.size w)
 have H : ((impl_validEntry.f k a0_0 a0_1 l0_2 a1).bind fun t455 => (if t455 = true then (impl_ColumnsTo.l0 k a1 (([] : List Int)) 0 a0_0 a0_1 l0_2) else (some (([] : List Int), false)))) = some (r1, r2) := h
 clear h
 replace H := Option.bind_eq_some_iff.mp H
 obtain ⟨t455, A30, H⟩ := H
 replace H : (if t455 = true then (impl_ColumnsTo.l0 k a1 (([] : List Int)) 0 a0_0 a0_1 l0_2) else (some (([] : List Int), false))) = some (r1, r2) := H
 have A3 := Aside0.mk A30
 clear A30
 by_cases c4 : t455 = true
 ·subst c4
  have H1 : (impl_ColumnsTo.l0 k a1 (([] : List Int)) 0 a0_0 a0_1 l0_2) = some (r1, r2) := by rw [if_pos rfl] at H; exact H
  clear H
  have H := H1
  clear H1
  obtain ⟨y456, hy456⟩ : ∃ y_ : List Int, y_ = (([] : List Int)) := ⟨_, rfl⟩
  replace H : (impl_ColumnsTo.l0 k a1 y456 0 a0_0 a0_1 l0_2) = some (r1, r2) := by first | (rw [hy456]; with_reducible exact H) | (have H2_ := (Option.bind_some _ _).symm.trans H; rw [hy456]; with_reducible exact H2_) | (have H2_ := (Option.bind_some _ _).symm.trans H; with_reducible exact H2_) | with_reducible exact H | (rw [hy456]; exact H) | exact H
  have Ny456 := Aside0.mk hy456
  clear hy456
  have H' := Aside0.mk H
  clear H
  go_enter Try.func26, Try.ntmps26
  go_wp2_with (first | ((with_reducible refine gate_dst (N := 2) rfl ?_); refine box_ev (N := 2) (cs := #[.int .i64 a0_0, .int .i64 a0_1, .slice A0_2 l0_2.length c0_2]) (t := 32) ?_; intro gb454 hg w5 hbox hb; have BK454 := Aside0.mk (hbox); have GW454 := gW (w := w) HB hg; have GE454 := gW (w := w) HB hg; replace HB := bB HB hb; clear hb hbox hg; have hcz6_0 := bc0 BK454; have hcz6_1 := bc1 BK454; have hcz6_2 := bc2 BK454; have hfz6_0 := blk_frozen BK454.out 0; have hfz6_1 := blk_frozen BK454.out 1; have hfz6_2 := blk_frozen BK454.out 2) | ((with_reducible refine gate_callee (f := 53) rfl ?_); refine goesA (some 12) _ #[.agg #[.int .i64 a0_0, .int .i64 a0_1, .slice A0_2 l0_2.length c0_2], .int .i64 a1] ?_ Try.func53; (with_reducible refine (impl_validEntry.calls k a0_0 a0_1 _ _ l0_2 a1 true _ ?side1 ?side2 A3.out).mono ?_); (case side1 => repeat (first | exact (Kd.C_below HR0_2.out HB.out) | (with_reducible refine Kd.C_alloc ?_ _) | (with_reducible refine Kd.C_drewN ?_ _) | (with_reducible refine Kd.C_drew ?_))); (case side2 => exact HC0_2.out); rintro e w7 ⟨rfl, hb⟩; refine ⟨_, rfl, ?_⟩; replace BK454 := kB BK454 hb; replace HB := bB HB hb; (try clear hb); (try clear hb2); (try clear hk); (try clear hi)) | ((with_reducible refine gate_dst (N := 14) rfl ?_); refine Kd.R_lit (Kd.int .i64) _ 3 ?hg (N := 14) ?hd (xs := ([] : List Int)) (inner := []) (ok := fun _ => True) (okp := fun _ => True) ?hr ?hp (fun _ hk => hk) trivial (Below.refl _ _) (Nat.le_refl _) (by simp) ?_; (case hd => rfl); (case hg => rfl); (case hr => first | (go_simp; done) | (go_simp; rfl)); (case hp => exact (Reps.none _ _)); intro v457 w8 ho9 hb hg_ hnew_; clear hg_ hnew_; (first | rw [← Ny456.out] at ho9 | (simp only [Int.reduceToNat] at ho9; rw [← Ny456.out] at ho9)); have HO458 := Aside0.mk (Kd.R_lower ho9 (below_size (viaB HB))); replace BK454 := kB BK454 hb; replace HB := bB HB hb; clear hb ho9))
  go_loopg [6, 7] k (fun kq v6 v7 w' => ∃ (x6_1 : List Int) (x7_1 : Int), v7 = .int .i64 x7_1 ∧ Aside0 (impl_ColumnsTo.l0 kq a1 x6_1 x7_1 a0_0 a0_1 l0_2 = some (r1, r2)) ∧ Aside0 (kq ≤ k) ∧ Aside0 (Kd.R (Kd.int .i64) 3 w' w.heap.size (fun _ => True) v6 x6_1) ∧ Aside0 (w'.heap[gb454]? = some (.cells #[.int .i64 a0_0, .int .i64 a0_1, (.slice A0_2 l0_2.length c0_2)] 32 (0, 0))) ∧ Aside0 (Below w.heap.size w w'))
  case atStart => exact ⟨(y456), (0), (by first | rfl | (simp; done) | (simp [*]; done)), H', ⟨Nat.le_refl _⟩, ⟨viaR HO458⟩, ⟨viaK BK454⟩, ⟨viaB HB⟩⟩
  case round =>
   clear H'
   (try clear c4)
   (try clear hcz6_0); (try clear hcz6_1); (try clear hcz6_2); (try clear hfz6_0); (try clear hfz6_1); (try clear hfz6_2)
   obtain ⟨x6_1, x7_1, rfl, HA, HK1, HO_6, BK454, HB⟩ := hrel
   cases gk with
   | zero => exact absurd HA.out (by simp [impl_ColumnsTo.l0])
   | succ k1 =>
    have H := HA.out
    clear HA
    simp only [impl_ColumnsTo.l0] at H
    by_cases c10 : x7_1 < a0_1
    ·rw [if_pos c10] at H
     have c10b0 := decide_eq_true c10
     clear c10
     replace H := Option.bind_eq_some_iff.mp H
     obtain ⟨⟨t459, t460, t461, t462⟩, A110, H⟩ := H
     replace H : (if t459 = 1 then (if t461 = a1 then (if x6_1.length < 17592186044416 then (impl_ColumnsTo.l0 k1 a1 (x6_1 ++ [x7_1]) (wrap64 (x7_1 + 1)) a0_0 a0_1 l0_2) else (none)) else (impl_ColumnsTo.l0 k1 a1 x6_1 (wrap64 (x7_1 + 1)) a0_0 a0_1 l0_2)) else (impl_ColumnsTo.l0 k1 a1 x6_1 (wrap64 (x7_1 + 1)) a0_0 a0_1 l0_2)) = some (r1, r2) := H
     have A11 := Aside0.mk A110
     clear A110
     by_cases c12 : t459 = 1
     ·rw [if_pos c12] at H
      have c12b0 := beq_iff_eq.mpr c12
      have c12b1 := bne_eq_false_iff_eq.mpr c12
      clear c12
      by_cases c13 : t461 = a1
      ·rw [if_pos c13] at H
       have c13b0 := beq_iff_eq.mpr c13
       have c13b1 := bne_eq_false_iff_eq.mpr c13
       clear c13
       by_cases c14 : x6_1.length < 17592186044416
       ·rw [if_pos c14] at H
        have LMc14 := Aside0.mk c14
        clear c14
        obtain ⟨y464, hy464⟩ : ∃ y_ : List Int, y_ = (x6_1 ++ [x7_1]) := ⟨_, rfl⟩
        replace H : (impl_ColumnsTo.l0 k1 a1 y464 (wrap64 (x7_1 + 1)) a0_0 a0_1 l0_2) = some (r1, r2) := by first | (rw [hy464]; with_reducible exact H) | (have H2_ := (Option.bind_some _ _).symm.trans H; rw [hy464]; with_reducible exact H2_) | (have H2_ := (Option.bind_some _ _).symm.trans H; with_reducible exact H2_) | with_reducible exact H | (rw [hy464]; exact H) | exact H
        have Ny464 := Aside0.mk hy464
        clear hy464
        have H' := Aside0.mk H
        clear H
        have hcz15_0 := bc0 BK454
        have hcz15_1 := bc1 BK454
        have hcz15_2 := bc2 BK454
        have hfz15_0 := blk_frozen BK454.out 0
        have hfz15_1 := blk_frozen BK454.out 1
        have hfz15_2 := blk_frozen BK454.out 2
        go_wp2_with (first | ((with_reducible refine gate_callee (f := 16) rfl ?_); refine goesA (some 24) _ #[.agg #[.int .i64 a0_0, .int .i64 a0_1, .slice A0_2 l0_2.length c0_2], .int .i64 x7_1] ?_ Try.func16; (with_reducible refine (impl_FallOf.calls k1 a0_0 a0_1 _ _ l0_2 x7_1 t459 t460 t461 t462 _ ?side1 ?side2 A11.out).mono ?_); (case side1 => repeat (first | exact (Kd.C_below HR0_2.out HB.out) | (with_reducible refine Kd.C_alloc ?_ _) | (with_reducible refine Kd.C_drewN ?_ _) | (with_reducible refine Kd.C_drew ?_))); (case side2 => exact HC0_2.out); rintro e w16 ⟨rfl, hb⟩; refine ⟨_, rfl, ?_⟩; replace HO_6 := Aside0.mk (Kd.R_below (viaR HO_6) hb); replace BK454 := kB BK454 hb; replace HB := bB HB hb; (try clear hb); (try clear hb2); (try clear hk); (try clear hi)) | ((with_reducible refine gate_dst (N := 8) rfl ?_); refine box_ev (N := 8) (cs := #[.int .i64 0, .int .i64 0, .int .i64 0]) (t := 27) ?_; intro gb463 hg w17 hbox hb; have BK463 := Aside0.mk (hbox); have GW463 := gW (w := w) HB hg; have GE463 := gW (w := w) HB hg; have NB454_463 := neL BK454 hg; have NB463_454 := neG BK454 hg; replace HO_6 := Aside0.mk (Kd.R_below (viaR HO_6) hb); replace BK454 := kB BK454 hb; replace HB := bB HB hb; clear hb hbox hg; have hnb18 := NB463_454.out; have hnc18 := NB454_463.out; have hcz19_0 := bc0 BK463; have hcz19_1 := bc1 BK463; have hcz19_2 := bc2 BK463; have hfz19_0 := blk_frozen BK463.out 0; have hfz19_1 := blk_frozen BK463.out 1; have hfz19_2 := blk_frozen BK463.out 2) | ((with_reducible refine gate_builtin (b := .append) (xs := #[.tmp 36, .tmp 38]) rfl ?_); at_builtin; refine Kd.R_append (Kd.int .i64) (w0 := w) w.heap.size rfl (.tmp 36) (.tmp 38) 43 3 (.int .i64 0) 8 rfl Try.underlying43 info3 rfl (by decide) (by omega) u6 x6_1 x7_1 [.int .i64 x7_1] (fun _ => True) (fun _ => False) rfl (by first | (go_simp; done) | (go_simp; rfl)) ?aP (fun _ hk => hk.elim) ?aF ?aO ?aB ?aS ?aL ?_; (case aP => exact rfl); (case aB => exact (viaB HB)); (case aF => exact (fun _ _ => trivial)); (case aO => exact (by (with_reducible repeat (first | apply Kd.R_alloc | apply Kd.R_drewN | apply Kd.R_drew)); exact Kd.R_mono (Kd.R_far (p := ⟨gb463, 2, none⟩) (Kd.R_far (p := ⟨gb463, 1, none⟩) (Kd.R_far (p := ⟨gb463, 0, none⟩) (Kd.R_types HO_6.out BK463.out (by decide)) (fun _ hk => hk.2) (.int .i64 t459)) (fun _ hk => hk.2) (.int .i64 t460)) (fun _ hk => hk.2) (.int .i64 t461)) (fun _ hk => trivial))); (case aS => exact (below_size (viaB HB))); (case aL => have := LMc14.out; omega); intro v465 w20 ho hb hg hat; rw [← Ny464.out] at ho; have HO466 := Aside0.mk (ho); replace BK454 := Aside0.mk (blk_grown (g := gb454) (o := .cells #[.int .i64 a0_0, .int .i64 a0_1, .slice A0_2 l0_2.length c0_2] 32 (0, 0)) (by (with_reducible repeat (first | refine blk_drewN ?_ _ | refine blk_drew ?_ | refine blk_alloc ?_ _)); refine blk_far ?_ NB454_463.out _; (with_reducible repeat (first | refine blk_drewN ?_ _ | refine blk_drew ?_ | refine blk_alloc ?_ _)); refine blk_far ?_ NB454_463.out _; (with_reducible repeat (first | refine blk_drewN ?_ _ | refine blk_drew ?_ | refine blk_alloc ?_ _)); refine blk_far ?_ NB454_463.out _; (with_reducible repeat (first | refine blk_drewN ?_ _ | refine blk_drew ?_ | refine blk_alloc ?_ _)); exact BK454.out) hg (Kd.R_ne HO_6.out BK454.out (by decide))); replace BK463 := Aside0.mk (blk_grown (g := gb463) (o := .cells #[.int .i64 t459, .int .i64 t460, .int .i64 t461] 27 (0, 0)) (by (with_reducible repeat (first | refine blk_drewN ?_ _ | refine blk_drew ?_ | refine blk_alloc ?_ _)); refine blk_put (cs := #[.int .i64 t459, .int .i64 t460, .int .i64 0]) ?_ 2 _ rfl; (with_reducible repeat (first | refine blk_drewN ?_ _ | refine blk_drew ?_ | refine blk_alloc ?_ _)); refine blk_put (cs := #[.int .i64 t459, .int .i64 0, .int .i64 0]) ?_ 1 _ rfl; (with_reducible repeat (first | refine blk_drewN ?_ _ | refine blk_drew ?_ | refine blk_alloc ?_ _)); refine blk_put (cs := #[.int .i64 0, .int .i64 0, .int .i64 0]) ?_ 0 _ rfl; (with_reducible repeat (first | refine blk_drewN ?_ _ | refine blk_drew ?_ | refine blk_alloc ?_ _)); exact BK463.out) hg (Kd.R_ne HO_6.out BK463.out (by decide))); replace HB := Aside0.mk (hb); clear HO_6; clear ho hb hg hat))
        go_roundg k1
        case measure => have := HK1.out; omega
        case rel => exact ⟨(y464), (wrap64 (x7_1 + 1)), (by first | rfl | (simp; done) | (simp [*]; done)), H', ⟨by have := HK1.out; omega⟩, ⟨viaR HO466⟩, ⟨viaK BK454⟩, ⟨viaB HB⟩⟩
       ·rw [if_neg c14] at H
        exact absurd H (by simp)
      ·rw [if_neg c13] at H
       have c13b0 := beq_eq_false_iff_ne.mpr c13
       have c13b1 := bne_iff_ne.mpr c13
       have H' := Aside0.mk H
       clear H
       have hcz21_0 := bc0 BK454
       have hcz21_1 := bc1 BK454
       have hcz21_2 := bc2 BK454
       have hfz21_0 := blk_frozen BK454.out 0
       have hfz21_1 := blk_frozen BK454.out 1
       have hfz21_2 := blk_frozen BK454.out 2
       go_wp2_with (first | ((with_reducible refine gate_callee (f := 16) rfl ?_); refine goesA (some 24) _ #[.agg #[.int .i64 a0_0, .int .i64 a0_1, .slice A0_2 l0_2.length c0_2], .int .i64 x7_1] ?_ Try.func16; (with_reducible refine (impl_FallOf.calls k1 a0_0 a0_1 _ _ l0_2 x7_1 t459 t460 t461 t462 _ ?side1 ?side2 A11.out).mono ?_); (case side1 => repeat (first | exact (Kd.C_below HR0_2.out HB.out) | (with_reducible refine Kd.C_alloc ?_ _) | (with_reducible refine Kd.C_drewN ?_ _) | (with_reducible refine Kd.C_drew ?_))); (case side2 => exact HC0_2.out); rintro e w22 ⟨rfl, hb⟩; refine ⟨_, rfl, ?_⟩; replace HO_6 := Aside0.mk (Kd.R_below (viaR HO_6) hb); replace BK454 := kB BK454 hb; replace HB := bB HB hb; (try clear hb); (try clear hb2); (try clear hk); (try clear hi)) | ((with_reducible refine gate_dst (N := 8) rfl ?_); refine box_ev (N := 8) (cs := #[.int .i64 0, .int .i64 0, .int .i64 0]) (t := 27) ?_; intro gb463 hg w23 hbox hb; have BK463 := Aside0.mk (hbox); have GW463 := gW (w := w) HB hg; have GE463 := gW (w := w) HB hg; have NB454_463 := neL BK454 hg; have NB463_454 := neG BK454 hg; replace HO_6 := Aside0.mk (Kd.R_below (viaR HO_6) hb); replace BK454 := kB BK454 hb; replace HB := bB HB hb; clear hb hbox hg; have hnb24 := NB463_454.out; have hnc24 := NB454_463.out; have hcz25_0 := bc0 BK463; have hcz25_1 := bc1 BK463; have hcz25_2 := bc2 BK463; have hfz25_0 := blk_frozen BK463.out 0; have hfz25_1 := blk_frozen BK463.out 1; have hfz25_2 := blk_frozen BK463.out 2))
       go_roundg k1
       case measure => have := HK1.out; omega
       case rel => exact ⟨(x6_1), (wrap64 (x7_1 + 1)), (by first | rfl | (simp; done) | (simp [*]; done)), H', ⟨by have := HK1.out; omega⟩, ⟨by (with_reducible repeat (first | apply Kd.R_alloc | apply Kd.R_drewN | apply Kd.R_drew)); exact Kd.R_mono (Kd.R_far (p := ⟨gb463, 2, none⟩) (Kd.R_far (p := ⟨gb463, 1, none⟩) (Kd.R_far (p := ⟨gb463, 0, none⟩) (Kd.R_types HO_6.out BK463.out (by decide)) (fun _ hk => hk.2) (.int .i64 t459)) (fun _ hk => hk.2) (.int .i64 t460)) (fun _ hk => hk.2) (.int .i64 t461)) (fun _ hk => trivial)⟩, ⟨by (with_reducible repeat (first | refine blk_drewN ?_ _ | refine blk_drew ?_ | refine blk_alloc ?_ _)); refine blk_far ?_ NB454_463.out _; (with_reducible repeat (first | refine blk_drewN ?_ _ | refine blk_drew ?_ | refine blk_alloc ?_ _)); refine blk_far ?_ NB454_463.out _; (with_reducible repeat (first | refine blk_drewN ?_ _ | refine blk_drew ?_ | refine blk_alloc ?_ _)); refine blk_far ?_ NB454_463.out _; (with_reducible repeat (first | refine blk_drewN ?_ _ | refine blk_drew ?_ | refine blk_alloc ?_ _)); exact BK454.out⟩, ⟨viaB HB⟩⟩
     ·rw [if_neg c12] at H
      have c12b0 := beq_eq_false_iff_ne.mpr c12
      have c12b1 := bne_iff_ne.mpr c12
      have H' := Aside0.mk H
      clear H
      have hcz26_0 := bc0 BK454
      have hcz26_1 := bc1 BK454
      have hcz26_2 := bc2 BK454
      have hfz26_0 := blk_frozen BK454.out 0
      have hfz26_1 := blk_frozen BK454.out 1
      have hfz26_2 := blk_frozen BK454.out 2
      go_wp2_with (first | ((with_reducible refine gate_callee (f := 16) rfl ?_); refine goesA (some 24) _ #[.agg #[.int .i64 a0_0, .int .i64 a0_1, .slice A0_2 l0_2.length c0_2], .int .i64 x7_1] ?_ Try.func16; (with_reducible refine (impl_FallOf.calls k1 a0_0 a0_1 _ _ l0_2 x7_1 t459 t460 t461 t462 _ ?side1 ?side2 A11.out).mono ?_); (case side1 => repeat (first | exact (Kd.C_below HR0_2.out HB.out) | (with_reducible refine Kd.C_alloc ?_ _) | (with_reducible refine Kd.C_drewN ?_ _) | (with_reducible refine Kd.C_drew ?_))); (case side2 => exact HC0_2.out); rintro e w27 ⟨rfl, hb⟩; refine ⟨_, rfl, ?_⟩; replace HO_6 := Aside0.mk (Kd.R_below (viaR HO_6) hb); replace BK454 := kB BK454 hb; replace HB := bB HB hb; (try clear hb); (try clear hb2); (try clear hk); (try clear hi)) | ((with_reducible refine gate_dst (N := 8) rfl ?_); refine box_ev (N := 8) (cs := #[.int .i64 0, .int .i64 0, .int .i64 0]) (t := 27) ?_; intro gb463 hg w28 hbox hb; have BK463 := Aside0.mk (hbox); have GW463 := gW (w := w) HB hg; have GE463 := gW (w := w) HB hg; have NB454_463 := neL BK454 hg; have NB463_454 := neG BK454 hg; replace HO_6 := Aside0.mk (Kd.R_below (viaR HO_6) hb); replace BK454 := kB BK454 hb; replace HB := bB HB hb; clear hb hbox hg; have hnb29 := NB463_454.out; have hnc29 := NB454_463.out; have hcz30_0 := bc0 BK463; have hcz30_1 := bc1 BK463; have hcz30_2 := bc2 BK463; have hfz30_0 := blk_frozen BK463.out 0; have hfz30_1 := blk_frozen BK463.out 1; have hfz30_2 := blk_frozen BK463.out 2))
      go_roundg k1
      case measure => have := HK1.out; omega
      case rel => exact ⟨(x6_1), (wrap64 (x7_1 + 1)), (by first | rfl | (simp; done) | (simp [*]; done)), H', ⟨by have := HK1.out; omega⟩, ⟨by (with_reducible repeat (first | apply Kd.R_alloc | apply Kd.R_drewN | apply Kd.R_drew)); exact Kd.R_mono (Kd.R_far (p := ⟨gb463, 2, none⟩) (Kd.R_far (p := ⟨gb463, 1, none⟩) (Kd.R_far (p := ⟨gb463, 0, none⟩) (Kd.R_types HO_6.out BK463.out (by decide)) (fun _ hk => hk.2) (.int .i64 t459)) (fun _ hk => hk.2) (.int .i64 t460)) (fun _ hk => hk.2) (.int .i64 t461)) (fun _ hk => trivial)⟩, ⟨by (with_reducible repeat (first | refine blk_drewN ?_ _ | refine blk_drew ?_ | refine blk_alloc ?_ _)); refine blk_far ?_ NB454_463.out _; (with_reducible repeat (first | refine blk_drewN ?_ _ | refine blk_drew ?_ | refine blk_alloc ?_ _)); refine blk_far ?_ NB454_463.out _; (with_reducible repeat (first | refine blk_drewN ?_ _ | refine blk_drew ?_ | refine blk_alloc ?_ _)); refine blk_far ?_ NB454_463.out _; (with_reducible repeat (first | refine blk_drewN ?_ _ | refine blk_drew ?_ | refine blk_alloc ?_ _)); exact BK454.out⟩, ⟨viaB HB⟩⟩
    ·rw [if_neg c10] at H
     have c10b0 := decide_eq_false c10
     clear c10
     simp only [Option.some.injEq, Prod.mk.injEq] at H
     obtain ⟨rfl, rfl⟩ := H
     have hcz31_0 := bc0 BK454
     have hcz31_1 := bc1 BK454
     have hcz31_2 := bc2 BK454
     have hfz31_0 := blk_frozen BK454.out 0
     have hfz31_1 := blk_frozen BK454.out 1
     have hfz31_2 := blk_frozen BK454.out 2
     go_wp2
     go_ret2
     exact ⟨_, by first | rfl | (simp [errW_none, errW_some] <;> rfl) | (simp [*, errW_none, errW_some] <;> rfl), viaR HO_6, viaB HB⟩
 ·replace c4 := Bool.eq_false_iff.mpr c4
  subst c4
  have H1 : (some (([] : List Int), false)) = some (r1, r2) := by rw [if_neg (show ¬ (false = true) by decide)] at H; exact H
  clear H
  have H := H1
  clear H1
  simp only [Option.some.injEq, Prod.mk.injEq] at H
  obtain ⟨rfl, rfl⟩ := H
  go_enter Try.func26, Try.ntmps26
  go_wp2_with (first | ((with_reducible refine gate_dst (N := 2) rfl ?_); refine box_ev (N := 2) (cs := #[.int .i64 a0_0, .int .i64 a0_1, .slice A0_2 l0_2.length c0_2]) (t := 32) ?_; intro gb454 hg w32 hbox hb; have BK454 := Aside0.mk (hbox); have GW454 := gW (w := w) HB hg; have GE454 := gW (w := w) HB hg; replace HB := bB HB hb; clear hb hbox hg; have hcz33_0 := bc0 BK454; have hcz33_1 := bc1 BK454; have hcz33_2 := bc2 BK454; have hfz33_0 := blk_frozen BK454.out 0; have hfz33_1 := blk_frozen BK454.out 1; have hfz33_2 := blk_frozen BK454.out 2) | ((with_reducible refine gate_callee (f := 53) rfl ?_); refine goesA (some 12) _ #[.agg #[.int .i64 a0_0, .int .i64 a0_1, .slice A0_2 l0_2.length c0_2], .int .i64 a1] ?_ Try.func53; (with_reducible refine (impl_validEntry.calls k a0_0 a0_1 _ _ l0_2 a1 false _ ?side1 ?side2 A3.out).mono ?_); (case side1 => repeat (first | exact (Kd.C_below HR0_2.out HB.out) | (with_reducible refine Kd.C_alloc ?_ _) | (with_reducible refine Kd.C_drewN ?_ _) | (with_reducible refine Kd.C_drew ?_))); (case side2 => exact HC0_2.out); rintro e w34 ⟨rfl, hb⟩; refine ⟨_, rfl, ?_⟩; replace BK454 := kB BK454 hb; replace HB := bB HB hb; (try clear hb); (try clear hb2); (try clear hk); (try clear hi)))
  go_ret2
  exact ⟨_, by first | rfl | (simp [errW_none, errW_some] <;> rfl) | (simp [*, errW_none, errW_some] <;> rfl), by first | exact Kd.R_nil _ _ _ _ _ | exact Kd.N_nil _ _ _ _ _ | exact Kd.V_nil _ _ _ _ _ | exact Kd.Q_nil _ _ _ _ _ | exact Kd.S_nil _ _ _ _ _, viaB HB⟩

end Go.Proofs.Ytoklfgjemfojgaa.PAll
