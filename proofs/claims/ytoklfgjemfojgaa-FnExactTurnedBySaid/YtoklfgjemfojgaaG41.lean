/- This text began as one that print.sh wrote for this seat (of the functions named below); it is this session's own: turned where Lean did not take the printed proof, where it was too long for a claim, or only in what it imports. -/
import Derived.Test.YtoklfgjemfojgaaG0
import Derived.Test.YtoklfgjemfojgaaG39
import Derived.Test.YtoklfgjemfojgaaG40
namespace Go.Proofs.Ytoklfgjemfojgaa.PAll
open Go.RowKit Go.Proofs.YtoklfgjemfojgaaW.PrintWords Go.Proofs.YtoklfgjemfojgaaW.PrintLast Go.Proofs.YtoklfgjemfojgaaW.PrintMore
attribute [local go_sem] max2_int min2_int max_two min_two max_three min_three max_four min_four   -- for this text's walks alone
set_option linter.unusedVariables false
set_option linter.unusedSimpArgs false

/-! ### impl_TurnedBy: function 41 -/
def impl_TurnedBy.f (k : Nat) (a0_0 : Int) (a0_1 : Int) (l0_2 : List (S89)) (a1 : Int) : Option (List Int × Bool) := (impl_BoardAfter.f k a0_0 a0_1 l0_2 a1).bind fun bt880 => (if bt880.2.2.2 = true then ((impl_DifferentCells.f k a0_0 a0_1 l0_2 bt880.1 bt880.2.1 bt880.2.2.1).bind fun bt887 => (some (bt887.1, bt887.2))) else (some (([] : List Int), false)))
theorem impl_TurnedBy.mono : ∀ a0 a1 a2 a3 k, LeO (impl_TurnedBy.f k a0 a1 a2 a3) (impl_TurnedBy.f (k + 1) a0 a1 a2 a3) := by
 intro a0 a1 a2 a3 k
 unfold impl_TurnedBy.f
 repeat' first | (with_reducible first | exact impl_BoardAfter.mono _ _ _ _ _ | exact impl_DifferentCells.mono _ _ _ _ _ _ _ | exact LeO.refl _ | exact LeO.none _ | refine LeO.ite ?_ ?_ | refine LeO.bind ?_ (fun _ => ?_)) | exact impl_BoardAfter.mono _ _ _ _ _ | exact impl_DifferentCells.mono _ _ _ _ _ _ _ | exact LeO.none _ | refine LeO.ite ?_ ?_ | refine LeO.bind ?_ (fun _ => ?_)
set_option maxHeartbeats 8000000 in
set_option maxRecDepth 100000 in
theorem impl_TurnedBy.calls (k : Nat) (a0_0 : Int) (a0_1 : Int) (A0_2 : Option Addr) (c0_2 : Nat) (l0_2 : List (S89)) (a1 : Int) (r1 : List Int) (r2 : Bool) (w : World) (hr0_2 : Kd.C k89 w A0_2 l0_2.length l0_2) (hc0_2 : l0_2.length ≤ c0_2) (h : impl_TurnedBy.f k a0_0 a0_1 l0_2 a1 = some (r1, r2)) :
  Calls Try.prog 41 #[.agg #[.int .i64 a0_0, .int .i64 a0_1, .slice A0_2 l0_2.length c0_2], .int .i64 a1] w fun e w' => ∃ v0_ : Value, e = .returned (.tuple #[v0_, .bool r2]) ∧ Kd.R (Kd.int .i64) 3 w' w.heap.size (fun _ => True) v0_ r1 ∧ Below w.heap.size w w' := by
 have hu32 := Try.underlying32
 have HR0_2 := Aside0.mk hr0_2
 have HC0_2 := Aside0.mk hc0_2
 clear hr0_2 hc0_2
 have HB := Aside0.mk (Below.refl w.heap.size w)
 have H : ((impl_BoardAfter.f k a0_0 a0_1 l0_2 a1).bind fun bt880 => (if bt880.2.2.2 = true then ((impl_DifferentCells.f k a0_0 a0_1 l0_2 bt880.1 bt880.2.1 bt880.2.2.1).bind fun bt887 => (some (bt887.1, bt887.2))) else (some (([] : List Int), false)))) = some (r1, r2) := h
 clear h
 replace H := Option.bind_eq_some_iff.mp H
 obtain ⟨⟨t880, t881, t882, t885⟩, A30, H⟩ := H
 replace H : (if t885 = true then ((impl_DifferentCells.f k a0_0 a0_1 l0_2 t880 t881 t882).bind fun bt887 => (some (bt887.1, bt887.2))) else (some (([] : List Int), false))) = some (r1, r2) := H
 have A3 := Aside0.mk A30
 clear A30
 by_cases c4 : t885 = true
 ·subst c4
  have H1 : ((impl_DifferentCells.f k a0_0 a0_1 l0_2 t880 t881 t882).bind fun bt887 => (some (bt887.1, bt887.2))) = some (r1, r2) := by rw [if_pos rfl] at H; exact H
  clear H
  have H := H1
  clear H1
  replace H := Option.bind_eq_some_iff.mp H
  obtain ⟨⟨t887, t890⟩, A50, H⟩ := H
  replace H : (some (t887, t890)) = some (r1, r2) := H
  have A5 := Aside0.mk A50
  clear A50
  simp only [Option.some.injEq, Prod.mk.injEq] at H
  obtain ⟨rfl, rfl⟩ := H
  go_enter Try.func41, Try.ntmps41
  go_wp2_with (first | ((with_reducible refine gate_dst (N := 2) rfl ?_); refine box_ev (N := 2) (cs := #[.int .i64 a0_0, .int .i64 a0_1, .slice A0_2 l0_2.length c0_2]) (t := 32) ?_; intro gb879 hg w6 hbox hb; have BK879 := Aside0.mk (hbox); have GW879 := gW (w := w) HB hg; have GE879 := gW (w := w) HB hg; replace HB := bB HB hb; clear hb hbox hg; have hcz7_0 := bc0 BK879; have hcz7_1 := bc1 BK879; have hcz7_2 := bc2 BK879; have hfz7_0 := blk_frozen BK879.out 0; have hfz7_1 := blk_frozen BK879.out 1; have hfz7_2 := blk_frozen BK879.out 2) | ((with_reducible refine gate_callee (f := 22) rfl ?_); refine goesA (some 11) _ #[.agg #[.int .i64 a0_0, .int .i64 a0_1, .slice A0_2 l0_2.length c0_2], .int .i64 a1] ?_ Try.func22; (with_reducible refine (impl_BoardAfter.calls k a0_0 a0_1 _ _ l0_2 a1 t880 t881 t882 true _ ?side1 ?side2 A3.out).mono ?_); (case side1 => repeat (first | exact (Kd.C_below HR0_2.out HB.out) | (with_reducible refine Kd.C_alloc ?_ _) | (with_reducible refine Kd.C_drewN ?_ _) | (with_reducible refine Kd.C_drew ?_))); (case side2 => exact HC0_2.out); rintro e w8 ⟨v883, rfl, ho0, hb⟩; refine ⟨_, rfl, ?_⟩; have HO884 := Aside0.mk (Kd.R_lower ho0 (below_size (viaB HB))); replace BK879 := kB BK879 hb; replace HB := bB HB hb; (try clear hb); (try clear hb2); (try clear hk); (try clear hi); (try clear ho0)) | ((with_reducible refine gate_dst (N := 6) rfl ?_); refine box_ev (N := 6) (cs := #[.int .i64 0, .int .i64 0, .slice none 0 0]) (t := 32) ?_; intro gb886 hg w9 hbox hb; have BK886 := Aside0.mk (hbox); have GW886 := gW (w := w) HB hg; have GE886 := gW (w := w) HB hg; have NB879_886 := neL BK879 hg; have NB886_879 := neG BK879 hg; replace HO884 := Aside0.mk (Kd.R_below (viaR HO884) hb); replace BK879 := kB BK879 hb; replace HB := bB HB hb; clear hb hbox hg; have hnb10 := NB886_879.out; have hnc10 := NB879_886.out; have hcz11_0 := bc0 BK886; have hcz11_1 := bc1 BK886; have hcz11_2 := bc2 BK886; have hfz11_0 := blk_frozen BK886.out 0; have hfz11_1 := blk_frozen BK886.out 1; have hfz11_2 := blk_frozen BK886.out 2; obtain ⟨Ao12, co12, eo12⟩ := Kd.R_slice HO884.out; subst eo12; have hcz13_0 := bc0 BK879; have hcz13_1 := bc1 BK879; have hcz13_2 := bc2 BK879; have hfz13_0 := blk_frozen BK879.out 0; have hfz13_1 := blk_frozen BK879.out 1; have hfz13_2 := blk_frozen BK879.out 2) | ((with_reducible refine gate_callee (f := 70) rfl ?_); refine goesA (some 18) _ #[.agg #[.int .i64 a0_0, .int .i64 a0_1, .slice A0_2 l0_2.length c0_2], .agg #[.int .i64 t880, .int .i64 t881, .slice Ao12 t882.length co12]] ?_ Try.func70; (with_reducible refine (impl_DifferentCells.calls k a0_0 a0_1 _ _ l0_2 t880 t881 _ _ t882 t887 t890 _ ?side1 ?side2 ?side3 ?side4 A5.out).mono ?_); (case side1 => exact Kd.C_below HR0_2.out (viaB HB)); (case side2 => exact HC0_2.out); (case side3 => refine (Kd.R_reads' (e := 89) (base := w.heap.size) (ok := fun k_ => True) (n := t882.length) (c := co12) ?_).2.2; exact (by (with_reducible repeat (first | apply Kd.R_alloc | apply Kd.R_drewN | apply Kd.R_drew)); exact (Kd.R_mono (Kd.R_far (p := ⟨gb886, 2, none⟩) (Kd.R_far (p := ⟨gb886, 1, none⟩) (Kd.R_far (p := ⟨gb886, 0, none⟩) (Kd.R_types HO884.out BK886.out (by decide)) (fun _ hk => hk.2) (.int .i64 t880)) (fun _ hk => hk.2) (.int .i64 t881)) (fun _ hk => hk.2) (.slice Ao12 t882.length co12)) (fun _ h_ => h_.1)))); (case side4 => exact (Kd.R_reads' HO884.out).2.1); rintro e w14 ⟨v888, rfl, ho0, hb⟩; refine ⟨_, rfl, ?_⟩; have HO889 := Aside0.mk (Kd.R_lower ho0 (below_size (viaB HB))); replace HO884 := Aside0.mk (Kd.R_below (by (with_reducible repeat (first | apply Kd.R_alloc | apply Kd.R_drewN | apply Kd.R_drew)); exact (Kd.R_mono (Kd.R_far (p := ⟨gb886, 2, none⟩) (Kd.R_far (p := ⟨gb886, 1, none⟩) (Kd.R_far (p := ⟨gb886, 0, none⟩) (Kd.R_types HO884.out BK886.out (by decide)) (fun _ hk => hk.2) (.int .i64 t880)) (fun _ hk => hk.2) (.int .i64 t881)) (fun _ hk => hk.2) (.slice Ao12 t882.length co12)) (fun _ h_ => h_.1))) hb); replace BK879 := Aside0.mk (blk_below (g := gb879) (o := .cells #[.int .i64 a0_0, .int .i64 a0_1, .slice A0_2 l0_2.length c0_2] 32 (0, 0)) (by (with_reducible repeat (first | refine blk_drewN ?_ _ | refine blk_drew ?_ | refine blk_alloc ?_ _)); refine blk_far ?_ NB879_886.out _; (with_reducible repeat (first | refine blk_drewN ?_ _ | refine blk_drew ?_ | refine blk_alloc ?_ _)); refine blk_far ?_ NB879_886.out _; (with_reducible repeat (first | refine blk_drewN ?_ _ | refine blk_drew ?_ | refine blk_alloc ?_ _)); refine blk_far ?_ NB879_886.out _; (with_reducible repeat (first | refine blk_drewN ?_ _ | refine blk_drew ?_ | refine blk_alloc ?_ _)); exact BK879.out) hb); replace BK886 := Aside0.mk (blk_below (g := gb886) (o := .cells #[.int .i64 t880, .int .i64 t881, .slice Ao12 t882.length co12] 32 (0, 0)) (by (with_reducible repeat (first | refine blk_drewN ?_ _ | refine blk_drew ?_ | refine blk_alloc ?_ _)); refine blk_put (cs := #[.int .i64 t880, .int .i64 t881, .slice none 0 0]) ?_ 2 _ rfl; (with_reducible repeat (first | refine blk_drewN ?_ _ | refine blk_drew ?_ | refine blk_alloc ?_ _)); refine blk_put (cs := #[.int .i64 t880, .int .i64 0, .slice none 0 0]) ?_ 1 _ rfl; (with_reducible repeat (first | refine blk_drewN ?_ _ | refine blk_drew ?_ | refine blk_alloc ?_ _)); refine blk_put (cs := #[.int .i64 0, .int .i64 0, .slice none 0 0]) ?_ 0 _ rfl; (with_reducible repeat (first | refine blk_drewN ?_ _ | refine blk_drew ?_ | refine blk_alloc ?_ _)); exact BK886.out) hb); replace HB := bB HB hb; (try clear hb); (try clear hb2); (try clear hk); (try clear hi); (try clear ho0)))
  go_ret2
  exact ⟨_, by first | rfl | (simp [errW_none, errW_some] <;> rfl) | (simp [*, errW_none, errW_some] <;> rfl), viaR HO889, viaB HB⟩
 ·replace c4 := Bool.eq_false_iff.mpr c4
  subst c4
  have H1 : (some (([] : List Int), false)) = some (r1, r2) := by rw [if_neg (show ¬ (false = true) by decide)] at H; exact H
  clear H
  have H := H1
  clear H1
  simp only [Option.some.injEq, Prod.mk.injEq] at H
  obtain ⟨rfl, rfl⟩ := H
  go_enter Try.func41, Try.ntmps41
  go_wp2_with (first | ((with_reducible refine gate_dst (N := 2) rfl ?_); refine box_ev (N := 2) (cs := #[.int .i64 a0_0, .int .i64 a0_1, .slice A0_2 l0_2.length c0_2]) (t := 32) ?_; intro gb879 hg w15 hbox hb; have BK879 := Aside0.mk (hbox); have GW879 := gW (w := w) HB hg; have GE879 := gW (w := w) HB hg; replace HB := bB HB hb; clear hb hbox hg; have hcz16_0 := bc0 BK879; have hcz16_1 := bc1 BK879; have hcz16_2 := bc2 BK879; have hfz16_0 := blk_frozen BK879.out 0; have hfz16_1 := blk_frozen BK879.out 1; have hfz16_2 := blk_frozen BK879.out 2) | ((with_reducible refine gate_callee (f := 22) rfl ?_); refine goesA (some 11) _ #[.agg #[.int .i64 a0_0, .int .i64 a0_1, .slice A0_2 l0_2.length c0_2], .int .i64 a1] ?_ Try.func22; (with_reducible refine (impl_BoardAfter.calls k a0_0 a0_1 _ _ l0_2 a1 t880 t881 t882 false _ ?side1 ?side2 A3.out).mono ?_); (case side1 => repeat (first | exact (Kd.C_below HR0_2.out HB.out) | (with_reducible refine Kd.C_alloc ?_ _) | (with_reducible refine Kd.C_drewN ?_ _) | (with_reducible refine Kd.C_drew ?_))); (case side2 => exact HC0_2.out); rintro e w17 ⟨v883, rfl, ho0, hb⟩; refine ⟨_, rfl, ?_⟩; have HO884 := Aside0.mk (Kd.R_lower ho0 (below_size (viaB HB))); replace BK879 := kB BK879 hb; replace HB := bB HB hb; (try clear hb); (try clear hb2); (try clear hk); (try clear hi); (try clear ho0)) | ((with_reducible refine gate_dst (N := 6) rfl ?_); refine box_ev (N := 6) (cs := #[.int .i64 0, .int .i64 0, .slice none 0 0]) (t := 32) ?_; intro gb886 hg w18 hbox hb; have BK886 := Aside0.mk (hbox); have GW886 := gW (w := w) HB hg; have GE886 := gW (w := w) HB hg; have NB879_886 := neL BK879 hg; have NB886_879 := neG BK879 hg; replace HO884 := Aside0.mk (Kd.R_below (viaR HO884) hb); replace BK879 := kB BK879 hb; replace HB := bB HB hb; clear hb hbox hg; have hnb19 := NB886_879.out; have hnc19 := NB879_886.out; have hcz20_0 := bc0 BK886; have hcz20_1 := bc1 BK886; have hcz20_2 := bc2 BK886; have hfz20_0 := blk_frozen BK886.out 0; have hfz20_1 := blk_frozen BK886.out 1; have hfz20_2 := blk_frozen BK886.out 2; obtain ⟨Ao21, co21, eo21⟩ := Kd.R_slice HO884.out; subst eo21))
  go_ret2
  exact ⟨_, by first | rfl | (simp [errW_none, errW_some] <;> rfl) | (simp [*, errW_none, errW_some] <;> rfl), by first | exact Kd.R_nil _ _ _ _ _ | exact Kd.N_nil _ _ _ _ _ | exact Kd.V_nil _ _ _ _ _ | exact Kd.Q_nil _ _ _ _ _ | exact Kd.S_nil _ _ _ _ _, viaB HB⟩

end Go.Proofs.Ytoklfgjemfojgaa.PAll
