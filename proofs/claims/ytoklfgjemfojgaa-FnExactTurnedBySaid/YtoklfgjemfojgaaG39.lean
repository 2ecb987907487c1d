/- This text began as one that print.sh wrote for this seat (of the functions named below); it is this session's own: turned where Lean did not take the printed proof, where it was too long for a claim, or only in what it imports. -/
import Derived.Test.YtoklfgjemfojgaaG0
import Derived.Test.YtoklfgjemfojgaaG9
import Derived.Test.YtoklfgjemfojgaaG13
import Derived.Test.YtoklfgjemfojgaaG15
import Derived.Test.YtoklfgjemfojgaaG16
import Derived.Test.YtoklfgjemfojgaaG17
import Derived.Test.YtoklfgjemfojgaaG22
import Derived.Test.YtoklfgjemfojgaaG38
namespace Go.Proofs.Ytoklfgjemfojgaa.PAll
open Go.RowKit Go.Proofs.YtoklfgjemfojgaaW.PrintWords Go.Proofs.YtoklfgjemfojgaaW.PrintLast Go.Proofs.YtoklfgjemfojgaaW.PrintMore
attribute [local go_sem] max2_int min2_int max_two min_two max_three min_three max_four min_four   -- for this text's walks alone
set_option linter.unusedVariables false
set_option linter.unusedSimpArgs false

/-! ### spec_TurnedBy: function 40 -/
def spec_TurnedBy.f (k : Nat) (a0_0 : Int) (a0_1 : Int) (l0_2 : List (S89)) (a1 : Int) : Option (List Int × Bool) := (spec_flHas.f k a0_0 a0_1 l0_2 a1).bind fun t834 => (if t834 = true then ((spec_flRun.f k a0_0 a0_1 l0_2 a1).bind fun bt835 => ((spec_boDifferent.f k a0_0 a0_1 l0_2 bt835.2.2.2.1 bt835.2.2.2.2.1 bt835.2.2.2.2.2).bind fun t845 => (some (t845, true)))) else (some (([] : List Int), false)))
theorem spec_TurnedBy.mono : ∀ a0 a1 a2 a3 k, LeO (spec_TurnedBy.f k a0 a1 a2 a3) (spec_TurnedBy.f (k + 1) a0 a1 a2 a3) := by
 intro a0 a1 a2 a3 k
 unfold spec_TurnedBy.f
 repeat' first | (with_reducible first | exact spec_boDifferent.mono _ _ _ _ _ _ _ | exact spec_flHas.mono _ _ _ _ _ | exact spec_flRun.mono _ _ _ _ _ | exact LeO.refl _ | exact LeO.none _ | refine LeO.ite ?_ ?_ | refine LeO.bind ?_ (fun _ => ?_)) | exact spec_boDifferent.mono _ _ _ _ _ _ _ | exact spec_flHas.mono _ _ _ _ _ | exact spec_flRun.mono _ _ _ _ _ | exact LeO.none _ | refine LeO.ite ?_ ?_ | refine LeO.bind ?_ (fun _ => ?_)
set_option maxHeartbeats 8000000 in
set_option maxRecDepth 100000 in
theorem spec_TurnedBy.calls (k : Nat) (a0_0 : Int) (a0_1 : Int) (A0_2 : Option Addr) (c0_2 : Nat) (l0_2 : List (S89)) (a1 : Int) (r1 : List Int) (r2 : Bool) (w : World) (hr0_2 : Kd.C k89 w A0_2 l0_2.length l0_2) (hc0_2 : l0_2.length ≤ c0_2) (h : spec_TurnedBy.f k a0_0 a0_1 l0_2 a1 = some (r1, r2)) :
  Calls Try.prog 40 #[.agg #[.int .i64 a0_0, .int .i64 a0_1, .slice A0_2 l0_2.length c0_2], .int .i64 a1] w fun e w' => ∃ v0_ : Value, e = .returned (.tuple #[v0_, .bool r2]) ∧ Kd.R (Kd.int .i64) 3 w' w.heap.size (fun _ => True) v0_ r1 ∧ Below w.heap.size w w' := by
 have hu32 := Try.underlying32
 have hu27 := Try.underlying27
 have HR0_2 := Aside0.mk hr0_2
 have HC0_2 := Aside0.mk hc0_2
 clear hr0_2 hc0_2
 have HB := Aside0.mk (Below.refl w.heap.size w)
 have H : ((spec_flHas.f k a0_0 a0_1 l0_2 a1).bind fun t834 => (if t834 = true then ((spec_flRun.f k a0_0 a0_1 l0_2 a1).bind fun bt835 => ((spec_boDifferent.f k a0_0 a0_1 l0_2 bt835.2.2.2.1 bt835.2.2.2.2.1 bt835.2.2.2.2.2).bind fun t845 => (some (t845, true)))) else (some (([] : List Int), false)))) = some (r1, r2) := h
 clear h
 replace H := Option.bind_eq_some_iff.mp H
 obtain ⟨t834, A30, H⟩ := H
 replace H : (if t834 = true then ((spec_flRun.f k a0_0 a0_1 l0_2 a1).bind fun bt835 => ((spec_boDifferent.f k a0_0 a0_1 l0_2 bt835.2.2.2.1 bt835.2.2.2.2.1 bt835.2.2.2.2.2).bind fun t845 => (some (t845, true)))) else (some (([] : List Int), false))) = some (r1, r2) := H
 have A3 := Aside0.mk A30
 clear A30
 by_cases c4 : t834 = true
 ·subst c4
  have H1 : ((spec_flRun.f k a0_0 a0_1 l0_2 a1).bind fun bt835 => ((spec_boDifferent.f k a0_0 a0_1 l0_2 bt835.2.2.2.1 bt835.2.2.2.2.1 bt835.2.2.2.2.2).bind fun t845 => (some (t845, true)))) = some (r1, r2) := by rw [if_pos rfl] at H; exact H
  clear H
  have H := H1
  clear H1
  replace H := Option.bind_eq_some_iff.mp H
  obtain ⟨⟨t835, t836, t837, t838, t839, t840⟩, A50, H⟩ := H
  replace H : ((spec_boDifferent.f k a0_0 a0_1 l0_2 t838 t839 t840).bind fun t845 => (some (t845, true))) = some (r1, r2) := H
  have A5 := Aside0.mk A50
  clear A50
  replace H := Option.bind_eq_some_iff.mp H
  obtain ⟨t845, A60, H⟩ := H
  replace H : (some (t845, true)) = some (r1, r2) := H
  have A6 := Aside0.mk A60
  clear A60
  simp only [Option.some.injEq, Prod.mk.injEq] at H
  obtain ⟨rfl, rfl⟩ := H
  go_enter Try.func40, Try.ntmps40
  go_wp2_with (first | ((with_reducible refine gate_dst (N := 2) rfl ?_); refine box_ev (N := 2) (cs := #[.int .i64 a0_0, .int .i64 a0_1, .slice A0_2 l0_2.length c0_2]) (t := 32) ?_; intro gb833 hg w7 hbox hb; have BK833 := Aside0.mk (hbox); have GW833 := gW (w := w) HB hg; have GE833 := gW (w := w) HB hg; replace HB := bB HB hb; clear hb hbox hg; have hcz8_0 := bc0 BK833; have hcz8_1 := bc1 BK833; have hcz8_2 := bc2 BK833; have hfz8_0 := blk_frozen BK833.out 0; have hfz8_1 := blk_frozen BK833.out 1; have hfz8_2 := blk_frozen BK833.out 2) | ((with_reducible refine gate_callee (f := 50) rfl ?_); refine goesA (some 10) _ #[.agg #[.int .i64 a0_0, .int .i64 a0_1, .slice A0_2 l0_2.length c0_2], .int .i64 a1] ?_ Try.func50; (with_reducible refine (spec_flHas.calls k a0_0 a0_1 _ _ l0_2 a1 true _ ?side1 ?side2 A3.out).mono ?_); (case side1 => repeat (first | exact (Kd.C_below HR0_2.out HB.out) | (with_reducible refine Kd.C_alloc ?_ _) | (with_reducible refine Kd.C_drewN ?_ _) | (with_reducible refine Kd.C_drew ?_))); (case side2 => exact HC0_2.out); rintro e w9 ⟨rfl, hb⟩; refine ⟨_, rfl, ?_⟩; replace BK833 := kB BK833 hb; replace HB := bB HB hb; (try clear hb); (try clear hb2); (try clear hk); (try clear hi); have hcz10_0 := bc0 BK833; have hcz10_1 := bc1 BK833; have hcz10_2 := bc2 BK833; have hfz10_0 := blk_frozen BK833.out 0; have hfz10_1 := blk_frozen BK833.out 1; have hfz10_2 := blk_frozen BK833.out 2) | ((with_reducible refine gate_callee (f := 51) rfl ?_); refine goesA (some 15) _ #[.agg #[.int .i64 a0_0, .int .i64 a0_1, .slice A0_2 l0_2.length c0_2], .int .i64 a1] ?_ Try.func51; (with_reducible refine (spec_flRun.calls k a0_0 a0_1 _ _ l0_2 a1 t835 t836 t837 t838 t839 t840 _ ?side1 ?side2 A5.out).mono ?_); (case side1 => repeat (first | exact (Kd.C_below HR0_2.out HB.out) | (with_reducible refine Kd.C_alloc ?_ _) | (with_reducible refine Kd.C_drewN ?_ _) | (with_reducible refine Kd.C_drew ?_))); (case side2 => exact HC0_2.out); rintro e w11 ⟨v841, rfl, ho0, hb⟩; refine ⟨_, rfl, ?_⟩; have HO842 := Aside0.mk (Kd.R_lower ho0 (below_size (viaB HB))); replace BK833 := kB BK833 hb; replace HB := bB HB hb; (try clear hb); (try clear hb2); (try clear hk); (try clear hi); (try clear ho0)) | ((with_reducible refine gate_dst (N := 6) rfl ?_); refine box_ev (N := 6) (cs := #[.int .i64 0, .int .i64 0, .int .i64 0]) (t := 27) ?_; intro gb843 hg w12 hbox hb; have BK843 := Aside0.mk (hbox); have GW843 := gW (w := w) HB hg; have GE843 := gW (w := w) HB hg; have NB833_843 := neL BK833 hg; have NB843_833 := neG BK833 hg; replace HO842 := Aside0.mk (Kd.R_below (viaR HO842) hb); replace BK833 := kB BK833 hb; replace HB := bB HB hb; clear hb hbox hg) | ((with_reducible refine gate_dst (N := 7) rfl ?_); refine box_ev (N := 7) (cs := #[.int .i64 0, .int .i64 0, .slice none 0 0]) (t := 32) ?_; intro gb844 hg w13 hbox hb; have BK844 := Aside0.mk (hbox); have GW844 := gW (w := w) HB hg; have GE844 := gW (w := w) HB hg; have NB833_844 := neL BK833 hg; have NB844_833 := neG BK833 hg; have NB843_844 := neL BK843 hg; have NB844_843 := neG BK843 hg; replace HO842 := Aside0.mk (Kd.R_below (viaR HO842) hb); replace BK833 := kB BK833 hb; replace BK843 := kB BK843 hb; replace HB := bB HB hb; clear hb hbox hg; have hnb14 := NB843_833.out; have hnc14 := NB833_843.out; have hnb15 := NB843_844.out; have hnc15 := NB844_843.out; have hcz16_0 := bc0 BK843; have hcz16_1 := bc1 BK843; have hcz16_2 := bc2 BK843; have hfz16_0 := blk_frozen BK843.out 0; have hfz16_1 := blk_frozen BK843.out 1; have hfz16_2 := blk_frozen BK843.out 2; have hnb17 := NB844_833.out; have hnc17 := NB833_844.out; have hcz18_0 := bc0 BK844; have hcz18_1 := bc1 BK844; have hcz18_2 := bc2 BK844; have hfz18_0 := blk_frozen BK844.out 0; have hfz18_1 := blk_frozen BK844.out 1; have hfz18_2 := blk_frozen BK844.out 2; obtain ⟨Ao19, co19, eo19⟩ := Kd.R_slice HO842.out; subst eo19; have hcz20_0 := bc0 BK833; have hcz20_1 := bc1 BK833; have hcz20_2 := bc2 BK833; have hfz20_0 := blk_frozen BK833.out 0; have hfz20_1 := blk_frozen BK833.out 1; have hfz20_2 := blk_frozen BK833.out 2) | ((with_reducible refine gate_callee (f := 69) rfl ?_); refine goesA (some 20) _ #[.agg #[.int .i64 a0_0, .int .i64 a0_1, .slice A0_2 l0_2.length c0_2], .agg #[.int .i64 t838, .int .i64 t839, .slice Ao19 t840.length co19]] ?_ Try.func69; (with_reducible refine (spec_boDifferent.calls k a0_0 a0_1 _ _ l0_2 t838 t839 _ _ t840 t845 _ ?side1 ?side2 ?side3 ?side4 A6.out).mono ?_); (case side1 => exact Kd.C_below HR0_2.out (viaB HB)); (case side2 => exact HC0_2.out); (case side3 => refine (Kd.R_reads' (e := 89) (base := w.heap.size) (ok := fun k_ => True) (n := t840.length) (c := co19) ?_).2.2; exact (by (with_reducible repeat (first | apply Kd.R_alloc | apply Kd.R_drewN | apply Kd.R_drew)); exact (Kd.R_mono (Kd.R_mono (Kd.R_far (p := ⟨gb844, 2, none⟩) (Kd.R_far (p := ⟨gb844, 1, none⟩) (Kd.R_far (p := ⟨gb844, 0, none⟩) (Kd.R_far (p := ⟨gb843, 2, none⟩) (Kd.R_far (p := ⟨gb843, 1, none⟩) (Kd.R_far (p := ⟨gb843, 0, none⟩) (Kd.R_types (Kd.R_types HO842.out BK843.out (by decide)) BK844.out (by decide)) (fun _ hk => hk.1.2) (.int .i64 t835)) (fun _ hk => hk.1.2) (.int .i64 t836)) (fun _ hk => hk.1.2) (.int .i64 t837)) (fun _ hk => hk.2) (.int .i64 t838)) (fun _ hk => hk.2) (.int .i64 t839)) (fun _ hk => hk.2) (.slice Ao19 t840.length co19)) (fun _ h_ => h_.1)) (fun _ h_ => h_.1)))); (case side4 => exact (Kd.R_reads' HO842.out).2.1); rintro e w21 ⟨v846, rfl, ho0, hb⟩; refine ⟨_, rfl, ?_⟩; have HO847 := Aside0.mk (Kd.R_lower ho0 (below_size (viaB HB))); replace HO842 := Aside0.mk (Kd.R_below (by (with_reducible repeat (first | apply Kd.R_alloc | apply Kd.R_drewN | apply Kd.R_drew)); exact (Kd.R_mono (Kd.R_mono (Kd.R_far (p := ⟨gb844, 2, none⟩) (Kd.R_far (p := ⟨gb844, 1, none⟩) (Kd.R_far (p := ⟨gb844, 0, none⟩) (Kd.R_far (p := ⟨gb843, 2, none⟩) (Kd.R_far (p := ⟨gb843, 1, none⟩) (Kd.R_far (p := ⟨gb843, 0, none⟩) (Kd.R_types (Kd.R_types HO842.out BK843.out (by decide)) BK844.out (by decide)) (fun _ hk => hk.1.2) (.int .i64 t835)) (fun _ hk => hk.1.2) (.int .i64 t836)) (fun _ hk => hk.1.2) (.int .i64 t837)) (fun _ hk => hk.2) (.int .i64 t838)) (fun _ hk => hk.2) (.int .i64 t839)) (fun _ hk => hk.2) (.slice Ao19 t840.length co19)) (fun _ h_ => h_.1)) (fun _ h_ => h_.1))) hb); replace BK833 := Aside0.mk (blk_below (g := gb833) (o := .cells #[.int .i64 a0_0, .int .i64 a0_1, .slice A0_2 l0_2.length c0_2] 32 (0, 0)) (by (with_reducible repeat (first | refine blk_drewN ?_ _ | refine blk_drew ?_ | refine blk_alloc ?_ _)); refine blk_far ?_ NB833_844.out _; (with_reducible repeat (first | refine blk_drewN ?_ _ | refine blk_drew ?_ | refine blk_alloc ?_ _)); refine blk_far ?_ NB833_844.out _; (with_reducible repeat (first | refine blk_drewN ?_ _ | refine blk_drew ?_ | refine blk_alloc ?_ _)); refine blk_far ?_ NB833_844.out _; (with_reducible repeat (first | refine blk_drewN ?_ _ | refine blk_drew ?_ | refine blk_alloc ?_ _)); refine blk_far ?_ NB833_843.out _; (with_reducible repeat (first | refine blk_drewN ?_ _ | refine blk_drew ?_ | refine blk_alloc ?_ _)); refine blk_far ?_ NB833_843.out _; (with_reducible repeat (first | refine blk_drewN ?_ _ | refine blk_drew ?_ | refine blk_alloc ?_ _)); refine blk_far ?_ NB833_843.out _; (with_reducible repeat (first | refine blk_drewN ?_ _ | refine blk_drew ?_ | refine blk_alloc ?_ _)); exact BK833.out) hb); replace BK843 := Aside0.mk (blk_below (g := gb843) (o := .cells #[.int .i64 t835, .int .i64 t836, .int .i64 t837] 27 (0, 0)) (by (with_reducible repeat (first | refine blk_drewN ?_ _ | refine blk_drew ?_ | refine blk_alloc ?_ _)); refine blk_far ?_ NB843_844.out _; (with_reducible repeat (first | refine blk_drewN ?_ _ | refine blk_drew ?_ | refine blk_alloc ?_ _)); refine blk_far ?_ NB843_844.out _; (with_reducible repeat (first | refine blk_drewN ?_ _ | refine blk_drew ?_ | refine blk_alloc ?_ _)); refine blk_far ?_ NB843_844.out _; (with_reducible repeat (first | refine blk_drewN ?_ _ | refine blk_drew ?_ | refine blk_alloc ?_ _)); refine blk_put (cs := #[.int .i64 t835, .int .i64 t836, .int .i64 0]) ?_ 2 _ rfl; (with_reducible repeat (first | refine blk_drewN ?_ _ | refine blk_drew ?_ | refine blk_alloc ?_ _)); refine blk_put (cs := #[.int .i64 t835, .int .i64 0, .int .i64 0]) ?_ 1 _ rfl; (with_reducible repeat (first | refine blk_drewN ?_ _ | refine blk_drew ?_ | refine blk_alloc ?_ _)); refine blk_put (cs := #[.int .i64 0, .int .i64 0, .int .i64 0]) ?_ 0 _ rfl; (with_reducible repeat (first | refine blk_drewN ?_ _ | refine blk_drew ?_ | refine blk_alloc ?_ _)); exact BK843.out) hb); replace BK844 := Aside0.mk (blk_below (g := gb844) (o := .cells #[.int .i64 t838, .int .i64 t839, .slice Ao19 t840.length co19] 32 (0, 0)) (by (with_reducible repeat (first | refine blk_drewN ?_ _ | refine blk_drew ?_ | refine blk_alloc ?_ _)); refine blk_put (cs := #[.int .i64 t838, .int .i64 t839, .slice none 0 0]) ?_ 2 _ rfl; (with_reducible repeat (first | refine blk_drewN ?_ _ | refine blk_drew ?_ | refine blk_alloc ?_ _)); refine blk_put (cs := #[.int .i64 t838, .int .i64 0, .slice none 0 0]) ?_ 1 _ rfl; (with_reducible repeat (first | refine blk_drewN ?_ _ | refine blk_drew ?_ | refine blk_alloc ?_ _)); refine blk_put (cs := #[.int .i64 0, .int .i64 0, .slice none 0 0]) ?_ 0 _ rfl; (with_reducible repeat (first | refine blk_drewN ?_ _ | refine blk_drew ?_ | refine blk_alloc ?_ _)); refine blk_far ?_ NB844_843.out _; (with_reducible repeat (first | refine blk_drewN ?_ _ | refine blk_drew ?_ | refine blk_alloc ?_ _)); refine blk_far ?_ NB844_843.out _; (with_reducible repeat (first | refine blk_drewN ?_ _ | refine blk_drew ?_ | refine blk_alloc ?_ _)); refine blk_far ?_ NB844_843.out _; (with_reducible repeat (first | refine blk_drewN ?_ _ | refine blk_drew ?_ | refine blk_alloc ?_ _)); exact BK844.out) hb); replace HB := bB HB hb; (try clear hb); (try clear hb2); (try clear hk); (try clear hi); (try clear ho0)))
  go_ret2
  exact ⟨_, by first | rfl | (simp [errW_none, errW_some] <;> rfl) | (simp [*, errW_none, errW_some] <;> rfl), viaR HO847, viaB HB⟩
 ·replace c4 := Bool.eq_false_iff.mpr c4
  subst c4
  have H1 : (some (([] : List Int), false)) = some (r1, r2) := by rw [if_neg (show ¬ (false = true) by decide)] at H; exact H
  clear H
  have H := H1
  clear H1
  simp only [Option.some.injEq, Prod.mk.injEq] at H
  obtain ⟨rfl, rfl⟩ := H
  go_enter Try.func40, Try.ntmps40
  go_wp2_with (first | ((with_reducible refine gate_dst (N := 2) rfl ?_); refine box_ev (N := 2) (cs := #[.int .i64 a0_0, .int .i64 a0_1, .slice A0_2 l0_2.length c0_2]) (t := 32) ?_; intro gb833 hg w22 hbox hb; have BK833 := Aside0.mk (hbox); have GW833 := gW (w := w) HB hg; have GE833 := gW (w := w) HB hg; replace HB := bB HB hb; clear hb hbox hg; have hcz23_0 := bc0 BK833; have hcz23_1 := bc1 BK833; have hcz23_2 := bc2 BK833; have hfz23_0 := blk_frozen BK833.out 0; have hfz23_1 := blk_frozen BK833.out 1; have hfz23_2 := blk_frozen BK833.out 2) | ((with_reducible refine gate_callee (f := 50) rfl ?_); refine goesA (some 10) _ #[.agg #[.int .i64 a0_0, .int .i64 a0_1, .slice A0_2 l0_2.length c0_2], .int .i64 a1] ?_ Try.func50; (with_reducible refine (spec_flHas.calls k a0_0 a0_1 _ _ l0_2 a1 false _ ?side1 ?side2 A3.out).mono ?_); (case side1 => repeat (first | exact (Kd.C_below HR0_2.out HB.out) | (with_reducible refine Kd.C_alloc ?_ _) | (with_reducible refine Kd.C_drewN ?_ _) | (with_reducible refine Kd.C_drew ?_))); (case side2 => exact HC0_2.out); rintro e w24 ⟨rfl, hb⟩; refine ⟨_, rfl, ?_⟩; replace BK833 := kB BK833 hb; replace HB := bB HB hb; (try clear hb); (try clear hb2); (try clear hk); (try clear hi)))
  go_ret2
  exact ⟨_, by first | rfl | (simp [errW_none, errW_some] <;> rfl) | (simp [*, errW_none, errW_some] <;> rfl), by first | exact Kd.R_nil _ _ _ _ _ | exact Kd.N_nil _ _ _ _ _ | exact Kd.V_nil _ _ _ _ _ | exact Kd.Q_nil _ _ _ _ _ | exact Kd.S_nil _ _ _ _ _, viaB HB⟩

/-! ### impl_BoardAfter: function 22 -/
def impl_BoardAfter.f (k : Nat) (a0_0 : Int) (a0_1 : Int) (l0_2 : List (S89)) (a1 : Int) : Option (Int × Int × (List (S89)) × Bool) := (impl_validEntry.f k a0_0 a0_1 l0_2 a1).bind fun t850 => (if t850 = true then ((impl_copyBoard.f a0_0 a0_1 l0_2).bind fun bt851 => ((impl_groupNumbers.f k a0_0 a0_1 l0_2).bind fun t857 => ((impl_drop.f k bt851.1 bt851.2.1 bt851.2.2 t857 a1).bind fun bt860 => (some (bt851.1, bt851.2.1, bt860.2.2.2.2, true))))) else (some (0, 0, ([] : List (S89)), false)))
theorem impl_BoardAfter.mono : ∀ a0 a1 a2 a3 k, LeO (impl_BoardAfter.f k a0 a1 a2 a3) (impl_BoardAfter.f (k + 1) a0 a1 a2 a3) := by
 intro a0 a1 a2 a3 k
 unfold impl_BoardAfter.f
 repeat' first | (with_reducible first | exact impl_drop.mono _ _ _ _ _ _ | exact impl_groupNumbers.mono _ _ _ _ | exact impl_validEntry.mono _ _ _ _ _ | exact LeO.refl _ | exact LeO.none _ | refine LeO.ite ?_ ?_ | refine LeO.bind ?_ (fun _ => ?_)) | exact impl_drop.mono _ _ _ _ _ _ | exact impl_groupNumbers.mono _ _ _ _ | exact impl_validEntry.mono _ _ _ _ _ | exact LeO.none _ | refine LeO.ite ?_ ?_ | refine LeO.bind ?_ (fun _ => ?_)
set_option maxHeartbeats 8000000 in
set_option maxRecDepth 100000 in
theorem impl_BoardAfter.calls (k : Nat) (a0_0 : Int) (a0_1 : Int) (A0_2 : Option Addr) (c0_2 : Nat) (l0_2 : List (S89)) (a1 : Int) (r1 : Int) (r2 : Int) (r3 : List (S89)) (r4 : Bool) (w : World) (hr0_2 : Kd.C k89 w A0_2 l0_2.length l0_2) (hc0_2 : l0_2.length ≤ c0_2) (h : impl_BoardAfter.f k a0_0 a0_1 l0_2 a1 = some (r1, r2, r3, r4)) :
  Calls Try.prog 22 #[.agg #[.int .i64 a0_0, .int .i64 a0_1, .slice A0_2 l0_2.length c0_2], .int .i64 a1] w fun e w' => ∃ v2_ : Value, e = .returned (.tuple #[.agg #[.int .i64 r1, .int .i64 r2, v2_], .bool r4]) ∧ Kd.R k89 89 w' w.heap.size (fun _ => True) v2_ r3 ∧ Below w.heap.size w w' := by
 have hu32 := Try.underlying32
 have HR0_2 := Aside0.mk hr0_2
 have HC0_2 := Aside0.mk hc0_2
 clear hr0_2 hc0_2
 have HB := Aside0.mk (Below.refl w.heap.size w)
 have H : ((impl_validEntry.f k a0_0 a0_1 l0_2 a1).bind fun t850 => (if t850 = true then ((impl_copyBoard.f a0_0 a0_1 l0_2).bind fun bt851 => ((impl_groupNumbers.f k a0_0 a0_1 l0_2).bind fun t857 => ((impl_drop.f k bt851.1 bt851.2.1 bt851.2.2 t857 a1).bind fun bt860 => (some (bt851.1, bt851.2.1, bt860.2.2.2.2, true))))) else (some (0, 0, ([] : List (S89)), false)))) = some (r1, r2, r3, r4) := h
 clear h
 replace H := Option.bind_eq_some_iff.mp H
 obtain ⟨t850, A30, H⟩ := H
 replace H : (if t850 = true then ((impl_copyBoard.f a0_0 a0_1 l0_2).bind fun bt851 => ((impl_groupNumbers.f k a0_0 a0_1 l0_2).bind fun t857 => ((impl_drop.f k bt851.1 bt851.2.1 bt851.2.2 t857 a1).bind fun bt860 => (some (bt851.1, bt851.2.1, bt860.2.2.2.2, true))))) else (some (0, 0, ([] : List (S89)), false))) = some (r1, r2, r3, r4) := H
 have A3 := Aside0.mk A30
 clear A30
 by_cases c4 : t850 = true
 ·subst c4
  have H1 : ((impl_copyBoard.f a0_0 a0_1 l0_2).bind fun bt851 => ((impl_groupNumbers.f k a0_0 a0_1 l0_2).bind fun t857 => ((impl_drop.f k bt851.1 bt851.2.1 bt851.2.2 t857 a1).bind fun bt860 => (some (bt851.1, bt851.2.1, bt860.2.2.2.2, true))))) = some (r1, r2, r3, r4) := by rw [if_pos rfl] at H; exact H
  clear H
  have H := H1
  clear H1
  replace H := Option.bind_eq_some_iff.mp H
  obtain ⟨⟨t851, t852, t853⟩, A50, H⟩ := H
  replace H : ((impl_groupNumbers.f k a0_0 a0_1 l0_2).bind fun t857 => ((impl_drop.f k t851 t852 t853 t857 a1).bind fun bt860 => (some (t851, t852, bt860.2.2.2.2, true)))) = some (r1, r2, r3, r4) := H
  have A5 := Aside0.mk A50
  clear A50
  replace H := Option.bind_eq_some_iff.mp H
  obtain ⟨t857, A60, H⟩ := H
  replace H : ((impl_drop.f k t851 t852 t853 t857 a1).bind fun bt860 => (some (t851, t852, bt860.2.2.2.2, true))) = some (r1, r2, r3, r4) := H
  have A6 := Aside0.mk A60
  clear A60
  replace H := Option.bind_eq_some_iff.mp H
  obtain ⟨⟨t860, t861, t862, t863, t866⟩, A70, H⟩ := H
  replace H : (some (t851, t852, t866, true)) = some (r1, r2, r3, r4) := H
  have A7 := Aside0.mk A70
  clear A70
  simp only [Option.some.injEq, Prod.mk.injEq] at H
  obtain ⟨rfl, rfl, rfl, rfl⟩ := H
  go_enter Try.func22, Try.ntmps22
  try go_wp2_with (first | ((with_reducible refine gate_dst (N := 2) rfl ?_); refine box_ev (N := 2) (cs := #[.int .i64 a0_0, .int .i64 a0_1, .slice A0_2 l0_2.length c0_2]) (t := 32) ?_; intro gb848 hg w8 hbox hb; have BK848 := Aside0.mk (hbox); have GW848 := gW (w := w) HB hg; have GE848 := gW (w := w) HB hg; replace HB := bB HB hb; clear hb hbox hg) | ((with_reducible refine gate_dst (N := 4) rfl ?_); refine box_ev (N := 4) (cs := #[.int .i64 0, .int .i64 0, .slice none 0 0]) (t := 32) ?_; intro gb849 hg w9 hbox hb; have BK849 := Aside0.mk (hbox); have GW849 := gW (w := w) HB hg; have GE849 := gW (w := w) HB hg; have NB848_849 := neL BK848 hg; have NB849_848 := neG BK848 hg; replace BK848 := kB BK848 hb; replace HB := bB HB hb; clear hb hbox hg; have hnb10 := NB848_849.out; have hnc10 := NB849_848.out; have hcz11_0 := bc0 BK848; have hcz11_1 := bc1 BK848; have hcz11_2 := bc2 BK848; have hfz11_0 := blk_frozen BK848.out 0; have hfz11_1 := blk_frozen BK848.out 1; have hfz11_2 := blk_frozen BK848.out 2) | ((with_reducible refine gate_callee (f := 53) rfl ?_); refine goesA (some 9) _ #[.agg #[.int .i64 a0_0, .int .i64 a0_1, .slice A0_2 l0_2.length c0_2], .int .i64 a1] ?_ Try.func53; (with_reducible refine (impl_validEntry.calls k a0_0 a0_1 _ _ l0_2 a1 true _ ?side1 ?side2 A3.out).mono ?_); (case side1 => repeat (first | exact (Kd.C_below HR0_2.out HB.out) | (with_reducible refine Kd.C_alloc ?_ _) | (with_reducible refine Kd.C_drewN ?_ _) | (with_reducible refine Kd.C_drew ?_))); (case side2 => exact HC0_2.out); rintro e w12 ⟨rfl, hb⟩; refine ⟨_, rfl, ?_⟩; replace BK848 := kB BK848 hb; replace BK849 := kB BK849 hb; replace HB := bB HB hb; (try clear hb); (try clear hb2); (try clear hk); (try clear hi); have hcz13_0 := bc0 BK848; have hcz13_1 := bc1 BK848; have hcz13_2 := bc2 BK848; have hfz13_0 := blk_frozen BK848.out 0; have hfz13_1 := blk_frozen BK848.out 1; have hfz13_2 := blk_frozen BK848.out 2) | ((with_reducible refine gate_callee (f := 55) rfl ?_); refine goesA (some 13) _ #[.agg #[.int .i64 a0_0, .int .i64 a0_1, .slice A0_2 l0_2.length c0_2]] ?_ Try.func55; (with_reducible refine (impl_copyBoard.calls a0_0 a0_1 _ _ l0_2 t851 t852 t853 _ ?side1 ?side2 A5.out).mono ?_); (case side1 => repeat (first | exact (Kd.C_below HR0_2.out HB.out) | (with_reducible refine Kd.C_alloc ?_ _) | (with_reducible refine Kd.C_drewN ?_ _) | (with_reducible refine Kd.C_drew ?_))); (case side2 => exact HC0_2.out); rintro e w14 ⟨v854, rfl, ho0, hb⟩; refine ⟨_, rfl, ?_⟩; have HO855 := Aside0.mk (Kd.R_lower ho0 (below_size (viaB HB))); replace BK848 := kB BK848 hb; replace BK849 := kB BK849 hb; replace HB := bB HB hb; (try clear hb); (try clear hb2); (try clear hk); (try clear hi); (try clear ho0)) | ((with_reducible refine gate_dst (N := 6) rfl ?_); refine box_ev (N := 6) (cs := #[.int .i64 0, .int .i64 0, .slice none 0 0]) (t := 32) ?_; intro gb856 hg w15 hbox hb; have BK856 := Aside0.mk (hbox); have GW856 := gW (w := w) HB hg; have GE856 := gW (w := w) HB hg; have NB848_856 := neL BK848 hg; have NB856_848 := neG BK848 hg; have NB849_856 := neL BK849 hg; have NB856_849 := neG BK849 hg; replace HO855 := Aside0.mk (Kd.R_below (viaR HO855) hb); replace BK848 := kB BK848 hb; replace BK849 := kB BK849 hb; replace HB := bB HB hb; clear hb hbox hg; have hnb16 := NB856_848.out; have hnc16 := NB848_856.out; have hnb17 := NB856_849.out; have hnc17 := NB849_856.out; have hcz18_0 := bc0 BK856; have hcz18_1 := bc1 BK856; have hcz18_2 := bc2 BK856; have hfz18_0 := blk_frozen BK856.out 0; have hfz18_1 := blk_frozen BK856.out 1; have hfz18_2 := blk_frozen BK856.out 2; obtain ⟨Ao19, co19, eo19⟩ := Kd.R_slice HO855.out; subst eo19))
  have n0_ : Aside0 (Kd.R k89 89 (((w15.setCell ⟨gb856, 0, none⟩ (.int .i64 t851)).setCell ⟨gb856, 1, none⟩ (.int .i64 t852)).setCell ⟨gb856, 2, none⟩ (.slice Ao19 t853.length co19)) w.heap.size (fun _ => True) (.slice Ao19 t853.length co19) t853) := ⟨by (with_reducible repeat (first | apply Kd.R_alloc | apply Kd.R_drewN | apply Kd.R_drew)); exact Kd.R_mono (Kd.R_far (p := ⟨gb856, 2, none⟩) (Kd.R_far (p := ⟨gb856, 1, none⟩) (Kd.R_far (p := ⟨gb856, 0, none⟩) (Kd.R_types HO855.out BK856.out (by decide)) (fun _ hk => hk.2) (.int .i64 t851)) (fun _ hk => hk.2) (.int .i64 t852)) (fun _ hk => hk.2) (.slice Ao19 t853.length co19)) (fun _ hk => trivial)⟩
  have n1_ : Aside0 ((((w15.setCell ⟨gb856, 0, none⟩ (.int .i64 t851)).setCell ⟨gb856, 1, none⟩ (.int .i64 t852)).setCell ⟨gb856, 2, none⟩ (.slice Ao19 t853.length co19)).heap[gb848]? = some (.cells #[.int .i64 a0_0, .int .i64 a0_1, .slice A0_2 l0_2.length c0_2] 32 (0, 0))) := ⟨by (with_reducible repeat (first | refine blk_drewN ?_ _ | refine blk_drew ?_ | refine blk_alloc ?_ _)); refine blk_far ?_ NB848_856.out _; (with_reducible repeat (first | refine blk_drewN ?_ _ | refine blk_drew ?_ | refine blk_alloc ?_ _)); refine blk_far ?_ NB848_856.out _; (with_reducible repeat (first | refine blk_drewN ?_ _ | refine blk_drew ?_ | refine blk_alloc ?_ _)); refine blk_far ?_ NB848_856.out _; (with_reducible repeat (first | refine blk_drewN ?_ _ | refine blk_drew ?_ | refine blk_alloc ?_ _)); exact BK848.out⟩
  have n2_ : Aside0 ((((w15.setCell ⟨gb856, 0, none⟩ (.int .i64 t851)).setCell ⟨gb856, 1, none⟩ (.int .i64 t852)).setCell ⟨gb856, 2, none⟩ (.slice Ao19 t853.length co19)).heap[gb849]? = some (.cells #[.int .i64 0, .int .i64 0, .slice none 0 0] 32 (0, 0))) := ⟨by (with_reducible repeat (first | refine blk_drewN ?_ _ | refine blk_drew ?_ | refine blk_alloc ?_ _)); refine blk_far ?_ NB849_856.out _; (with_reducible repeat (first | refine blk_drewN ?_ _ | refine blk_drew ?_ | refine blk_alloc ?_ _)); refine blk_far ?_ NB849_856.out _; (with_reducible repeat (first | refine blk_drewN ?_ _ | refine blk_drew ?_ | refine blk_alloc ?_ _)); refine blk_far ?_ NB849_856.out _; (with_reducible repeat (first | refine blk_drewN ?_ _ | refine blk_drew ?_ | refine blk_alloc ?_ _)); exact BK849.out⟩
  have n3_ : Aside0 ((((w15.setCell ⟨gb856, 0, none⟩ (.int .i64 t851)).setCell ⟨gb856, 1, none⟩ (.int .i64 t852)).setCell ⟨gb856, 2, none⟩ (.slice Ao19 t853.length co19)).heap[gb856]? = some (.cells #[.int .i64 t851, .int .i64 t852, .slice Ao19 t853.length co19] 32 (0, 0))) := ⟨by (with_reducible repeat (first | refine blk_drewN ?_ _ | refine blk_drew ?_ | refine blk_alloc ?_ _)); refine blk_put (cs := #[.int .i64 t851, .int .i64 t852, .slice none 0 0]) ?_ 2 _ rfl; (with_reducible repeat (first | refine blk_drewN ?_ _ | refine blk_drew ?_ | refine blk_alloc ?_ _)); refine blk_put (cs := #[.int .i64 t851, .int .i64 0, .slice none 0 0]) ?_ 1 _ rfl; (with_reducible repeat (first | refine blk_drewN ?_ _ | refine blk_drew ?_ | refine blk_alloc ?_ _)); refine blk_put (cs := #[.int .i64 0, .int .i64 0, .slice none 0 0]) ?_ 0 _ rfl; (with_reducible repeat (first | refine blk_drewN ?_ _ | refine blk_drew ?_ | refine blk_alloc ?_ _)); exact BK856.out⟩
  have n4_ : Aside0 (Below w.heap.size w (((w15.setCell ⟨gb856, 0, none⟩ (.int .i64 t851)).setCell ⟨gb856, 1, none⟩ (.int .i64 t852)).setCell ⟨gb856, 2, none⟩ (.slice Ao19 t853.length co19))) := ⟨viaB HB⟩
  (try clear HO855); (try clear BK848); (try clear BK849); (try clear BK856); (try clear HB)
  generalize (((w15.setCell ⟨gb856, 0, none⟩ (.int .i64 t851)).setCell ⟨gb856, 1, none⟩ (.int .i64 t852)).setCell ⟨gb856, 2, none⟩ (.slice Ao19 t853.length co19)) = w20 at n0_ n1_ n2_ n3_ n4_ ⊢
  have HO855 := n0_
  have BK848 := n1_
  have BK849 := n2_
  have BK856 := n3_
  have HB := n4_
  clear n0_ n1_ n2_ n3_ n4_
  replace HO855 := Aside0.mk (Kd.R_drew HO855.out)
  replace BK848 := Aside0.mk (blk_drew BK848.out)
  replace BK849 := Aside0.mk (blk_drew BK849.out)
  replace BK856 := Aside0.mk (blk_drew BK856.out)
  replace HB := Aside0.mk (below_drew1 HB.out)
  refine start_ (n := 5) (S := fun w' => w'.cell? ⟨gb856, 0, none⟩ = some (.int .i64 t851) ∧ w'.cell? ⟨gb856, 1, none⟩ = some (.int .i64 t852) ∧ w'.cell? ⟨gb856, 2, none⟩ = some (.slice Ao19 t853.length co19) ∧ w'.cell? ⟨gb848, 0, none⟩ = some (.int .i64 a0_0) ∧ w'.cell? ⟨gb848, 1, none⟩ = some (.int .i64 a0_1) ∧ w'.cell? ⟨gb848, 2, none⟩ = some (.slice A0_2 l0_2.length c0_2)) (ds := []) #[false, false, false, false, false] (by kernel_rfl) rfl rfl ⟨(blk_cell BK856.out 0).trans rfl, (blk_cell BK856.out 1).trans rfl, (blk_cell BK856.out 2).trans rfl, (blk_cell BK848.out 0).trans rfl, (blk_cell BK848.out 1).trans rfl, (blk_cell BK848.out 2).trans rfl⟩ (fun hHeld => ?_)
  generalize w20.drew = w21 at HO855 BK848 BK849 BK856 HB hHeld ⊢
  refine pure_ (i := 3) (N := some 17) (v := ?_) (a' := ?_) #[false, false, false, true, false] rfl rfl (by kernel_rfl) (fun _ _ _ h => h) (Or.inl ⟨by rfl, ?_⟩) ?_ ?_
  rotate_left
  ·intro w'
   go_simp
   with_reducible rfl
  rotate_left
  ·simp only [Act.put, q1, q2, q3, i64_w, i32_w]
   rfl
  refine take_ (i := 0) (N := some 14) (v := ?_) (a' := ?_) #[true, false, false, true, false] rfl rfl (by kernel_rfl) (fun _ _ _ h => h) (Or.inl ⟨by rfl, ?_⟩) hHeld ?_ ?_
  rotate_left
  ·rintro w' ⟨s0, s1, s2, s3, s4, s5⟩
   go_simp
   with_reducible rfl
  rotate_left
  ·simp only [Act.put, q1, q2, q3, i64_w, i32_w]
   rfl
  refine take_ (i := 1) (N := some 15) (v := ?_) (a' := ?_) #[true, true, false, true, false] rfl rfl (by kernel_rfl) (fun _ _ _ h => h) (Or.inl ⟨by rfl, ?_⟩) hHeld ?_ ?_
  rotate_left
  ·rintro w' ⟨s0, s1, s2, s3, s4, s5⟩
   go_simp
   with_reducible rfl
  rotate_left
  ·simp only [Act.put, q1, q2, q3, i64_w, i32_w]
   rfl
  refine one_ (i := 2) (N := some 16) #[true, true, true, true, false] rfl rfl (by kernel_rfl) (by decide) (fun K hK => ?_)
  refine goes_ Try.func56 (by kernel_rfl) rfl #[.agg #[.int .i64 a0_0, .int .i64 a0_1, .slice A0_2 l0_2.length c0_2]] (by rfl) rfl rfl (by (try simp only [List.map_toArray, List.map_cons, List.map_nil]); first | done | rfl | (simp only [List.length_drop, List.length_take]; rfl)) ?_
  with_reducible refine (impl_groupNumbers.calls k a0_0 a0_1 _ _ l0_2 t857 _ ?side1 ?side2 A6.out).mono ?_
  (case side1 => repeat (first | exact (Kd.C_below HR0_2.out HB.out) | (with_reducible refine Kd.C_alloc ?_ _) | (with_reducible refine Kd.C_drewN ?_ _) | (with_reducible refine Kd.C_drew ?_)))
  (case side2 => exact HC0_2.out)
  rintro e w22 ⟨v858, rfl, ho0, hb⟩
  refine ⟨_, rfl, ?_⟩
  have HO859 := Aside0.mk (Kd.R_lower ho0 (below_size (viaB HB)))
  replace HO855 := Aside0.mk (Kd.R_below (viaR HO855) hb)
  replace BK848 := kB BK848 hb
  replace BK849 := kB BK849 hb
  replace BK856 := kB BK856 hb
  replace HB := bB HB hb
  (try clear hb); (try clear ho0)
  obtain ⟨Ao23, co23, eo23⟩ := Kd.R_slice HO859.out
  (first | subst eo23 | (injection eo23 with f1_ f2_ f3_; have f4_ := f1_.symm; have f5_ := f3_.symm; clear f1_ f2_ f3_; subst f4_; subst f5_))
  refine hK.out _ _ ⟨(blk_cell BK856.out 0).trans rfl, (blk_cell BK856.out 1).trans rfl, (blk_cell BK856.out 2).trans rfl, (blk_cell BK848.out 0).trans rfl, (blk_cell BK848.out 1).trans rfl, (blk_cell BK848.out 2).trans rfl⟩ (fun hHeld => ?_)
  clear hK K
  refine norm_ (a' := ?_) ?_ ?_
  rotate_left
  ·show Act.put _ (some 16) _ = _
   simp only [Act.put, q1, q2, q3, i64_w, i32_w]
   rfl
  refine one_ (i := 4) (N := some 18) #[true, true, true, true, true] rfl rfl (by kernel_rfl) (by decide) (fun K hK => ?_)
  refine goes_ Try.func54 (by kernel_rfl) rfl #[.agg #[.int .i64 t851, .int .i64 t852, .slice Ao19 t853.length co19], .slice Ao23 t857.length co23, .int .i64 a1] (by rfl) rfl rfl (by (try simp only [List.map_toArray, List.map_cons, List.map_nil]); first | done | rfl | (simp only [List.length_drop, List.length_take]; rfl)) ?_
  with_reducible refine (impl_drop.calls k t851 t852 (fun k_ => some k_ = (.slice Ao19 t853.length co19 : Value).ownBlock) (.slice Ao19 t853.length co19) t853 _ _ t857 a1 t860 t861 t862 t863 t866 w _ ?side1 ?side2 ?side3 ?side4 A7.out).mono ?_
  (case side1 => repeat (first | (with_reducible first | exact HB.out | apply below_alloc | apply pw_below_drewN | apply below_drew1 | refine below_set ?_ GE848.out | refine below_set ?_ GE849.out | refine below_set ?_ GE856.out) | exact HB.out))
  (case side2 => exact Kd.R_tight rfl HO855.out)
  (case side3 => exact Kd.C_kept_own ((Kd.R_apart' HO859.out (Kd.R_typed HO855.out) (by decide))) (fun k_ hk_ hs_ => (hk_.2) hs_))
  (case side4 => exact (Kd.R_reads' HO859.out).2.1)
  rintro e w24 ⟨v864, rfl, ho0, hy0, hb, hkp⟩
  refine ⟨_, rfl, ?_⟩
  have HO865 := Aside0.mk (Kd.R_mono (ok' := fun k_ => some k_ ≠ (.slice Ao23 t857.length co23 : Value).ownBlock) ho0 (fun k_ hk_ => Or.elim hk_ (fun hs_ => fun e_ => ((((Kd.R_apart' HO859.out (Kd.R_typed HO855.out) (by decide))).1 k_ e_.symm).2) hs_) (fun hn_ => (Kd.fresh' (Kd.R_lt (viaR HO859)) k_ hn_))))
  replace BK848 := Aside0.mk (blk_kept (viaK BK848) hkp (fun hs_ => (fun e_ => (Kd.R_ne HO855.out BK848.out (by decide)) e_) hs_))
  replace BK849 := Aside0.mk (blk_kept (viaK BK849) hkp (fun hs_ => (fun e_ => (Kd.R_ne HO855.out BK849.out (by decide)) e_) hs_))
  replace BK856 := Aside0.mk (blk_kept (viaK BK856) hkp (fun hs_ => (fun e_ => (Kd.R_ne HO855.out BK856.out (by decide)) e_) hs_))
  replace HO859 := Aside0.mk (Kd.R_mono (ok' := fun k_ => some k_ ≠ (v864 : Value).ownBlock) (Kd.R_keptB ((Kd.R_apart' HO859.out (Kd.R_typed HO855.out) (by decide))) hkp (fun k_ hk_ hs_ => (hk_.2) hs_)) (fun k_ hk_ => fun e_ => Or.elim (ho0.1 k_ e_.symm) (fun hs_ => hk_.2.1 hs_) (fun hn_ => Nat.not_le.2 hk_.2.2 hn_)))
  replace HO855 := Aside0.mk (Kd.R_reok rfl hy0 (fun k_ e_ => HO855.out.1 k_ e_))
  replace HB := Aside0.mk (hb)
  (try clear hb); (try clear hkp); (try clear ho0); (try clear hy0)
  refine hK.out _ _ ⟨(blk_cell BK856.out 0).trans rfl, (blk_cell BK856.out 1).trans rfl, (blk_cell BK856.out 2).trans rfl, (blk_cell BK848.out 0).trans rfl, (blk_cell BK848.out 1).trans rfl, (blk_cell BK848.out 2).trans rfl⟩ (fun hHeld => ?_)
  clear hK K
  refine norm_ (a' := ?_) ?_ ?_
  rotate_left
  ·show Act.put _ (some 18) _ = _
   simp only [Act.put, q1, q2, q3, i64_w, i32_w]
   rfl
  refine done_ (by kernel_rfl) ?_
  have hcz25_0 := bc0 BK856
  have hcz25_1 := bc1 BK856
  have hcz25_2 := bc2 BK856
  have hfz25_0 := blk_frozen BK856.out 0
  have hfz25_1 := blk_frozen BK856.out 1
  have hfz25_2 := blk_frozen BK856.out 2
  have hcz26_0 := bc0 BK849
  have hcz26_1 := bc1 BK849
  have hcz26_2 := bc2 BK849
  have hfz26_0 := blk_frozen BK849.out 0
  have hfz26_1 := blk_frozen BK849.out 1
  have hfz26_2 := blk_frozen BK849.out 2
  try go_wp2
  refine bodyPost_ret (results_ct rfl _ _ gb849 32 #[.int .i64 t851, .int .i64 t852, .slice Ao19 t853.length co19] (0, 0) _ rfl (by (with_reducible repeat (first | refine blk_drewN ?_ _ | refine blk_drew ?_ | refine blk_alloc ?_ _)); refine blk_put (cs := #[.int .i64 t851, .int .i64 t852, .slice none 0 0]) ?_ 2 _ rfl; (with_reducible repeat (first | refine blk_drewN ?_ _ | refine blk_drew ?_ | refine blk_alloc ?_ _)); refine blk_put (cs := #[.int .i64 t851, .int .i64 0, .slice none 0 0]) ?_ 1 _ rfl; (with_reducible repeat (first | refine blk_drewN ?_ _ | refine blk_drew ?_ | refine blk_alloc ?_ _)); refine blk_put (cs := #[.int .i64 0, .int .i64 0, .slice none 0 0]) ?_ 0 _ rfl; (with_reducible repeat (first | refine blk_drewN ?_ _ | refine blk_drew ?_ | refine blk_alloc ?_ _)); exact BK849.out) Try.underlying32 rfl (by kernel_rfl)) rfl ?_
  exact ⟨_, by first | rfl | (simp [errW_none, errW_some] <;> rfl) | (simp [*, errW_none, errW_some] <;> rfl), by (with_reducible repeat (first | apply Kd.R_alloc | apply Kd.R_drewN | apply Kd.R_drew)); exact Kd.R_mono (Kd.R_far (p := ⟨gb849, 2, none⟩) (Kd.R_far (p := ⟨gb849, 1, none⟩) (Kd.R_far (p := ⟨gb849, 0, none⟩) (Kd.R_types HO855.out BK849.out (by decide)) (fun _ hk => hk.2) (.int .i64 t851)) (fun _ hk => hk.2) (.int .i64 t852)) (fun _ hk => hk.2) (.slice Ao19 t853.length co19)) (fun _ hk => trivial), viaB HB⟩
 ·replace c4 := Bool.eq_false_iff.mpr c4
  subst c4
  have H1 : (some (0, 0, ([] : List (S89)), false)) = some (r1, r2, r3, r4) := by rw [if_neg (show ¬ (false = true) by decide)] at H; exact H
  clear H
  have H := H1
  clear H1
  simp only [Option.some.injEq, Prod.mk.injEq] at H
  obtain ⟨rfl, rfl, rfl, rfl⟩ := H
  go_enter Try.func22, Try.ntmps22
  go_wp2_with (first | ((with_reducible refine gate_dst (N := 2) rfl ?_); refine box_ev (N := 2) (cs := #[.int .i64 a0_0, .int .i64 a0_1, .slice A0_2 l0_2.length c0_2]) (t := 32) ?_; intro gb848 hg w27 hbox hb; have BK848 := Aside0.mk (hbox); have GW848 := gW (w := w) HB hg; have GE848 := gW (w := w) HB hg; replace HB := bB HB hb; clear hb hbox hg) | ((with_reducible refine gate_dst (N := 4) rfl ?_); refine box_ev (N := 4) (cs := #[.int .i64 0, .int .i64 0, .slice none 0 0]) (t := 32) ?_; intro gb849 hg w28 hbox hb; have BK849 := Aside0.mk (hbox); have GW849 := gW (w := w) HB hg; have GE849 := gW (w := w) HB hg; have NB848_849 := neL BK848 hg; have NB849_848 := neG BK848 hg; replace BK848 := kB BK848 hb; replace HB := bB HB hb; clear hb hbox hg; have hnb29 := NB848_849.out; have hnc29 := NB849_848.out; have hcz30_0 := bc0 BK848; have hcz30_1 := bc1 BK848; have hcz30_2 := bc2 BK848; have hfz30_0 := blk_frozen BK848.out 0; have hfz30_1 := blk_frozen BK848.out 1; have hfz30_2 := blk_frozen BK848.out 2) | ((with_reducible refine gate_callee (f := 53) rfl ?_); refine goesA (some 9) _ #[.agg #[.int .i64 a0_0, .int .i64 a0_1, .slice A0_2 l0_2.length c0_2], .int .i64 a1] ?_ Try.func53; (with_reducible refine (impl_validEntry.calls k a0_0 a0_1 _ _ l0_2 a1 false _ ?side1 ?side2 A3.out).mono ?_); (case side1 => repeat (first | exact (Kd.C_below HR0_2.out HB.out) | (with_reducible refine Kd.C_alloc ?_ _) | (with_reducible refine Kd.C_drewN ?_ _) | (with_reducible refine Kd.C_drew ?_))); (case side2 => exact HC0_2.out); rintro e w31 ⟨rfl, hb⟩; refine ⟨_, rfl, ?_⟩; replace BK848 := kB BK848 hb; replace BK849 := kB BK849 hb; replace HB := bB HB hb; (try clear hb); (try clear hb2); (try clear hk); (try clear hi); have hcz32_0 := bc0 BK849; have hcz32_1 := bc1 BK849; have hcz32_2 := bc2 BK849; have hfz32_0 := blk_frozen BK849.out 0; have hfz32_1 := blk_frozen BK849.out 1; have hfz32_2 := blk_frozen BK849.out 2))
  refine bodyPost_ret (results_ct rfl _ _ gb849 32 #[.int .i64 0, .int .i64 0, .slice none 0 0] (0, 0) _ rfl (by (with_reducible repeat (first | refine blk_drewN ?_ _ | refine blk_drew ?_ | refine blk_alloc ?_ _)); refine blk_put (cs := #[.int .i64 0, .int .i64 0, .slice none 0 0]) ?_ 2 _ rfl; (with_reducible repeat (first | refine blk_drewN ?_ _ | refine blk_drew ?_ | refine blk_alloc ?_ _)); refine blk_put (cs := #[.int .i64 0, .int .i64 0, .slice none 0 0]) ?_ 1 _ rfl; (with_reducible repeat (first | refine blk_drewN ?_ _ | refine blk_drew ?_ | refine blk_alloc ?_ _)); refine blk_put (cs := #[.int .i64 0, .int .i64 0, .slice none 0 0]) ?_ 0 _ rfl; (with_reducible repeat (first | refine blk_drewN ?_ _ | refine blk_drew ?_ | refine blk_alloc ?_ _)); exact BK849.out) Try.underlying32 rfl (by kernel_rfl)) rfl ?_
  exact ⟨_, by first | rfl | (simp [errW_none, errW_some] <;> rfl) | (simp [*, errW_none, errW_some] <;> rfl), by first | exact Kd.R_nil _ _ _ _ _ | exact Kd.N_nil _ _ _ _ _ | exact Kd.V_nil _ _ _ _ _ | exact Kd.Q_nil _ _ _ _ _ | exact Kd.S_nil _ _ _ _ _, viaB HB⟩

end Go.Proofs.Ytoklfgjemfojgaa.PAll
