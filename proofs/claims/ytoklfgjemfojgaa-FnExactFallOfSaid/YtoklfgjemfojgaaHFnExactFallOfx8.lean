/- This text began as one that print.sh wrote for this claim (of the functions named below); it is this session's own: turned where Lean did not take the printed proof, where it was too long for a claim, or only in what it imports. -/
import Derived.Test.YtoklfgjemfojgaaHFnExactFallOfx0
import Derived.Test.YtoklfgjemfojgaaHFnExactFallOfx1
import Derived.Test.YtoklfgjemfojgaaHFnExactFallOfx7
namespace Go.Proofs.Ytoklfgjemfojgaa.PFnExactFallOf
open Go.RowKit Go.Proofs.YtoklfgjemfojgaaW.PrintWords Go.Proofs.YtoklfgjemfojgaaW.PrintLast Go.Proofs.YtoklfgjemfojgaaW.PrintMore
attribute [local go_sem] max2_int min2_int max_two min_two max_three min_three max_four min_four   -- for this text's walks alone
set_option linter.unusedVariables false
set_option linter.unusedSimpArgs false

/-! ### spec_FallOf: function 14 -/
def spec_FallOf.f (k : Nat) (a0_0 : Int) (a0_1 : Int) (l0_2 : List (S89)) (a1 : Int) : Option (Int × Int × Int × Bool) := (spec_flHas.f k a0_0 a0_1 l0_2 a1).bind fun t227 => (if t227 = true then ((spec_flRun.f k a0_0 a0_1 l0_2 a1).bind fun bt228 => (some (bt228.1, bt228.2.1, bt228.2.2.1, true))) else (some (0, 0, 0, false)))
theorem spec_FallOf.mono : ∀ a0 a1 a2 a3 k, LeO (spec_FallOf.f k a0 a1 a2 a3) (spec_FallOf.f (k + 1) a0 a1 a2 a3) := by
 intro a0 a1 a2 a3 k
 unfold spec_FallOf.f
 repeat' first
   | (with_reducible exact spec_flHas.mono _ _ _ _ _)
   | (with_reducible exact spec_flRun.mono _ _ _ _ _)
   | (with_reducible exact LeO.refl _)
   | (with_reducible exact LeO.none _)
   | (with_reducible refine LeO.ite ?_ ?_)
   | (with_reducible refine LeO.bind ?_ (fun _ => ?_))
   | exact spec_flHas.mono _ _ _ _ _
   | exact spec_flRun.mono _ _ _ _ _
   | exact LeO.none _
   | refine LeO.ite ?_ ?_
   | refine LeO.bind ?_ (fun _ => ?_)
set_option maxHeartbeats 8000000 in
set_option maxRecDepth 100000 in
theorem spec_FallOf.calls (k : Nat) (a0_0 : Int) (a0_1 : Int) (A0_2 : Option Addr) (c0_2 : Nat) (l0_2 : List (S89)) (a1 : Int) (r1 : Int) (r2 : Int) (r3 : Int) (r4 : Bool) (w : World) (hr0_2 : Kd.C k89 w A0_2 l0_2.length l0_2) (hc0_2 : l0_2.length ≤ c0_2) (h : spec_FallOf.f k a0_0 a0_1 l0_2 a1 = some (r1, r2, r3, r4)) :
  Calls Try.prog 14 #[.agg #[.int .i64 a0_0, .int .i64 a0_1, .slice A0_2 l0_2.length c0_2], .int .i64 a1] w fun e w' => e = .returned (.tuple #[.agg #[.int .i64 r1, .int .i64 r2, .int .i64 r3], .bool r4]) ∧ Below w.heap.size w w' := by
 have hu32 := Try.underlying32
 have hu27 := Try.underlying27
 have HR0_2 := Aside0.mk hr0_2
 have HC0_2 := Aside0.mk hc0_2
 clear hr0_2 hc0_2
 have HB := Aside0.mk (Below.refl w.heap.size w)
 have H : ((spec_flHas.f k a0_0 a0_1 l0_2 a1).bind fun t227 => (if t227 = true then ((spec_flRun.f k a0_0 a0_1 l0_2 a1).bind fun bt228 => (some (bt228.1, bt228.2.1, bt228.2.2.1, true))) else (some (0, 0, 0, false)))) = some (r1, r2, r3, r4) := h
 clear h
 replace H := Option.bind_eq_some_iff.mp H
 obtain ⟨t227, A30, H⟩ := H
 replace H : (if t227 = true then ((spec_flRun.f k a0_0 a0_1 l0_2 a1).bind fun bt228 => (some (bt228.1, bt228.2.1, bt228.2.2.1, true))) else (some (0, 0, 0, false))) = some (r1, r2, r3, r4) := H
 have A3 := Aside0.mk A30
 clear A30
 by_cases c4 : t227 = true
 ·subst c4
  have H1 : ((spec_flRun.f k a0_0 a0_1 l0_2 a1).bind fun bt228 => (some (bt228.1, bt228.2.1, bt228.2.2.1, true))) = some (r1, r2, r3, r4) := by rw [if_pos rfl] at H; exact H
  clear H
  have H := H1
  clear H1
  replace H := Option.bind_eq_some_iff.mp H
  obtain ⟨⟨t228, t229, t230, t231, t232, t233⟩, A50, H⟩ := H
  replace H : (some (t228, t229, t230, true)) = some (r1, r2, r3, r4) := H
  have A5 := Aside0.mk A50
  clear A50
  simp only [Option.some.injEq, Prod.mk.injEq] at H
  obtain ⟨rfl, rfl, rfl, rfl⟩ := H
  go_enter Try.func14, Try.ntmps14
  go_wp2_with (first | ((with_reducible refine gate_dst (N := 2) rfl ?_); refine box_ev (N := 2) (cs := #[.int .i64 a0_0, .int .i64 a0_1, .slice A0_2 l0_2.length c0_2]) (t := 32) ?_; intro gb225 hg w6 hbox hb; have BK225 := Aside0.mk (hbox); have GW225 := gW (w := w) HB hg; have GE225 := gW (w := w) HB hg; replace HB := bB HB hb; clear hb hbox hg) | ((with_reducible refine gate_dst (N := 4) rfl ?_); refine box_ev (N := 4) (cs := #[.int .i64 0, .int .i64 0, .int .i64 0]) (t := 27) ?_; intro gb226 hg w7 hbox hb; have BK226 := Aside0.mk (hbox); have GW226 := gW (w := w) HB hg; have GE226 := gW (w := w) HB hg; have NB225_226 := neL BK225 hg; have NB226_225 := neG BK225 hg; replace BK225 := kB BK225 hb; replace HB := bB HB hb; clear hb hbox hg; have hnb8 := NB225_226.out; have hnc8 := NB226_225.out; have hcz9_0 := bc0 BK225; have hcz9_1 := bc1 BK225; have hcz9_2 := bc2 BK225; have hfz9_0 := blk_frozen BK225.out 0; have hfz9_1 := blk_frozen BK225.out 1; have hfz9_2 := blk_frozen BK225.out 2) | ((with_reducible refine gate_callee (f := 50) rfl ?_); refine goesA (some 10) _ #[.agg #[.int .i64 a0_0, .int .i64 a0_1, .slice A0_2 l0_2.length c0_2], .int .i64 a1] ?_ Try.func50; (with_reducible refine (spec_flHas.calls k a0_0 a0_1 _ _ l0_2 a1 true _ ?side1 ?side2 A3.out).mono ?_); (case side1 => repeat (first | exact (Kd.C_below HR0_2.out HB.out) | (with_reducible refine Kd.C_alloc ?_ _) | (with_reducible refine Kd.C_drewN ?_ _) | (with_reducible refine Kd.C_drew ?_))); (case side2 => exact HC0_2.out); rintro e w10 ⟨rfl, hb⟩; refine ⟨_, rfl, ?_⟩; replace BK225 := kB BK225 hb; replace BK226 := kB BK226 hb; replace HB := bB HB hb; (try clear hb); (try clear hb2); (try clear hk); (try clear hi); have hcz11_0 := bc0 BK225; have hcz11_1 := bc1 BK225; have hcz11_2 := bc2 BK225; have hfz11_0 := blk_frozen BK225.out 0; have hfz11_1 := blk_frozen BK225.out 1; have hfz11_2 := blk_frozen BK225.out 2) | ((with_reducible refine gate_callee (f := 51) rfl ?_); refine goesA (some 16) _ #[.agg #[.int .i64 a0_0, .int .i64 a0_1, .slice A0_2 l0_2.length c0_2], .int .i64 a1] ?_ Try.func51; (with_reducible refine (spec_flRun.calls k a0_0 a0_1 _ _ l0_2 a1 t228 t229 t230 t231 t232 t233 _ ?side1 ?side2 A5.out).mono ?_); (case side1 => repeat (first | exact (Kd.C_below HR0_2.out HB.out) | (with_reducible refine Kd.C_alloc ?_ _) | (with_reducible refine Kd.C_drewN ?_ _) | (with_reducible refine Kd.C_drew ?_))); (case side2 => exact HC0_2.out); rintro e w12 ⟨v234, rfl, ho0, hb⟩; refine ⟨_, rfl, ?_⟩; have HO235 := Aside0.mk (Kd.R_lower ho0 (below_size (viaB HB))); replace BK225 := kB BK225 hb; replace BK226 := kB BK226 hb; replace HB := bB HB hb; (try clear hb); (try clear hb2); (try clear hk); (try clear hi); (try clear ho0)) | ((with_reducible refine gate_dst (N := 6) rfl ?_); refine box_ev (N := 6) (cs := #[.int .i64 0, .int .i64 0, .int .i64 0]) (t := 27) ?_; intro gb236 hg w13 hbox hb; have BK236 := Aside0.mk (hbox); have GW236 := gW (w := w) HB hg; have GE236 := gW (w := w) HB hg; have NB225_236 := neL BK225 hg; have NB236_225 := neG BK225 hg; have NB226_236 := neL BK226 hg; have NB236_226 := neG BK226 hg; replace HO235 := Aside0.mk (Kd.R_below (viaR HO235) hb); replace BK225 := kB BK225 hb; replace BK226 := kB BK226 hb; replace HB := bB HB hb; clear hb hbox hg) | ((with_reducible refine gate_dst (N := 7) rfl ?_); refine box_ev (N := 7) (cs := #[.int .i64 0, .int .i64 0, .slice none 0 0]) (t := 32) ?_; intro gb237 hg w14 hbox hb; have BK237 := Aside0.mk (hbox); have GW237 := gW (w := w) HB hg; have GE237 := gW (w := w) HB hg; have NB225_237 := neL BK225 hg; have NB237_225 := neG BK225 hg; have NB226_237 := neL BK226 hg; have NB237_226 := neG BK226 hg; have NB236_237 := neL BK236 hg; have NB237_236 := neG BK236 hg; replace HO235 := Aside0.mk (Kd.R_below (viaR HO235) hb); replace BK225 := kB BK225 hb; replace BK226 := kB BK226 hb; replace BK236 := kB BK236 hb; replace HB := bB HB hb; clear hb hbox hg; have hnb15 := NB236_225.out; have hnc15 := NB225_236.out; have hnb16 := NB236_226.out; have hnc16 := NB226_236.out; have hnb17 := NB236_237.out; have hnc17 := NB237_236.out; have hcz18_0 := bc0 BK236; have hcz18_1 := bc1 BK236; have hcz18_2 := bc2 BK236; have hfz18_0 := blk_frozen BK236.out 0; have hfz18_1 := blk_frozen BK236.out 1; have hfz18_2 := blk_frozen BK236.out 2; have hnb19 := NB237_225.out; have hnc19 := NB225_237.out; have hnb20 := NB237_226.out; have hnc20 := NB226_237.out; have hcz21_0 := bc0 BK237; have hcz21_1 := bc1 BK237; have hcz21_2 := bc2 BK237; have hfz21_0 := blk_frozen BK237.out 0; have hfz21_1 := blk_frozen BK237.out 1; have hfz21_2 := blk_frozen BK237.out 2; obtain ⟨Ao22, co22, eo22⟩ := Kd.R_slice HO235.out; subst eo22; have hcz23_0 := bc0 BK226; have hcz23_1 := bc1 BK226; have hcz23_2 := bc2 BK226; have hfz23_0 := blk_frozen BK226.out 0; have hfz23_1 := blk_frozen BK226.out 1; have hfz23_2 := blk_frozen BK226.out 2))
  refine bodyPost_ret (results_ct rfl _ _ gb226 27 #[.int .i64 t228, .int .i64 t229, .int .i64 t230] (0, 0) _ rfl (by (with_reducible repeat (first | refine blk_drewN ?_ _ | refine blk_drew ?_ | refine blk_alloc ?_ _)); refine blk_put (cs := #[.int .i64 t228, .int .i64 t229, .int .i64 0]) ?_ 2 _ rfl; (with_reducible repeat (first | refine blk_drewN ?_ _ | refine blk_drew ?_ | refine blk_alloc ?_ _)); refine blk_put (cs := #[.int .i64 t228, .int .i64 0, .int .i64 0]) ?_ 1 _ rfl; (with_reducible repeat (first | refine blk_drewN ?_ _ | refine blk_drew ?_ | refine blk_alloc ?_ _)); refine blk_put (cs := #[.int .i64 0, .int .i64 0, .int .i64 0]) ?_ 0 _ rfl; (with_reducible repeat (first | refine blk_drewN ?_ _ | refine blk_drew ?_ | refine blk_alloc ?_ _)); refine blk_far ?_ NB226_237.out _; (with_reducible repeat (first | refine blk_drewN ?_ _ | refine blk_drew ?_ | refine blk_alloc ?_ _)); refine blk_far ?_ NB226_237.out _; (with_reducible repeat (first | refine blk_drewN ?_ _ | refine blk_drew ?_ | refine blk_alloc ?_ _)); refine blk_far ?_ NB226_237.out _; (with_reducible repeat (first | refine blk_drewN ?_ _ | refine blk_drew ?_ | refine blk_alloc ?_ _)); refine blk_far ?_ NB226_236.out _; (with_reducible repeat (first | refine blk_drewN ?_ _ | refine blk_drew ?_ | refine blk_alloc ?_ _)); refine blk_far ?_ NB226_236.out _; (with_reducible repeat (first | refine blk_drewN ?_ _ | refine blk_drew ?_ | refine blk_alloc ?_ _)); refine blk_far ?_ NB226_236.out _; (with_reducible repeat (first | refine blk_drewN ?_ _ | refine blk_drew ?_ | refine blk_alloc ?_ _)); exact BK226.out) Try.underlying27 rfl (by kernel_rfl)) rfl ?_
  exact ⟨by first | rfl | (simp [errW_none, errW_some] <;> rfl) | (simp [*, errW_none, errW_some] <;> rfl), viaB HB⟩
 ·replace c4 := Bool.eq_false_iff.mpr c4
  subst c4
  have H1 : (some (0, 0, 0, false)) = some (r1, r2, r3, r4) := by rw [if_neg (show ¬ (false = true) by decide)] at H; exact H
  clear H
  have H := H1
  clear H1
  simp only [Option.some.injEq, Prod.mk.injEq] at H
  obtain ⟨rfl, rfl, rfl, rfl⟩ := H
  go_enter Try.func14, Try.ntmps14
  go_wp2_with (first | ((with_reducible refine gate_dst (N := 2) rfl ?_); refine box_ev (N := 2) (cs := #[.int .i64 a0_0, .int .i64 a0_1, .slice A0_2 l0_2.length c0_2]) (t := 32) ?_; intro gb225 hg w24 hbox hb; have BK225 := Aside0.mk (hbox); have GW225 := gW (w := w) HB hg; have GE225 := gW (w := w) HB hg; replace HB := bB HB hb; clear hb hbox hg) | ((with_reducible refine gate_dst (N := 4) rfl ?_); refine box_ev (N := 4) (cs := #[.int .i64 0, .int .i64 0, .int .i64 0]) (t := 27) ?_; intro gb226 hg w25 hbox hb; have BK226 := Aside0.mk (hbox); have GW226 := gW (w := w) HB hg; have GE226 := gW (w := w) HB hg; have NB225_226 := neL BK225 hg; have NB226_225 := neG BK225 hg; replace BK225 := kB BK225 hb; replace HB := bB HB hb; clear hb hbox hg; have hnb26 := NB225_226.out; have hnc26 := NB226_225.out; have hcz27_0 := bc0 BK225; have hcz27_1 := bc1 BK225; have hcz27_2 := bc2 BK225; have hfz27_0 := blk_frozen BK225.out 0; have hfz27_1 := blk_frozen BK225.out 1; have hfz27_2 := blk_frozen BK225.out 2) | ((with_reducible refine gate_callee (f := 50) rfl ?_); refine goesA (some 10) _ #[.agg #[.int .i64 a0_0, .int .i64 a0_1, .slice A0_2 l0_2.length c0_2], .int .i64 a1] ?_ Try.func50; (with_reducible refine (spec_flHas.calls k a0_0 a0_1 _ _ l0_2 a1 false _ ?side1 ?side2 A3.out).mono ?_); (case side1 => repeat (first | exact (Kd.C_below HR0_2.out HB.out) | (with_reducible refine Kd.C_alloc ?_ _) | (with_reducible refine Kd.C_drewN ?_ _) | (with_reducible refine Kd.C_drew ?_))); (case side2 => exact HC0_2.out); rintro e w28 ⟨rfl, hb⟩; refine ⟨_, rfl, ?_⟩; replace BK225 := kB BK225 hb; replace BK226 := kB BK226 hb; replace HB := bB HB hb; (try clear hb); (try clear hb2); (try clear hk); (try clear hi); have hcz29_0 := bc0 BK226; have hcz29_1 := bc1 BK226; have hcz29_2 := bc2 BK226; have hfz29_0 := blk_frozen BK226.out 0; have hfz29_1 := blk_frozen BK226.out 1; have hfz29_2 := blk_frozen BK226.out 2))
  refine bodyPost_ret (results_ct rfl _ _ gb226 27 #[.int .i64 0, .int .i64 0, .int .i64 0] (0, 0) _ rfl (by (with_reducible repeat (first | refine blk_drewN ?_ _ | refine blk_drew ?_ | refine blk_alloc ?_ _)); refine blk_put (cs := #[.int .i64 0, .int .i64 0, .int .i64 0]) ?_ 2 _ rfl; (with_reducible repeat (first | refine blk_drewN ?_ _ | refine blk_drew ?_ | refine blk_alloc ?_ _)); refine blk_put (cs := #[.int .i64 0, .int .i64 0, .int .i64 0]) ?_ 1 _ rfl; (with_reducible repeat (first | refine blk_drewN ?_ _ | refine blk_drew ?_ | refine blk_alloc ?_ _)); refine blk_put (cs := #[.int .i64 0, .int .i64 0, .int .i64 0]) ?_ 0 _ rfl; (with_reducible repeat (first | refine blk_drewN ?_ _ | refine blk_drew ?_ | refine blk_alloc ?_ _)); exact BK226.out) Try.underlying27 rfl (by kernel_rfl)) rfl ?_
  exact ⟨by first | rfl | (simp [errW_none, errW_some] <;> rfl) | (simp [*, errW_none, errW_some] <;> rfl), viaB HB⟩

/-! ### laws_toCell: function 72 -/
def laws_toCell.f (a0_0 : Int) (a0_1 : Int) : Option (Int × Int) := some (a0_0, a0_1)
set_option maxHeartbeats 8000000 in
set_option maxRecDepth 100000 in
theorem laws_toCell.calls (a0_0 : Int) (a0_1 : Int) (r1 : Int) (r2 : Int) (w : World) (h : laws_toCell.f a0_0 a0_1 = some (r1, r2)) :
  Calls Try.prog 72 #[.agg #[.int .i64 a0_0, .int .i64 a0_1]] w fun e w' => e = .returned (.agg #[.int .i64 r1, .int .i64 r2]) ∧ Below w.heap.size w w' := by
 have hu91 := Try.underlying91
 have hu89 := Try.underlying89
 have HB := Aside0.mk (Below.refl w.heap.size w)
 have H : (some (a0_0, a0_1)) = some (r1, r2) := h
 clear h
 simp only [Option.some.injEq, Prod.mk.injEq] at H
 obtain ⟨rfl, rfl⟩ := H
 go_enter Try.func72, Try.ntmps72
 go_wp2_with (first | ((with_reducible refine gate_dst (N := 1) rfl ?_); refine box_ev (N := 1) (cs := #[.int .i64 a0_0, .int .i64 a0_1]) (t := 91) ?_; intro gb238 hg w2 hbox hb; have BK238 := Aside0.mk (hbox); have GW238 := gW (w := w) HB hg; have GE238 := gW (w := w) HB hg; replace HB := bB HB hb; clear hb hbox hg) | ((with_reducible refine gate_dst (N := 2) rfl ?_); refine box_ev (N := 2) (cs := #[.int .i64 0, .int .i64 0]) (t := 89) ?_; intro gb239 hg w3 hbox hb; have BK239 := Aside0.mk (hbox); have GW239 := gW (w := w) HB hg; have GE239 := gW (w := w) HB hg; have NB238_239 := neL BK238 hg; have NB239_238 := neG BK238 hg; replace BK238 := kB BK238 hb; replace HB := bB HB hb; clear hb hbox hg) | ((with_reducible refine gate_dst (N := 3) rfl ?_); refine box_ev (N := 3) (cs := #[.int .i64 0, .int .i64 0]) (t := 89) ?_; intro gb240 hg w4 hbox hb; have BK240 := Aside0.mk (hbox); have GW240 := gW (w := w) HB hg; have GE240 := gW (w := w) HB hg; have NB238_240 := neL BK238 hg; have NB240_238 := neG BK238 hg; have NB239_240 := neL BK239 hg; have NB240_239 := neG BK239 hg; replace BK238 := kB BK238 hb; replace BK239 := kB BK239 hb; replace HB := bB HB hb; clear hb hbox hg; have hnb5 := NB238_239.out; have hnc5 := NB239_238.out; have hnb6 := NB238_240.out; have hnc6 := NB240_238.out; have hcz7_0 := bc0 BK238; have hcz7_1 := bc1 BK238; have hfz7_0 := blk_frozen BK238.out 0; have hfz7_1 := blk_frozen BK238.out 1; have hnb8 := NB240_239.out; have hnc8 := NB239_240.out; have hcz9_0 := bc0 BK240; have hcz9_1 := bc1 BK240; have hfz9_0 := blk_frozen BK240.out 0; have hfz9_1 := blk_frozen BK240.out 1; have hcz10_0 := bc0 BK239; have hcz10_1 := bc1 BK239; have hfz10_0 := blk_frozen BK239.out 0; have hfz10_1 := blk_frozen BK239.out 1))
 refine bodyPost_ret (results_cell_row rfl _ _ gb239 89 #[.int .i64 a0_0, .int .i64 a0_1] (0, 0) _ rfl (by (with_reducible repeat (first | refine blk_drewN ?_ _ | refine blk_drew ?_ | refine blk_alloc ?_ _)); refine blk_put (cs := #[.int .i64 a0_0, .int .i64 0]) ?_ 1 _ rfl; (with_reducible repeat (first | refine blk_drewN ?_ _ | refine blk_drew ?_ | refine blk_alloc ?_ _)); refine blk_put (cs := #[.int .i64 0, .int .i64 0]) ?_ 0 _ rfl; (with_reducible repeat (first | refine blk_drewN ?_ _ | refine blk_drew ?_ | refine blk_alloc ?_ _)); refine blk_far ?_ NB239_240.out _; (with_reducible repeat (first | refine blk_drewN ?_ _ | refine blk_drew ?_ | refine blk_alloc ?_ _)); refine blk_far ?_ NB239_240.out _; (with_reducible repeat (first | refine blk_drewN ?_ _ | refine blk_drew ?_ | refine blk_alloc ?_ _)); exact BK239.out) Try.underlying89 rfl (by kernel_rfl)) rfl ?_
 exact ⟨by first | rfl | (simp [errW_none, errW_some] <;> rfl) | (simp [*, errW_none, errW_some] <;> rfl), viaB HB⟩

/-! ### laws_toCellS: function 52 -/
def laws_toCellS.l0 : Nat → List (S91) → List (S89) → Int → Option ((List (S89)))
 | 0, _, _, _ => none
 | k + 1, x0, x3, x4 => if x4 < (x0.length : Int) then (if 0 ≤ x4 then ((laws_toCell.f ((rd_T91 x0 x4).f0) ((rd_T91 x0 x4).f1)).bind fun bt245 => (if x4 < (x3.length : Int) then (laws_toCellS.l0 k x0 (x3.set (x4 : Int).toNat (⟨bt245.1, bt245.2⟩ : S89)) (wrap64 (x4 + 1))) else (none))) else (none)) else (some x3)
def laws_toCellS.f (k : Nat) (l0 : List (S91)) : Option ((List (S89))) := if 0 ≤ (l0.length : Int) then (if ((l0.length : Int) : Int).toNat ≤ 17592186044416 then (laws_toCellS.l0 k l0 (List.replicate ((l0.length : Int) : Int).toNat z89) 0) else (none)) else (none)
theorem laws_toCellS.mono_l : ∀ k, (∀ y0 y1 y2, LeO (laws_toCellS.l0 k y0 y1 y2) (laws_toCellS.l0 (k + 1) y0 y1 y2))
 | 0 => fun _ _ _ r h => by simp [laws_toCellS.l0] at h
 | k + 1 => by
  have ih0 := laws_toCellS.mono_l k
  ·intro y0 y1 y2
   unfold laws_toCellS.l0
   repeat' first
   | (with_reducible exact ih0 _ _ _)
   | (with_reducible exact LeO.refl _)
   | (with_reducible exact LeO.none _)
   | (with_reducible refine LeO.ite ?_ ?_)
   | (with_reducible refine LeO.bind ?_ (fun _ => ?_))
   | exact ih0 _ _ _
   | exact LeO.none _
   | refine LeO.ite ?_ ?_
   | refine LeO.bind ?_ (fun _ => ?_)
theorem laws_toCellS.mono : ∀ a0 k, LeO (laws_toCellS.f k a0) (laws_toCellS.f (k + 1) a0) := by
 intro a0 k
 have ih0 := laws_toCellS.mono_l k
 unfold laws_toCellS.f
 repeat' first
   | (with_reducible exact ih0 _ _ _)
   | (with_reducible exact LeO.refl _)
   | (with_reducible exact LeO.none _)
   | (with_reducible refine LeO.ite ?_ ?_)
   | (with_reducible refine LeO.bind ?_ (fun _ => ?_))
   | exact ih0 _ _ _
   | exact LeO.none _
   | refine LeO.ite ?_ ?_
   | refine LeO.bind ?_ (fun _ => ?_)
set_option maxHeartbeats 8000000 in
set_option maxRecDepth 100000 in
theorem laws_toCellS.calls (k : Nat) (A0 : Option Addr) (c0 : Nat) (l0 : List (S91)) (r : List (S89)) (w : World) (hr0 : Kd.C k91 w A0 l0.length l0) (hc0 : l0.length ≤ c0) (h : laws_toCellS.f k l0 = some r) :
  Calls Try.prog 52 #[.slice A0 l0.length c0] w fun e w' => ∃ v0_ : Value, e = .returned (v0_) ∧ Kd.R k89 89 w' w.heap.size (fun _ => True) v0_ r ∧ Below w.heap.size w w' := by
 have hu91 := Try.underlying91
 have hu89 := Try.underlying89
 have HR0 := Aside0.mk hr0
 have HC0 := Aside0.mk hc0
 clear hr0 hc0
 have HB := Aside0.mk (Below.refl w.heap.size w)
 have H : (if 0 ≤ (l0.length : Int) then (if ((l0.length : Int) : Int).toNat ≤ 17592186044416 then (laws_toCellS.l0 k l0 (List.replicate ((l0.length : Int) : Int).toNat z89) 0) else (none)) else (none)) = some r := h
 clear h
 by_cases c2 : 0 ≤ (l0.length : Int)
 ·rw [if_pos c2] at H
  have c2b0 := eq_true c2
  have c2b1 := decide_eq_true c2
  clear c2
  by_cases c3 : ((l0.length : Int) : Int).toNat ≤ 17592186044416
  ·rw [if_pos c3] at H
   have c3b0 := eq_true c3
   have c3b1 := decide_eq_true c3
   clear c3
   obtain ⟨y241, hy241⟩ : ∃ y_ : List (S89), y_ = (List.replicate ((l0.length : Int) : Int).toNat z89) := ⟨_, rfl⟩
   replace H : (laws_toCellS.l0 k l0 y241 0) = some r := by first | (rw [hy241]; with_reducible exact H) | (have H2_ := (Option.bind_some _ _).symm.trans H; rw [hy241]; with_reducible exact H2_) | (have H2_ := (Option.bind_some _ _).symm.trans H; with_reducible exact H2_) | with_reducible exact H | (rw [hy241]; exact H) | exact H
   have Ny241 := Aside0.mk hy241
   clear hy241
   have H' := Aside0.mk H
   clear H
   go_enter Try.func52, Try.ntmps52
   go_wp2_with (first | ((with_reducible refine gate_dst (N := 7) rfl ?_); refine Kd.R_make k89 _ 89 rfl (N := 7) rfl 30 _ _ rfl (l0.length : Int) rfl rfl Try.underlying30 (.agg #[(.int .i64 0), (.int .i64 0)]) 16 info89 rfl (by decide) (by omega) z89 (ok := fun _ => True) (okp := fun _ => True) (k89_mkM _ _ _ z89 ) (fun _ hk => hk) trivial (ofD) (Nat.le_trans (Nat.mul_le_mul_right _ (ofD : (l0.length : Int).toNat ≤ 17592186044416)) (by omega)) (Below.refl _ _) (Nat.le_refl _) ?_; intro v242 w4 ho5 hb hg_ hnew_; clear hg_ hnew_; (first | rw [← Ny241.out] at ho5 | (simp only [Int.reduceToNat] at ho5; rw [← Ny241.out] at ho5)); have HO243 := Aside0.mk (Kd.R_lower ho5 (below_size (viaB HB))); replace HB := bB HB hb; clear hb ho5))
   go_loopg [4] k (fun kq v4 w' => ∃ (x3_1 : List (S89)) (x4_1 : Int), v4 = .int .i64 x4_1 ∧ Aside0 (laws_toCellS.l0 kq l0 x3_1 x4_1 = some r) ∧ Aside0 (kq ≤ k) ∧ Aside0 (Kd.R k89 89 w' w.heap.size (fun _ => True) v242 x3_1) ∧ Aside0 (Below w.heap.size w w'))
   case atStart => exact ⟨(y241), (0), (by first | rfl | (simp; done) | (simp [*]; done)), H', ⟨Nat.le_refl _⟩, ⟨viaR HO243⟩, ⟨viaB HB⟩⟩
   case round =>
    clear H'
    (try clear c2); (try clear c2b0); (try clear c2b1); (try clear p2); (try clear c3); (try clear c3b0); (try clear c3b1); (try clear c5)
    obtain ⟨x3_1, x4_1, rfl, HA, HK1, HO_3, HB⟩ := hrel
    cases gk with
    | zero => exact absurd HA.out (by simp [laws_toCellS.l0])
    | succ k1 =>
     have H := HA.out
     clear HA
     simp only [laws_toCellS.l0] at H
     by_cases c6 : x4_1 < (l0.length : Int)
     ·rw [if_pos c6] at H
      have c6b0 := decide_eq_true c6
      clear c6
      by_cases c7 : 0 ≤ x4_1
      ·rw [if_pos c7] at H
       have c7b0 := decide_eq_true c7
       clear c7
       replace H := Option.bind_eq_some_iff.mp H
       obtain ⟨⟨t245, t246⟩, A80, H⟩ := H
       replace H : (if x4_1 < (x3_1.length : Int) then (laws_toCellS.l0 k1 l0 (x3_1.set (x4_1 : Int).toNat (⟨t245, t246⟩ : S89)) (wrap64 (x4_1 + 1))) else (none)) = some r := H
       have A8 := Aside0.mk A80
       clear A80
       by_cases c9 : x4_1 < (x3_1.length : Int)
       ·rw [if_pos c9] at H
        have c9b0 := decide_eq_true c9
        clear c9
        obtain ⟨y247, hy247⟩ : ∃ y_ : List (S89), y_ = (x3_1.set (x4_1 : Int).toNat (⟨t245, t246⟩ : S89)) := ⟨_, rfl⟩
        replace H : (laws_toCellS.l0 k1 l0 y247 (wrap64 (x4_1 + 1))) = some r := by first | (rw [hy247]; with_reducible exact H) | (have H2_ := (Option.bind_some _ _).symm.trans H; rw [hy247]; with_reducible exact H2_) | (have H2_ := (Option.bind_some _ _).symm.trans H; with_reducible exact H2_) | with_reducible exact H | (rw [hy247]; exact H) | exact H
        have Ny247 := Aside0.mk hy247
        clear hy247
        have H' := Aside0.mk H
        clear H
        have p244 : 0 ≤ (x4_1 : Int) := ofD
        have q244 : x4_1 < (l0.length : Int) := ofD
        obtain ⟨ad244, e244, hx244_0, hx244_1⟩ := at_T91 HR0.out x4_1 p244 q244
        cases e244
        replace hx244_0 := (HB.out.cell (World.block_lt_of_cell? w _ hx244_0)).trans hx244_0
        replace hx244_1 := (HB.out.cell (World.block_lt_of_cell? w _ hx244_1)).trans hx244_1
        replace p244 := eq_true p244
        replace q244 := eq_true q244
        go_wp2_with (first | ((with_reducible refine gate_callee (f := 72) rfl ?_); refine goesA (some 20) _ #[.agg #[.int .i64 ((rd_T91 l0 x4_1).f0), .int .i64 ((rd_T91 l0 x4_1).f1)]] ?_ Try.func72; (with_reducible refine (laws_toCell.calls ((rd_T91 l0 x4_1).f0) ((rd_T91 l0 x4_1).f1) t245 t246 _ A8.out).mono ?_); rintro e w11 ⟨rfl, hb⟩; refine ⟨_, rfl, ?_⟩; replace HO_3 := Aside0.mk (Kd.R_below (viaR HO_3) hb); replace HB := bB HB hb; (try clear hb); (try clear hb2); (try clear hk); (try clear hi); have p10 : 0 ≤ (x4_1 : Int) := ofD; have q10 : (x4_1 : Int) < ((x3_1.length : Int) : Int) := ofD; obtain ⟨go10, co10, eo10, gb10, gl10, cl10, HG10⟩ := Kd.R_form HO_3.out (by omega); (first | cases eo10 | (injection eo10 with ea_ en_ ec_; (first | subst ea_ | (injection ea_ with ea_; subst ea_)); subst ec_; clear en_)); have GB10 := Aside0.mk gb10; have GG10 := Aside0.mk HG10; clear gb10 gl10 HG10; obtain ⟨ce10, hcl10, hM10, hcc10, hfr10⟩ := Kd.R_elem HO_3.out z89 (x4_1 : Int) p10 q10; obtain rfl := k89_openM hM10; have hx10_0 : w11.cell? ⟨go10, (x4_1 : Int).toNat * 2, none⟩ = some (.int .i64 ((rd_T89 x3_1 x4_1).f0)) := hcc10 0 _ rfl; have hx10_1 : w11.cell? ⟨go10, (x4_1 : Int).toNat * 2 + 1, none⟩ = some (.int .i64 ((rd_T89 x3_1 x4_1).f1)) := hcc10 1 _ rfl; have hf10_0 : w11.frozen? ⟨go10, (x4_1 : Int).toNat * 2, none⟩ = false := hfr10 0; have hf10_1 : w11.frozen? ⟨go10, (x4_1 : Int).toNat * 2 + 1, none⟩ = false := hfr10 1; (try clear hcl10); (try clear hcc10); (try clear hfr10); (try clear hM10); replace p10 := eq_true p10; replace q10 := eq_true q10; have HX12 := Aside0.mk (show Kd.R k89 89 w11 w.heap.size (fun _ => True) (.slice (some ⟨go10, 0, none⟩) x3_1.length co10) x3_1 from (viaR HO_3)); obtain ⟨ce12, hcl12, hM12, hcc12, hfr12⟩ := Kd.R_elem HX12.out z89 (x4_1 : Int) (ofD) (by have h_ : (x4_1 : Int) < ((x3_1.length : Int) : Int) := ofD; first | exact h_ | (have e_ := (Kd.R_reads' HO_3.out).1; omega) | simpa using h_); obtain rfl := k89_openM hM12; have HP12 := Kd.R_seg HX12.out (x4_1 : Int) (ofD) (by have h_ : (x4_1 : Int) < ((x3_1.length : Int) : Int) := ofD; first | exact h_ | (have e_ := (Kd.R_reads' HO_3.out).1; omega) | simpa using h_) (seg := [.int .i64 t245, .int .i64 t246]) (j := 0) hcl12 hcc12 (show 2 ≤ 2 from by decide) (x' := (⟨t245, t246⟩ : S89)) (k89_mkM _ _ _ (⟨t245, t246⟩ : S89) ) (fun _ hk => hk); have hx12_0 := hcc12 0 _ rfl; (try simp only [show (k89).sz = 2 from rfl, Nat.mul_one, Nat.add_zero] at hx12_0); have hf12_0 := hfr12 0; (try simp only [show (k89).sz = 2 from rfl, Nat.mul_one, Nat.add_zero] at hf12_0); have hx12_1 := hcc12 1 _ rfl; (try simp only [show (k89).sz = 2 from rfl, Nat.mul_one, Nat.add_zero] at hx12_1); have hf12_1 := hfr12 1; (try simp only [show (k89).sz = 2 from rfl, Nat.mul_one, Nat.add_zero] at hf12_1); (try clear hcl12); (try clear hcc12); (try clear hfr12); (try clear hM12)) | ((with_reducible refine gate_store (t := 89) (p := 21) rfl ?_); refine store_event (t := 89) (p := 21) (v := ?vo_w13) (w1 := ((w11.setCell ⟨go10, (x4_1 : Int).toNat * 2, none⟩ (.int .i64 t245)).setCell ⟨go10, (x4_1 : Int).toNat * 2 + 1, none⟩ (.int .i64 t246))) ?hg ?ho ?hn ?hr ?_; (case ho => rfl); (case hg => rfl); (case hn => rfl); (case hr => first | (go_simp; done) | (go_simp; rfl)); intro w13 hw; have hg : w11.grownBy w13 (some go10) := (by rw [hw]; exact HP12.2); have hp_ : Kd.R k89 89 w13 w.heap.size (fun _ => True) (.slice (some ⟨go10, 0, none⟩) x3_1.length co10) y247 := (by rw [hw, Ny247.out]; exact HP12.1); clear HP12; replace HO_3 := Aside0.mk (hp_); replace HB := Aside0.mk ((by rw [hw]; exact below_set (below_set (HB.out) GB10.out) GB10.out : Below w.heap.size w w13)); clear hg hw hp_))
        go_roundg k1
        case measure => have := HK1.out; omega
        case rel => exact ⟨(y247), (wrap64 (x4_1 + 1)), (by first | rfl | (simp; done) | (simp [*]; done)), H', ⟨by have := HK1.out; omega⟩, ⟨viaR HO_3⟩, ⟨viaB HB⟩⟩
       ·rw [if_neg c9] at H
        exact absurd H (by simp)
      ·rw [if_neg c7] at H
       exact absurd H (by simp)
     ·rw [if_neg c6] at H
      have c6b0 := decide_eq_false c6
      clear c6
      obtain rfl := Option.some.inj H
      go_wp2
      go_ret
      exact ⟨_, by first | rfl | (simp [errW_none, errW_some] <;> rfl) | (simp [*, errW_none, errW_some] <;> rfl), viaR HO_3, viaB HB⟩
  ·rw [if_neg c3] at H
   exact absurd H (by simp)
 ·rw [if_neg c2] at H
  exact absurd H (by simp)

/-! ### laws_toBoard: function 15 -/
def laws_toBoard.f (k : Nat) (a0_0 : Int) (a0_1 : Int) (l0_2 : List (S91)) : Option (Int × Int × (List (S89))) := (laws_toCellS.f k l0_2).bind fun t251 => (some (a0_0, a0_1, t251))
theorem laws_toBoard.mono : ∀ a0 a1 a2 k, LeO (laws_toBoard.f k a0 a1 a2) (laws_toBoard.f (k + 1) a0 a1 a2) := by
 intro a0 a1 a2 k
 unfold laws_toBoard.f
 repeat' first
   | (with_reducible exact laws_toCellS.mono _ _)
   | (with_reducible exact LeO.refl _)
   | (with_reducible exact LeO.none _)
   | (with_reducible refine LeO.ite ?_ ?_)
   | (with_reducible refine LeO.bind ?_ (fun _ => ?_))
   | exact laws_toCellS.mono _ _
   | exact LeO.none _
   | refine LeO.ite ?_ ?_
   | refine LeO.bind ?_ (fun _ => ?_)
set_option maxHeartbeats 8000000 in
set_option maxRecDepth 100000 in
theorem laws_toBoard.calls (k : Nat) (a0_0 : Int) (a0_1 : Int) (A0_2 : Option Addr) (c0_2 : Nat) (l0_2 : List (S91)) (r1 : Int) (r2 : Int) (r3 : List (S89)) (w : World) (hr0_2 : Kd.C k91 w A0_2 l0_2.length l0_2) (hc0_2 : l0_2.length ≤ c0_2) (h : laws_toBoard.f k a0_0 a0_1 l0_2 = some (r1, r2, r3)) :
  Calls Try.prog 15 #[.agg #[.int .i64 a0_0, .int .i64 a0_1, .slice A0_2 l0_2.length c0_2]] w fun e w' => ∃ v2_ : Value, e = .returned (.agg #[.int .i64 r1, .int .i64 r2, v2_]) ∧ Kd.R k89 89 w' w.heap.size (fun _ => True) v2_ r3 ∧ Below w.heap.size w w' := by
 have hu24 := Try.underlying24
 have hu32 := Try.underlying32
 have HR0_2 := Aside0.mk hr0_2
 have HC0_2 := Aside0.mk hc0_2
 clear hr0_2 hc0_2
 have HB := Aside0.mk (Below.refl w.heap.size w)
 have H : ((laws_toCellS.f k l0_2).bind fun t251 => (some (a0_0, a0_1, t251))) = some (r1, r2, r3) := h
 clear h
 replace H := Option.bind_eq_some_iff.mp H
 obtain ⟨t251, A20, H⟩ := H
 replace H : (some (a0_0, a0_1, t251)) = some (r1, r2, r3) := H
 have A2 := Aside0.mk A20
 clear A20
 simp only [Option.some.injEq, Prod.mk.injEq] at H
 obtain ⟨rfl, rfl, rfl⟩ := H
 go_enter Try.func15, Try.ntmps15
 go_wp2_with (first | ((with_reducible refine gate_dst (N := 1) rfl ?_); refine box_ev (N := 1) (cs := #[.int .i64 a0_0, .int .i64 a0_1, .slice A0_2 l0_2.length c0_2]) (t := 24) ?_; intro gb248 hg w3 hbox hb; have BK248 := Aside0.mk (hbox); have GW248 := gW (w := w) HB hg; have GE248 := gW (w := w) HB hg; replace HB := bB HB hb; clear hb hbox hg) | ((with_reducible refine gate_dst (N := 2) rfl ?_); refine box_ev (N := 2) (cs := #[.int .i64 0, .int .i64 0, .slice none 0 0]) (t := 32) ?_; intro gb249 hg w4 hbox hb; have BK249 := Aside0.mk (hbox); have GW249 := gW (w := w) HB hg; have GE249 := gW (w := w) HB hg; have NB248_249 := neL BK248 hg; have NB249_248 := neG BK248 hg; replace BK248 := kB BK248 hb; replace HB := bB HB hb; clear hb hbox hg) | ((with_reducible refine gate_dst (N := 3) rfl ?_); refine box_ev (N := 3) (cs := #[.int .i64 0, .int .i64 0, .slice none 0 0]) (t := 32) ?_; intro gb250 hg w5 hbox hb; have BK250 := Aside0.mk (hbox); have GW250 := gW (w := w) HB hg; have GE250 := gW (w := w) HB hg; have NB248_250 := neL BK248 hg; have NB250_248 := neG BK248 hg; have NB249_250 := neL BK249 hg; have NB250_249 := neG BK249 hg; replace BK248 := kB BK248 hb; replace BK249 := kB BK249 hb; replace HB := bB HB hb; clear hb hbox hg; have hnb6 := NB248_249.out; have hnc6 := NB249_248.out; have hnb7 := NB248_250.out; have hnc7 := NB250_248.out; have hcz8_0 := bc0 BK248; have hcz8_1 := bc1 BK248; have hcz8_2 := bc2 BK248; have hfz8_0 := blk_frozen BK248.out 0; have hfz8_1 := blk_frozen BK248.out 1; have hfz8_2 := blk_frozen BK248.out 2; have hnb9 := NB250_249.out; have hnc9 := NB249_250.out; have hcz10_0 := bc0 BK250; have hcz10_1 := bc1 BK250; have hcz10_2 := bc2 BK250; have hfz10_0 := blk_frozen BK250.out 0; have hfz10_1 := blk_frozen BK250.out 1; have hfz10_2 := blk_frozen BK250.out 2) | ((with_reducible refine gate_callee (f := 52) rfl ?_); refine goesA (some 12) _ #[.slice A0_2 l0_2.length c0_2] ?_ Try.func52; (with_reducible refine (laws_toCellS.calls k _ _ l0_2 t251 _ ?side1 ?side2 A2.out).mono ?_); (case side1 => exact Kd.C_below HR0_2.out (viaB HB)); (case side2 => exact HC0_2.out); rintro e w11 ⟨v252, rfl, ho0, hb⟩; refine ⟨_, rfl, ?_⟩; have HO253 := Aside0.mk (Kd.R_lower ho0 (below_size (viaB HB))); replace BK248 := Aside0.mk (blk_below (g := gb248) (o := .cells #[.int .i64 a0_0, .int .i64 a0_1, .slice A0_2 l0_2.length c0_2] 24 (0, 0)) (by (with_reducible repeat (first | refine blk_drewN ?_ _ | refine blk_drew ?_ | refine blk_alloc ?_ _)); refine blk_far ?_ NB248_250.out _; (with_reducible repeat (first | refine blk_drewN ?_ _ | refine blk_drew ?_ | refine blk_alloc ?_ _)); refine blk_far ?_ NB248_250.out _; (with_reducible repeat (first | refine blk_drewN ?_ _ | refine blk_drew ?_ | refine blk_alloc ?_ _)); exact BK248.out) hb); replace BK249 := Aside0.mk (blk_below (g := gb249) (o := .cells #[.int .i64 0, .int .i64 0, .slice none 0 0] 32 (0, 0)) (by (with_reducible repeat (first | refine blk_drewN ?_ _ | refine blk_drew ?_ | refine blk_alloc ?_ _)); refine blk_far ?_ NB249_250.out _; (with_reducible repeat (first | refine blk_drewN ?_ _ | refine blk_drew ?_ | refine blk_alloc ?_ _)); refine blk_far ?_ NB249_250.out _; (with_reducible repeat (first | refine blk_drewN ?_ _ | refine blk_drew ?_ | refine blk_alloc ?_ _)); exact BK249.out) hb); replace BK250 := Aside0.mk (blk_below (g := gb250) (o := .cells #[.int .i64 a0_0, .int .i64 a0_1, .slice none 0 0] 32 (0, 0)) (by (with_reducible repeat (first | refine blk_drewN ?_ _ | refine blk_drew ?_ | refine blk_alloc ?_ _)); refine blk_put (cs := #[.int .i64 a0_0, .int .i64 0, .slice none 0 0]) ?_ 1 _ rfl; (with_reducible repeat (first | refine blk_drewN ?_ _ | refine blk_drew ?_ | refine blk_alloc ?_ _)); refine blk_put (cs := #[.int .i64 0, .int .i64 0, .slice none 0 0]) ?_ 0 _ rfl; (with_reducible repeat (first | refine blk_drewN ?_ _ | refine blk_drew ?_ | refine blk_alloc ?_ _)); exact BK250.out) hb); replace HB := bB HB hb; (try clear hb); (try clear hb2); (try clear hk); (try clear hi); (try clear ho0); obtain ⟨Ao12, co12, eo12⟩ := Kd.R_slice HO253.out; subst eo12; have hcz13_0 := bc0 BK250; have hcz13_1 := bc1 BK250; have hcz13_2 := bc2 BK250; have hfz13_0 := blk_frozen BK250.out 0; have hfz13_1 := blk_frozen BK250.out 1; have hfz13_2 := blk_frozen BK250.out 2; have hcz14_0 := bc0 BK249; have hcz14_1 := bc1 BK249; have hcz14_2 := bc2 BK249; have hfz14_0 := blk_frozen BK249.out 0; have hfz14_1 := blk_frozen BK249.out 1; have hfz14_2 := blk_frozen BK249.out 2))
 refine bodyPost_ret (results_cell_row rfl _ _ gb249 32 #[.int .i64 a0_0, .int .i64 a0_1, .slice Ao12 t251.length co12] (0, 0) _ rfl (by (with_reducible repeat (first | refine blk_drewN ?_ _ | refine blk_drew ?_ | refine blk_alloc ?_ _)); refine blk_put (cs := #[.int .i64 a0_0, .int .i64 a0_1, .slice none 0 0]) ?_ 2 _ rfl; (with_reducible repeat (first | refine blk_drewN ?_ _ | refine blk_drew ?_ | refine blk_alloc ?_ _)); refine blk_put (cs := #[.int .i64 a0_0, .int .i64 0, .slice none 0 0]) ?_ 1 _ rfl; (with_reducible repeat (first | refine blk_drewN ?_ _ | refine blk_drew ?_ | refine blk_alloc ?_ _)); refine blk_put (cs := #[.int .i64 0, .int .i64 0, .slice none 0 0]) ?_ 0 _ rfl; (with_reducible repeat (first | refine blk_drewN ?_ _ | refine blk_drew ?_ | refine blk_alloc ?_ _)); refine blk_far ?_ NB249_250.out _; (with_reducible repeat (first | refine blk_drewN ?_ _ | refine blk_drew ?_ | refine blk_alloc ?_ _)); exact BK249.out) Try.underlying32 rfl (by kernel_rfl)) rfl ?_
 exact ⟨_, by first | rfl | (simp [errW_none, errW_some] <;> rfl) | (simp [*, errW_none, errW_some] <;> rfl), by (with_reducible repeat (first | apply Kd.R_alloc | apply Kd.R_drewN | apply Kd.R_drew)); exact Kd.R_mono (Kd.R_far (p := ⟨gb249, 2, none⟩) (Kd.R_far (p := ⟨gb249, 1, none⟩) (Kd.R_far (p := ⟨gb249, 0, none⟩) (Kd.R_far (p := ⟨gb250, 2, none⟩) (Kd.R_types (Kd.R_types HO253.out BK250.out (by decide)) BK249.out (by decide)) (fun _ hk => hk.1.2) (.slice Ao12 t251.length co12)) (fun _ hk => hk.2) (.int .i64 a0_0)) (fun _ hk => hk.2) (.int .i64 a0_1)) (fun _ hk => hk.2) (.slice Ao12 t251.length co12)) (fun _ hk => trivial), viaB HB⟩

/-! ### impl_IsCell: function 87 -/
def impl_IsCell.f (a0_0 : Int) (a0_1 : Int) : Option (Bool) := if a0_0 < 0 then (some false) else (if a0_0 > 7 then (some false) else (if a0_1 < 0 then (some false) else (if a0_1 > 1 then (some false) else (if a0_1 = 0 then (some true) else (if a0_0 = 3 then (some true) else (some (a0_0 == 6)))))))
set_option maxHeartbeats 8000000 in
set_option maxRecDepth 100000 in
theorem impl_IsCell.calls (a0_0 : Int) (a0_1 : Int) (r : Bool) (w : World) (h : impl_IsCell.f a0_0 a0_1 = some r) :
  Calls Try.prog 87 #[.agg #[.int .i64 a0_0, .int .i64 a0_1]] w fun e w' => e = .returned (.bool r) ∧ Below w.heap.size w w' := by
 have hu89 := Try.underlying89
 have HB := Aside0.mk (Below.refl w.heap.size w)
 have H : (if a0_0 < 0 then (some false) else (if a0_0 > 7 then (some false) else (if a0_1 < 0 then (some false) else (if a0_1 > 1 then (some false) else (if a0_1 = 0 then (some true) else (if a0_0 = 3 then (some true) else (some (a0_0 == 6)))))))) = some r := h
 clear h
 by_cases c2 : a0_0 < 0
 ·rw [if_pos c2] at H
  have c2b0 := decide_eq_true c2
  clear c2
  obtain rfl := Option.some.inj H
  go_enter Try.func87, Try.ntmps87
  go_wp2_with (first | ((with_reducible refine gate_dst (N := 1) rfl ?_); refine box_ev (N := 1) (cs := #[.int .i64 a0_0, .int .i64 a0_1]) (t := 89) ?_; intro gb254 hg w3 hbox hb; have BK254 := Aside0.mk (hbox); have GW254 := gW (w := w) HB hg; have GE254 := gW (w := w) HB hg; replace HB := bB HB hb; clear hb hbox hg; have hcz4_0 := bc0 BK254; have hcz4_1 := bc1 BK254; have hfz4_0 := blk_frozen BK254.out 0; have hfz4_1 := blk_frozen BK254.out 1))
  go_ret
  exact ⟨by first | rfl | (simp [errW_none, errW_some] <;> rfl) | (simp [*, errW_none, errW_some] <;> rfl), viaB HB⟩
 ·rw [if_neg c2] at H
  have c2b0 := decide_eq_false c2
  clear c2
  by_cases c5 : a0_0 > 7
  ·rw [if_pos c5] at H
   have c5b0 := decide_eq_true c5
   clear c5
   obtain rfl := Option.some.inj H
   go_enter Try.func87, Try.ntmps87
   go_wp2_with (first | ((with_reducible refine gate_dst (N := 1) rfl ?_); refine box_ev (N := 1) (cs := #[.int .i64 a0_0, .int .i64 a0_1]) (t := 89) ?_; intro gb254 hg w6 hbox hb; have BK254 := Aside0.mk (hbox); have GW254 := gW (w := w) HB hg; have GE254 := gW (w := w) HB hg; replace HB := bB HB hb; clear hb hbox hg; have hcz7_0 := bc0 BK254; have hcz7_1 := bc1 BK254; have hfz7_0 := blk_frozen BK254.out 0; have hfz7_1 := blk_frozen BK254.out 1))
   go_ret
   exact ⟨by first | rfl | (simp [errW_none, errW_some] <;> rfl) | (simp [*, errW_none, errW_some] <;> rfl), viaB HB⟩
  ·rw [if_neg c5] at H
   have c5b0 := decide_eq_false c5
   clear c5
   by_cases c8 : a0_1 < 0
   ·rw [if_pos c8] at H
    have c8b0 := decide_eq_true c8
    clear c8
    obtain rfl := Option.some.inj H
    go_enter Try.func87, Try.ntmps87
    go_wp2_with (first | ((with_reducible refine gate_dst (N := 1) rfl ?_); refine box_ev (N := 1) (cs := #[.int .i64 a0_0, .int .i64 a0_1]) (t := 89) ?_; intro gb254 hg w9 hbox hb; have BK254 := Aside0.mk (hbox); have GW254 := gW (w := w) HB hg; have GE254 := gW (w := w) HB hg; replace HB := bB HB hb; clear hb hbox hg; have hcz10_0 := bc0 BK254; have hcz10_1 := bc1 BK254; have hfz10_0 := blk_frozen BK254.out 0; have hfz10_1 := blk_frozen BK254.out 1))
    go_ret
    exact ⟨by first | rfl | (simp [errW_none, errW_some] <;> rfl) | (simp [*, errW_none, errW_some] <;> rfl), viaB HB⟩
   ·rw [if_neg c8] at H
    have c8b0 := decide_eq_false c8
    clear c8
    by_cases c11 : a0_1 > 1
    ·rw [if_pos c11] at H
     have c11b0 := decide_eq_true c11
     clear c11
     obtain rfl := Option.some.inj H
     go_enter Try.func87, Try.ntmps87
     go_wp2_with (first | ((with_reducible refine gate_dst (N := 1) rfl ?_); refine box_ev (N := 1) (cs := #[.int .i64 a0_0, .int .i64 a0_1]) (t := 89) ?_; intro gb254 hg w12 hbox hb; have BK254 := Aside0.mk (hbox); have GW254 := gW (w := w) HB hg; have GE254 := gW (w := w) HB hg; replace HB := bB HB hb; clear hb hbox hg; have hcz13_0 := bc0 BK254; have hcz13_1 := bc1 BK254; have hfz13_0 := blk_frozen BK254.out 0; have hfz13_1 := blk_frozen BK254.out 1))
     go_ret
     exact ⟨by first | rfl | (simp [errW_none, errW_some] <;> rfl) | (simp [*, errW_none, errW_some] <;> rfl), viaB HB⟩
    ·rw [if_neg c11] at H
     have c11b0 := decide_eq_false c11
     clear c11
     by_cases c14 : a0_1 = 0
     ·rw [if_pos c14] at H
      have c14b0 := beq_iff_eq.mpr c14
      have c14b1 := bne_eq_false_iff_eq.mpr c14
      clear c14
      obtain rfl := Option.some.inj H
      go_enter Try.func87, Try.ntmps87
      go_wp2_with (first | ((with_reducible refine gate_dst (N := 1) rfl ?_); refine box_ev (N := 1) (cs := #[.int .i64 a0_0, .int .i64 a0_1]) (t := 89) ?_; intro gb254 hg w15 hbox hb; have BK254 := Aside0.mk (hbox); have GW254 := gW (w := w) HB hg; have GE254 := gW (w := w) HB hg; replace HB := bB HB hb; clear hb hbox hg; have hcz16_0 := bc0 BK254; have hcz16_1 := bc1 BK254; have hfz16_0 := blk_frozen BK254.out 0; have hfz16_1 := blk_frozen BK254.out 1))
      go_ret
      exact ⟨by first | rfl | (simp [errW_none, errW_some] <;> rfl) | (simp [*, errW_none, errW_some] <;> rfl), viaB HB⟩
     ·rw [if_neg c14] at H
      have c14b0 := beq_eq_false_iff_ne.mpr c14
      have c14b1 := bne_iff_ne.mpr c14
      by_cases c17 : a0_0 = 3
      ·rw [if_pos c17] at H
       have c17b0 := beq_iff_eq.mpr c17
       have c17b1 := bne_eq_false_iff_eq.mpr c17
       clear c17
       obtain rfl := Option.some.inj H
       go_enter Try.func87, Try.ntmps87
       go_wp2_with (first | ((with_reducible refine gate_dst (N := 1) rfl ?_); refine box_ev (N := 1) (cs := #[.int .i64 a0_0, .int .i64 a0_1]) (t := 89) ?_; intro gb254 hg w18 hbox hb; have BK254 := Aside0.mk (hbox); have GW254 := gW (w := w) HB hg; have GE254 := gW (w := w) HB hg; replace HB := bB HB hb; clear hb hbox hg; have hcz19_0 := bc0 BK254; have hcz19_1 := bc1 BK254; have hfz19_0 := blk_frozen BK254.out 0; have hfz19_1 := blk_frozen BK254.out 1))
       go_ret
       exact ⟨by first | rfl | (simp [errW_none, errW_some] <;> rfl) | (simp [*, errW_none, errW_some] <;> rfl), viaB HB⟩
      ·rw [if_neg c17] at H
       have c17b0 := beq_eq_false_iff_ne.mpr c17
       have c17b1 := bne_iff_ne.mpr c17
       obtain rfl := Option.some.inj H
       go_enter Try.func87, Try.ntmps87
       go_wp2_with (first | ((with_reducible refine gate_dst (N := 1) rfl ?_); refine box_ev (N := 1) (cs := #[.int .i64 a0_0, .int .i64 a0_1]) (t := 89) ?_; intro gb254 hg w20 hbox hb; have BK254 := Aside0.mk (hbox); have GW254 := gW (w := w) HB hg; have GE254 := gW (w := w) HB hg; replace HB := bB HB hb; clear hb hbox hg; have hcz21_0 := bc0 BK254; have hcz21_1 := bc1 BK254; have hfz21_0 := blk_frozen BK254.out 0; have hfz21_1 := blk_frozen BK254.out 1))
       go_ret
       exact ⟨by first | rfl | (simp [errW_none, errW_some] <;> rfl) | (simp [*, errW_none, errW_some] <;> rfl), viaB HB⟩

/-! ### impl_validCells: function 79 -/
def impl_validCells.l0 : Nat → List (S89) → Int → Int → Option (Bool)
 | 0, _, _, _ => none
 | k + 1, x8, x9, x10 => if x10 < x9 then (if 0 ≤ x10 then (if x10 < (x8.length : Int) then ((impl_IsCell.f ((rd_T89 x8 x10).f0) ((rd_T89 x8 x10).f1)).bind fun t257 => (if t257 = true then (impl_validCells.l0 k x8 x9 (wrap64 (x10 + 1))) else (some false))) else (none)) else (none)) else (some true)
def impl_validCells.f (k : Nat) (l0 : List (S89)) : Option (Bool) := if (l0.length : Int) > 90 then (some false) else (impl_validCells.l0 k l0 (l0.length : Int) 0)
theorem impl_validCells.mono_l : ∀ k, (∀ y0 y1 y2, LeO (impl_validCells.l0 k y0 y1 y2) (impl_validCells.l0 (k + 1) y0 y1 y2))
 | 0 => fun _ _ _ r h => by simp [impl_validCells.l0] at h
 | k + 1 => by
  have ih0 := impl_validCells.mono_l k
  ·intro y0 y1 y2
   unfold impl_validCells.l0
   repeat' first
   | (with_reducible exact ih0 _ _ _)
   | (with_reducible exact LeO.refl _)
   | (with_reducible exact LeO.none _)
   | (with_reducible refine LeO.ite ?_ ?_)
   | (with_reducible refine LeO.bind ?_ (fun _ => ?_))
   | exact ih0 _ _ _
   | exact LeO.none _
   | refine LeO.ite ?_ ?_
   | refine LeO.bind ?_ (fun _ => ?_)
theorem impl_validCells.mono : ∀ a0 k, LeO (impl_validCells.f k a0) (impl_validCells.f (k + 1) a0) := by
 intro a0 k
 have ih0 := impl_validCells.mono_l k
 unfold impl_validCells.f
 repeat' first
   | (with_reducible exact ih0 _ _ _)
   | (with_reducible exact LeO.refl _)
   | (with_reducible exact LeO.none _)
   | (with_reducible refine LeO.ite ?_ ?_)
   | (with_reducible refine LeO.bind ?_ (fun _ => ?_))
   | exact ih0 _ _ _
   | exact LeO.none _
   | refine LeO.ite ?_ ?_
   | refine LeO.bind ?_ (fun _ => ?_)
set_option maxHeartbeats 8000000 in
set_option maxRecDepth 100000 in
theorem impl_validCells.calls (k : Nat) (A0 : Option Addr) (c0 : Nat) (l0 : List (S89)) (r : Bool) (w : World) (hr0 : Kd.C k89 w A0 l0.length l0) (hc0 : l0.length ≤ c0) (h : impl_validCells.f k l0 = some r) :
  Calls Try.prog 79 #[.slice A0 l0.length c0] w fun e w' => e = .returned (.bool r) ∧ Below w.heap.size w w' := by
 have hu89 := Try.underlying89
 have HR0 := Aside0.mk hr0
 have HC0 := Aside0.mk hc0
 clear hr0 hc0
 have HB := Aside0.mk (Below.refl w.heap.size w)
 have H : (if (l0.length : Int) > 90 then (some false) else (impl_validCells.l0 k l0 (l0.length : Int) 0)) = some r := h
 clear h
 by_cases c2 : (l0.length : Int) > 90
 ·rw [if_pos c2] at H
  have c2b0 := decide_eq_true c2
  have c2b1 : decide (90 < l0.length) = true := decide_eq_true (by omega)
  clear c2
  obtain rfl := Option.some.inj H
  go_enter Try.func79, Try.ntmps79
  go_wp2
  go_ret
  exact ⟨by first | rfl | (simp [errW_none, errW_some] <;> rfl) | (simp [*, errW_none, errW_some] <;> rfl), viaB HB⟩
 ·rw [if_neg c2] at H
  have c2b0 := decide_eq_false c2
  have c2b1 : decide (90 < l0.length) = false := decide_eq_false (by omega)
  clear c2
  have H' := Aside0.mk H
  clear H
  go_enter Try.func79, Try.ntmps79
  go_wp2
  go_loopg [10] k (fun kq v10 w' => ∃ (x10_1 : Int), v10 = .int .i64 x10_1 ∧ Aside0 (impl_validCells.l0 kq l0 (l0.length : Int) x10_1 = some r) ∧ Aside0 (kq ≤ k) ∧ Aside0 (Below w.heap.size w w'))
  case atStart => exact ⟨(0), (by first | rfl | (simp; done) | (simp [*]; done)), H', ⟨Nat.le_refl _⟩, ⟨viaB HB⟩⟩
  case round =>
   clear H'
   (try clear c2); (try clear c2b0); (try clear c2b1); (try clear p2)
   obtain ⟨x10_1, rfl, HA, HK1, HB⟩ := hrel
   cases gk with
   | zero => exact absurd HA.out (by simp [impl_validCells.l0])
   | succ k1 =>
    have H := HA.out
    clear HA
    simp only [impl_validCells.l0] at H
    by_cases c3 : x10_1 < (l0.length : Int)
    ·rw [if_pos c3] at H
     have c3b0 := decide_eq_true c3
     clear c3
     by_cases c4 : 0 ≤ x10_1
     ·rw [if_pos c4] at H
      have c4b0 := decide_eq_true c4
      clear c4
      by_cases c5 : x10_1 < (l0.length : Int)
      ·rw [if_pos c5] at H
       have c5b0 := decide_eq_true c5
       clear c5
       replace H := Option.bind_eq_some_iff.mp H
       obtain ⟨t257, A60, H⟩ := H
       replace H : (if t257 = true then (impl_validCells.l0 k1 l0 (l0.length : Int) (wrap64 (x10_1 + 1))) else (some false)) = some r := H
       have A6 := Aside0.mk A60
       clear A60
       by_cases c7 : t257 = true
       ·subst c7
        have H1 : (impl_validCells.l0 k1 l0 (l0.length : Int) (wrap64 (x10_1 + 1))) = some r := by rw [if_pos rfl] at H; exact H
        clear H
        have H := H1
        clear H1
        have H' := Aside0.mk H
        clear H
        have p255 : 0 ≤ (x10_1 : Int) := ofD
        have q255 : x10_1 < (l0.length : Int) := ofD
        obtain ⟨ad255, e255, hx255_0, hx255_1⟩ := at_T89 HR0.out x10_1 p255 q255
        cases e255
        replace hx255_0 := (HB.out.cell (World.block_lt_of_cell? w _ hx255_0)).trans hx255_0
        replace hx255_1 := (HB.out.cell (World.block_lt_of_cell? w _ hx255_1)).trans hx255_1
        replace p255 := eq_true p255
        replace q255 := eq_true q255
        go_wp2_with (first | ((with_reducible refine gate_dst (N := 4) rfl ?_); refine box_ev (N := 4) (cs := #[.int .i64 0, .int .i64 0]) (t := 89) ?_; intro gb256 hg w8 hbox hb; have BK256 := Aside0.mk (hbox); have GW256 := gW (w := w) HB hg; have GE256 := gW (w := w) HB hg; replace HB := bB HB hb; clear hb hbox hg; have hcz9_0 := bc0 BK256; have hcz9_1 := bc1 BK256; have hfz9_0 := blk_frozen BK256.out 0; have hfz9_1 := blk_frozen BK256.out 1) | ((with_reducible refine gate_callee (f := 87) rfl ?_); refine goesA (some 15) _ #[.agg #[.int .i64 ((rd_T89 l0 x10_1).f0), .int .i64 ((rd_T89 l0 x10_1).f1)]] ?_ Try.func87; (with_reducible refine (impl_IsCell.calls ((rd_T89 l0 x10_1).f0) ((rd_T89 l0 x10_1).f1) true _ A6.out).mono ?_); rintro e w10 ⟨rfl, hb⟩; refine ⟨_, rfl, ?_⟩; replace BK256 := Aside0.mk (blk_below (g := gb256) (o := .cells #[.int .i64 ((rd_T89 l0 x10_1).f0), .int .i64 ((rd_T89 l0 x10_1).f1)] 89 (0, 0)) (by (with_reducible repeat (first | refine blk_drewN ?_ _ | refine blk_drew ?_ | refine blk_alloc ?_ _)); refine blk_put (cs := #[.int .i64 ((rd_T89 l0 x10_1).f0), .int .i64 0]) ?_ 1 _ rfl; (with_reducible repeat (first | refine blk_drewN ?_ _ | refine blk_drew ?_ | refine blk_alloc ?_ _)); refine blk_put (cs := #[.int .i64 0, .int .i64 0]) ?_ 0 _ rfl; (with_reducible repeat (first | refine blk_drewN ?_ _ | refine blk_drew ?_ | refine blk_alloc ?_ _)); exact BK256.out) hb); replace HB := bB HB hb; (try clear hb); (try clear hb2); (try clear hk); (try clear hi)))
        go_roundg k1
        case measure => have := HK1.out; omega
        case rel => exact ⟨(wrap64 (x10_1 + 1)), (by first | rfl | (simp; done) | (simp [*]; done)), H', ⟨by have := HK1.out; omega⟩, ⟨viaB HB⟩⟩
       ·replace c7 := Bool.eq_false_iff.mpr c7
        subst c7
        have H1 : (some false) = some r := by rw [if_neg (show ¬ (false = true) by decide)] at H; exact H
        clear H
        have H := H1
        clear H1
        obtain rfl := Option.some.inj H
        have p255 : 0 ≤ (x10_1 : Int) := ofD
        have q255 : x10_1 < (l0.length : Int) := ofD
        obtain ⟨ad255, e255, hx255_0, hx255_1⟩ := at_T89 HR0.out x10_1 p255 q255
        cases e255
        replace hx255_0 := (HB.out.cell (World.block_lt_of_cell? w _ hx255_0)).trans hx255_0
        replace hx255_1 := (HB.out.cell (World.block_lt_of_cell? w _ hx255_1)).trans hx255_1
        replace p255 := eq_true p255
        replace q255 := eq_true q255
        go_wp2_with (first | ((with_reducible refine gate_dst (N := 4) rfl ?_); refine box_ev (N := 4) (cs := #[.int .i64 0, .int .i64 0]) (t := 89) ?_; intro gb256 hg w11 hbox hb; have BK256 := Aside0.mk (hbox); have GW256 := gW (w := w) HB hg; have GE256 := gW (w := w) HB hg; replace HB := bB HB hb; clear hb hbox hg; have hcz12_0 := bc0 BK256; have hcz12_1 := bc1 BK256; have hfz12_0 := blk_frozen BK256.out 0; have hfz12_1 := blk_frozen BK256.out 1) | ((with_reducible refine gate_callee (f := 87) rfl ?_); refine goesA (some 15) _ #[.agg #[.int .i64 ((rd_T89 l0 x10_1).f0), .int .i64 ((rd_T89 l0 x10_1).f1)]] ?_ Try.func87; (with_reducible refine (impl_IsCell.calls ((rd_T89 l0 x10_1).f0) ((rd_T89 l0 x10_1).f1) false _ A6.out).mono ?_); rintro e w13 ⟨rfl, hb⟩; refine ⟨_, rfl, ?_⟩; replace BK256 := Aside0.mk (blk_below (g := gb256) (o := .cells #[.int .i64 ((rd_T89 l0 x10_1).f0), .int .i64 ((rd_T89 l0 x10_1).f1)] 89 (0, 0)) (by (with_reducible repeat (first | refine blk_drewN ?_ _ | refine blk_drew ?_ | refine blk_alloc ?_ _)); refine blk_put (cs := #[.int .i64 ((rd_T89 l0 x10_1).f0), .int .i64 0]) ?_ 1 _ rfl; (with_reducible repeat (first | refine blk_drewN ?_ _ | refine blk_drew ?_ | refine blk_alloc ?_ _)); refine blk_put (cs := #[.int .i64 0, .int .i64 0]) ?_ 0 _ rfl; (with_reducible repeat (first | refine blk_drewN ?_ _ | refine blk_drew ?_ | refine blk_alloc ?_ _)); exact BK256.out) hb); replace HB := bB HB hb; (try clear hb); (try clear hb2); (try clear hk); (try clear hi)))
        go_ret
        exact ⟨by first | rfl | (simp [errW_none, errW_some] <;> rfl) | (simp [*, errW_none, errW_some] <;> rfl), viaB HB⟩
      ·rw [if_neg c5] at H
       exact absurd H (by simp)
     ·rw [if_neg c4] at H
      exact absurd H (by simp)
    ·rw [if_neg c3] at H
     have c3b0 := decide_eq_false c3
     clear c3
     obtain rfl := Option.some.inj H
     go_wp2
     go_ret
     exact ⟨by first | rfl | (simp [errW_none, errW_some] <;> rfl) | (simp [*, errW_none, errW_some] <;> rfl), viaB HB⟩

/-! ### impl_IsBoard: function 59 -/
def impl_IsBoard.f (k : Nat) (a0_0 : Int) (a0_1 : Int) (l0_2 : List (S89)) : Option (Bool) := if a0_0 ≥ 1 then (if a0_0 ≤ 10 then (if a0_1 ≥ 1 then (if a0_1 ≤ 9 then (if (l0_2.length : Int) = (wrap64 (a0_0 * a0_1)) then ((impl_validCells.f k l0_2).bind fun t259 => (some t259)) else (some false)) else (some false)) else (some false)) else (some false)) else (some false)
theorem impl_IsBoard.mono : ∀ a0 a1 a2 k, LeO (impl_IsBoard.f k a0 a1 a2) (impl_IsBoard.f (k + 1) a0 a1 a2) := by
 intro a0 a1 a2 k
 unfold impl_IsBoard.f
 repeat' first
   | (with_reducible exact impl_validCells.mono _ _)
   | (with_reducible exact LeO.refl _)
   | (with_reducible exact LeO.none _)
   | (with_reducible refine LeO.ite ?_ ?_)
   | (with_reducible refine LeO.bind ?_ (fun _ => ?_))
   | exact impl_validCells.mono _ _
   | exact LeO.none _
   | refine LeO.ite ?_ ?_
   | refine LeO.bind ?_ (fun _ => ?_)
set_option maxHeartbeats 8000000 in
set_option maxRecDepth 100000 in
theorem impl_IsBoard.calls (k : Nat) (a0_0 : Int) (a0_1 : Int) (A0_2 : Option Addr) (c0_2 : Nat) (l0_2 : List (S89)) (r : Bool) (w : World) (hr0_2 : Kd.C k89 w A0_2 l0_2.length l0_2) (hc0_2 : l0_2.length ≤ c0_2) (h : impl_IsBoard.f k a0_0 a0_1 l0_2 = some r) :
  Calls Try.prog 59 #[.agg #[.int .i64 a0_0, .int .i64 a0_1, .slice A0_2 l0_2.length c0_2]] w fun e w' => e = .returned (.bool r) ∧ Below w.heap.size w w' := by
 have hu32 := Try.underlying32
 have HR0_2 := Aside0.mk hr0_2
 have HC0_2 := Aside0.mk hc0_2
 clear hr0_2 hc0_2
 have HB := Aside0.mk (Below.refl w.heap.size w)
 have H : (if a0_0 ≥ 1 then (if a0_0 ≤ 10 then (if a0_1 ≥ 1 then (if a0_1 ≤ 9 then (if (l0_2.length : Int) = (wrap64 (a0_0 * a0_1)) then ((impl_validCells.f k l0_2).bind fun t259 => (some t259)) else (some false)) else (some false)) else (some false)) else (some false)) else (some false)) = some r := h
 clear h
 by_cases c2 : a0_0 ≥ 1
 ·rw [if_pos c2] at H
  have c2b0 := decide_eq_true c2
  clear c2
  by_cases c3 : a0_0 ≤ 10
  ·rw [if_pos c3] at H
   have c3b0 := decide_eq_true c3
   clear c3
   by_cases c4 : a0_1 ≥ 1
   ·rw [if_pos c4] at H
    have c4b0 := decide_eq_true c4
    clear c4
    by_cases c5 : a0_1 ≤ 9
    ·rw [if_pos c5] at H
     have c5b0 := decide_eq_true c5
     clear c5
     by_cases c6 : (l0_2.length : Int) = (wrap64 (a0_0 * a0_1))
     ·rw [if_pos c6] at H
      have c6b0 := beq_iff_eq.mpr c6
      have c6b1 := bne_eq_false_iff_eq.mpr c6
      clear c6
      replace H := Option.bind_eq_some_iff.mp H
      obtain ⟨t259, A70, H⟩ := H
      replace H : (some t259) = some r := H
      have A7 := Aside0.mk A70
      clear A70
      obtain rfl := Option.some.inj H
      go_enter Try.func59, Try.ntmps59
      go_wp2_with (first | ((with_reducible refine gate_dst (N := 1) rfl ?_); (try (refine gate_guard (by rfl) ?_; dsimp only)); refine box_ev (N := 1) (cs := #[.int .i64 a0_0, .int .i64 a0_1, .slice A0_2 l0_2.length c0_2]) (t := 32) ?_; intro gb258 hg w8 hbox hb; have BK258 := Aside0.mk (hbox); have GW258 := gW (w := w) HB hg; have GE258 := gW (w := w) HB hg; replace HB := bB HB hb; clear hb hbox hg; have hcz9_0 := bc0 BK258; have hcz9_1 := bc1 BK258; have hcz9_2 := bc2 BK258; have hfz9_0 := blk_frozen BK258.out 0; have hfz9_1 := blk_frozen BK258.out 1; have hfz9_2 := blk_frozen BK258.out 2) | (go_at_call 79; (with_reducible refine (impl_validCells.calls k _ _ l0_2 t259 _ ?side1 ?side2 A7.out).mono ?_); (case side1 => repeat (first | exact (Kd.C_below HR0_2.out HB.out) | (with_reducible refine Kd.C_alloc ?_ _) | (with_reducible refine Kd.C_drewN ?_ _) | (with_reducible refine Kd.C_drew ?_))); (case side2 => exact HC0_2.out); rintro e w10 ⟨rfl, hb⟩; replace BK258 := kB BK258 hb; replace HB := bB HB hb; (try clear hb); (try clear hb2); (try clear hk); (try clear hi)))
      go_ret
      exact ⟨by first | rfl | (simp [errW_none, errW_some] <;> rfl) | (simp [*, errW_none, errW_some] <;> rfl), viaB HB⟩
     ·rw [if_neg c6] at H
      have c6b0 := beq_eq_false_iff_ne.mpr c6
      have c6b1 := bne_iff_ne.mpr c6
      obtain rfl := Option.some.inj H
      go_enter Try.func59, Try.ntmps59
      go_wp2_with (first | ((with_reducible refine gate_dst (N := 1) rfl ?_); (try (refine gate_guard (by rfl) ?_; dsimp only)); refine box_ev (N := 1) (cs := #[.int .i64 a0_0, .int .i64 a0_1, .slice A0_2 l0_2.length c0_2]) (t := 32) ?_; intro gb258 hg w11 hbox hb; have BK258 := Aside0.mk (hbox); have GW258 := gW (w := w) HB hg; have GE258 := gW (w := w) HB hg; replace HB := bB HB hb; clear hb hbox hg; have hcz12_0 := bc0 BK258; have hcz12_1 := bc1 BK258; have hcz12_2 := bc2 BK258; have hfz12_0 := blk_frozen BK258.out 0; have hfz12_1 := blk_frozen BK258.out 1; have hfz12_2 := blk_frozen BK258.out 2))
      go_ret
      exact ⟨by first | rfl | (simp [errW_none, errW_some] <;> rfl) | (simp [*, errW_none, errW_some] <;> rfl), viaB HB⟩
    ·rw [if_neg c5] at H
     have c5b0 := decide_eq_false c5
     clear c5
     obtain rfl := Option.some.inj H
     go_enter Try.func59, Try.ntmps59
     go_wp2_with (first | ((with_reducible refine gate_dst (N := 1) rfl ?_); (try (refine gate_guard (by rfl) ?_; dsimp only)); refine box_ev (N := 1) (cs := #[.int .i64 a0_0, .int .i64 a0_1, .slice A0_2 l0_2.length c0_2]) (t := 32) ?_; intro gb258 hg w13 hbox hb; have BK258 := Aside0.mk (hbox); have GW258 := gW (w := w) HB hg; have GE258 := gW (w := w) HB hg; replace HB := bB HB hb; clear hb hbox hg; have hcz14_0 := bc0 BK258; have hcz14_1 := bc1 BK258; have hcz14_2 := bc2 BK258; have hfz14_0 := blk_frozen BK258.out 0; have hfz14_1 := blk_frozen BK258.out 1; have hfz14_2 := blk_frozen BK258.out 2))
     go_ret
     exact ⟨by first | rfl | (simp [errW_none, errW_some] <;> rfl) | (simp [*, errW_none, errW_some] <;> rfl), viaB HB⟩
   ·rw [if_neg c4] at H
    have c4b0 := decide_eq_false c4
    clear c4
    obtain rfl := Option.some.inj H
    go_enter Try.func59, Try.ntmps59
    go_wp2_with (first | ((with_reducible refine gate_dst (N := 1) rfl ?_); (try (refine gate_guard (by rfl) ?_; dsimp only)); refine box_ev (N := 1) (cs := #[.int .i64 a0_0, .int .i64 a0_1, .slice A0_2 l0_2.length c0_2]) (t := 32) ?_; intro gb258 hg w15 hbox hb; have BK258 := Aside0.mk (hbox); have GW258 := gW (w := w) HB hg; have GE258 := gW (w := w) HB hg; replace HB := bB HB hb; clear hb hbox hg; have hcz16_0 := bc0 BK258; have hcz16_1 := bc1 BK258; have hcz16_2 := bc2 BK258; have hfz16_0 := blk_frozen BK258.out 0; have hfz16_1 := blk_frozen BK258.out 1; have hfz16_2 := blk_frozen BK258.out 2))
    go_ret
    exact ⟨by first | rfl | (simp [errW_none, errW_some] <;> rfl) | (simp [*, errW_none, errW_some] <;> rfl), viaB HB⟩
  ·rw [if_neg c3] at H
   have c3b0 := decide_eq_false c3
   clear c3
   obtain rfl := Option.some.inj H
   go_enter Try.func59, Try.ntmps59
   go_wp2_with (first | ((with_reducible refine gate_dst (N := 1) rfl ?_); (try (refine gate_guard (by rfl) ?_; dsimp only)); refine box_ev (N := 1) (cs := #[.int .i64 a0_0, .int .i64 a0_1, .slice A0_2 l0_2.length c0_2]) (t := 32) ?_; intro gb258 hg w17 hbox hb; have BK258 := Aside0.mk (hbox); have GW258 := gW (w := w) HB hg; have GE258 := gW (w := w) HB hg; replace HB := bB HB hb; clear hb hbox hg; have hcz18_0 := bc0 BK258; have hcz18_1 := bc1 BK258; have hcz18_2 := bc2 BK258; have hfz18_0 := blk_frozen BK258.out 0; have hfz18_1 := blk_frozen BK258.out 1; have hfz18_2 := blk_frozen BK258.out 2))
   go_ret
   exact ⟨by first | rfl | (simp [errW_none, errW_some] <;> rfl) | (simp [*, errW_none, errW_some] <;> rfl), viaB HB⟩
 ·rw [if_neg c2] at H
  have c2b0 := decide_eq_false c2
  clear c2
  obtain rfl := Option.some.inj H
  go_enter Try.func59, Try.ntmps59
  go_wp2_with (first | ((with_reducible refine gate_dst (N := 1) rfl ?_); (try (refine gate_guard (by rfl) ?_; dsimp only)); refine box_ev (N := 1) (cs := #[.int .i64 a0_0, .int .i64 a0_1, .slice A0_2 l0_2.length c0_2]) (t := 32) ?_; intro gb258 hg w19 hbox hb; have BK258 := Aside0.mk (hbox); have GW258 := gW (w := w) HB hg; have GE258 := gW (w := w) HB hg; replace HB := bB HB hb; clear hb hbox hg; have hcz20_0 := bc0 BK258; have hcz20_1 := bc1 BK258; have hcz20_2 := bc2 BK258; have hfz20_0 := blk_frozen BK258.out 0; have hfz20_1 := blk_frozen BK258.out 1; have hfz20_2 := blk_frozen BK258.out 2))
  go_ret
  exact ⟨by first | rfl | (simp [errW_none, errW_some] <;> rfl) | (simp [*, errW_none, errW_some] <;> rfl), viaB HB⟩

/-! ### impl_validEntry: function 53 -/
def impl_validEntry.f (k : Nat) (a0_0 : Int) (a0_1 : Int) (l0_2 : List (S89)) (a1 : Int) : Option (Bool) := (impl_IsBoard.f k a0_0 a0_1 l0_2).bind fun t261 => (if t261 = true then (if a1 ≥ 0 then (some (decide (a1 < a0_1))) else (some false)) else (some false))
theorem impl_validEntry.mono : ∀ a0 a1 a2 a3 k, LeO (impl_validEntry.f k a0 a1 a2 a3) (impl_validEntry.f (k + 1) a0 a1 a2 a3) := by
 intro a0 a1 a2 a3 k
 unfold impl_validEntry.f
 repeat' first
   | (with_reducible exact impl_IsBoard.mono _ _ _ _)
   | (with_reducible exact LeO.refl _)
   | (with_reducible exact LeO.none _)
   | (with_reducible refine LeO.ite ?_ ?_)
   | (with_reducible refine LeO.bind ?_ (fun _ => ?_))
   | exact impl_IsBoard.mono _ _ _ _
   | exact LeO.none _
   | refine LeO.ite ?_ ?_
   | refine LeO.bind ?_ (fun _ => ?_)
set_option maxHeartbeats 8000000 in
set_option maxRecDepth 100000 in
theorem impl_validEntry.calls (k : Nat) (a0_0 : Int) (a0_1 : Int) (A0_2 : Option Addr) (c0_2 : Nat) (l0_2 : List (S89)) (a1 : Int) (r : Bool) (w : World) (hr0_2 : Kd.C k89 w A0_2 l0_2.length l0_2) (hc0_2 : l0_2.length ≤ c0_2) (h : impl_validEntry.f k a0_0 a0_1 l0_2 a1 = some r) :
  Calls Try.prog 53 #[.agg #[.int .i64 a0_0, .int .i64 a0_1, .slice A0_2 l0_2.length c0_2], .int .i64 a1] w fun e w' => e = .returned (.bool r) ∧ Below w.heap.size w w' := by
 have hu32 := Try.underlying32
 have HR0_2 := Aside0.mk hr0_2
 have HC0_2 := Aside0.mk hc0_2
 clear hr0_2 hc0_2
 have HB := Aside0.mk (Below.refl w.heap.size w)
 have H : ((impl_IsBoard.f k a0_0 a0_1 l0_2).bind fun t261 => (if t261 = true then (if a1 ≥ 0 then (some (decide (a1 < a0_1))) else (some false)) else (some false))) = some r := h
 clear h
 replace H := Option.bind_eq_some_iff.mp H
 obtain ⟨t261, A30, H⟩ := H
 replace H : (if t261 = true then (if a1 ≥ 0 then (some (decide (a1 < a0_1))) else (some false)) else (some false)) = some r := H
 have A3 := Aside0.mk A30
 clear A30
 by_cases c4 : t261 = true
 ·subst c4
  have H1 : (if a1 ≥ 0 then (some (decide (a1 < a0_1))) else (some false)) = some r := by rw [if_pos rfl] at H; exact H
  clear H
  have H := H1
  clear H1
  by_cases c5 : a1 ≥ 0
  ·rw [if_pos c5] at H
   have c5b0 := decide_eq_true c5
   clear c5
   obtain rfl := Option.some.inj H
   go_enter Try.func53, Try.ntmps53
   go_wp2_with (first | ((with_reducible refine gate_dst (N := 2) rfl ?_); refine box_ev (N := 2) (cs := #[.int .i64 a0_0, .int .i64 a0_1, .slice A0_2 l0_2.length c0_2]) (t := 32) ?_; intro gb260 hg w6 hbox hb; have BK260 := Aside0.mk (hbox); have GW260 := gW (w := w) HB hg; have GE260 := gW (w := w) HB hg; replace HB := bB HB hb; clear hb hbox hg; have hcz7_0 := bc0 BK260; have hcz7_1 := bc1 BK260; have hcz7_2 := bc2 BK260; have hfz7_0 := blk_frozen BK260.out 0; have hfz7_1 := blk_frozen BK260.out 1; have hfz7_2 := blk_frozen BK260.out 2) | ((with_reducible refine gate_callee (f := 59) rfl ?_); refine goesA (some 6) _ #[.agg #[.int .i64 a0_0, .int .i64 a0_1, .slice A0_2 l0_2.length c0_2]] ?_ Try.func59; (with_reducible refine (impl_IsBoard.calls k a0_0 a0_1 _ _ l0_2 true _ ?side1 ?side2 A3.out).mono ?_); (case side1 => repeat (first | exact (Kd.C_below HR0_2.out HB.out) | (with_reducible refine Kd.C_alloc ?_ _) | (with_reducible refine Kd.C_drewN ?_ _) | (with_reducible refine Kd.C_drew ?_))); (case side2 => exact HC0_2.out); rintro e w8 ⟨rfl, hb⟩; refine ⟨_, rfl, ?_⟩; replace BK260 := kB BK260 hb; replace HB := bB HB hb; (try clear hb); (try clear hb2); (try clear hk); (try clear hi); have hcz9_0 := bc0 BK260; have hcz9_1 := bc1 BK260; have hcz9_2 := bc2 BK260; have hfz9_0 := blk_frozen BK260.out 0; have hfz9_1 := blk_frozen BK260.out 1; have hfz9_2 := blk_frozen BK260.out 2))
   go_ret
   exact ⟨by first | rfl | (simp [errW_none, errW_some] <;> rfl) | (simp [*, errW_none, errW_some] <;> rfl), viaB HB⟩
  ·rw [if_neg c5] at H
   have c5b0 := decide_eq_false c5
   clear c5
   obtain rfl := Option.some.inj H
   go_enter Try.func53, Try.ntmps53
   go_wp2_with (first | ((with_reducible refine gate_dst (N := 2) rfl ?_); refine box_ev (N := 2) (cs := #[.int .i64 a0_0, .int .i64 a0_1, .slice A0_2 l0_2.length c0_2]) (t := 32) ?_; intro gb260 hg w10 hbox hb; have BK260 := Aside0.mk (hbox); have GW260 := gW (w := w) HB hg; have GE260 := gW (w := w) HB hg; replace HB := bB HB hb; clear hb hbox hg; have hcz11_0 := bc0 BK260; have hcz11_1 := bc1 BK260; have hcz11_2 := bc2 BK260; have hfz11_0 := blk_frozen BK260.out 0; have hfz11_1 := blk_frozen BK260.out 1; have hfz11_2 := blk_frozen BK260.out 2) | ((with_reducible refine gate_callee (f := 59) rfl ?_); refine goesA (some 6) _ #[.agg #[.int .i64 a0_0, .int .i64 a0_1, .slice A0_2 l0_2.length c0_2]] ?_ Try.func59; (with_reducible refine (impl_IsBoard.calls k a0_0 a0_1 _ _ l0_2 true _ ?side1 ?side2 A3.out).mono ?_); (case side1 => repeat (first | exact (Kd.C_below HR0_2.out HB.out) | (with_reducible refine Kd.C_alloc ?_ _) | (with_reducible refine Kd.C_drewN ?_ _) | (with_reducible refine Kd.C_drew ?_))); (case side2 => exact HC0_2.out); rintro e w12 ⟨rfl, hb⟩; refine ⟨_, rfl, ?_⟩; replace BK260 := kB BK260 hb; replace HB := bB HB hb; (try clear hb); (try clear hb2); (try clear hk); (try clear hi)))
   go_ret
   exact ⟨by first | rfl | (simp [errW_none, errW_some] <;> rfl) | (simp [*, errW_none, errW_some] <;> rfl), viaB HB⟩
 ·replace c4 := Bool.eq_false_iff.mpr c4
  subst c4
  have H1 : (some false) = some r := by rw [if_neg (show ¬ (false = true) by decide)] at H; exact H
  clear H
  have H := H1
  clear H1
  obtain rfl := Option.some.inj H
  go_enter Try.func53, Try.ntmps53
  go_wp2_with (first | ((with_reducible refine gate_dst (N := 2) rfl ?_); refine box_ev (N := 2) (cs := #[.int .i64 a0_0, .int .i64 a0_1, .slice A0_2 l0_2.length c0_2]) (t := 32) ?_; intro gb260 hg w13 hbox hb; have BK260 := Aside0.mk (hbox); have GW260 := gW (w := w) HB hg; have GE260 := gW (w := w) HB hg; replace HB := bB HB hb; clear hb hbox hg; have hcz14_0 := bc0 BK260; have hcz14_1 := bc1 BK260; have hcz14_2 := bc2 BK260; have hfz14_0 := blk_frozen BK260.out 0; have hfz14_1 := blk_frozen BK260.out 1; have hfz14_2 := blk_frozen BK260.out 2) | ((with_reducible refine gate_callee (f := 59) rfl ?_); refine goesA (some 6) _ #[.agg #[.int .i64 a0_0, .int .i64 a0_1, .slice A0_2 l0_2.length c0_2]] ?_ Try.func59; (with_reducible refine (impl_IsBoard.calls k a0_0 a0_1 _ _ l0_2 false _ ?side1 ?side2 A3.out).mono ?_); (case side1 => repeat (first | exact (Kd.C_below HR0_2.out HB.out) | (with_reducible refine Kd.C_alloc ?_ _) | (with_reducible refine Kd.C_drewN ?_ _) | (with_reducible refine Kd.C_drew ?_))); (case side2 => exact HC0_2.out); rintro e w15 ⟨rfl, hb⟩; refine ⟨_, rfl, ?_⟩; replace BK260 := kB BK260 hb; replace HB := bB HB hb; (try clear hb); (try clear hb2); (try clear hk); (try clear hi)))
  go_ret
  exact ⟨by first | rfl | (simp [errW_none, errW_some] <;> rfl) | (simp [*, errW_none, errW_some] <;> rfl), viaB HB⟩

end Go.Proofs.Ytoklfgjemfojgaa.PFnExactFallOf
