/- This text began as one that print.sh wrote for this seat (of the functions named below); it is this session's own: turned where Lean did not take the printed proof, where it was too long for a claim, or only in what it imports. -/
import Derived.Test.YtoklfgjemfojgaaG0
import Derived.Test.YtoklfgjemfojgaaG3
import Derived.Test.YtoklfgjemfojgaaG21
import Derived.Test.YtoklfgjemfojgaaG23
import Derived.Test.YtoklfgjemfojgaaG24
import Derived.Test.YtoklfgjemfojgaaG25
import Derived.Test.YtoklfgjemfojgaaG26
namespace Go.Proofs.Ytoklfgjemfojgaa.PAll
open Go.RowKit Go.Proofs.YtoklfgjemfojgaaW.PrintWords Go.Proofs.YtoklfgjemfojgaaW.PrintLast Go.Proofs.YtoklfgjemfojgaaW.PrintMore
attribute [local go_sem] max2_int min2_int max_two min_two max_three min_three max_four min_four   -- for this text's walks alone
set_option linter.unusedVariables false
set_option linter.unusedSimpArgs false

/-! ### laws_FnExactColumnsTo: function 6 -/
mutual
def laws_FnExactColumnsTo.j0 : Nat → Int → List Int → Bool → List Int → Bool → Bool → Int → Int → List (S91) → Int → Int → List (S89) → Option (Bool)
 | 0, _, _, _, _, _, _, _, _, _, _, _, _ => none
 | k + 1, x1, x6, x7, x9, x10, x44, x472000, x472001, x472002, x488000, x488001, x488002 => if x44 = true then (some false) else ((laws_toBoard.f k x472000 x472001 x472002).bind fun bt493 => ((laws_eqBoard.f k x488000 x488001 x488002 bt493.1 bt493.2.1 bt493.2.2).bind fun t498 => (if t498 = true then ((laws_markBoard.f k x488000 x488001 x488002 1).bind fun bt499 => (if bt499.1 < 0 then (laws_FnExactColumnsTo.j1 k x1 x6 x7 x9 true x472000 x472001 x472002) else ((laws_eqIntS.f k x9 x6).bind fun t501 => (if t501 = true then (laws_FnExactColumnsTo.j1 k x1 x6 x7 x9 (x10 != x7) x472000 x472001 x472002) else (laws_FnExactColumnsTo.j1 k x1 x6 x7 x9 true x472000 x472001 x472002))))) else (some false))))
def laws_FnExactColumnsTo.j1 : Nat → Int → List Int → Bool → List Int → Bool → Int → Int → List (S91) → Option (Bool)
 | 0, _, _, _, _, _, _, _, _ => none
 | k + 1, x1, x6, x7, x9, x65, x472000, x472001, x472002 => if x65 = true then (some false) else ((laws_markIntS.f k x9 1).bind fun bt502 => ((laws_heldIntS.f k bt502.2 1).bind fun t504 => (if t504 < 0 then (some false) else (if t504 = bt502.1 then ((laws_toBoard.f k x472000 x472001 x472002).bind fun bt505 => ((impl_ColumnsTo.f k bt505.1 bt505.2.1 bt505.2.2 x1).bind fun bt510 => ((laws_eqIntS.f k bt510.1 x6).bind fun t514 => (if t514 = true then (laws_FnExactColumnsTo.j2 k bt502.2 bt502.1 (bt510.2 != x7)) else (laws_FnExactColumnsTo.j2 k bt502.2 bt502.1 true))))) else (some false)))))
def laws_FnExactColumnsTo.j2 : Nat → List Int → Int → Bool → Option (Bool)
 | 0, _, _, _ => none
 | k + 1, x9, x12, x92 => if x92 = true then (some false) else ((laws_heldIntS.f k x9 1).bind fun t515 => (if t515 < 0 then (some false) else (if t515 = x12 then (some true) else (some false))))
end
def laws_FnExactColumnsTo.f (k : Nat) (a0_0 : Int) (a0_1 : Int) (l0_2 : List (S91)) (a1 : Int) : Option (Bool) := (laws_szBoard.f a0_0 a0_1 l0_2 1048576).bind fun t472 => (if t472 < 0 then (some true) else ((laws_toBoard.f k a0_0 a0_1 l0_2).bind fun bt473 => ((spec_ColumnsTo.f k bt473.1 bt473.2.1 bt473.2.2 a1).bind fun bt478 => ((laws_toBoard.f k a0_0 a0_1 l0_2).bind fun bt482 => ((impl_ColumnsTo.f k bt482.1 bt482.2.1 bt482.2.2 a1).bind fun bt488 => ((laws_eqIntS.f k bt488.1 bt478.1).bind fun t492 => (if t492 = true then (laws_FnExactColumnsTo.j0 k a1 bt478.1 bt478.2 bt488.1 bt488.2 (bt488.2 != bt478.2) a0_0 a0_1 l0_2 bt482.1 bt482.2.1 bt482.2.2) else (laws_FnExactColumnsTo.j0 k a1 bt478.1 bt478.2 bt488.1 bt488.2 true a0_0 a0_1 l0_2 bt482.1 bt482.2.1 bt482.2.2))))))))
theorem laws_FnExactColumnsTo.mono_l : ∀ k, (∀ y0 y1 y2 y3 y4 y5 y6 y7 y8 y9 y10 y11, LeO (laws_FnExactColumnsTo.j0 k y0 y1 y2 y3 y4 y5 y6 y7 y8 y9 y10 y11) (laws_FnExactColumnsTo.j0 (k + 1) y0 y1 y2 y3 y4 y5 y6 y7 y8 y9 y10 y11)) ∧ (∀ y0 y1 y2 y3 y4 y5 y6 y7, LeO (laws_FnExactColumnsTo.j1 k y0 y1 y2 y3 y4 y5 y6 y7) (laws_FnExactColumnsTo.j1 (k + 1) y0 y1 y2 y3 y4 y5 y6 y7)) ∧ (∀ y0 y1 y2, LeO (laws_FnExactColumnsTo.j2 k y0 y1 y2) (laws_FnExactColumnsTo.j2 (k + 1) y0 y1 y2))
 | 0 => ⟨fun _ _ _ _ _ _ _ _ _ _ _ _ r h => by simp [laws_FnExactColumnsTo.j0] at h, fun _ _ _ _ _ _ _ _ r h => by simp [laws_FnExactColumnsTo.j1] at h, fun _ _ _ r h => by simp [laws_FnExactColumnsTo.j2] at h⟩
 | k + 1 => by
  obtain ⟨ih0, ih1, ih2⟩ := laws_FnExactColumnsTo.mono_l k
  refine ⟨?_, ?_, ?_⟩
  ·intro y0 y1 y2 y3 y4 y5 y6 y7 y8 y9 y10 y11
   unfold laws_FnExactColumnsTo.j0
   repeat' first | (with_reducible first | exact ih0 _ _ _ _ _ _ _ _ _ _ _ _ | exact ih1 _ _ _ _ _ _ _ _ | exact ih2 _ _ _ | exact impl_ColumnsTo.mono _ _ _ _ _ | exact laws_eqBoard.mono _ _ _ _ _ _ _ | exact laws_eqIntS.mono _ _ _ | exact laws_heldIntS.mono _ _ _ | exact laws_markBoard.mono _ _ _ _ _ | exact laws_markIntS.mono _ _ _ | exact laws_toBoard.mono _ _ _ _ | exact spec_ColumnsTo.mono _ _ _ _ _ | exact LeO.refl _ | exact LeO.none _ | refine LeO.ite ?_ ?_ | refine LeO.bind ?_ (fun _ => ?_)) | exact ih0 _ _ _ _ _ _ _ _ _ _ _ _ | exact ih1 _ _ _ _ _ _ _ _ | exact ih2 _ _ _ | exact impl_ColumnsTo.mono _ _ _ _ _ | exact laws_eqBoard.mono _ _ _ _ _ _ _ | exact laws_eqIntS.mono _ _ _ | exact laws_heldIntS.mono _ _ _ | exact laws_markBoard.mono _ _ _ _ _ | exact laws_markIntS.mono _ _ _ | exact laws_toBoard.mono _ _ _ _ | exact spec_ColumnsTo.mono _ _ _ _ _ | exact LeO.none _ | refine LeO.ite ?_ ?_ | refine LeO.bind ?_ (fun _ => ?_)
  ·intro y0 y1 y2 y3 y4 y5 y6 y7
   unfold laws_FnExactColumnsTo.j1
   repeat' first | (with_reducible first | exact ih0 _ _ _ _ _ _ _ _ _ _ _ _ | exact ih1 _ _ _ _ _ _ _ _ | exact ih2 _ _ _ | exact impl_ColumnsTo.mono _ _ _ _ _ | exact laws_eqBoard.mono _ _ _ _ _ _ _ | exact laws_eqIntS.mono _ _ _ | exact laws_heldIntS.mono _ _ _ | exact laws_markBoard.mono _ _ _ _ _ | exact laws_markIntS.mono _ _ _ | exact laws_toBoard.mono _ _ _ _ | exact spec_ColumnsTo.mono _ _ _ _ _ | exact LeO.refl _ | exact LeO.none _ | refine LeO.ite ?_ ?_ | refine LeO.bind ?_ (fun _ => ?_)) | exact ih0 _ _ _ _ _ _ _ _ _ _ _ _ | exact ih1 _ _ _ _ _ _ _ _ | exact ih2 _ _ _ | exact impl_ColumnsTo.mono _ _ _ _ _ | exact laws_eqBoard.mono _ _ _ _ _ _ _ | exact laws_eqIntS.mono _ _ _ | exact laws_heldIntS.mono _ _ _ | exact laws_markBoard.mono _ _ _ _ _ | exact laws_markIntS.mono _ _ _ | exact laws_toBoard.mono _ _ _ _ | exact spec_ColumnsTo.mono _ _ _ _ _ | exact LeO.none _ | refine LeO.ite ?_ ?_ | refine LeO.bind ?_ (fun _ => ?_)
  ·intro y0 y1 y2
   unfold laws_FnExactColumnsTo.j2
   repeat' first | (with_reducible first | exact ih0 _ _ _ _ _ _ _ _ _ _ _ _ | exact ih1 _ _ _ _ _ _ _ _ | exact ih2 _ _ _ | exact impl_ColumnsTo.mono _ _ _ _ _ | exact laws_eqBoard.mono _ _ _ _ _ _ _ | exact laws_eqIntS.mono _ _ _ | exact laws_heldIntS.mono _ _ _ | exact laws_markBoard.mono _ _ _ _ _ | exact laws_markIntS.mono _ _ _ | exact laws_toBoard.mono _ _ _ _ | exact spec_ColumnsTo.mono _ _ _ _ _ | exact LeO.refl _ | exact LeO.none _ | refine LeO.ite ?_ ?_ | refine LeO.bind ?_ (fun _ => ?_)) | exact ih0 _ _ _ _ _ _ _ _ _ _ _ _ | exact ih1 _ _ _ _ _ _ _ _ | exact ih2 _ _ _ | exact impl_ColumnsTo.mono _ _ _ _ _ | exact laws_eqBoard.mono _ _ _ _ _ _ _ | exact laws_eqIntS.mono _ _ _ | exact laws_heldIntS.mono _ _ _ | exact laws_markBoard.mono _ _ _ _ _ | exact laws_markIntS.mono _ _ _ | exact laws_toBoard.mono _ _ _ _ | exact spec_ColumnsTo.mono _ _ _ _ _ | exact LeO.none _ | refine LeO.ite ?_ ?_ | refine LeO.bind ?_ (fun _ => ?_)
theorem laws_FnExactColumnsTo.mono : ∀ a0 a1 a2 a3 k, LeO (laws_FnExactColumnsTo.f k a0 a1 a2 a3) (laws_FnExactColumnsTo.f (k + 1) a0 a1 a2 a3) := by
 intro a0 a1 a2 a3 k
 obtain ⟨ih0, ih1, ih2⟩ := laws_FnExactColumnsTo.mono_l k
 unfold laws_FnExactColumnsTo.f
 repeat' first | (with_reducible first | exact ih0 _ _ _ _ _ _ _ _ _ _ _ _ | exact ih1 _ _ _ _ _ _ _ _ | exact ih2 _ _ _ | exact impl_ColumnsTo.mono _ _ _ _ _ | exact laws_eqBoard.mono _ _ _ _ _ _ _ | exact laws_eqIntS.mono _ _ _ | exact laws_heldIntS.mono _ _ _ | exact laws_markBoard.mono _ _ _ _ _ | exact laws_markIntS.mono _ _ _ | exact laws_toBoard.mono _ _ _ _ | exact spec_ColumnsTo.mono _ _ _ _ _ | exact LeO.refl _ | exact LeO.none _ | refine LeO.ite ?_ ?_ | refine LeO.bind ?_ (fun _ => ?_)) | exact ih0 _ _ _ _ _ _ _ _ _ _ _ _ | exact ih1 _ _ _ _ _ _ _ _ | exact ih2 _ _ _ | exact impl_ColumnsTo.mono _ _ _ _ _ | exact laws_eqBoard.mono _ _ _ _ _ _ _ | exact laws_eqIntS.mono _ _ _ | exact laws_heldIntS.mono _ _ _ | exact laws_markBoard.mono _ _ _ _ _ | exact laws_markIntS.mono _ _ _ | exact laws_toBoard.mono _ _ _ _ | exact spec_ColumnsTo.mono _ _ _ _ _ | exact LeO.none _ | refine LeO.ite ?_ ?_ | refine LeO.bind ?_ (fun _ => ?_)
theorem laws_FnExactColumnsTo.bad_j0 (k : Nat) (y0 : Int) (y1 : List Int) (y2 : Bool) (y3 : List Int) (y4 : Bool) (y6 : Int) (y7 : Int) (y8 : List (S91)) (y9 : Int) (y10 : Int) (y11 : List (S89)) : ¬ laws_FnExactColumnsTo.j0 k y0 y1 y2 y3 y4 true y6 y7 y8 y9 y10 y11 = some true := by
 cases k <;> simp [laws_FnExactColumnsTo.j0]
theorem laws_FnExactColumnsTo.bad_j1 (k : Nat) (y0 : Int) (y1 : List Int) (y2 : Bool) (y3 : List Int) (y5 : Int) (y6 : Int) (y7 : List (S91)) : ¬ laws_FnExactColumnsTo.j1 k y0 y1 y2 y3 true y5 y6 y7 = some true := by
 cases k <;> simp [laws_FnExactColumnsTo.j1]
theorem laws_FnExactColumnsTo.bad_j2 (k : Nat) (y0 : List Int) (y1 : Int) : ¬ laws_FnExactColumnsTo.j2 k y0 y1 true = some true := by
 cases k <;> simp [laws_FnExactColumnsTo.j2]
set_option maxHeartbeats 8000000 in
set_option maxRecDepth 100000 in
theorem laws_FnExactColumnsTo.calls (k : Nat) (a0_0 : Int) (a0_1 : Int) (A0_2 : Option Addr) (c0_2 : Nat) (l0_2 : List (S91)) (a1 : Int) (w : World) (hr0_2 : Kd.C k91 w A0_2 l0_2.length l0_2) (hc0_2 : l0_2.length ≤ c0_2) (h : laws_FnExactColumnsTo.f k a0_0 a0_1 l0_2 a1 = some true) :
  Calls Try.prog 6 #[.agg #[.int .i64 a0_0, .int .i64 a0_1, .slice A0_2 l0_2.length c0_2], .int .i64 a1] w fun e w' => e = .returned (.bool true) ∧ Below w.heap.size w w' := by
 have hu24 := Try.underlying24
 have hu32 := Try.underlying32
 have HR0_2 := Aside0.mk hr0_2
 have HC0_2 := Aside0.mk hc0_2
 clear hr0_2 hc0_2
 have HB := Aside0.mk (Below.refl w.heap.size w)
 have H : ((laws_szBoard.f a0_0 a0_1 l0_2 1048576).bind fun t472 => (if t472 < 0 then (some true) else ((laws_toBoard.f k a0_0 a0_1 l0_2).bind fun bt473 => ((spec_ColumnsTo.f k bt473.1 bt473.2.1 bt473.2.2 a1).bind fun bt478 => ((laws_toBoard.f k a0_0 a0_1 l0_2).bind fun bt482 => ((impl_ColumnsTo.f k bt482.1 bt482.2.1 bt482.2.2 a1).bind fun bt488 => ((laws_eqIntS.f k bt488.1 bt478.1).bind fun t492 => (if t492 = true then (laws_FnExactColumnsTo.j0 k a1 bt478.1 bt478.2 bt488.1 bt488.2 (bt488.2 != bt478.2) a0_0 a0_1 l0_2 bt482.1 bt482.2.1 bt482.2.2) else (laws_FnExactColumnsTo.j0 k a1 bt478.1 bt478.2 bt488.1 bt488.2 true a0_0 a0_1 l0_2 bt482.1 bt482.2.1 bt482.2.2))))))))) = some true := h
 clear h
 replace H := Option.bind_eq_some_iff.mp H
 obtain ⟨t472, A30, H⟩ := H
 replace H : (if t472 < 0 then (some true) else ((laws_toBoard.f k a0_0 a0_1 l0_2).bind fun bt473 => ((spec_ColumnsTo.f k bt473.1 bt473.2.1 bt473.2.2 a1).bind fun bt478 => ((laws_toBoard.f k a0_0 a0_1 l0_2).bind fun bt482 => ((impl_ColumnsTo.f k bt482.1 bt482.2.1 bt482.2.2 a1).bind fun bt488 => ((laws_eqIntS.f k bt488.1 bt478.1).bind fun t492 => (if t492 = true then (laws_FnExactColumnsTo.j0 k a1 bt478.1 bt478.2 bt488.1 bt488.2 (bt488.2 != bt478.2) a0_0 a0_1 l0_2 bt482.1 bt482.2.1 bt482.2.2) else (laws_FnExactColumnsTo.j0 k a1 bt478.1 bt478.2 bt488.1 bt488.2 true a0_0 a0_1 l0_2 bt482.1 bt482.2.1 bt482.2.2)))))))) = some true := H
 have A3 := Aside0.mk A30
 clear A30
 by_cases c4 : t472 < 0
 ·rw [if_pos c4] at H
  have c4b0 := decide_eq_true c4
  clear c4
  clear H
  go_enter Try.func6, Try.ntmps6
  go_wp2_with (first | ((with_reducible refine gate_dst (N := 2) rfl ?_); refine box_ev (N := 2) (cs := #[.int .i64 a0_0, .int .i64 a0_1, .slice A0_2 l0_2.length c0_2]) (t := 24) ?_; intro gb471 hg w5 hbox hb; have BK471 := Aside0.mk (hbox); have GW471 := gW (w := w) HB hg; have GE471 := gW (w := w) HB hg; replace HB := bB HB hb; clear hb hbox hg; have hcz6_0 := bc0 BK471; have hcz6_1 := bc1 BK471; have hcz6_2 := bc2 BK471; have hfz6_0 := blk_frozen BK471.out 0; have hfz6_1 := blk_frozen BK471.out 1; have hfz6_2 := blk_frozen BK471.out 2) | ((with_reducible refine gate_callee (f := 13) rfl ?_); refine goesA (some 18) _ #[.agg #[.int .i64 a0_0, .int .i64 a0_1, .slice A0_2 l0_2.length c0_2], .int .i64 1048576] ?_ Try.func13; (with_reducible refine (laws_szBoard.calls a0_0 a0_1 _ _ l0_2 1048576 t472 _ ?side1 ?side2 A3.out).mono ?_); (case side1 => repeat (first | exact (Kd.C_below HR0_2.out HB.out) | (with_reducible refine Kd.C_alloc ?_ _) | (with_reducible refine Kd.C_drewN ?_ _) | (with_reducible refine Kd.C_drew ?_))); (case side2 => exact HC0_2.out); rintro e w7 ⟨rfl, hb⟩; refine ⟨_, rfl, ?_⟩; replace BK471 := kB BK471 hb; replace HB := bB HB hb; (try clear hb); (try clear hb2); (try clear hk); (try clear hi)))
  go_ret
  exact ⟨by first | rfl | (simp [errW_none, errW_some] <;> rfl) | (simp [*, errW_none, errW_some] <;> rfl), viaB HB⟩
 ·rw [if_neg c4] at H
  have c4b0 := decide_eq_false c4
  clear c4
  replace H := Option.bind_eq_some_iff.mp H
  obtain ⟨⟨t473, t474, t475⟩, A80, H⟩ := H
  replace H : ((spec_ColumnsTo.f k t473 t474 t475 a1).bind fun bt478 => ((laws_toBoard.f k a0_0 a0_1 l0_2).bind fun bt482 => ((impl_ColumnsTo.f k bt482.1 bt482.2.1 bt482.2.2 a1).bind fun bt488 => ((laws_eqIntS.f k bt488.1 bt478.1).bind fun t492 => (if t492 = true then (laws_FnExactColumnsTo.j0 k a1 bt478.1 bt478.2 bt488.1 bt488.2 (bt488.2 != bt478.2) a0_0 a0_1 l0_2 bt482.1 bt482.2.1 bt482.2.2) else (laws_FnExactColumnsTo.j0 k a1 bt478.1 bt478.2 bt488.1 bt488.2 true a0_0 a0_1 l0_2 bt482.1 bt482.2.1 bt482.2.2)))))) = some true := H
  have A8 := Aside0.mk A80
  clear A80
  replace H := Option.bind_eq_some_iff.mp H
  obtain ⟨⟨t478, t481⟩, A90, H⟩ := H
  replace H : ((laws_toBoard.f k a0_0 a0_1 l0_2).bind fun bt482 => ((impl_ColumnsTo.f k bt482.1 bt482.2.1 bt482.2.2 a1).bind fun bt488 => ((laws_eqIntS.f k bt488.1 t478).bind fun t492 => (if t492 = true then (laws_FnExactColumnsTo.j0 k a1 t478 t481 bt488.1 bt488.2 (bt488.2 != t481) a0_0 a0_1 l0_2 bt482.1 bt482.2.1 bt482.2.2) else (laws_FnExactColumnsTo.j0 k a1 t478 t481 bt488.1 bt488.2 true a0_0 a0_1 l0_2 bt482.1 bt482.2.1 bt482.2.2))))) = some true := H
  have A9 := Aside0.mk A90
  clear A90
  replace H := Option.bind_eq_some_iff.mp H
  obtain ⟨⟨t482, t483, t484⟩, A100, H⟩ := H
  replace H : ((impl_ColumnsTo.f k t482 t483 t484 a1).bind fun bt488 => ((laws_eqIntS.f k bt488.1 t478).bind fun t492 => (if t492 = true then (laws_FnExactColumnsTo.j0 k a1 t478 t481 bt488.1 bt488.2 (bt488.2 != t481) a0_0 a0_1 l0_2 t482 t483 t484) else (laws_FnExactColumnsTo.j0 k a1 t478 t481 bt488.1 bt488.2 true a0_0 a0_1 l0_2 t482 t483 t484)))) = some true := H
  have A10 := Aside0.mk A100
  clear A100
  replace H := Option.bind_eq_some_iff.mp H
  obtain ⟨⟨t488, t491⟩, A110, H⟩ := H
  replace H : ((laws_eqIntS.f k t488 t478).bind fun t492 => (if t492 = true then (laws_FnExactColumnsTo.j0 k a1 t478 t481 t488 t491 (t491 != t481) a0_0 a0_1 l0_2 t482 t483 t484) else (laws_FnExactColumnsTo.j0 k a1 t478 t481 t488 t491 true a0_0 a0_1 l0_2 t482 t483 t484))) = some true := H
  have A11 := Aside0.mk A110
  clear A110
  have HC12 := Aside0.mk H
  clear H
  go_enter Try.func6, Try.ntmps6
  go_upto_region 8 with (first | ((with_reducible refine gate_dst (N := 2) rfl ?_); refine box_ev (N := 2) (cs := #[.int .i64 a0_0, .int .i64 a0_1, .slice A0_2 l0_2.length c0_2]) (t := 24) ?_; intro gb471 hg w13 hbox hb; have BK471 := Aside0.mk (hbox); have GW471 := gW (w := w) HB hg; have GE471 := gW (w := w) HB hg; replace HB := bB HB hb; clear hb hbox hg; have hcz14_0 := bc0 BK471; have hcz14_1 := bc1 BK471; have hcz14_2 := bc2 BK471; have hfz14_0 := blk_frozen BK471.out 0; have hfz14_1 := blk_frozen BK471.out 1; have hfz14_2 := blk_frozen BK471.out 2) | ((with_reducible refine gate_callee (f := 13) rfl ?_); refine goesA (some 18) _ #[.agg #[.int .i64 a0_0, .int .i64 a0_1, .slice A0_2 l0_2.length c0_2], .int .i64 1048576] ?_ Try.func13; (with_reducible refine (laws_szBoard.calls a0_0 a0_1 _ _ l0_2 1048576 t472 _ ?side1 ?side2 A3.out).mono ?_); (case side1 => repeat (first | exact (Kd.C_below HR0_2.out HB.out) | (with_reducible refine Kd.C_alloc ?_ _) | (with_reducible refine Kd.C_drewN ?_ _) | (with_reducible refine Kd.C_drew ?_))); (case side2 => exact HC0_2.out); rintro e w15 ⟨rfl, hb⟩; refine ⟨_, rfl, ?_⟩; replace BK471 := kB BK471 hb; replace HB := bB HB hb; (try clear hb); (try clear hb2); (try clear hk); (try clear hi); have hcz16_0 := bc0 BK471; have hcz16_1 := bc1 BK471; have hcz16_2 := bc2 BK471; have hfz16_0 := blk_frozen BK471.out 0; have hfz16_1 := blk_frozen BK471.out 1; have hfz16_2 := blk_frozen BK471.out 2) | ((with_reducible refine gate_callee (f := 15) rfl ?_); refine goesA (some 23) _ #[.agg #[.int .i64 a0_0, .int .i64 a0_1, .slice A0_2 l0_2.length c0_2]] ?_ Try.func15; (with_reducible refine (laws_toBoard.calls k a0_0 a0_1 _ _ l0_2 t473 t474 t475 _ ?side1 ?side2 A8.out).mono ?_); (case side1 => repeat (first | exact (Kd.C_below HR0_2.out HB.out) | (with_reducible refine Kd.C_alloc ?_ _) | (with_reducible refine Kd.C_drewN ?_ _) | (with_reducible refine Kd.C_drew ?_))); (case side2 => exact HC0_2.out); rintro e w17 ⟨v476, rfl, ho0, hb⟩; refine ⟨_, rfl, ?_⟩; have HO477 := Aside0.mk (Kd.R_lower ho0 (below_size (viaB HB))); replace BK471 := kB BK471 hb; replace HB := bB HB hb; (try clear hb); (try clear hb2); (try clear hk); (try clear hi); (try clear ho0); obtain ⟨Ao18, co18, eo18⟩ := Kd.R_slice HO477.out; subst eo18) | ((with_reducible refine gate_callee (f := 25) rfl ?_); refine goesA (some 25) _ #[.agg #[.int .i64 t473, .int .i64 t474, .slice Ao18 t475.length co18], .int .i64 a1] ?_ Try.func25; (with_reducible refine (spec_ColumnsTo.calls k t473 t474 _ _ t475 a1 t478 t481 _ ?side1 ?side2 A9.out).mono ?_); (case side1 => repeat (first | exact (Kd.R_reads' HO477.out).2.2 | (with_reducible refine Kd.C_alloc ?_ _) | (with_reducible refine Kd.C_drewN ?_ _) | (with_reducible refine Kd.C_drew ?_))); (case side2 => exact (Kd.R_reads' HO477.out).2.1); rintro e w19 ⟨v479, rfl, ho0, hb⟩; refine ⟨_, rfl, ?_⟩; have HO480 := Aside0.mk (Kd.R_lower ho0 (below_size (viaB HB))); replace HO477 := Aside0.mk (Kd.R_below (viaR HO477) hb); replace BK471 := kB BK471 hb; replace HB := bB HB hb; (try clear hb); (try clear hb2); (try clear hk); (try clear hi); (try clear ho0); have hcz20_0 := bc0 BK471; have hcz20_1 := bc1 BK471; have hcz20_2 := bc2 BK471; have hfz20_0 := blk_frozen BK471.out 0; have hfz20_1 := blk_frozen BK471.out 1; have hfz20_2 := blk_frozen BK471.out 2) | ((with_reducible refine gate_callee (f := 15) rfl ?_); refine goesA (some 29) _ #[.agg #[.int .i64 a0_0, .int .i64 a0_1, .slice A0_2 l0_2.length c0_2]] ?_ Try.func15; (with_reducible refine (laws_toBoard.calls k a0_0 a0_1 _ _ l0_2 t482 t483 t484 _ ?side1 ?side2 A10.out).mono ?_); (case side1 => repeat (first | exact (Kd.C_below HR0_2.out HB.out) | (with_reducible refine Kd.C_alloc ?_ _) | (with_reducible refine Kd.C_drewN ?_ _) | (with_reducible refine Kd.C_drew ?_))); (case side2 => exact HC0_2.out); rintro e w21 ⟨v485, rfl, ho0, hb⟩; refine ⟨_, rfl, ?_⟩; have HO486 := Aside0.mk (Kd.R_lower (Kd.R_new' ho0 (Kd.R_lt (viaR HO477))) (below_size (viaB HB))); replace HO477 := Aside0.mk (Kd.R_elder' (viaR HO477) (Kd.R_base ho0) hb); replace HO480 := Aside0.mk (Kd.R_below (viaR HO480) hb); replace BK471 := kB BK471 hb; replace HB := bB HB hb; (try clear hb); (try clear hb2); (try clear hk); (try clear hi); (try clear ho0)) | ((with_reducible refine gate_dst (N := 8) rfl ?_); refine box_ev (N := 8) (cs := #[.int .i64 0, .int .i64 0, .slice none 0 0]) (t := 32) ?_; intro gb487 hg w22 hbox hb; have BK487 := Aside0.mk (hbox); have GW487 := gW (w := w) HB hg; have GE487 := gW (w := w) HB hg; have NB471_487 := neL BK471 hg; have NB487_471 := neG BK471 hg; replace HO477 := Aside0.mk (Kd.R_below (viaR HO477) hb); replace HO480 := Aside0.mk (Kd.R_below (viaR HO480) hb); replace HO486 := Aside0.mk (Kd.R_below (viaR HO486) hb); replace BK471 := kB BK471 hb; replace HB := bB HB hb; clear hb hbox hg; have hnb23 := NB487_471.out; have hnc23 := NB471_487.out; have hcz24_0 := bc0 BK487; have hcz24_1 := bc1 BK487; have hcz24_2 := bc2 BK487; have hfz24_0 := blk_frozen BK487.out 0; have hfz24_1 := blk_frozen BK487.out 1; have hfz24_2 := blk_frozen BK487.out 2; obtain ⟨Ao25, co25, eo25⟩ := Kd.R_slice HO486.out; subst eo25) | ((with_reducible refine gate_callee (f := 26) rfl ?_); refine goesA (some 33) _ #[.agg #[.int .i64 t482, .int .i64 t483, .slice Ao25 t484.length co25], .int .i64 a1] ?_ Try.func26; (with_reducible refine (impl_ColumnsTo.calls k t482 t483 _ _ t484 a1 t488 t491 _ ?side1 ?side2 A11.out).mono ?_); (case side1 => refine (Kd.R_reads' (e := 89) (base := w.heap.size) (ok := fun k_ => (True ∧ some k_ ≠ (.slice Ao18 t475.length co18 : Value).ownBlock)) (n := t484.length) (c := co25) ?_).2.2; exact (by (with_reducible repeat (first | apply Kd.R_alloc | apply Kd.R_drewN | apply Kd.R_drew)); exact (Kd.R_mono (Kd.R_far (p := ⟨gb487, 2, none⟩) (Kd.R_far (p := ⟨gb487, 1, none⟩) (Kd.R_far (p := ⟨gb487, 0, none⟩) (Kd.R_types HO486.out BK487.out (by decide)) (fun _ hk => hk.2) (.int .i64 t482)) (fun _ hk => hk.2) (.int .i64 t483)) (fun _ hk => hk.2) (.slice Ao25 t484.length co25)) (fun _ h_ => h_.1)))); (case side2 => exact (Kd.R_reads' HO486.out).2.1); rintro e w26 ⟨v489, rfl, ho0, hb⟩; refine ⟨_, rfl, ?_⟩; have HO490 := Aside0.mk (Kd.R_lower (Kd.R_new' ho0 (Kd.R_lt (by (with_reducible repeat (first | apply Kd.R_alloc | apply Kd.R_drewN | apply Kd.R_drew)); exact (Kd.R_mono (Kd.R_far (p := ⟨gb487, 2, none⟩) (Kd.R_far (p := ⟨gb487, 1, none⟩) (Kd.R_far (p := ⟨gb487, 0, none⟩) (Kd.R_types HO480.out BK487.out (by decide)) (fun _ hk => hk.2) (.int .i64 t482)) (fun _ hk => hk.2) (.int .i64 t483)) (fun _ hk => hk.2) (.slice Ao25 t484.length co25)) (fun _ h_ => h_.1))))) (below_size (viaB HB))); replace HO477 := Aside0.mk (Kd.R_below (by (with_reducible repeat (first | apply Kd.R_alloc | apply Kd.R_drewN | apply Kd.R_drew)); exact (Kd.R_mono (Kd.R_far (p := ⟨gb487, 2, none⟩) (Kd.R_far (p := ⟨gb487, 1, none⟩) (Kd.R_far (p := ⟨gb487, 0, none⟩) (Kd.R_types HO477.out BK487.out (by decide)) (fun _ hk => hk.2) (.int .i64 t482)) (fun _ hk => hk.2) (.int .i64 t483)) (fun _ hk => hk.2) (.slice Ao25 t484.length co25)) (fun _ h_ => h_.1))) hb); replace HO480 := Aside0.mk (Kd.R_elder' (by (with_reducible repeat (first | apply Kd.R_alloc | apply Kd.R_drewN | apply Kd.R_drew)); exact (Kd.R_mono (Kd.R_far (p := ⟨gb487, 2, none⟩) (Kd.R_far (p := ⟨gb487, 1, none⟩) (Kd.R_far (p := ⟨gb487, 0, none⟩) (Kd.R_types HO480.out BK487.out (by decide)) (fun _ hk => hk.2) (.int .i64 t482)) (fun _ hk => hk.2) (.int .i64 t483)) (fun _ hk => hk.2) (.slice Ao25 t484.length co25)) (fun _ h_ => h_.1))) (Kd.R_base ho0) hb); replace HO486 := Aside0.mk (Kd.R_below (by (with_reducible repeat (first | apply Kd.R_alloc | apply Kd.R_drewN | apply Kd.R_drew)); exact (Kd.R_mono (Kd.R_far (p := ⟨gb487, 2, none⟩) (Kd.R_far (p := ⟨gb487, 1, none⟩) (Kd.R_far (p := ⟨gb487, 0, none⟩) (Kd.R_types HO486.out BK487.out (by decide)) (fun _ hk => hk.2) (.int .i64 t482)) (fun _ hk => hk.2) (.int .i64 t483)) (fun _ hk => hk.2) (.slice Ao25 t484.length co25)) (fun _ h_ => h_.1))) hb); replace BK471 := Aside0.mk (blk_below (g := gb471) (o := .cells #[.int .i64 a0_0, .int .i64 a0_1, .slice A0_2 l0_2.length c0_2] 24 (0, 0)) (by (with_reducible repeat (first | refine blk_drewN ?_ _ | refine blk_drew ?_ | refine blk_alloc ?_ _)); refine blk_far ?_ NB471_487.out _; (with_reducible repeat (first | refine blk_drewN ?_ _ | refine blk_drew ?_ | refine blk_alloc ?_ _)); refine blk_far ?_ NB471_487.out _; (with_reducible repeat (first | refine blk_drewN ?_ _ | refine blk_drew ?_ | refine blk_alloc ?_ _)); refine blk_far ?_ NB471_487.out _; (with_reducible repeat (first | refine blk_drewN ?_ _ | refine blk_drew ?_ | refine blk_alloc ?_ _)); exact BK471.out) hb); replace BK487 := Aside0.mk (blk_below (g := gb487) (o := .cells #[.int .i64 t482, .int .i64 t483, .slice Ao25 t484.length co25] 32 (0, 0)) (by (with_reducible repeat (first | refine blk_drewN ?_ _ | refine blk_drew ?_ | refine blk_alloc ?_ _)); refine blk_put (cs := #[.int .i64 t482, .int .i64 t483, .slice none 0 0]) ?_ 2 _ rfl; (with_reducible repeat (first | refine blk_drewN ?_ _ | refine blk_drew ?_ | refine blk_alloc ?_ _)); refine blk_put (cs := #[.int .i64 t482, .int .i64 0, .slice none 0 0]) ?_ 1 _ rfl; (with_reducible repeat (first | refine blk_drewN ?_ _ | refine blk_drew ?_ | refine blk_alloc ?_ _)); refine blk_put (cs := #[.int .i64 0, .int .i64 0, .slice none 0 0]) ?_ 0 _ rfl; (with_reducible repeat (first | refine blk_drewN ?_ _ | refine blk_drew ?_ | refine blk_alloc ?_ _)); exact BK487.out) hb); replace HB := bB HB hb; (try clear hb); (try clear hb2); (try clear hk); (try clear hi); (try clear ho0)))
  (try simp only [Act.put, q1, q2, q3])
  go_cut [44] (fun v44 wc => ∃ (kq : Nat) (x44_11 : Bool), v44 = .bool x44_11 ∧ Aside0 (laws_FnExactColumnsTo.j0 kq a1 t478 t481 t488 t491 x44_11 a0_0 a0_1 l0_2 t482 t483 t484 = some true) ∧ Aside0 (kq ≤ k) ∧ Aside0 (Kd.R (Kd.int .i64) 3 wc w.heap.size (fun k_ => some k_ ≠ (v489 : Value).ownBlock) v479 t478) ∧ Aside0 (Kd.R (Kd.int .i64) 3 wc w.heap.size (fun k_ => some k_ ≠ (v479 : Value).ownBlock) v489 t488) ∧ Aside0 (Kd.R k89 89 wc w.heap.size (fun _ => True) (.slice Ao25 t484.length co25) t484) ∧ Aside0 (wc.heap[gb471]? = some (.cells #[.int .i64 a0_0, .int .i64 a0_1, (.slice A0_2 l0_2.length c0_2)] 24 (0, 0))) ∧ Aside0 (wc.heap[gb487]? = some (.cells #[.int .i64 t482, .int .i64 t483, (.slice Ao25 t484.length co25)] 32 (0, 0))) ∧ Aside0 (Below w.heap.size w wc))
  case first =>
   have H := HC12.out
   clear HC12
   replace H := Option.bind_eq_some_iff.mp H
   obtain ⟨t492, A270, H⟩ := H
   replace H : (if t492 = true then (laws_FnExactColumnsTo.j0 k a1 t478 t481 t488 t491 (t491 != t481) a0_0 a0_1 l0_2 t482 t483 t484) else (laws_FnExactColumnsTo.j0 k a1 t478 t481 t488 t491 true a0_0 a0_1 l0_2 t482 t483 t484)) = some true := H
   have A27 := Aside0.mk A270
   clear A270
   by_cases c28 : t492 = true
   ·subst c28
    have H1 : (laws_FnExactColumnsTo.j0 k a1 t478 t481 t488 t491 (t491 != t481) a0_0 a0_1 l0_2 t482 t483 t484) = some true := by rw [if_pos rfl] at H; exact H
    clear H
    have H := H1
    clear H1
    have H' := Aside0.mk H
    clear H
    obtain ⟨Ao29, co29, eo29⟩ := Kd.R_slice HO490.out
    subst eo29
    obtain ⟨Ao30, co30, eo30⟩ := Kd.R_slice HO480.out
    subst eo30
    go_wp2_with (first | ((with_reducible refine gate_callee (f := 27) rfl ?_); refine goesA (some 38) _ #[.slice Ao29 t488.length co29, .slice Ao30 t478.length co30] ?_ Try.func27; (with_reducible refine (laws_eqIntS.calls k _ _ t488 _ _ t478 true _ ?side1 ?side2 ?side3 ?side4 A27.out).mono ?_); (case side1 => repeat (first | exact (Kd.R_reads' HO490.out).2.2 | (with_reducible refine Kd.C_alloc ?_ _) | (with_reducible refine Kd.C_drewN ?_ _) | (with_reducible refine Kd.C_drew ?_))); (case side2 => exact (Kd.R_reads' HO490.out).2.1); (case side3 => repeat (first | exact (Kd.R_reads' HO480.out).2.2 | (with_reducible refine Kd.C_alloc ?_ _) | (with_reducible refine Kd.C_drewN ?_ _) | (with_reducible refine Kd.C_drew ?_))); (case side4 => exact (Kd.R_reads' HO480.out).2.1); rintro e w' ⟨rfl, ⟨nd, rfl⟩⟩; refine ⟨_, rfl, ?_⟩))
    go_meet
    case rel => exact ⟨_, ((t491 != t481)), (by first | rfl | (simp; done) | (simp [*]; done)), H', ⟨by first | omega | exact Nat.le_refl _⟩, ⟨by (with_reducible repeat (first | apply Kd.R_alloc | apply Kd.R_drewN | apply Kd.R_drew)); exact Kd.R_mono HO480.out (fun _ hk => hk.2)⟩, ⟨by (with_reducible repeat (first | apply Kd.R_alloc | apply Kd.R_drewN | apply Kd.R_drew)); exact Kd.R_mono HO490.out (fun _ hk => hk.2)⟩, ⟨by (with_reducible repeat (first | apply Kd.R_alloc | apply Kd.R_drewN | apply Kd.R_drew)); exact Kd.R_mono HO486.out (fun _ hk => trivial)⟩, ⟨viaK BK471⟩, ⟨viaK BK487⟩, ⟨viaB HB⟩⟩
   ·(rw [if_neg c28] at H; exact absurd H (laws_FnExactColumnsTo.bad_j0 _ _ _ _ _ _ _ _ _ _ _ _))
  case rest =>
   clear HC12
   (try clear c4b0)
   (try clear hcz14_0); (try clear hcz14_1); (try clear hcz14_2); (try clear hcz16_0); (try clear hcz16_1); (try clear hcz16_2); (try clear hcz20_0); (try clear hcz20_1)
   (try clear hcz20_2); (try clear hcz24_0); (try clear hcz24_1); (try clear hcz24_2); (try clear hfz14_0); (try clear hfz14_1); (try clear hfz14_2); (try clear hfz16_0)
   (try clear hfz16_1); (try clear hfz16_2); (try clear hfz20_0); (try clear hfz20_1); (try clear hfz20_2); (try clear hfz24_0); (try clear hfz24_1); (try clear hfz24_2)
   obtain ⟨kq, x44_11, rfl, HA, HJ11, HO_6, HO_9, HO_488002, BK471, BK487, HB⟩ := hcut
   cases kq with
   | zero => exact absurd HA.out (by simp [laws_FnExactColumnsTo.j0])
   | succ kj11 =>
    have H := HA.out
    clear HA
    simp only [laws_FnExactColumnsTo.j0] at H
    by_cases c33 : x44_11 = true
    ·(rw [if_pos c33] at H; exact absurd H (by decide))
    ·replace c33 := Bool.eq_false_iff.mpr c33
     subst c33
     have H1 : ((laws_toBoard.f kj11 a0_0 a0_1 l0_2).bind fun bt493 => ((laws_eqBoard.f kj11 t482 t483 t484 bt493.1 bt493.2.1 bt493.2.2).bind fun t498 => (if t498 = true then ((laws_markBoard.f kj11 t482 t483 t484 1).bind fun bt499 => (if bt499.1 < 0 then (laws_FnExactColumnsTo.j1 kj11 a1 t478 t481 t488 true a0_0 a0_1 l0_2) else ((laws_eqIntS.f kj11 t488 t478).bind fun t501 => (if t501 = true then (laws_FnExactColumnsTo.j1 kj11 a1 t478 t481 t488 (t491 != t481) a0_0 a0_1 l0_2) else (laws_FnExactColumnsTo.j1 kj11 a1 t478 t481 t488 true a0_0 a0_1 l0_2))))) else (some false)))) = some true := by rw [if_neg (show ¬ (false = true) by decide)] at H; exact H
     clear H
     have H := H1
     clear H1
     replace H := Option.bind_eq_some_iff.mp H
     obtain ⟨⟨t493, t494, t495⟩, A340, H⟩ := H
     replace H : ((laws_eqBoard.f kj11 t482 t483 t484 t493 t494 t495).bind fun t498 => (if t498 = true then ((laws_markBoard.f kj11 t482 t483 t484 1).bind fun bt499 => (if bt499.1 < 0 then (laws_FnExactColumnsTo.j1 kj11 a1 t478 t481 t488 true a0_0 a0_1 l0_2) else ((laws_eqIntS.f kj11 t488 t478).bind fun t501 => (if t501 = true then (laws_FnExactColumnsTo.j1 kj11 a1 t478 t481 t488 (t491 != t481) a0_0 a0_1 l0_2) else (laws_FnExactColumnsTo.j1 kj11 a1 t478 t481 t488 true a0_0 a0_1 l0_2))))) else (some false))) = some true := H
     have A34 := Aside0.mk A340
     clear A340
     replace H := Option.bind_eq_some_iff.mp H
     obtain ⟨t498, A350, H⟩ := H
     replace H : (if t498 = true then ((laws_markBoard.f kj11 t482 t483 t484 1).bind fun bt499 => (if bt499.1 < 0 then (laws_FnExactColumnsTo.j1 kj11 a1 t478 t481 t488 true a0_0 a0_1 l0_2) else ((laws_eqIntS.f kj11 t488 t478).bind fun t501 => (if t501 = true then (laws_FnExactColumnsTo.j1 kj11 a1 t478 t481 t488 (t491 != t481) a0_0 a0_1 l0_2) else (laws_FnExactColumnsTo.j1 kj11 a1 t478 t481 t488 true a0_0 a0_1 l0_2))))) else (some false)) = some true := H
     have A35 := Aside0.mk A350
     clear A350
     by_cases c36 : t498 = true
     ·subst c36
      have H1 : ((laws_markBoard.f kj11 t482 t483 t484 1).bind fun bt499 => (if bt499.1 < 0 then (laws_FnExactColumnsTo.j1 kj11 a1 t478 t481 t488 true a0_0 a0_1 l0_2) else ((laws_eqIntS.f kj11 t488 t478).bind fun t501 => (if t501 = true then (laws_FnExactColumnsTo.j1 kj11 a1 t478 t481 t488 (t491 != t481) a0_0 a0_1 l0_2) else (laws_FnExactColumnsTo.j1 kj11 a1 t478 t481 t488 true a0_0 a0_1 l0_2))))) = some true := by rw [if_pos rfl] at H; exact H
      clear H
      have H := H1
      clear H1
      replace H := Option.bind_eq_some_iff.mp H
      obtain ⟨⟨t499, t500⟩, A370, H⟩ := H
      replace H : (if t499 < 0 then (laws_FnExactColumnsTo.j1 kj11 a1 t478 t481 t488 true a0_0 a0_1 l0_2) else ((laws_eqIntS.f kj11 t488 t478).bind fun t501 => (if t501 = true then (laws_FnExactColumnsTo.j1 kj11 a1 t478 t481 t488 (t491 != t481) a0_0 a0_1 l0_2) else (laws_FnExactColumnsTo.j1 kj11 a1 t478 t481 t488 true a0_0 a0_1 l0_2)))) = some true := H
      have A37 := Aside0.mk A370
      clear A370
      have HC38 := Aside0.mk H
      clear H
      try go_wp2
      replace HO_6 := Aside0.mk (Kd.R_drew HO_6.out)
      replace HO_9 := Aside0.mk (Kd.R_drew HO_9.out)
      replace HO_488002 := Aside0.mk (Kd.R_drew HO_488002.out)
      replace BK471 := Aside0.mk (blk_drew BK471.out)
      replace BK487 := Aside0.mk (blk_drew BK487.out)
      replace HB := Aside0.mk (below_drew1 HB.out)
      refine start_ (n := 5) (S := fun w' => w'.cell? ⟨gb487, 0, none⟩ = some (.int .i64 t482) ∧ w'.cell? ⟨gb487, 1, none⟩ = some (.int .i64 t483) ∧ w'.cell? ⟨gb487, 2, none⟩ = some (.slice Ao25 t484.length co25) ∧ w'.cell? ⟨gb471, 0, none⟩ = some (.int .i64 a0_0) ∧ w'.cell? ⟨gb471, 1, none⟩ = some (.int .i64 a0_1) ∧ w'.cell? ⟨gb471, 2, none⟩ = some (.slice A0_2 l0_2.length c0_2)) (ds := []) #[false, false, false, false, false] (by kernel_rfl) rfl rfl ⟨(blk_cell BK487.out 0).trans rfl, (blk_cell BK487.out 1).trans rfl, (blk_cell BK487.out 2).trans rfl, (blk_cell BK471.out 0).trans rfl, (blk_cell BK471.out 1).trans rfl, (blk_cell BK471.out 2).trans rfl⟩ (fun hHeld => ?_)
      generalize wc.drew = w39 at HO_6 HO_9 HO_488002 BK471 BK487 HB hHeld ⊢
      refine take_ (i := 0) (N := some 45) (v := ?_) (a' := ?_) #[true, false, false, false, false] rfl rfl (by kernel_rfl) (fun _ _ _ h => h) (Or.inl ⟨by rfl, ?_⟩) hHeld ?_ ?_
      rotate_left
      ·rintro w' ⟨s0, s1, s2, s3, s4, s5⟩
       go_simp
       with_reducible rfl
      rotate_left
      ·simp only [Act.put, q1, q2, q3, i64_w, i32_w]
       rfl
      refine take_ (i := 1) (N := some 46) (v := ?_) (a' := ?_) #[true, true, false, false, false] rfl rfl (by kernel_rfl) (fun _ _ _ h => h) (Or.inl ⟨by rfl, ?_⟩) hHeld ?_ ?_
      rotate_left
      ·rintro w' ⟨s0, s1, s2, s3, s4, s5⟩
       go_simp
       with_reducible rfl
      rotate_left
      ·simp only [Act.put, q1, q2, q3, i64_w, i32_w]
       rfl
      refine one_ (i := 2) (N := some 47) #[true, true, true, false, false] rfl rfl (by kernel_rfl) (by decide) (fun K hK => ?_)
      refine goes_ Try.func15 (by kernel_rfl) rfl #[.agg #[.int .i64 a0_0, .int .i64 a0_1, .slice A0_2 l0_2.length c0_2]] (by rfl) rfl rfl (by (try simp only [List.map_toArray, List.map_cons, List.map_nil]); first | done | rfl | (simp only [List.length_drop, List.length_take]; rfl)) ?_
      with_reducible refine (laws_toBoard.calls kj11 a0_0 a0_1 _ _ l0_2 t493 t494 t495 _ ?side1 ?side2 A34.out).mono ?_
      (case side1 => repeat (first | exact (Kd.C_below HR0_2.out HB.out) | (with_reducible refine Kd.C_alloc ?_ _) | (with_reducible refine Kd.C_drewN ?_ _) | (with_reducible refine Kd.C_drew ?_)))
      (case side2 => exact HC0_2.out)
      rintro e w40 ⟨v496, rfl, ho0, hb⟩
      refine ⟨_, rfl, ?_⟩
      have HO497 := Aside0.mk (Kd.R_lower (Kd.R_new' ho0 (Kd.R_lt (viaR HO_488002))) (below_size (viaB HB)))
      replace HO_6 := Aside0.mk (Kd.R_below (viaR HO_6) hb)
      replace HO_9 := Aside0.mk (Kd.R_below (viaR HO_9) hb)
      replace HO_488002 := Aside0.mk (Kd.R_elder' (viaR HO_488002) (Kd.R_base ho0) hb)
      replace BK471 := kB BK471 hb
      replace BK487 := kB BK487 hb
      replace HB := bB HB hb
      (try clear hb); (try clear ho0)
      obtain ⟨Ao41, co41, eo41⟩ := Kd.R_slice HO497.out
      (first | subst eo41 | (injection eo41 with f1_ f2_ f3_; have f4_ := f1_.symm; have f5_ := f3_.symm; clear f1_ f2_ f3_; subst f4_; subst f5_))
      refine hK.out _ _ ⟨(blk_cell BK487.out 0).trans rfl, (blk_cell BK487.out 1).trans rfl, (blk_cell BK487.out 2).trans rfl, (blk_cell BK471.out 0).trans rfl, (blk_cell BK471.out 1).trans rfl, (blk_cell BK471.out 2).trans rfl⟩ (fun hHeld => ?_)
      clear hK K
      refine norm_ (a' := ?_) ?_ ?_
      rotate_left
      ·show Act.put _ (some 47) _ = _
       simp only [Act.put, q1, q2, q3, i64_w, i32_w]
       rfl
      refine one_ (i := 3) (N := some 48) #[true, true, true, true, false] rfl rfl (by kernel_rfl) (by decide) (fun K hK => ?_)
      refine goes_ Try.func18 (by kernel_rfl) rfl #[.agg #[.int .i64 t482, .int .i64 t483, .slice Ao25 t484.length co25], .agg #[.int .i64 t493, .int .i64 t494, .slice Ao41 t495.length co41]] (by rfl) rfl rfl (by (try simp only [List.map_toArray, List.map_cons, List.map_nil]); first | done | rfl | (simp only [List.length_drop, List.length_take]; rfl)) ?_
      with_reducible refine (laws_eqBoard.calls kj11 t482 t483 _ _ t484 t493 t494 _ _ t495 true _ ?side1 ?side2 ?side3 ?side4 A35.out).mono ?_
      (case side1 => repeat (first | exact (Kd.R_reads' HO_488002.out).2.2 | (with_reducible refine Kd.C_alloc ?_ _) | (with_reducible refine Kd.C_drewN ?_ _) | (with_reducible refine Kd.C_drew ?_)))
      (case side2 => exact (Kd.R_reads' HO_488002.out).2.1)
      (case side3 => repeat (first | exact (Kd.R_reads' HO497.out).2.2 | (with_reducible refine Kd.C_alloc ?_ _) | (with_reducible refine Kd.C_drewN ?_ _) | (with_reducible refine Kd.C_drew ?_)))
      (case side4 => exact (Kd.R_reads' HO497.out).2.1)
      rintro e w42 ⟨rfl, hb⟩
      refine ⟨_, rfl, ?_⟩
      replace HO_6 := Aside0.mk (Kd.R_below (viaR HO_6) hb)
      replace HO_9 := Aside0.mk (Kd.R_below (viaR HO_9) hb)
      replace HO_488002 := Aside0.mk (Kd.R_below (viaR HO_488002) hb)
      replace HO497 := Aside0.mk (Kd.R_below (viaR HO497) hb)
      replace BK471 := kB BK471 hb
      replace BK487 := kB BK487 hb
      replace HB := bB HB hb
      (try clear hb)
      refine hK.out _ _ ⟨(blk_cell BK487.out 0).trans rfl, (blk_cell BK487.out 1).trans rfl, (blk_cell BK487.out 2).trans rfl, (blk_cell BK471.out 0).trans rfl, (blk_cell BK471.out 1).trans rfl, (blk_cell BK471.out 2).trans rfl⟩ (fun hHeld => ?_)
      clear hK K
      refine norm_ (a' := ?_) ?_ ?_
      rotate_left
      ·show Act.put _ (some 48) _ = _
       simp only [Act.put, q1, q2, q3, i64_w, i32_w]
       rfl
      refine pure_ (i := 4) (N := some 49) (v := ?_) (a' := ?_) #[true, true, true, true, true] rfl rfl (by kernel_rfl) (fun _ _ _ h => h) (Or.inl ⟨by rfl, ?_⟩) ?_ ?_
      rotate_left
      ·intro w'
       go_simp
       with_reducible rfl
      rotate_left
      ·simp only [Act.put, q1, q2, q3, i64_w, i32_w]
       rfl
      refine done_ (by kernel_rfl) ?_
      have hnb43 := NB487_471.out
      have hnc43 := NB471_487.out
      have hcz44_0 := bc0 BK487
      have hcz44_1 := bc1 BK487
      have hcz44_2 := bc2 BK487
      have hfz44_0 := blk_frozen BK487.out 0
      have hfz44_1 := blk_frozen BK487.out 1
      have hfz44_2 := blk_frozen BK487.out 2
      go_upto_region 14 with (first | ((with_reducible refine gate_callee (f := 23) rfl ?_); refine goesA (some 52) _ #[.agg #[.int .i64 t482, .int .i64 t483, .slice Ao25 t484.length co25], .int .i64 1] ?_ Try.func23; (with_reducible refine (laws_markBoard.calls kj11 t482 t483 (fun k_ => some k_ = (.slice Ao25 t484.length co25 : Value).ownBlock) (.slice Ao25 t484.length co25) t484 1 t499 t500 w _ ?side1 ?side2 A37.out).mono ?_); (case side1 => repeat (first | (with_reducible first | exact HB.out | apply below_alloc | apply pw_below_drewN | apply below_drew1 | refine below_set ?_ GE471.out | refine below_set ?_ GE487.out) | exact HB.out)); (case side2 => exact Kd.R_tight rfl HO_488002.out); rintro e w45 ⟨rfl, hy0, hb, hkp⟩; refine ⟨_, rfl, ?_⟩; replace HO_6 := Aside0.mk (Kd.R_mono (ok' := fun k_ => some k_ ≠ (v489 : Value).ownBlock) (Kd.R_keptB ((Kd.R_apart' HO_6.out (Kd.R_typed HO_488002.out) (by decide))) hkp (fun k_ hk_ hs_ => (hk_.2) hs_)) (fun k_ hk_ => hk_.1.1)); replace HO_9 := Aside0.mk (Kd.R_mono (ok' := fun k_ => some k_ ≠ (v479 : Value).ownBlock) (Kd.R_keptB ((Kd.R_apart' HO_9.out (Kd.R_typed HO_488002.out) (by decide))) hkp (fun k_ hk_ hs_ => (hk_.2) hs_)) (fun k_ hk_ => hk_.1.1)); replace BK471 := Aside0.mk (blk_kept (viaK BK471) hkp (fun hs_ => (fun e_ => (Kd.R_ne HO_488002.out BK471.out (by decide)) e_) hs_)); replace BK487 := Aside0.mk (blk_kept (viaK BK487) hkp (fun hs_ => (fun e_ => (Kd.R_ne HO_488002.out BK487.out (by decide)) e_) hs_)); replace HO_488002 := Aside0.mk (Kd.R_reok rfl hy0 (fun k_ e_ => HO_488002.out.1 k_ e_)); replace HO497 := Aside0.mk (Kd.R_mono (ok' := fun k_ => some k_ ≠ (.slice Ao25 t484.length co25 : Value).ownBlock) (Kd.R_keptB (HO497.out) hkp (fun k_ hk_ hs_ => (hk_.2) hs_)) (fun k_ hk_ => hk_.1.2)); replace HB := Aside0.mk (hb); (try clear hb); (try clear hkp); (try clear hy0)))
      (try simp only [Act.put, q1, q2, q3])
      go_cut [65] (fun v65 wc => ∃ (kq : Nat) (x65_37 : Bool), v65 = .bool x65_37 ∧ Aside0 (laws_FnExactColumnsTo.j1 kq a1 t478 t481 t488 x65_37 a0_0 a0_1 l0_2 = some true) ∧ Aside0 (kq ≤ kj11) ∧ Aside0 (Kd.R (Kd.int .i64) 3 wc w.heap.size (fun k_ => some k_ ≠ (v489 : Value).ownBlock) v479 t478) ∧ Aside0 (Kd.R (Kd.int .i64) 3 wc w.heap.size (fun k_ => some k_ ≠ (v479 : Value).ownBlock) v489 t488) ∧ Aside0 (Kd.R k89 89 wc w.heap.size (fun _ => True) (.slice Ao25 t484.length co25) t500) ∧ Aside0 (wc.heap[gb471]? = some (.cells #[.int .i64 a0_0, .int .i64 a0_1, (.slice A0_2 l0_2.length c0_2)] 24 (0, 0))) ∧ Aside0 (wc.heap[gb487]? = some (.cells #[.int .i64 t482, .int .i64 t483, (.slice Ao25 t484.length co25)] 32 (0, 0))) ∧ Aside0 (Below w.heap.size w wc))
      case first =>
       have H := HC38.out
       clear HC38
       by_cases c46 : t499 < 0
       ·rw [if_pos c46] at H
        have c46b0 := decide_eq_true c46
        clear c46
        (first | rw [c46b0] | (simp only [i64_w, i32_w]; rw [c46b0]) | skip)
        have H' := Aside0.mk H
        clear H
        go_wp2
        go_meet
        case rel => exact ⟨_, (true), (by first | rfl | (simp; done) | (simp [*]; done)), H', ⟨by have := HJ11.out; first | omega | exact Nat.le_refl _⟩, ⟨viaR HO_6⟩, ⟨viaR HO_9⟩, ⟨by (with_reducible repeat (first | apply Kd.R_alloc | apply Kd.R_drewN | apply Kd.R_drew)); exact Kd.R_mono HO_488002.out (fun _ hk => trivial)⟩, ⟨viaK BK471⟩, ⟨viaK BK487⟩, ⟨viaB HB⟩⟩
       ·rw [if_neg c46] at H
        have c46b0 := decide_eq_false c46
        clear c46
        (first | rw [c46b0] | (simp only [i64_w, i32_w]; rw [c46b0]) | skip)
        replace H := Option.bind_eq_some_iff.mp H
        obtain ⟨t501, A470, H⟩ := H
        replace H : (if t501 = true then (laws_FnExactColumnsTo.j1 kj11 a1 t478 t481 t488 (t491 != t481) a0_0 a0_1 l0_2) else (laws_FnExactColumnsTo.j1 kj11 a1 t478 t481 t488 true a0_0 a0_1 l0_2)) = some true := H
        have A47 := Aside0.mk A470
        clear A470
        by_cases c48 : t501 = true
        ·subst c48
         have H1 : (laws_FnExactColumnsTo.j1 kj11 a1 t478 t481 t488 (t491 != t481) a0_0 a0_1 l0_2) = some true := by rw [if_pos rfl] at H; exact H
         clear H
         have H := H1
         clear H1
         have H' := Aside0.mk H
         clear H
         obtain ⟨Ao49, co49, eo49⟩ := Kd.R_slice HO_9.out
         subst eo49
         obtain ⟨Ao50, co50, eo50⟩ := Kd.R_slice HO_6.out
         subst eo50
         go_wp2_with (first | (go_at_call 27; (with_reducible refine (laws_eqIntS.calls kj11 _ _ t488 _ _ t478 true _ ?side1 ?side2 ?side3 ?side4 A47.out).mono ?_); (case side1 => repeat (first | exact (Kd.R_reads' HO_9.out).2.2 | (with_reducible refine Kd.C_alloc ?_ _) | (with_reducible refine Kd.C_drewN ?_ _) | (with_reducible refine Kd.C_drew ?_))); (case side2 => exact (Kd.R_reads' HO_9.out).2.1); (case side3 => repeat (first | exact (Kd.R_reads' HO_6.out).2.2 | (with_reducible refine Kd.C_alloc ?_ _) | (with_reducible refine Kd.C_drewN ?_ _) | (with_reducible refine Kd.C_drew ?_))); (case side4 => exact (Kd.R_reads' HO_6.out).2.1); rintro e w' ⟨rfl, ⟨nd, rfl⟩⟩))
         go_meet
         case rel => exact ⟨_, ((t491 != t481)), (by first | rfl | (simp; done) | (simp [*]; done)), H', ⟨by have := HJ11.out; first | omega | exact Nat.le_refl _⟩, ⟨viaR HO_6⟩, ⟨viaR HO_9⟩, ⟨by (with_reducible repeat (first | apply Kd.R_alloc | apply Kd.R_drewN | apply Kd.R_drew)); exact Kd.R_mono HO_488002.out (fun _ hk => trivial)⟩, ⟨viaK BK471⟩, ⟨viaK BK487⟩, ⟨viaB HB⟩⟩
        ·(rw [if_neg c48] at H; exact absurd H (laws_FnExactColumnsTo.bad_j1 _ _ _ _ _ _ _ _))
      case rest =>
       clear HC38
       (try clear c33); (try clear c36)
       (try clear hcz44_0); (try clear hcz44_1); (try clear hcz44_2); (try clear hfz44_0); (try clear hfz44_1); (try clear hfz44_2)
       obtain ⟨kq, x65_37, rfl, HA, HJ37, HO_6, HO_9, HO_488002, BK471, BK487, HB⟩ := hcut
       have hl488002_37 := (Kd.R_reads' HO_488002.out).1
       rw [hl488002_37] at HO_488002
       (try simp only [hl488002_37])
       (try simp only [hl488002_37] at BK471)
       (try simp only [hl488002_37] at BK487)
       (try simp only [hl488002_37] at HO_6)
       (try simp only [hl488002_37] at HO_9)
       cases kq with
       | zero => exact absurd HA.out (by simp [laws_FnExactColumnsTo.j1])
       | succ kj37 =>
        have H := HA.out
        clear HA
        simp only [laws_FnExactColumnsTo.j1] at H
        by_cases c53 : x65_37 = true
        ·(rw [if_pos c53] at H; exact absurd H (by decide))
        ·replace c53 := Bool.eq_false_iff.mpr c53
         subst c53
         have H1 : ((laws_markIntS.f kj37 t488 1).bind fun bt502 => ((laws_heldIntS.f kj37 bt502.2 1).bind fun t504 => (if t504 < 0 then (some false) else (if t504 = bt502.1 then ((laws_toBoard.f kj37 a0_0 a0_1 l0_2).bind fun bt505 => ((impl_ColumnsTo.f kj37 bt505.1 bt505.2.1 bt505.2.2 a1).bind fun bt510 => ((laws_eqIntS.f kj37 bt510.1 t478).bind fun t514 => (if t514 = true then (laws_FnExactColumnsTo.j2 kj37 bt502.2 bt502.1 (bt510.2 != t481)) else (laws_FnExactColumnsTo.j2 kj37 bt502.2 bt502.1 true))))) else (some false))))) = some true := by rw [if_neg (show ¬ (false = true) by decide)] at H; exact H
         clear H
         have H := H1
         clear H1
         replace H := Option.bind_eq_some_iff.mp H
         obtain ⟨⟨t502, t503⟩, A540, H⟩ := H
         replace H : ((laws_heldIntS.f kj37 t503 1).bind fun t504 => (if t504 < 0 then (some false) else (if t504 = t502 then ((laws_toBoard.f kj37 a0_0 a0_1 l0_2).bind fun bt505 => ((impl_ColumnsTo.f kj37 bt505.1 bt505.2.1 bt505.2.2 a1).bind fun bt510 => ((laws_eqIntS.f kj37 bt510.1 t478).bind fun t514 => (if t514 = true then (laws_FnExactColumnsTo.j2 kj37 t503 t502 (bt510.2 != t481)) else (laws_FnExactColumnsTo.j2 kj37 t503 t502 true))))) else (some false)))) = some true := H
         have A54 := Aside0.mk A540
         clear A540
         replace H := Option.bind_eq_some_iff.mp H
         obtain ⟨t504, A550, H⟩ := H
         replace H : (if t504 < 0 then (some false) else (if t504 = t502 then ((laws_toBoard.f kj37 a0_0 a0_1 l0_2).bind fun bt505 => ((impl_ColumnsTo.f kj37 bt505.1 bt505.2.1 bt505.2.2 a1).bind fun bt510 => ((laws_eqIntS.f kj37 bt510.1 t478).bind fun t514 => (if t514 = true then (laws_FnExactColumnsTo.j2 kj37 t503 t502 (bt510.2 != t481)) else (laws_FnExactColumnsTo.j2 kj37 t503 t502 true))))) else (some false))) = some true := H
         have A55 := Aside0.mk A550
         clear A550
         by_cases c56 : t504 < 0
         ·(rw [if_pos c56] at H; exact absurd H (by decide))
         ·rw [if_neg c56] at H
          have c56b0 := decide_eq_false c56
          (try simp only [hl488002_37] at c56b0)
          clear c56
          by_cases c59 : t504 = t502
          ·rw [if_pos c59] at H
           have c59b0 := beq_iff_eq.mpr c59
           have c59b1 := bne_eq_false_iff_eq.mpr c59
           clear c59
           replace H := Option.bind_eq_some_iff.mp H
           obtain ⟨⟨t505, t506, t507⟩, A600, H⟩ := H
           replace H : ((impl_ColumnsTo.f kj37 t505 t506 t507 a1).bind fun bt510 => ((laws_eqIntS.f kj37 bt510.1 t478).bind fun t514 => (if t514 = true then (laws_FnExactColumnsTo.j2 kj37 t503 t502 (bt510.2 != t481)) else (laws_FnExactColumnsTo.j2 kj37 t503 t502 true)))) = some true := H
           have A60 := Aside0.mk A600
           clear A600
           replace H := Option.bind_eq_some_iff.mp H
           obtain ⟨⟨t510, t513⟩, A610, H⟩ := H
           replace H : ((laws_eqIntS.f kj37 t510 t478).bind fun t514 => (if t514 = true then (laws_FnExactColumnsTo.j2 kj37 t503 t502 (t513 != t481)) else (laws_FnExactColumnsTo.j2 kj37 t503 t502 true))) = some true := H
           have A61 := Aside0.mk A610
           clear A610
           have HC62 := Aside0.mk H
           clear H
           obtain ⟨Ao63, co63, eo63⟩ := Kd.R_slice HO_9.out
           subst eo63
           go_upto_region 25 with (first | ((with_reducible refine gate_callee (f := 28) rfl ?_); refine goesA (some 68) _ #[.slice Ao63 t488.length co63, .int .i64 1] ?_ Try.func28; (with_reducible refine (laws_markIntS.calls kj37 (fun k_ => some k_ = (.slice Ao63 t488.length co63 : Value).ownBlock) (.slice Ao63 t488.length co63) t488 1 t502 t503 w _ ?side1 ?side2 A54.out).mono ?_); (case side1 => repeat (first | (with_reducible first | exact HB.out | apply below_alloc | apply pw_below_drewN | apply below_drew1 | refine below_set ?_ GE471.out | refine below_set ?_ GE487.out) | exact HB.out)); (case side2 => exact Kd.R_tight rfl HO_9.out); rintro e w64 ⟨rfl, hy0, hb, hkp⟩; refine ⟨_, rfl, ?_⟩; replace HO_6 := Aside0.mk (Kd.R_mono (ok' := fun k_ => some k_ ≠ (.slice Ao63 t488.length co63 : Value).ownBlock) (Kd.R_keptB (HO_6.out) hkp (fun k_ hk_ hs_ => (hk_) hs_)) (fun k_ hk_ => hk_.1)); replace HO_488002 := Aside0.mk (Kd.R_mono (ok' := fun k_ => True) (Kd.R_keptB ((Kd.R_apart' HO_488002.out (Kd.R_typed HO_9.out) (by decide))) hkp (fun k_ hk_ hs_ => (hk_.2) hs_)) (fun k_ hk_ => trivial)); replace BK471 := Aside0.mk (blk_kept (viaK BK471) hkp (fun hs_ => (fun e_ => (Kd.R_ne HO_9.out BK471.out (by decide)) e_) hs_)); replace BK487 := Aside0.mk (blk_kept (viaK BK487) hkp (fun hs_ => (fun e_ => (Kd.R_ne HO_9.out BK487.out (by decide)) e_) hs_)); replace HO_9 := Aside0.mk (Kd.R_reok rfl hy0 (fun k_ e_ => HO_9.out.1 k_ e_)); replace HB := Aside0.mk (hb); (try clear hb); (try clear hkp); (try clear hy0)) | ((with_reducible refine gate_callee (f := 29) rfl ?_); refine goesL_ (some 71) rfl rfl Try.func29 (by kernel_rfl) rfl #[.slice Ao63 t503.length co63, .int .i64 1] rfl (by (try simp only [List.map_toArray, List.map_cons, List.map_nil]); first | done | (rw [show t503.length = t488.length from (Kd.R_reads' HO_9.out).1.symm] <;> rfl) | rfl | (simp only [List.length_drop, List.length_take]; rfl)) ?_; (with_reducible refine (laws_heldIntS.calls kj37 _ _ t503 1 t504 _ ?side1 ?side2 A55.out).mono ?_); (case side1 => repeat (first | exact (Kd.R_reads' HO_9.out).2.2 | (with_reducible refine Kd.C_alloc ?_ _) | (with_reducible refine Kd.C_drewN ?_ _) | (with_reducible refine Kd.C_drew ?_))); (case side2 => rw [show t503.length = t488.length from (Kd.R_reads' HO_9.out).1.symm]; exact (Kd.R_reads' HO_9.out).2.1); rintro e w' ⟨rfl, ⟨nd, rfl⟩⟩; refine ⟨_, rfl, ?_⟩; have hnb65 := NB471_487.out; have hnc65 := NB487_471.out; have hcz66_0 := bc0 BK471; have hcz66_1 := bc1 BK471; have hcz66_2 := bc2 BK471; have hfz66_0 := blk_frozen BK471.out 0; have hfz66_1 := blk_frozen BK471.out 1; have hfz66_2 := blk_frozen BK471.out 2) | ((with_reducible refine gate_callee (f := 15) rfl ?_); refine goesA (some 79) _ #[.agg #[.int .i64 a0_0, .int .i64 a0_1, .slice A0_2 l0_2.length c0_2]] ?_ Try.func15; (with_reducible refine (laws_toBoard.calls kj37 a0_0 a0_1 _ _ l0_2 t505 t506 t507 _ ?side1 ?side2 A60.out).mono ?_); (case side1 => repeat (first | exact (Kd.C_below HR0_2.out (viaB HB)) | (with_reducible refine Kd.C_alloc ?_ _) | (with_reducible refine Kd.C_drewN ?_ _) | (with_reducible refine Kd.C_drew ?_))); (case side2 => exact HC0_2.out); rintro e w67 ⟨v508, rfl, ho0, hb⟩; refine ⟨_, rfl, ?_⟩; have HO509 := Aside0.mk (Kd.R_lower (Kd.R_new' ho0 (Kd.R_lt (viaR HO_488002))) (below_size (viaB HB))); replace HO_6 := Aside0.mk (Kd.R_below (viaR HO_6) hb); replace HO_9 := Aside0.mk (Kd.R_below (viaR HO_9) hb); replace HO_488002 := Aside0.mk (Kd.R_elder' (viaR HO_488002) (Kd.R_base ho0) hb); replace BK471 := kB BK471 hb; replace BK487 := kB BK487 hb; replace HB := bB HB hb; (try clear hb); (try clear hb2); (try clear hk); (try clear hi); (try clear ho0); obtain ⟨Ao68, co68, eo68⟩ := Kd.R_slice HO509.out; subst eo68) | ((with_reducible refine gate_callee (f := 26) rfl ?_); refine goesA (some 81) _ #[.agg #[.int .i64 t505, .int .i64 t506, .slice Ao68 t507.length co68], .int .i64 a1] ?_ Try.func26; (with_reducible refine (impl_ColumnsTo.calls kj37 t505 t506 _ _ t507 a1 t510 t513 _ ?side1 ?side2 A61.out).mono ?_); (case side1 => repeat (first | exact (Kd.R_reads' HO509.out).2.2 | (with_reducible refine Kd.C_alloc ?_ _) | (with_reducible refine Kd.C_drewN ?_ _) | (with_reducible refine Kd.C_drew ?_))); (case side2 => exact (Kd.R_reads' HO509.out).2.1); rintro e w69 ⟨v511, rfl, ho0, hb⟩; refine ⟨_, rfl, ?_⟩; have HO512 := Aside0.mk (Kd.R_lower (Kd.R_new' (Kd.R_new' ho0 (Kd.R_lt (viaR HO_6))) (Kd.R_lt (viaR HO_9))) (below_size (viaB HB))); replace HO_6 := Aside0.mk (Kd.R_elder' (viaR HO_6) (Kd.R_base ho0) hb); replace HO_9 := Aside0.mk (Kd.R_elder' (viaR HO_9) (Kd.R_base ho0) hb); replace HO_488002 := Aside0.mk (Kd.R_below (viaR HO_488002) hb); replace HO509 := Aside0.mk (Kd.R_below (viaR HO509) hb); replace BK471 := kB BK471 hb; replace BK487 := kB BK487 hb; replace HB := bB HB hb; (try clear hb); (try clear hb2); (try clear hk); (try clear hi); (try clear ho0)))
           (try simp only [Act.put, q1, q2, q3])
           go_cut [92] (fun v92 wc => ∃ (kq : Nat) (x92_61 : Bool), v92 = .bool x92_61 ∧ Aside0 (laws_FnExactColumnsTo.j2 kq t503 t502 x92_61 = some true) ∧ Aside0 (kq ≤ kj37) ∧ Aside0 (Kd.R (Kd.int .i64) 3 wc w.heap.size (fun _ => True) (.slice Ao63 t488.length co63) t503) ∧ Aside0 (Kd.R k89 89 wc w.heap.size (fun _ => True) (.slice Ao25 t500.length co25) t500) ∧ Aside0 (wc.heap[gb471]? = some (.cells #[.int .i64 a0_0, .int .i64 a0_1, (.slice A0_2 l0_2.length c0_2)] 24 (0, 0))) ∧ Aside0 (wc.heap[gb487]? = some (.cells #[.int .i64 t482, .int .i64 t483, (.slice Ao25 t500.length co25)] 32 (0, 0))) ∧ Aside0 (Below w.heap.size w wc))
           case first =>
            have H := HC62.out
            clear HC62
            replace H := Option.bind_eq_some_iff.mp H
            obtain ⟨t514, A700, H⟩ := H
            replace H : (if t514 = true then (laws_FnExactColumnsTo.j2 kj37 t503 t502 (t513 != t481)) else (laws_FnExactColumnsTo.j2 kj37 t503 t502 true)) = some true := H
            have A70 := Aside0.mk A700
            clear A700
            by_cases c71 : t514 = true
            ·subst c71
             have H1 : (laws_FnExactColumnsTo.j2 kj37 t503 t502 (t513 != t481)) = some true := by rw [if_pos rfl] at H; exact H
             clear H
             have H := H1
             clear H1
             have H' := Aside0.mk H
             clear H
             obtain ⟨Ao72, co72, eo72⟩ := Kd.R_slice HO512.out
             subst eo72
             obtain ⟨Ao73, co73, eo73⟩ := Kd.R_slice HO_6.out
             subst eo73
             go_wp2_with (first | ((with_reducible refine gate_callee (f := 27) rfl ?_); refine goesA (some 86) _ #[.slice Ao72 t510.length co72, .slice Ao73 t478.length co73] ?_ Try.func27; (with_reducible refine (laws_eqIntS.calls kj37 _ _ t510 _ _ t478 true _ ?side1 ?side2 ?side3 ?side4 A70.out).mono ?_); (case side1 => repeat (first | exact (Kd.R_reads' HO512.out).2.2 | (with_reducible refine Kd.C_alloc ?_ _) | (with_reducible refine Kd.C_drewN ?_ _) | (with_reducible refine Kd.C_drew ?_))); (case side2 => exact (Kd.R_reads' HO512.out).2.1); (case side3 => repeat (first | exact (Kd.R_reads' HO_6.out).2.2 | (with_reducible refine Kd.C_alloc ?_ _) | (with_reducible refine Kd.C_drewN ?_ _) | (with_reducible refine Kd.C_drew ?_))); (case side4 => exact (Kd.R_reads' HO_6.out).2.1); rintro e w' ⟨rfl, ⟨nd, rfl⟩⟩; refine ⟨_, rfl, ?_⟩))
             go_meet
             case rel => exact ⟨_, ((t513 != t481)), (by first | rfl | (simp; done) | (simp [*]; done)), H', ⟨by have := HJ11.out; have := HJ37.out; first | omega | exact Nat.le_refl _⟩, ⟨by (try simp only [hl488002_37]); (with_reducible repeat (first | apply Kd.R_alloc | apply Kd.R_drewN | apply Kd.R_drew)); exact Kd.R_mono HO_9.out (fun _ hk => trivial)⟩, ⟨by (try simp only [hl488002_37]); (with_reducible repeat (first | apply Kd.R_alloc | apply Kd.R_drewN | apply Kd.R_drew)); exact Kd.R_mono HO_488002.out (fun _ hk => trivial)⟩, ⟨by (try simp only [hl488002_37]); (with_reducible repeat (first | refine blk_drewN ?_ _ | refine blk_drew ?_ | refine blk_alloc ?_ _)); exact BK471.out⟩, ⟨by (try simp only [hl488002_37]); (with_reducible repeat (first | refine blk_drewN ?_ _ | refine blk_drew ?_ | refine blk_alloc ?_ _)); exact BK487.out⟩, ⟨viaB HB⟩⟩
            ·(rw [if_neg c71] at H; exact absurd H (laws_FnExactColumnsTo.bad_j2 _ _ _))
           case rest =>
            clear HC62
            (try clear c53); (try clear c56b0); (try clear c59b0); (try clear c59b1)
            (try clear hcz66_0); (try clear hcz66_1); (try clear hcz66_2); (try clear hfz66_0); (try clear hfz66_1); (try clear hfz66_2)
            obtain ⟨kq, x92_61, rfl, HA, HJ61, HO_9, HO_488002, BK471, BK487, HB⟩ := hcut
            have hl9_61 := (Kd.R_reads' HO_9.out).1
            rw [hl9_61] at HO_9
            (try simp only [hl9_61])
            (try simp only [hl9_61] at BK471)
            (try simp only [hl9_61] at BK487)
            (try simp only [hl9_61] at HO_488002)
            cases kq with
            | zero => exact absurd HA.out (by simp [laws_FnExactColumnsTo.j2])
            | succ kj61 =>
             have H := HA.out
             clear HA
             simp only [laws_FnExactColumnsTo.j2] at H
             by_cases c76 : x92_61 = true
             ·(rw [if_pos c76] at H; exact absurd H (by decide))
             ·replace c76 := Bool.eq_false_iff.mpr c76
              subst c76
              have H1 : ((laws_heldIntS.f kj61 t503 1).bind fun t515 => (if t515 < 0 then (some false) else (if t515 = t502 then (some true) else (some false)))) = some true := by rw [if_neg (show ¬ (false = true) by decide)] at H; exact H
              clear H
              have H := H1
              clear H1
              replace H := Option.bind_eq_some_iff.mp H
              obtain ⟨t515, A770, H⟩ := H
              replace H : (if t515 < 0 then (some false) else (if t515 = t502 then (some true) else (some false))) = some true := H
              have A77 := Aside0.mk A770
              clear A770
              by_cases c78 : t515 < 0
              ·(rw [if_pos c78] at H; exact absurd H (by decide))
              ·rw [if_neg c78] at H
               have c78b0 := decide_eq_false c78
               (try simp only [hl488002_37] at c78b0)
               (try simp only [hl9_61] at c78b0)
               clear c78
               by_cases c79 : t515 = t502
               ·rw [if_pos c79] at H
                have c79b0 := beq_iff_eq.mpr c79
                have c79b1 := bne_eq_false_iff_eq.mpr c79
                clear c79
                clear H
                go_wp2_with (first | ((with_reducible refine gate_callee (f := 29) rfl ?_); refine goesA (some 95) _ #[.slice Ao63 t503.length co63, .int .i64 1] ?_ Try.func29; (with_reducible refine (laws_heldIntS.calls kj61 _ _ t503 1 t515 _ ?side1 ?side2 A77.out).mono ?_); (case side1 => repeat (first | exact (Kd.R_reads' HO_9.out).2.2 | (with_reducible refine Kd.C_alloc ?_ _) | (with_reducible refine Kd.C_drewN ?_ _) | (with_reducible refine Kd.C_drew ?_))); (case side2 => exact (Kd.R_reads' HO_9.out).2.1); rintro e w' ⟨rfl, ⟨nd, rfl⟩⟩; refine ⟨_, rfl, ?_⟩))
                go_ret
                exact ⟨by first | rfl | (simp [errW_none, errW_some] <;> rfl) | (simp [*, errW_none, errW_some] <;> rfl), viaB HB⟩
               ·(rw [if_neg c79] at H; exact absurd H (by decide))
          ·(rw [if_neg c59] at H; exact absurd H (by decide))
     ·(rw [if_neg c36] at H; exact absurd H (by decide))

end Go.Proofs.Ytoklfgjemfojgaa.PAll
