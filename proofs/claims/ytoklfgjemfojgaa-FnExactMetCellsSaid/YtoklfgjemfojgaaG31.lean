/- This text began as one that print.sh wrote for this seat (of the functions named below); it is this session's own: turned where Lean did not take the printed proof, where it was too long for a claim, or only in what it imports. -/
import Derived.Test.YtoklfgjemfojgaaG0
import Derived.Test.YtoklfgjemfojgaaG3
import Derived.Test.YtoklfgjemfojgaaG21
import Derived.Test.YtoklfgjemfojgaaG24
import Derived.Test.YtoklfgjemfojgaaG25
import Derived.Test.YtoklfgjemfojgaaG26
import Derived.Test.YtoklfgjemfojgaaG29
import Derived.Test.YtoklfgjemfojgaaG30
namespace Go.Proofs.Ytoklfgjemfojgaa.PAll
open Go.RowKit Go.Proofs.YtoklfgjemfojgaaW.PrintWords Go.Proofs.YtoklfgjemfojgaaW.PrintLast Go.Proofs.YtoklfgjemfojgaaW.PrintMore
attribute [local go_sem] max2_int min2_int max_two min_two max_three min_three max_four min_four   -- for this text's walks alone
set_option linter.unusedVariables false
set_option linter.unusedSimpArgs false

/-! ### laws_FnExactMetCells: function 7 -/
mutual
def laws_FnExactMetCells.j0 : Nat → List Int → Bool → List Int → Bool → Bool → Int → Int → List (S91) → Int → Int → List (S89) → Option (Bool)
 | 0, _, _, _, _, _, _, _, _, _, _, _ => none
 | k + 1, x4, x5, x7, x8, x40, x613000, x613001, x613002, x629000, x629001, x629002 => if x40 = true then (some false) else ((laws_toBoard.f k x613000 x613001 x613002).bind fun bt634 => ((laws_eqBoard.f k x629000 x629001 x629002 bt634.1 bt634.2.1 bt634.2.2).bind fun t639 => (if t639 = true then ((laws_markBoard.f k x629000 x629001 x629002 1).bind fun bt640 => (if bt640.1 < 0 then (laws_FnExactMetCells.j1 k x4 x5 x7 true x613000 x613001 x613002) else ((laws_eqIntS.f k x7 x4).bind fun t642 => (if t642 = true then (laws_FnExactMetCells.j1 k x4 x5 x7 (x8 != x5) x613000 x613001 x613002) else (laws_FnExactMetCells.j1 k x4 x5 x7 true x613000 x613001 x613002))))) else (some false))))
def laws_FnExactMetCells.j1 : Nat → List Int → Bool → List Int → Bool → Int → Int → List (S91) → Option (Bool)
 | 0, _, _, _, _, _, _, _ => none
 | k + 1, x4, x5, x7, x61, x613000, x613001, x613002 => if x61 = true then (some false) else ((laws_markIntS.f k x7 1).bind fun bt643 => ((laws_heldIntS.f k bt643.2 1).bind fun t645 => (if t645 < 0 then (some false) else (if t645 = bt643.1 then ((laws_toBoard.f k x613000 x613001 x613002).bind fun bt646 => ((impl_MetCells.f k bt646.1 bt646.2.1 bt646.2.2).bind fun bt651 => ((laws_eqIntS.f k bt651.1 x4).bind fun t655 => (if t655 = true then (laws_FnExactMetCells.j2 k bt643.2 bt643.1 (bt651.2 != x5)) else (laws_FnExactMetCells.j2 k bt643.2 bt643.1 true))))) else (some false)))))
def laws_FnExactMetCells.j2 : Nat → List Int → Int → Bool → Option (Bool)
 | 0, _, _, _ => none
 | k + 1, x7, x10, x87 => if x87 = true then (some false) else ((laws_heldIntS.f k x7 1).bind fun t656 => (if t656 < 0 then (some false) else (if t656 = x10 then (some true) else (some false))))
end
def laws_FnExactMetCells.f (k : Nat) (a0_0 : Int) (a0_1 : Int) (l0_2 : List (S91)) : Option (Bool) := (laws_szBoard.f a0_0 a0_1 l0_2 1048576).bind fun t613 => (if t613 < 0 then (some true) else ((laws_toBoard.f k a0_0 a0_1 l0_2).bind fun bt614 => ((spec_MetCells.f k bt614.1 bt614.2.1 bt614.2.2).bind fun bt619 => ((laws_toBoard.f k a0_0 a0_1 l0_2).bind fun bt623 => ((impl_MetCells.f k bt623.1 bt623.2.1 bt623.2.2).bind fun bt629 => ((laws_eqIntS.f k bt629.1 bt619.1).bind fun t633 => (if t633 = true then (laws_FnExactMetCells.j0 k bt619.1 bt619.2 bt629.1 bt629.2 (bt629.2 != bt619.2) a0_0 a0_1 l0_2 bt623.1 bt623.2.1 bt623.2.2) else (laws_FnExactMetCells.j0 k bt619.1 bt619.2 bt629.1 bt629.2 true a0_0 a0_1 l0_2 bt623.1 bt623.2.1 bt623.2.2))))))))
theorem laws_FnExactMetCells.mono_l : ∀ k, (∀ y0 y1 y2 y3 y4 y5 y6 y7 y8 y9 y10, LeO (laws_FnExactMetCells.j0 k y0 y1 y2 y3 y4 y5 y6 y7 y8 y9 y10) (laws_FnExactMetCells.j0 (k + 1) y0 y1 y2 y3 y4 y5 y6 y7 y8 y9 y10)) ∧ (∀ y0 y1 y2 y3 y4 y5 y6, LeO (laws_FnExactMetCells.j1 k y0 y1 y2 y3 y4 y5 y6) (laws_FnExactMetCells.j1 (k + 1) y0 y1 y2 y3 y4 y5 y6)) ∧ (∀ y0 y1 y2, LeO (laws_FnExactMetCells.j2 k y0 y1 y2) (laws_FnExactMetCells.j2 (k + 1) y0 y1 y2))
 | 0 => ⟨fun _ _ _ _ _ _ _ _ _ _ _ r h => by simp [laws_FnExactMetCells.j0] at h, fun _ _ _ _ _ _ _ r h => by simp [laws_FnExactMetCells.j1] at h, fun _ _ _ r h => by simp [laws_FnExactMetCells.j2] at h⟩
 | k + 1 => by
  obtain ⟨ih0, ih1, ih2⟩ := laws_FnExactMetCells.mono_l k
  refine ⟨?_, ?_, ?_⟩
  ·intro y0 y1 y2 y3 y4 y5 y6 y7 y8 y9 y10
   unfold laws_FnExactMetCells.j0
   repeat' first | (with_reducible first | exact ih0 _ _ _ _ _ _ _ _ _ _ _ | exact ih1 _ _ _ _ _ _ _ | exact ih2 _ _ _ | exact impl_MetCells.mono _ _ _ _ | exact laws_eqBoard.mono _ _ _ _ _ _ _ | exact laws_eqIntS.mono _ _ _ | exact laws_heldIntS.mono _ _ _ | exact laws_markBoard.mono _ _ _ _ _ | exact laws_markIntS.mono _ _ _ | exact laws_toBoard.mono _ _ _ _ | exact spec_MetCells.mono _ _ _ _ | exact LeO.refl _ | exact LeO.none _ | refine LeO.ite ?_ ?_ | refine LeO.bind ?_ (fun _ => ?_)) | exact ih0 _ _ _ _ _ _ _ _ _ _ _ | exact ih1 _ _ _ _ _ _ _ | exact ih2 _ _ _ | exact impl_MetCells.mono _ _ _ _ | exact laws_eqBoard.mono _ _ _ _ _ _ _ | exact laws_eqIntS.mono _ _ _ | exact laws_heldIntS.mono _ _ _ | exact laws_markBoard.mono _ _ _ _ _ | exact laws_markIntS.mono _ _ _ | exact laws_toBoard.mono _ _ _ _ | exact spec_MetCells.mono _ _ _ _ | exact LeO.none _ | refine LeO.ite ?_ ?_ | refine LeO.bind ?_ (fun _ => ?_)
  ·intro y0 y1 y2 y3 y4 y5 y6
   unfold laws_FnExactMetCells.j1
   repeat' first | (with_reducible first | exact ih0 _ _ _ _ _ _ _ _ _ _ _ | exact ih1 _ _ _ _ _ _ _ | exact ih2 _ _ _ | exact impl_MetCells.mono _ _ _ _ | exact laws_eqBoard.mono _ _ _ _ _ _ _ | exact laws_eqIntS.mono _ _ _ | exact laws_heldIntS.mono _ _ _ | exact laws_markBoard.mono _ _ _ _ _ | exact laws_markIntS.mono _ _ _ | exact laws_toBoard.mono _ _ _ _ | exact spec_MetCells.mono _ _ _ _ | exact LeO.refl _ | exact LeO.none _ | refine LeO.ite ?_ ?_ | refine LeO.bind ?_ (fun _ => ?_)) | exact ih0 _ _ _ _ _ _ _ _ _ _ _ | exact ih1 _ _ _ _ _ _ _ | exact ih2 _ _ _ | exact impl_MetCells.mono _ _ _ _ | exact laws_eqBoard.mono _ _ _ _ _ _ _ | exact laws_eqIntS.mono _ _ _ | exact laws_heldIntS.mono _ _ _ | exact laws_markBoard.mono _ _ _ _ _ | exact laws_markIntS.mono _ _ _ | exact laws_toBoard.mono _ _ _ _ | exact spec_MetCells.mono _ _ _ _ | exact LeO.none _ | refine LeO.ite ?_ ?_ | refine LeO.bind ?_ (fun _ => ?_)
  ·intro y0 y1 y2
   unfold laws_FnExactMetCells.j2
   repeat' first | (with_reducible first | exact ih0 _ _ _ _ _ _ _ _ _ _ _ | exact ih1 _ _ _ _ _ _ _ | exact ih2 _ _ _ | exact impl_MetCells.mono _ _ _ _ | exact laws_eqBoard.mono _ _ _ _ _ _ _ | exact laws_eqIntS.mono _ _ _ | exact laws_heldIntS.mono _ _ _ | exact laws_markBoard.mono _ _ _ _ _ | exact laws_markIntS.mono _ _ _ | exact laws_toBoard.mono _ _ _ _ | exact spec_MetCells.mono _ _ _ _ | exact LeO.refl _ | exact LeO.none _ | refine LeO.ite ?_ ?_ | refine LeO.bind ?_ (fun _ => ?_)) | exact ih0 _ _ _ _ _ _ _ _ _ _ _ | exact ih1 _ _ _ _ _ _ _ | exact ih2 _ _ _ | exact impl_MetCells.mono _ _ _ _ | exact laws_eqBoard.mono _ _ _ _ _ _ _ | exact laws_eqIntS.mono _ _ _ | exact laws_heldIntS.mono _ _ _ | exact laws_markBoard.mono _ _ _ _ _ | exact laws_markIntS.mono _ _ _ | exact laws_toBoard.mono _ _ _ _ | exact spec_MetCells.mono _ _ _ _ | exact LeO.none _ | refine LeO.ite ?_ ?_ | refine LeO.bind ?_ (fun _ => ?_)
theorem laws_FnExactMetCells.mono : ∀ a0 a1 a2 k, LeO (laws_FnExactMetCells.f k a0 a1 a2) (laws_FnExactMetCells.f (k + 1) a0 a1 a2) := by
 intro a0 a1 a2 k
 obtain ⟨ih0, ih1, ih2⟩ := laws_FnExactMetCells.mono_l k
 unfold laws_FnExactMetCells.f
 repeat' first | (with_reducible first | exact ih0 _ _ _ _ _ _ _ _ _ _ _ | exact ih1 _ _ _ _ _ _ _ | exact ih2 _ _ _ | exact impl_MetCells.mono _ _ _ _ | exact laws_eqBoard.mono _ _ _ _ _ _ _ | exact laws_eqIntS.mono _ _ _ | exact laws_heldIntS.mono _ _ _ | exact laws_markBoard.mono _ _ _ _ _ | exact laws_markIntS.mono _ _ _ | exact laws_toBoard.mono _ _ _ _ | exact spec_MetCells.mono _ _ _ _ | exact LeO.refl _ | exact LeO.none _ | refine LeO.ite ?_ ?_ | refine LeO.bind ?_ (fun _ => ?_)) | exact ih0 _ _ _ _ _ _ _ _ _ _ _ | exact ih1 _ _ _ _ _ _ _ | exact ih2 _ _ _ | exact impl_MetCells.mono _ _ _ _ | exact laws_eqBoard.mono _ _ _ _ _ _ _ | exact laws_eqIntS.mono _ _ _ | exact laws_heldIntS.mono _ _ _ | exact laws_markBoard.mono _ _ _ _ _ | exact laws_markIntS.mono _ _ _ | exact laws_toBoard.mono _ _ _ _ | exact spec_MetCells.mono _ _ _ _ | exact LeO.none _ | refine LeO.ite ?_ ?_ | refine LeO.bind ?_ (fun _ => ?_)
theorem laws_FnExactMetCells.bad_j0 (k : Nat) (y0 : List Int) (y1 : Bool) (y2 : List Int) (y3 : Bool) (y5 : Int) (y6 : Int) (y7 : List (S91)) (y8 : Int) (y9 : Int) (y10 : List (S89)) : ¬ laws_FnExactMetCells.j0 k y0 y1 y2 y3 true y5 y6 y7 y8 y9 y10 = some true := by
 cases k <;> simp [laws_FnExactMetCells.j0]
theorem laws_FnExactMetCells.bad_j1 (k : Nat) (y0 : List Int) (y1 : Bool) (y2 : List Int) (y4 : Int) (y5 : Int) (y6 : List (S91)) : ¬ laws_FnExactMetCells.j1 k y0 y1 y2 true y4 y5 y6 = some true := by
 cases k <;> simp [laws_FnExactMetCells.j1]
theorem laws_FnExactMetCells.bad_j2 (k : Nat) (y0 : List Int) (y1 : Int) : ¬ laws_FnExactMetCells.j2 k y0 y1 true = some true := by
 cases k <;> simp [laws_FnExactMetCells.j2]
set_option maxHeartbeats 8000000 in
set_option maxRecDepth 100000 in
theorem laws_FnExactMetCells.calls (k : Nat) (a0_0 : Int) (a0_1 : Int) (A0_2 : Option Addr) (c0_2 : Nat) (l0_2 : List (S91)) (w : World) (hr0_2 : Kd.C k91 w A0_2 l0_2.length l0_2) (hc0_2 : l0_2.length ≤ c0_2) (h : laws_FnExactMetCells.f k a0_0 a0_1 l0_2 = some true) :
  Calls Try.prog 7 #[.agg #[.int .i64 a0_0, .int .i64 a0_1, .slice A0_2 l0_2.length c0_2]] w fun e w' => e = .returned (.bool true) ∧ Below w.heap.size w w' := by
 have hu24 := Try.underlying24
 have hu32 := Try.underlying32
 have HR0_2 := Aside0.mk hr0_2
 have HC0_2 := Aside0.mk hc0_2
 clear hr0_2 hc0_2
 have HB := Aside0.mk (Below.refl w.heap.size w)
 have H : ((laws_szBoard.f a0_0 a0_1 l0_2 1048576).bind fun t613 => (if t613 < 0 then (some true) else ((laws_toBoard.f k a0_0 a0_1 l0_2).bind fun bt614 => ((spec_MetCells.f k bt614.1 bt614.2.1 bt614.2.2).bind fun bt619 => ((laws_toBoard.f k a0_0 a0_1 l0_2).bind fun bt623 => ((impl_MetCells.f k bt623.1 bt623.2.1 bt623.2.2).bind fun bt629 => ((laws_eqIntS.f k bt629.1 bt619.1).bind fun t633 => (if t633 = true then (laws_FnExactMetCells.j0 k bt619.1 bt619.2 bt629.1 bt629.2 (bt629.2 != bt619.2) a0_0 a0_1 l0_2 bt623.1 bt623.2.1 bt623.2.2) else (laws_FnExactMetCells.j0 k bt619.1 bt619.2 bt629.1 bt629.2 true a0_0 a0_1 l0_2 bt623.1 bt623.2.1 bt623.2.2))))))))) = some true := h
 clear h
 replace H := Option.bind_eq_some_iff.mp H
 obtain ⟨t613, A20, H⟩ := H
 replace H : (if t613 < 0 then (some true) else ((laws_toBoard.f k a0_0 a0_1 l0_2).bind fun bt614 => ((spec_MetCells.f k bt614.1 bt614.2.1 bt614.2.2).bind fun bt619 => ((laws_toBoard.f k a0_0 a0_1 l0_2).bind fun bt623 => ((impl_MetCells.f k bt623.1 bt623.2.1 bt623.2.2).bind fun bt629 => ((laws_eqIntS.f k bt629.1 bt619.1).bind fun t633 => (if t633 = true then (laws_FnExactMetCells.j0 k bt619.1 bt619.2 bt629.1 bt629.2 (bt629.2 != bt619.2) a0_0 a0_1 l0_2 bt623.1 bt623.2.1 bt623.2.2) else (laws_FnExactMetCells.j0 k bt619.1 bt619.2 bt629.1 bt629.2 true a0_0 a0_1 l0_2 bt623.1 bt623.2.1 bt623.2.2)))))))) = some true := H
 have A2 := Aside0.mk A20
 clear A20
 by_cases c3 : t613 < 0
 ·rw [if_pos c3] at H
  have c3b0 := decide_eq_true c3
  clear c3
  clear H
  go_enter Try.func7, Try.ntmps7
  go_wp2_with (first | ((with_reducible refine gate_dst (N := 1) rfl ?_); refine box_ev (N := 1) (cs := #[.int .i64 a0_0, .int .i64 a0_1, .slice A0_2 l0_2.length c0_2]) (t := 24) ?_; intro gb612 hg w4 hbox hb; have BK612 := Aside0.mk (hbox); have GW612 := gW (w := w) HB hg; have GE612 := gW (w := w) HB hg; replace HB := bB HB hb; clear hb hbox hg; have hcz5_0 := bc0 BK612; have hcz5_1 := bc1 BK612; have hcz5_2 := bc2 BK612; have hfz5_0 := blk_frozen BK612.out 0; have hfz5_1 := blk_frozen BK612.out 1; have hfz5_2 := blk_frozen BK612.out 2) | ((with_reducible refine gate_callee (f := 13) rfl ?_); refine goesA (some 16) _ #[.agg #[.int .i64 a0_0, .int .i64 a0_1, .slice A0_2 l0_2.length c0_2], .int .i64 1048576] ?_ Try.func13; (with_reducible refine (laws_szBoard.calls a0_0 a0_1 _ _ l0_2 1048576 t613 _ ?side1 ?side2 A2.out).mono ?_); (case side1 => repeat (first | exact (Kd.C_below HR0_2.out HB.out) | (with_reducible refine Kd.C_alloc ?_ _) | (with_reducible refine Kd.C_drewN ?_ _) | (with_reducible refine Kd.C_drew ?_))); (case side2 => exact HC0_2.out); rintro e w6 ⟨rfl, hb⟩; refine ⟨_, rfl, ?_⟩; replace BK612 := kB BK612 hb; replace HB := bB HB hb; (try clear hb); (try clear hb2); (try clear hk); (try clear hi)))
  go_ret
  exact ⟨by first | rfl | (simp [errW_none, errW_some] <;> rfl) | (simp [*, errW_none, errW_some] <;> rfl), viaB HB⟩
 ·rw [if_neg c3] at H
  have c3b0 := decide_eq_false c3
  clear c3
  replace H := Option.bind_eq_some_iff.mp H
  obtain ⟨⟨t614, t615, t616⟩, A70, H⟩ := H
  replace H : ((spec_MetCells.f k t614 t615 t616).bind fun bt619 => ((laws_toBoard.f k a0_0 a0_1 l0_2).bind fun bt623 => ((impl_MetCells.f k bt623.1 bt623.2.1 bt623.2.2).bind fun bt629 => ((laws_eqIntS.f k bt629.1 bt619.1).bind fun t633 => (if t633 = true then (laws_FnExactMetCells.j0 k bt619.1 bt619.2 bt629.1 bt629.2 (bt629.2 != bt619.2) a0_0 a0_1 l0_2 bt623.1 bt623.2.1 bt623.2.2) else (laws_FnExactMetCells.j0 k bt619.1 bt619.2 bt629.1 bt629.2 true a0_0 a0_1 l0_2 bt623.1 bt623.2.1 bt623.2.2)))))) = some true := H
  have A7 := Aside0.mk A70
  clear A70
  replace H := Option.bind_eq_some_iff.mp H
  obtain ⟨⟨t619, t622⟩, A80, H⟩ := H
  replace H : ((laws_toBoard.f k a0_0 a0_1 l0_2).bind fun bt623 => ((impl_MetCells.f k bt623.1 bt623.2.1 bt623.2.2).bind fun bt629 => ((laws_eqIntS.f k bt629.1 t619).bind fun t633 => (if t633 = true then (laws_FnExactMetCells.j0 k t619 t622 bt629.1 bt629.2 (bt629.2 != t622) a0_0 a0_1 l0_2 bt623.1 bt623.2.1 bt623.2.2) else (laws_FnExactMetCells.j0 k t619 t622 bt629.1 bt629.2 true a0_0 a0_1 l0_2 bt623.1 bt623.2.1 bt623.2.2))))) = some true := H
  have A8 := Aside0.mk A80
  clear A80
  replace H := Option.bind_eq_some_iff.mp H
  obtain ⟨⟨t623, t624, t625⟩, A90, H⟩ := H
  replace H : ((impl_MetCells.f k t623 t624 t625).bind fun bt629 => ((laws_eqIntS.f k bt629.1 t619).bind fun t633 => (if t633 = true then (laws_FnExactMetCells.j0 k t619 t622 bt629.1 bt629.2 (bt629.2 != t622) a0_0 a0_1 l0_2 t623 t624 t625) else (laws_FnExactMetCells.j0 k t619 t622 bt629.1 bt629.2 true a0_0 a0_1 l0_2 t623 t624 t625)))) = some true := H
  have A9 := Aside0.mk A90
  clear A90
  replace H := Option.bind_eq_some_iff.mp H
  obtain ⟨⟨t629, t632⟩, A100, H⟩ := H
  replace H : ((laws_eqIntS.f k t629 t619).bind fun t633 => (if t633 = true then (laws_FnExactMetCells.j0 k t619 t622 t629 t632 (t632 != t622) a0_0 a0_1 l0_2 t623 t624 t625) else (laws_FnExactMetCells.j0 k t619 t622 t629 t632 true a0_0 a0_1 l0_2 t623 t624 t625))) = some true := H
  have A10 := Aside0.mk A100
  clear A100
  have HC11 := Aside0.mk H
  clear H
  go_enter Try.func7, Try.ntmps7
  go_upto_region 8 with (first | ((with_reducible refine gate_dst (N := 1) rfl ?_); refine box_ev (N := 1) (cs := #[.int .i64 a0_0, .int .i64 a0_1, .slice A0_2 l0_2.length c0_2]) (t := 24) ?_; intro gb612 hg w12 hbox hb; have BK612 := Aside0.mk (hbox); have GW612 := gW (w := w) HB hg; have GE612 := gW (w := w) HB hg; replace HB := bB HB hb; clear hb hbox hg; have hcz13_0 := bc0 BK612; have hcz13_1 := bc1 BK612; have hcz13_2 := bc2 BK612; have hfz13_0 := blk_frozen BK612.out 0; have hfz13_1 := blk_frozen BK612.out 1; have hfz13_2 := blk_frozen BK612.out 2) | ((with_reducible refine gate_callee (f := 13) rfl ?_); refine goesA (some 16) _ #[.agg #[.int .i64 a0_0, .int .i64 a0_1, .slice A0_2 l0_2.length c0_2], .int .i64 1048576] ?_ Try.func13; (with_reducible refine (laws_szBoard.calls a0_0 a0_1 _ _ l0_2 1048576 t613 _ ?side1 ?side2 A2.out).mono ?_); (case side1 => repeat (first | exact (Kd.C_below HR0_2.out HB.out) | (with_reducible refine Kd.C_alloc ?_ _) | (with_reducible refine Kd.C_drewN ?_ _) | (with_reducible refine Kd.C_drew ?_))); (case side2 => exact HC0_2.out); rintro e w14 ⟨rfl, hb⟩; refine ⟨_, rfl, ?_⟩; replace BK612 := kB BK612 hb; replace HB := bB HB hb; (try clear hb); (try clear hb2); (try clear hk); (try clear hi); have hcz15_0 := bc0 BK612; have hcz15_1 := bc1 BK612; have hcz15_2 := bc2 BK612; have hfz15_0 := blk_frozen BK612.out 0; have hfz15_1 := blk_frozen BK612.out 1; have hfz15_2 := blk_frozen BK612.out 2) | ((with_reducible refine gate_callee (f := 15) rfl ?_); refine goesA (some 21) _ #[.agg #[.int .i64 a0_0, .int .i64 a0_1, .slice A0_2 l0_2.length c0_2]] ?_ Try.func15; (with_reducible refine (laws_toBoard.calls k a0_0 a0_1 _ _ l0_2 t614 t615 t616 _ ?side1 ?side2 A7.out).mono ?_); (case side1 => repeat (first | exact (Kd.C_below HR0_2.out HB.out) | (with_reducible refine Kd.C_alloc ?_ _) | (with_reducible refine Kd.C_drewN ?_ _) | (with_reducible refine Kd.C_drew ?_))); (case side2 => exact HC0_2.out); rintro e w16 ⟨v617, rfl, ho0, hb⟩; refine ⟨_, rfl, ?_⟩; have HO618 := Aside0.mk (Kd.R_lower ho0 (below_size (viaB HB))); replace BK612 := kB BK612 hb; replace HB := bB HB hb; (try clear hb); (try clear hb2); (try clear hk); (try clear hi); (try clear ho0); obtain ⟨Ao17, co17, eo17⟩ := Kd.R_slice HO618.out; subst eo17) | ((with_reducible refine gate_callee (f := 30) rfl ?_); refine goesA (some 22) _ #[.agg #[.int .i64 t614, .int .i64 t615, .slice Ao17 t616.length co17]] ?_ Try.func30; (with_reducible refine (spec_MetCells.calls k t614 t615 _ _ t616 t619 t622 _ ?side1 ?side2 A8.out).mono ?_); (case side1 => repeat (first | exact (Kd.R_reads' HO618.out).2.2 | (with_reducible refine Kd.C_alloc ?_ _) | (with_reducible refine Kd.C_drewN ?_ _) | (with_reducible refine Kd.C_drew ?_))); (case side2 => exact (Kd.R_reads' HO618.out).2.1); rintro e w18 ⟨v620, rfl, ho0, hb⟩; refine ⟨_, rfl, ?_⟩; have HO621 := Aside0.mk (Kd.R_lower ho0 (below_size (viaB HB))); replace HO618 := Aside0.mk (Kd.R_below (viaR HO618) hb); replace BK612 := kB BK612 hb; replace HB := bB HB hb; (try clear hb); (try clear hb2); (try clear hk); (try clear hi); (try clear ho0); have hcz19_0 := bc0 BK612; have hcz19_1 := bc1 BK612; have hcz19_2 := bc2 BK612; have hfz19_0 := blk_frozen BK612.out 0; have hfz19_1 := blk_frozen BK612.out 1; have hfz19_2 := blk_frozen BK612.out 2) | ((with_reducible refine gate_callee (f := 15) rfl ?_); refine goesA (some 26) _ #[.agg #[.int .i64 a0_0, .int .i64 a0_1, .slice A0_2 l0_2.length c0_2]] ?_ Try.func15; (with_reducible refine (laws_toBoard.calls k a0_0 a0_1 _ _ l0_2 t623 t624 t625 _ ?side1 ?side2 A9.out).mono ?_); (case side1 => repeat (first | exact (Kd.C_below HR0_2.out HB.out) | (with_reducible refine Kd.C_alloc ?_ _) | (with_reducible refine Kd.C_drewN ?_ _) | (with_reducible refine Kd.C_drew ?_))); (case side2 => exact HC0_2.out); rintro e w20 ⟨v626, rfl, ho0, hb⟩; refine ⟨_, rfl, ?_⟩; have HO627 := Aside0.mk (Kd.R_lower (Kd.R_new' ho0 (Kd.R_lt (viaR HO618))) (below_size (viaB HB))); replace HO618 := Aside0.mk (Kd.R_elder' (viaR HO618) (Kd.R_base ho0) hb); replace HO621 := Aside0.mk (Kd.R_below (viaR HO621) hb); replace BK612 := kB BK612 hb; replace HB := bB HB hb; (try clear hb); (try clear hb2); (try clear hk); (try clear hi); (try clear ho0)) | ((with_reducible refine gate_dst (N := 6) rfl ?_); refine box_ev (N := 6) (cs := #[.int .i64 0, .int .i64 0, .slice none 0 0]) (t := 32) ?_; intro gb628 hg w21 hbox hb; have BK628 := Aside0.mk (hbox); have GW628 := gW (w := w) HB hg; have GE628 := gW (w := w) HB hg; have NB612_628 := neL BK612 hg; have NB628_612 := neG BK612 hg; replace HO618 := Aside0.mk (Kd.R_below (viaR HO618) hb); replace HO621 := Aside0.mk (Kd.R_below (viaR HO621) hb); replace HO627 := Aside0.mk (Kd.R_below (viaR HO627) hb); replace BK612 := kB BK612 hb; replace HB := bB HB hb; clear hb hbox hg; have hnb22 := NB628_612.out; have hnc22 := NB612_628.out; have hcz23_0 := bc0 BK628; have hcz23_1 := bc1 BK628; have hcz23_2 := bc2 BK628; have hfz23_0 := blk_frozen BK628.out 0; have hfz23_1 := blk_frozen BK628.out 1; have hfz23_2 := blk_frozen BK628.out 2; obtain ⟨Ao24, co24, eo24⟩ := Kd.R_slice HO627.out; subst eo24) | ((with_reducible refine gate_callee (f := 31) rfl ?_); refine goesA (some 29) _ #[.agg #[.int .i64 t623, .int .i64 t624, .slice Ao24 t625.length co24]] ?_ Try.func31; (with_reducible refine (impl_MetCells.calls k t623 t624 _ _ t625 t629 t632 _ ?side1 ?side2 A10.out).mono ?_); (case side1 => refine (Kd.R_reads' (e := 89) (base := w.heap.size) (ok := fun k_ => (True ∧ some k_ ≠ (.slice Ao17 t616.length co17 : Value).ownBlock)) (n := t625.length) (c := co24) ?_).2.2; exact (by (with_reducible repeat (first | apply Kd.R_alloc | apply Kd.R_drewN | apply Kd.R_drew)); exact (Kd.R_mono (Kd.R_far (p := ⟨gb628, 2, none⟩) (Kd.R_far (p := ⟨gb628, 1, none⟩) (Kd.R_far (p := ⟨gb628, 0, none⟩) (Kd.R_types HO627.out BK628.out (by decide)) (fun _ hk => hk.2) (.int .i64 t623)) (fun _ hk => hk.2) (.int .i64 t624)) (fun _ hk => hk.2) (.slice Ao24 t625.length co24)) (fun _ h_ => h_.1)))); (case side2 => exact (Kd.R_reads' HO627.out).2.1); rintro e w25 ⟨v630, rfl, ho0, hb⟩; refine ⟨_, rfl, ?_⟩; have HO631 := Aside0.mk (Kd.R_lower (Kd.R_new' ho0 (Kd.R_lt (by (with_reducible repeat (first | apply Kd.R_alloc | apply Kd.R_drewN | apply Kd.R_drew)); exact (Kd.R_mono (Kd.R_far (p := ⟨gb628, 2, none⟩) (Kd.R_far (p := ⟨gb628, 1, none⟩) (Kd.R_far (p := ⟨gb628, 0, none⟩) (Kd.R_types HO621.out BK628.out (by decide)) (fun _ hk => hk.2) (.int .i64 t623)) (fun _ hk => hk.2) (.int .i64 t624)) (fun _ hk => hk.2) (.slice Ao24 t625.length co24)) (fun _ h_ => h_.1))))) (below_size (viaB HB))); replace HO618 := Aside0.mk (Kd.R_below (by (with_reducible repeat (first | apply Kd.R_alloc | apply Kd.R_drewN | apply Kd.R_drew)); exact (Kd.R_mono (Kd.R_far (p := ⟨gb628, 2, none⟩) (Kd.R_far (p := ⟨gb628, 1, none⟩) (Kd.R_far (p := ⟨gb628, 0, none⟩) (Kd.R_types HO618.out BK628.out (by decide)) (fun _ hk => hk.2) (.int .i64 t623)) (fun _ hk => hk.2) (.int .i64 t624)) (fun _ hk => hk.2) (.slice Ao24 t625.length co24)) (fun _ h_ => h_.1))) hb); replace HO621 := Aside0.mk (Kd.R_elder' (by (with_reducible repeat (first | apply Kd.R_alloc | apply Kd.R_drewN | apply Kd.R_drew)); exact (Kd.R_mono (Kd.R_far (p := ⟨gb628, 2, none⟩) (Kd.R_far (p := ⟨gb628, 1, none⟩) (Kd.R_far (p := ⟨gb628, 0, none⟩) (Kd.R_types HO621.out BK628.out (by decide)) (fun _ hk => hk.2) (.int .i64 t623)) (fun _ hk => hk.2) (.int .i64 t624)) (fun _ hk => hk.2) (.slice Ao24 t625.length co24)) (fun _ h_ => h_.1))) (Kd.R_base ho0) hb); replace HO627 := Aside0.mk (Kd.R_below (by (with_reducible repeat (first | apply Kd.R_alloc | apply Kd.R_drewN | apply Kd.R_drew)); exact (Kd.R_mono (Kd.R_far (p := ⟨gb628, 2, none⟩) (Kd.R_far (p := ⟨gb628, 1, none⟩) (Kd.R_far (p := ⟨gb628, 0, none⟩) (Kd.R_types HO627.out BK628.out (by decide)) (fun _ hk => hk.2) (.int .i64 t623)) (fun _ hk => hk.2) (.int .i64 t624)) (fun _ hk => hk.2) (.slice Ao24 t625.length co24)) (fun _ h_ => h_.1))) hb); replace BK612 := Aside0.mk (blk_below (g := gb612) (o := .cells #[.int .i64 a0_0, .int .i64 a0_1, .slice A0_2 l0_2.length c0_2] 24 (0, 0)) (by (with_reducible repeat (first | refine blk_drewN ?_ _ | refine blk_drew ?_ | refine blk_alloc ?_ _)); refine blk_far ?_ NB612_628.out _; (with_reducible repeat (first | refine blk_drewN ?_ _ | refine blk_drew ?_ | refine blk_alloc ?_ _)); refine blk_far ?_ NB612_628.out _; (with_reducible repeat (first | refine blk_drewN ?_ _ | refine blk_drew ?_ | refine blk_alloc ?_ _)); refine blk_far ?_ NB612_628.out _; (with_reducible repeat (first | refine blk_drewN ?_ _ | refine blk_drew ?_ | refine blk_alloc ?_ _)); exact BK612.out) hb); replace BK628 := Aside0.mk (blk_below (g := gb628) (o := .cells #[.int .i64 t623, .int .i64 t624, .slice Ao24 t625.length co24] 32 (0, 0)) (by (with_reducible repeat (first | refine blk_drewN ?_ _ | refine blk_drew ?_ | refine blk_alloc ?_ _)); refine blk_put (cs := #[.int .i64 t623, .int .i64 t624, .slice none 0 0]) ?_ 2 _ rfl; (with_reducible repeat (first | refine blk_drewN ?_ _ | refine blk_drew ?_ | refine blk_alloc ?_ _)); refine blk_put (cs := #[.int .i64 t623, .int .i64 0, .slice none 0 0]) ?_ 1 _ rfl; (with_reducible repeat (first | refine blk_drewN ?_ _ | refine blk_drew ?_ | refine blk_alloc ?_ _)); refine blk_put (cs := #[.int .i64 0, .int .i64 0, .slice none 0 0]) ?_ 0 _ rfl; (with_reducible repeat (first | refine blk_drewN ?_ _ | refine blk_drew ?_ | refine blk_alloc ?_ _)); exact BK628.out) hb); replace HB := bB HB hb; (try clear hb); (try clear hb2); (try clear hk); (try clear hi); (try clear ho0)))
  (try simp only [Act.put, q1, q2, q3])
  go_cut [40] (fun v40 wc => ∃ (kq : Nat) (x40_10 : Bool), v40 = .bool x40_10 ∧ Aside0 (laws_FnExactMetCells.j0 kq t619 t622 t629 t632 x40_10 a0_0 a0_1 l0_2 t623 t624 t625 = some true) ∧ Aside0 (kq ≤ k) ∧ Aside0 (Kd.R (Kd.int .i64) 3 wc w.heap.size (fun k_ => some k_ ≠ (v630 : Value).ownBlock) v620 t619) ∧ Aside0 (Kd.R (Kd.int .i64) 3 wc w.heap.size (fun k_ => some k_ ≠ (v620 : Value).ownBlock) v630 t629) ∧ Aside0 (Kd.R k89 89 wc w.heap.size (fun _ => True) (.slice Ao24 t625.length co24) t625) ∧ Aside0 (wc.heap[gb612]? = some (.cells #[.int .i64 a0_0, .int .i64 a0_1, (.slice A0_2 l0_2.length c0_2)] 24 (0, 0))) ∧ Aside0 (wc.heap[gb628]? = some (.cells #[.int .i64 t623, .int .i64 t624, (.slice Ao24 t625.length co24)] 32 (0, 0))) ∧ Aside0 (Below w.heap.size w wc))
  case first =>
   have H := HC11.out
   clear HC11
   replace H := Option.bind_eq_some_iff.mp H
   obtain ⟨t633, A260, H⟩ := H
   replace H : (if t633 = true then (laws_FnExactMetCells.j0 k t619 t622 t629 t632 (t632 != t622) a0_0 a0_1 l0_2 t623 t624 t625) else (laws_FnExactMetCells.j0 k t619 t622 t629 t632 true a0_0 a0_1 l0_2 t623 t624 t625)) = some true := H
   have A26 := Aside0.mk A260
   clear A260
   by_cases c27 : t633 = true
   ·subst c27
    have H1 : (laws_FnExactMetCells.j0 k t619 t622 t629 t632 (t632 != t622) a0_0 a0_1 l0_2 t623 t624 t625) = some true := by rw [if_pos rfl] at H; exact H
    clear H
    have H := H1
    clear H1
    have H' := Aside0.mk H
    clear H
    obtain ⟨Ao28, co28, eo28⟩ := Kd.R_slice HO631.out
    subst eo28
    obtain ⟨Ao29, co29, eo29⟩ := Kd.R_slice HO621.out
    subst eo29
    go_wp2_with (first | ((with_reducible refine gate_callee (f := 27) rfl ?_); refine goesA (some 34) _ #[.slice Ao28 t629.length co28, .slice Ao29 t619.length co29] ?_ Try.func27; (with_reducible refine (laws_eqIntS.calls k _ _ t629 _ _ t619 true _ ?side1 ?side2 ?side3 ?side4 A26.out).mono ?_); (case side1 => repeat (first | exact (Kd.R_reads' HO631.out).2.2 | (with_reducible refine Kd.C_alloc ?_ _) | (with_reducible refine Kd.C_drewN ?_ _) | (with_reducible refine Kd.C_drew ?_))); (case side2 => exact (Kd.R_reads' HO631.out).2.1); (case side3 => repeat (first | exact (Kd.R_reads' HO621.out).2.2 | (with_reducible refine Kd.C_alloc ?_ _) | (with_reducible refine Kd.C_drewN ?_ _) | (with_reducible refine Kd.C_drew ?_))); (case side4 => exact (Kd.R_reads' HO621.out).2.1); rintro e w' ⟨rfl, ⟨nd, rfl⟩⟩; refine ⟨_, rfl, ?_⟩))
    go_meet
    case rel => exact ⟨_, ((t632 != t622)), (by first | rfl | (simp; done) | (simp [*]; done)), H', ⟨by first | omega | exact Nat.le_refl _⟩, ⟨by (with_reducible repeat (first | apply Kd.R_alloc | apply Kd.R_drewN | apply Kd.R_drew)); exact Kd.R_mono HO621.out (fun _ hk => hk.2)⟩, ⟨by (with_reducible repeat (first | apply Kd.R_alloc | apply Kd.R_drewN | apply Kd.R_drew)); exact Kd.R_mono HO631.out (fun _ hk => hk.2)⟩, ⟨by (with_reducible repeat (first | apply Kd.R_alloc | apply Kd.R_drewN | apply Kd.R_drew)); exact Kd.R_mono HO627.out (fun _ hk => trivial)⟩, ⟨viaK BK612⟩, ⟨viaK BK628⟩, ⟨viaB HB⟩⟩
   ·(rw [if_neg c27] at H; exact absurd H (laws_FnExactMetCells.bad_j0 _ _ _ _ _ _ _ _ _ _ _))
  case rest =>
   clear HC11
   (try clear c3b0)
   (try clear hcz13_0); (try clear hcz13_1); (try clear hcz13_2); (try clear hcz15_0); (try clear hcz15_1); (try clear hcz15_2); (try clear hcz19_0); (try clear hcz19_1)
   (try clear hcz19_2); (try clear hcz23_0); (try clear hcz23_1); (try clear hcz23_2); (try clear hfz13_0); (try clear hfz13_1); (try clear hfz13_2); (try clear hfz15_0)
   (try clear hfz15_1); (try clear hfz15_2); (try clear hfz19_0); (try clear hfz19_1); (try clear hfz19_2); (try clear hfz23_0); (try clear hfz23_1); (try clear hfz23_2)
   obtain ⟨kq, x40_10, rfl, HA, HJ10, HO_4, HO_7, HO_629002, BK612, BK628, HB⟩ := hcut
   cases kq with
   | zero => exact absurd HA.out (by simp [laws_FnExactMetCells.j0])
   | succ kj10 =>
    have H := HA.out
    clear HA
    simp only [laws_FnExactMetCells.j0] at H
    by_cases c32 : x40_10 = true
    ·(rw [if_pos c32] at H; exact absurd H (by decide))
    ·replace c32 := Bool.eq_false_iff.mpr c32
     subst c32
     have H1 : ((laws_toBoard.f kj10 a0_0 a0_1 l0_2).bind fun bt634 => ((laws_eqBoard.f kj10 t623 t624 t625 bt634.1 bt634.2.1 bt634.2.2).bind fun t639 => (if t639 = true then ((laws_markBoard.f kj10 t623 t624 t625 1).bind fun bt640 => (if bt640.1 < 0 then (laws_FnExactMetCells.j1 kj10 t619 t622 t629 true a0_0 a0_1 l0_2) else ((laws_eqIntS.f kj10 t629 t619).bind fun t642 => (if t642 = true then (laws_FnExactMetCells.j1 kj10 t619 t622 t629 (t632 != t622) a0_0 a0_1 l0_2) else (laws_FnExactMetCells.j1 kj10 t619 t622 t629 true a0_0 a0_1 l0_2))))) else (some false)))) = some true := by rw [if_neg (show ¬ (false = true) by decide)] at H; exact H
     clear H
     have H := H1
     clear H1
     replace H := Option.bind_eq_some_iff.mp H
     obtain ⟨⟨t634, t635, t636⟩, A330, H⟩ := H
     replace H : ((laws_eqBoard.f kj10 t623 t624 t625 t634 t635 t636).bind fun t639 => (if t639 = true then ((laws_markBoard.f kj10 t623 t624 t625 1).bind fun bt640 => (if bt640.1 < 0 then (laws_FnExactMetCells.j1 kj10 t619 t622 t629 true a0_0 a0_1 l0_2) else ((laws_eqIntS.f kj10 t629 t619).bind fun t642 => (if t642 = true then (laws_FnExactMetCells.j1 kj10 t619 t622 t629 (t632 != t622) a0_0 a0_1 l0_2) else (laws_FnExactMetCells.j1 kj10 t619 t622 t629 true a0_0 a0_1 l0_2))))) else (some false))) = some true := H
     have A33 := Aside0.mk A330
     clear A330
     replace H := Option.bind_eq_some_iff.mp H
     obtain ⟨t639, A340, H⟩ := H
     replace H : (if t639 = true then ((laws_markBoard.f kj10 t623 t624 t625 1).bind fun bt640 => (if bt640.1 < 0 then (laws_FnExactMetCells.j1 kj10 t619 t622 t629 true a0_0 a0_1 l0_2) else ((laws_eqIntS.f kj10 t629 t619).bind fun t642 => (if t642 = true then (laws_FnExactMetCells.j1 kj10 t619 t622 t629 (t632 != t622) a0_0 a0_1 l0_2) else (laws_FnExactMetCells.j1 kj10 t619 t622 t629 true a0_0 a0_1 l0_2))))) else (some false)) = some true := H
     have A34 := Aside0.mk A340
     clear A340
     by_cases c35 : t639 = true
     ·subst c35
      have H1 : ((laws_markBoard.f kj10 t623 t624 t625 1).bind fun bt640 => (if bt640.1 < 0 then (laws_FnExactMetCells.j1 kj10 t619 t622 t629 true a0_0 a0_1 l0_2) else ((laws_eqIntS.f kj10 t629 t619).bind fun t642 => (if t642 = true then (laws_FnExactMetCells.j1 kj10 t619 t622 t629 (t632 != t622) a0_0 a0_1 l0_2) else (laws_FnExactMetCells.j1 kj10 t619 t622 t629 true a0_0 a0_1 l0_2))))) = some true := by rw [if_pos rfl] at H; exact H
      clear H
      have H := H1
      clear H1
      replace H := Option.bind_eq_some_iff.mp H
      obtain ⟨⟨t640, t641⟩, A360, H⟩ := H
      replace H : (if t640 < 0 then (laws_FnExactMetCells.j1 kj10 t619 t622 t629 true a0_0 a0_1 l0_2) else ((laws_eqIntS.f kj10 t629 t619).bind fun t642 => (if t642 = true then (laws_FnExactMetCells.j1 kj10 t619 t622 t629 (t632 != t622) a0_0 a0_1 l0_2) else (laws_FnExactMetCells.j1 kj10 t619 t622 t629 true a0_0 a0_1 l0_2)))) = some true := H
      have A36 := Aside0.mk A360
      clear A360
      have HC37 := Aside0.mk H
      clear H
      try go_wp2
      replace HO_4 := Aside0.mk (Kd.R_drew HO_4.out)
      replace HO_7 := Aside0.mk (Kd.R_drew HO_7.out)
      replace HO_629002 := Aside0.mk (Kd.R_drew HO_629002.out)
      replace BK612 := Aside0.mk (blk_drew BK612.out)
      replace BK628 := Aside0.mk (blk_drew BK628.out)
      replace HB := Aside0.mk (below_drew1 HB.out)
      refine start_ (n := 5) (S := fun w' => w'.cell? ⟨gb628, 0, none⟩ = some (.int .i64 t623) ∧ w'.cell? ⟨gb628, 1, none⟩ = some (.int .i64 t624) ∧ w'.cell? ⟨gb628, 2, none⟩ = some (.slice Ao24 t625.length co24) ∧ w'.cell? ⟨gb612, 0, none⟩ = some (.int .i64 a0_0) ∧ w'.cell? ⟨gb612, 1, none⟩ = some (.int .i64 a0_1) ∧ w'.cell? ⟨gb612, 2, none⟩ = some (.slice A0_2 l0_2.length c0_2)) (ds := []) #[false, false, false, false, false] (by kernel_rfl) rfl rfl ⟨(blk_cell BK628.out 0).trans rfl, (blk_cell BK628.out 1).trans rfl, (blk_cell BK628.out 2).trans rfl, (blk_cell BK612.out 0).trans rfl, (blk_cell BK612.out 1).trans rfl, (blk_cell BK612.out 2).trans rfl⟩ (fun hHeld => ?_)
      generalize wc.drew = w38 at HO_4 HO_7 HO_629002 BK612 BK628 HB hHeld ⊢
      refine take_ (i := 0) (N := some 41) (v := ?_) (a' := ?_) #[true, false, false, false, false] rfl rfl (by kernel_rfl) (fun _ _ _ h => h) (Or.inl ⟨by rfl, ?_⟩) hHeld ?_ ?_
      rotate_left
      ·rintro w' ⟨s0, s1, s2, s3, s4, s5⟩
       go_simp
       with_reducible rfl
      rotate_left
      ·simp only [Act.put, q1, q2, q3, i64_w, i32_w]
       rfl
      refine take_ (i := 1) (N := some 42) (v := ?_) (a' := ?_) #[true, true, false, false, false] rfl rfl (by kernel_rfl) (fun _ _ _ h => h) (Or.inl ⟨by rfl, ?_⟩) hHeld ?_ ?_
      rotate_left
      ·rintro w' ⟨s0, s1, s2, s3, s4, s5⟩
       go_simp
       with_reducible rfl
      rotate_left
      ·simp only [Act.put, q1, q2, q3, i64_w, i32_w]
       rfl
      refine one_ (i := 2) (N := some 43) #[true, true, true, false, false] rfl rfl (by kernel_rfl) (by decide) (fun K hK => ?_)
      refine goes_ Try.func15 (by kernel_rfl) rfl #[.agg #[.int .i64 a0_0, .int .i64 a0_1, .slice A0_2 l0_2.length c0_2]] (by rfl) rfl rfl (by (try simp only [List.map_toArray, List.map_cons, List.map_nil]); first | done | rfl | (simp only [List.length_drop, List.length_take]; rfl)) ?_
      with_reducible refine (laws_toBoard.calls kj10 a0_0 a0_1 _ _ l0_2 t634 t635 t636 _ ?side1 ?side2 A33.out).mono ?_
      (case side1 => repeat (first | exact (Kd.C_below HR0_2.out HB.out) | (with_reducible refine Kd.C_alloc ?_ _) | (with_reducible refine Kd.C_drewN ?_ _) | (with_reducible refine Kd.C_drew ?_)))
      (case side2 => exact HC0_2.out)
      rintro e w39 ⟨v637, rfl, ho0, hb⟩
      refine ⟨_, rfl, ?_⟩
      have HO638 := Aside0.mk (Kd.R_lower (Kd.R_new' ho0 (Kd.R_lt (viaR HO_629002))) (below_size (viaB HB)))
      replace HO_4 := Aside0.mk (Kd.R_below (viaR HO_4) hb)
      replace HO_7 := Aside0.mk (Kd.R_below (viaR HO_7) hb)
      replace HO_629002 := Aside0.mk (Kd.R_elder' (viaR HO_629002) (Kd.R_base ho0) hb)
      replace BK612 := kB BK612 hb
      replace BK628 := kB BK628 hb
      replace HB := bB HB hb
      (try clear hb); (try clear ho0)
      obtain ⟨Ao40, co40, eo40⟩ := Kd.R_slice HO638.out
      (first | subst eo40 | (injection eo40 with f1_ f2_ f3_; have f4_ := f1_.symm; have f5_ := f3_.symm; clear f1_ f2_ f3_; subst f4_; subst f5_))
      refine hK.out _ _ ⟨(blk_cell BK628.out 0).trans rfl, (blk_cell BK628.out 1).trans rfl, (blk_cell BK628.out 2).trans rfl, (blk_cell BK612.out 0).trans rfl, (blk_cell BK612.out 1).trans rfl, (blk_cell BK612.out 2).trans rfl⟩ (fun hHeld => ?_)
      clear hK K
      refine norm_ (a' := ?_) ?_ ?_
      rotate_left
      ·show Act.put _ (some 43) _ = _
       simp only [Act.put, q1, q2, q3, i64_w, i32_w]
       rfl
      refine one_ (i := 3) (N := some 44) #[true, true, true, true, false] rfl rfl (by kernel_rfl) (by decide) (fun K hK => ?_)
      refine goes_ Try.func18 (by kernel_rfl) rfl #[.agg #[.int .i64 t623, .int .i64 t624, .slice Ao24 t625.length co24], .agg #[.int .i64 t634, .int .i64 t635, .slice Ao40 t636.length co40]] (by rfl) rfl rfl (by (try simp only [List.map_toArray, List.map_cons, List.map_nil]); first | done | rfl | (simp only [List.length_drop, List.length_take]; rfl)) ?_
      with_reducible refine (laws_eqBoard.calls kj10 t623 t624 _ _ t625 t634 t635 _ _ t636 true _ ?side1 ?side2 ?side3 ?side4 A34.out).mono ?_
      (case side1 => repeat (first | exact (Kd.R_reads' HO_629002.out).2.2 | (with_reducible refine Kd.C_alloc ?_ _) | (with_reducible refine Kd.C_drewN ?_ _) | (with_reducible refine Kd.C_drew ?_)))
      (case side2 => exact (Kd.R_reads' HO_629002.out).2.1)
      (case side3 => repeat (first | exact (Kd.R_reads' HO638.out).2.2 | (with_reducible refine Kd.C_alloc ?_ _) | (with_reducible refine Kd.C_drewN ?_ _) | (with_reducible refine Kd.C_drew ?_)))
      (case side4 => exact (Kd.R_reads' HO638.out).2.1)
      rintro e w41 ⟨rfl, hb⟩
      refine ⟨_, rfl, ?_⟩
      replace HO_4 := Aside0.mk (Kd.R_below (viaR HO_4) hb)
      replace HO_7 := Aside0.mk (Kd.R_below (viaR HO_7) hb)
      replace HO_629002 := Aside0.mk (Kd.R_below (viaR HO_629002) hb)
      replace HO638 := Aside0.mk (Kd.R_below (viaR HO638) hb)
      replace BK612 := kB BK612 hb
      replace BK628 := kB BK628 hb
      replace HB := bB HB hb
      (try clear hb)
      refine hK.out _ _ ⟨(blk_cell BK628.out 0).trans rfl, (blk_cell BK628.out 1).trans rfl, (blk_cell BK628.out 2).trans rfl, (blk_cell BK612.out 0).trans rfl, (blk_cell BK612.out 1).trans rfl, (blk_cell BK612.out 2).trans rfl⟩ (fun hHeld => ?_)
      clear hK K
      refine norm_ (a' := ?_) ?_ ?_
      rotate_left
      ·show Act.put _ (some 44) _ = _
       simp only [Act.put, q1, q2, q3, i64_w, i32_w]
       rfl
      refine pure_ (i := 4) (N := some 45) (v := ?_) (a' := ?_) #[true, true, true, true, true] rfl rfl (by kernel_rfl) (fun _ _ _ h => h) (Or.inl ⟨by rfl, ?_⟩) ?_ ?_
      rotate_left
      ·intro w'
       go_simp
       with_reducible rfl
      rotate_left
      ·simp only [Act.put, q1, q2, q3, i64_w, i32_w]
       rfl
      refine done_ (by kernel_rfl) ?_
      have hnb42 := NB628_612.out
      have hnc42 := NB612_628.out
      have hcz43_0 := bc0 BK628
      have hcz43_1 := bc1 BK628
      have hcz43_2 := bc2 BK628
      have hfz43_0 := blk_frozen BK628.out 0
      have hfz43_1 := blk_frozen BK628.out 1
      have hfz43_2 := blk_frozen BK628.out 2
      go_upto_region 14 with (first | ((with_reducible refine gate_callee (f := 23) rfl ?_); refine goesA (some 48) _ #[.agg #[.int .i64 t623, .int .i64 t624, .slice Ao24 t625.length co24], .int .i64 1] ?_ Try.func23; (with_reducible refine (laws_markBoard.calls kj10 t623 t624 (fun k_ => some k_ = (.slice Ao24 t625.length co24 : Value).ownBlock) (.slice Ao24 t625.length co24) t625 1 t640 t641 w _ ?side1 ?side2 A36.out).mono ?_); (case side1 => repeat (first | (with_reducible first | exact HB.out | apply below_alloc | apply pw_below_drewN | apply below_drew1 | refine below_set ?_ GE612.out | refine below_set ?_ GE628.out) | exact HB.out)); (case side2 => exact Kd.R_tight rfl HO_629002.out); rintro e w44 ⟨rfl, hy0, hb, hkp⟩; refine ⟨_, rfl, ?_⟩; replace HO_4 := Aside0.mk (Kd.R_mono (ok' := fun k_ => some k_ ≠ (v630 : Value).ownBlock) (Kd.R_keptB ((Kd.R_apart' HO_4.out (Kd.R_typed HO_629002.out) (by decide))) hkp (fun k_ hk_ hs_ => (hk_.2) hs_)) (fun k_ hk_ => hk_.1.1)); replace HO_7 := Aside0.mk (Kd.R_mono (ok' := fun k_ => some k_ ≠ (v620 : Value).ownBlock) (Kd.R_keptB ((Kd.R_apart' HO_7.out (Kd.R_typed HO_629002.out) (by decide))) hkp (fun k_ hk_ hs_ => (hk_.2) hs_)) (fun k_ hk_ => hk_.1.1)); replace BK612 := Aside0.mk (blk_kept (viaK BK612) hkp (fun hs_ => (fun e_ => (Kd.R_ne HO_629002.out BK612.out (by decide)) e_) hs_)); replace BK628 := Aside0.mk (blk_kept (viaK BK628) hkp (fun hs_ => (fun e_ => (Kd.R_ne HO_629002.out BK628.out (by decide)) e_) hs_)); replace HO_629002 := Aside0.mk (Kd.R_reok rfl hy0 (fun k_ e_ => HO_629002.out.1 k_ e_)); replace HO638 := Aside0.mk (Kd.R_mono (ok' := fun k_ => some k_ ≠ (.slice Ao24 t625.length co24 : Value).ownBlock) (Kd.R_keptB (HO638.out) hkp (fun k_ hk_ hs_ => (hk_.2) hs_)) (fun k_ hk_ => hk_.1.2)); replace HB := Aside0.mk (hb); (try clear hb); (try clear hkp); (try clear hy0)))
      (try simp only [Act.put, q1, q2, q3])
      go_cut [61] (fun v61 wc => ∃ (kq : Nat) (x61_36 : Bool), v61 = .bool x61_36 ∧ Aside0 (laws_FnExactMetCells.j1 kq t619 t622 t629 x61_36 a0_0 a0_1 l0_2 = some true) ∧ Aside0 (kq ≤ kj10) ∧ Aside0 (Kd.R (Kd.int .i64) 3 wc w.heap.size (fun k_ => some k_ ≠ (v630 : Value).ownBlock) v620 t619) ∧ Aside0 (Kd.R (Kd.int .i64) 3 wc w.heap.size (fun k_ => some k_ ≠ (v620 : Value).ownBlock) v630 t629) ∧ Aside0 (Kd.R k89 89 wc w.heap.size (fun _ => True) (.slice Ao24 t625.length co24) t641) ∧ Aside0 (wc.heap[gb612]? = some (.cells #[.int .i64 a0_0, .int .i64 a0_1, (.slice A0_2 l0_2.length c0_2)] 24 (0, 0))) ∧ Aside0 (wc.heap[gb628]? = some (.cells #[.int .i64 t623, .int .i64 t624, (.slice Ao24 t625.length co24)] 32 (0, 0))) ∧ Aside0 (Below w.heap.size w wc))
      case first =>
       have H := HC37.out
       clear HC37
       by_cases c45 : t640 < 0
       ·rw [if_pos c45] at H
        have c45b0 := decide_eq_true c45
        clear c45
        (first | rw [c45b0] | (simp only [i64_w, i32_w]; rw [c45b0]) | skip)
        have H' := Aside0.mk H
        clear H
        go_wp2
        go_meet
        case rel => exact ⟨_, (true), (by first | rfl | (simp; done) | (simp [*]; done)), H', ⟨by have := HJ10.out; first | omega | exact Nat.le_refl _⟩, ⟨viaR HO_4⟩, ⟨viaR HO_7⟩, ⟨by (with_reducible repeat (first | apply Kd.R_alloc | apply Kd.R_drewN | apply Kd.R_drew)); exact Kd.R_mono HO_629002.out (fun _ hk => trivial)⟩, ⟨viaK BK612⟩, ⟨viaK BK628⟩, ⟨viaB HB⟩⟩
       ·rw [if_neg c45] at H
        have c45b0 := decide_eq_false c45
        clear c45
        (first | rw [c45b0] | (simp only [i64_w, i32_w]; rw [c45b0]) | skip)
        replace H := Option.bind_eq_some_iff.mp H
        obtain ⟨t642, A460, H⟩ := H
        replace H : (if t642 = true then (laws_FnExactMetCells.j1 kj10 t619 t622 t629 (t632 != t622) a0_0 a0_1 l0_2) else (laws_FnExactMetCells.j1 kj10 t619 t622 t629 true a0_0 a0_1 l0_2)) = some true := H
        have A46 := Aside0.mk A460
        clear A460
        by_cases c47 : t642 = true
        ·subst c47
         have H1 : (laws_FnExactMetCells.j1 kj10 t619 t622 t629 (t632 != t622) a0_0 a0_1 l0_2) = some true := by rw [if_pos rfl] at H; exact H
         clear H
         have H := H1
         clear H1
         have H' := Aside0.mk H
         clear H
         obtain ⟨Ao48, co48, eo48⟩ := Kd.R_slice HO_7.out
         subst eo48
         obtain ⟨Ao49, co49, eo49⟩ := Kd.R_slice HO_4.out
         subst eo49
         go_wp2_with (first | (go_at_call 27; (with_reducible refine (laws_eqIntS.calls kj10 _ _ t629 _ _ t619 true _ ?side1 ?side2 ?side3 ?side4 A46.out).mono ?_); (case side1 => repeat (first | exact (Kd.R_reads' HO_7.out).2.2 | (with_reducible refine Kd.C_alloc ?_ _) | (with_reducible refine Kd.C_drewN ?_ _) | (with_reducible refine Kd.C_drew ?_))); (case side2 => exact (Kd.R_reads' HO_7.out).2.1); (case side3 => repeat (first | exact (Kd.R_reads' HO_4.out).2.2 | (with_reducible refine Kd.C_alloc ?_ _) | (with_reducible refine Kd.C_drewN ?_ _) | (with_reducible refine Kd.C_drew ?_))); (case side4 => exact (Kd.R_reads' HO_4.out).2.1); rintro e w' ⟨rfl, ⟨nd, rfl⟩⟩))
         go_meet
         case rel => exact ⟨_, ((t632 != t622)), (by first | rfl | (simp; done) | (simp [*]; done)), H', ⟨by have := HJ10.out; first | omega | exact Nat.le_refl _⟩, ⟨viaR HO_4⟩, ⟨viaR HO_7⟩, ⟨by (with_reducible repeat (first | apply Kd.R_alloc | apply Kd.R_drewN | apply Kd.R_drew)); exact Kd.R_mono HO_629002.out (fun _ hk => trivial)⟩, ⟨viaK BK612⟩, ⟨viaK BK628⟩, ⟨viaB HB⟩⟩
        ·(rw [if_neg c47] at H; exact absurd H (laws_FnExactMetCells.bad_j1 _ _ _ _ _ _ _))
      case rest =>
       clear HC37
       (try clear c32); (try clear c35)
       (try clear hcz43_0); (try clear hcz43_1); (try clear hcz43_2); (try clear hfz43_0); (try clear hfz43_1); (try clear hfz43_2)
       obtain ⟨kq, x61_36, rfl, HA, HJ36, HO_4, HO_7, HO_629002, BK612, BK628, HB⟩ := hcut
       have hl629002_36 := (Kd.R_reads' HO_629002.out).1
       rw [hl629002_36] at HO_629002
       (try simp only [hl629002_36])
       (try simp only [hl629002_36] at BK612)
       (try simp only [hl629002_36] at BK628)
       (try simp only [hl629002_36] at HO_4)
       (try simp only [hl629002_36] at HO_7)
       cases kq with
       | zero => exact absurd HA.out (by simp [laws_FnExactMetCells.j1])
       | succ kj36 =>
        have H := HA.out
        clear HA
        simp only [laws_FnExactMetCells.j1] at H
        by_cases c52 : x61_36 = true
        ·(rw [if_pos c52] at H; exact absurd H (by decide))
        ·replace c52 := Bool.eq_false_iff.mpr c52
         subst c52
         have H1 : ((laws_markIntS.f kj36 t629 1).bind fun bt643 => ((laws_heldIntS.f kj36 bt643.2 1).bind fun t645 => (if t645 < 0 then (some false) else (if t645 = bt643.1 then ((laws_toBoard.f kj36 a0_0 a0_1 l0_2).bind fun bt646 => ((impl_MetCells.f kj36 bt646.1 bt646.2.1 bt646.2.2).bind fun bt651 => ((laws_eqIntS.f kj36 bt651.1 t619).bind fun t655 => (if t655 = true then (laws_FnExactMetCells.j2 kj36 bt643.2 bt643.1 (bt651.2 != t622)) else (laws_FnExactMetCells.j2 kj36 bt643.2 bt643.1 true))))) else (some false))))) = some true := by rw [if_neg (show ¬ (false = true) by decide)] at H; exact H
         clear H
         have H := H1
         clear H1
         replace H := Option.bind_eq_some_iff.mp H
         obtain ⟨⟨t643, t644⟩, A530, H⟩ := H
         replace H : ((laws_heldIntS.f kj36 t644 1).bind fun t645 => (if t645 < 0 then (some false) else (if t645 = t643 then ((laws_toBoard.f kj36 a0_0 a0_1 l0_2).bind fun bt646 => ((impl_MetCells.f kj36 bt646.1 bt646.2.1 bt646.2.2).bind fun bt651 => ((laws_eqIntS.f kj36 bt651.1 t619).bind fun t655 => (if t655 = true then (laws_FnExactMetCells.j2 kj36 t644 t643 (bt651.2 != t622)) else (laws_FnExactMetCells.j2 kj36 t644 t643 true))))) else (some false)))) = some true := H
         have A53 := Aside0.mk A530
         clear A530
         replace H := Option.bind_eq_some_iff.mp H
         obtain ⟨t645, A540, H⟩ := H
         replace H : (if t645 < 0 then (some false) else (if t645 = t643 then ((laws_toBoard.f kj36 a0_0 a0_1 l0_2).bind fun bt646 => ((impl_MetCells.f kj36 bt646.1 bt646.2.1 bt646.2.2).bind fun bt651 => ((laws_eqIntS.f kj36 bt651.1 t619).bind fun t655 => (if t655 = true then (laws_FnExactMetCells.j2 kj36 t644 t643 (bt651.2 != t622)) else (laws_FnExactMetCells.j2 kj36 t644 t643 true))))) else (some false))) = some true := H
         have A54 := Aside0.mk A540
         clear A540
         by_cases c55 : t645 < 0
         ·(rw [if_pos c55] at H; exact absurd H (by decide))
         ·rw [if_neg c55] at H
          have c55b0 := decide_eq_false c55
          (try simp only [hl629002_36] at c55b0)
          clear c55
          by_cases c58 : t645 = t643
          ·rw [if_pos c58] at H
           have c58b0 := beq_iff_eq.mpr c58
           have c58b1 := bne_eq_false_iff_eq.mpr c58
           clear c58
           replace H := Option.bind_eq_some_iff.mp H
           obtain ⟨⟨t646, t647, t648⟩, A590, H⟩ := H
           replace H : ((impl_MetCells.f kj36 t646 t647 t648).bind fun bt651 => ((laws_eqIntS.f kj36 bt651.1 t619).bind fun t655 => (if t655 = true then (laws_FnExactMetCells.j2 kj36 t644 t643 (bt651.2 != t622)) else (laws_FnExactMetCells.j2 kj36 t644 t643 true)))) = some true := H
           have A59 := Aside0.mk A590
           clear A590
           replace H := Option.bind_eq_some_iff.mp H
           obtain ⟨⟨t651, t654⟩, A600, H⟩ := H
           replace H : ((laws_eqIntS.f kj36 t651 t619).bind fun t655 => (if t655 = true then (laws_FnExactMetCells.j2 kj36 t644 t643 (t654 != t622)) else (laws_FnExactMetCells.j2 kj36 t644 t643 true))) = some true := H
           have A60 := Aside0.mk A600
           clear A600
           have HC61 := Aside0.mk H
           clear H
           obtain ⟨Ao62, co62, eo62⟩ := Kd.R_slice HO_7.out
           subst eo62
           go_upto_region 25 with (first | ((with_reducible refine gate_callee (f := 28) rfl ?_); refine goesA (some 64) _ #[.slice Ao62 t629.length co62, .int .i64 1] ?_ Try.func28; (with_reducible refine (laws_markIntS.calls kj36 (fun k_ => some k_ = (.slice Ao62 t629.length co62 : Value).ownBlock) (.slice Ao62 t629.length co62) t629 1 t643 t644 w _ ?side1 ?side2 A53.out).mono ?_); (case side1 => repeat (first | (with_reducible first | exact HB.out | apply below_alloc | apply pw_below_drewN | apply below_drew1 | refine below_set ?_ GE612.out | refine below_set ?_ GE628.out) | exact HB.out)); (case side2 => exact Kd.R_tight rfl HO_7.out); rintro e w63 ⟨rfl, hy0, hb, hkp⟩; refine ⟨_, rfl, ?_⟩; replace HO_4 := Aside0.mk (Kd.R_mono (ok' := fun k_ => some k_ ≠ (.slice Ao62 t629.length co62 : Value).ownBlock) (Kd.R_keptB (HO_4.out) hkp (fun k_ hk_ hs_ => (hk_) hs_)) (fun k_ hk_ => hk_.1)); replace HO_629002 := Aside0.mk (Kd.R_mono (ok' := fun k_ => True) (Kd.R_keptB ((Kd.R_apart' HO_629002.out (Kd.R_typed HO_7.out) (by decide))) hkp (fun k_ hk_ hs_ => (hk_.2) hs_)) (fun k_ hk_ => trivial)); replace BK612 := Aside0.mk (blk_kept (viaK BK612) hkp (fun hs_ => (fun e_ => (Kd.R_ne HO_7.out BK612.out (by decide)) e_) hs_)); replace BK628 := Aside0.mk (blk_kept (viaK BK628) hkp (fun hs_ => (fun e_ => (Kd.R_ne HO_7.out BK628.out (by decide)) e_) hs_)); replace HO_7 := Aside0.mk (Kd.R_reok rfl hy0 (fun k_ e_ => HO_7.out.1 k_ e_)); replace HB := Aside0.mk (hb); (try clear hb); (try clear hkp); (try clear hy0)) | ((with_reducible refine gate_callee (f := 29) rfl ?_); refine goesL_ (some 67) rfl rfl Try.func29 (by kernel_rfl) rfl #[.slice Ao62 t644.length co62, .int .i64 1] rfl (by (try simp only [List.map_toArray, List.map_cons, List.map_nil]); first | done | (rw [show t644.length = t629.length from (Kd.R_reads' HO_7.out).1.symm] <;> rfl) | rfl | (simp only [List.length_drop, List.length_take]; rfl)) ?_; (with_reducible refine (laws_heldIntS.calls kj36 _ _ t644 1 t645 _ ?side1 ?side2 A54.out).mono ?_); (case side1 => repeat (first | exact (Kd.R_reads' HO_7.out).2.2 | (with_reducible refine Kd.C_alloc ?_ _) | (with_reducible refine Kd.C_drewN ?_ _) | (with_reducible refine Kd.C_drew ?_))); (case side2 => rw [show t644.length = t629.length from (Kd.R_reads' HO_7.out).1.symm]; exact (Kd.R_reads' HO_7.out).2.1); rintro e w' ⟨rfl, ⟨nd, rfl⟩⟩; refine ⟨_, rfl, ?_⟩; have hnb64 := NB612_628.out; have hnc64 := NB628_612.out; have hcz65_0 := bc0 BK612; have hcz65_1 := bc1 BK612; have hcz65_2 := bc2 BK612; have hfz65_0 := blk_frozen BK612.out 0; have hfz65_1 := blk_frozen BK612.out 1; have hfz65_2 := blk_frozen BK612.out 2) | ((with_reducible refine gate_callee (f := 15) rfl ?_); refine goesA (some 75) _ #[.agg #[.int .i64 a0_0, .int .i64 a0_1, .slice A0_2 l0_2.length c0_2]] ?_ Try.func15; (with_reducible refine (laws_toBoard.calls kj36 a0_0 a0_1 _ _ l0_2 t646 t647 t648 _ ?side1 ?side2 A59.out).mono ?_); (case side1 => repeat (first | exact (Kd.C_below HR0_2.out (viaB HB)) | (with_reducible refine Kd.C_alloc ?_ _) | (with_reducible refine Kd.C_drewN ?_ _) | (with_reducible refine Kd.C_drew ?_))); (case side2 => exact HC0_2.out); rintro e w66 ⟨v649, rfl, ho0, hb⟩; refine ⟨_, rfl, ?_⟩; have HO650 := Aside0.mk (Kd.R_lower (Kd.R_new' ho0 (Kd.R_lt (viaR HO_629002))) (below_size (viaB HB))); replace HO_4 := Aside0.mk (Kd.R_below (viaR HO_4) hb); replace HO_7 := Aside0.mk (Kd.R_below (viaR HO_7) hb); replace HO_629002 := Aside0.mk (Kd.R_elder' (viaR HO_629002) (Kd.R_base ho0) hb); replace BK612 := kB BK612 hb; replace BK628 := kB BK628 hb; replace HB := bB HB hb; (try clear hb); (try clear hb2); (try clear hk); (try clear hi); (try clear ho0); obtain ⟨Ao67, co67, eo67⟩ := Kd.R_slice HO650.out; subst eo67) | ((with_reducible refine gate_callee (f := 31) rfl ?_); refine goesA (some 76) _ #[.agg #[.int .i64 t646, .int .i64 t647, .slice Ao67 t648.length co67]] ?_ Try.func31; (with_reducible refine (impl_MetCells.calls kj36 t646 t647 _ _ t648 t651 t654 _ ?side1 ?side2 A60.out).mono ?_); (case side1 => repeat (first | exact (Kd.R_reads' HO650.out).2.2 | (with_reducible refine Kd.C_alloc ?_ _) | (with_reducible refine Kd.C_drewN ?_ _) | (with_reducible refine Kd.C_drew ?_))); (case side2 => exact (Kd.R_reads' HO650.out).2.1); rintro e w68 ⟨v652, rfl, ho0, hb⟩; refine ⟨_, rfl, ?_⟩; have HO653 := Aside0.mk (Kd.R_lower (Kd.R_new' (Kd.R_new' ho0 (Kd.R_lt (viaR HO_4))) (Kd.R_lt (viaR HO_7))) (below_size (viaB HB))); replace HO_4 := Aside0.mk (Kd.R_elder' (viaR HO_4) (Kd.R_base ho0) hb); replace HO_7 := Aside0.mk (Kd.R_elder' (viaR HO_7) (Kd.R_base ho0) hb); replace HO_629002 := Aside0.mk (Kd.R_below (viaR HO_629002) hb); replace HO650 := Aside0.mk (Kd.R_below (viaR HO650) hb); replace BK612 := kB BK612 hb; replace BK628 := kB BK628 hb; replace HB := bB HB hb; (try clear hb); (try clear hb2); (try clear hk); (try clear hi); (try clear ho0)))
           (try simp only [Act.put, q1, q2, q3])
           go_cut [87] (fun v87 wc => ∃ (kq : Nat) (x87_60 : Bool), v87 = .bool x87_60 ∧ Aside0 (laws_FnExactMetCells.j2 kq t644 t643 x87_60 = some true) ∧ Aside0 (kq ≤ kj36) ∧ Aside0 (Kd.R (Kd.int .i64) 3 wc w.heap.size (fun _ => True) (.slice Ao62 t629.length co62) t644) ∧ Aside0 (Kd.R k89 89 wc w.heap.size (fun _ => True) (.slice Ao24 t641.length co24) t641) ∧ Aside0 (wc.heap[gb612]? = some (.cells #[.int .i64 a0_0, .int .i64 a0_1, (.slice A0_2 l0_2.length c0_2)] 24 (0, 0))) ∧ Aside0 (wc.heap[gb628]? = some (.cells #[.int .i64 t623, .int .i64 t624, (.slice Ao24 t641.length co24)] 32 (0, 0))) ∧ Aside0 (Below w.heap.size w wc))
           case first =>
            have H := HC61.out
            clear HC61
            replace H := Option.bind_eq_some_iff.mp H
            obtain ⟨t655, A690, H⟩ := H
            replace H : (if t655 = true then (laws_FnExactMetCells.j2 kj36 t644 t643 (t654 != t622)) else (laws_FnExactMetCells.j2 kj36 t644 t643 true)) = some true := H
            have A69 := Aside0.mk A690
            clear A690
            by_cases c70 : t655 = true
            ·subst c70
             have H1 : (laws_FnExactMetCells.j2 kj36 t644 t643 (t654 != t622)) = some true := by rw [if_pos rfl] at H; exact H
             clear H
             have H := H1
             clear H1
             have H' := Aside0.mk H
             clear H
             obtain ⟨Ao71, co71, eo71⟩ := Kd.R_slice HO653.out
             subst eo71
             obtain ⟨Ao72, co72, eo72⟩ := Kd.R_slice HO_4.out
             subst eo72
             go_wp2_with (first | ((with_reducible refine gate_callee (f := 27) rfl ?_); refine goesA (some 81) _ #[.slice Ao71 t651.length co71, .slice Ao72 t619.length co72] ?_ Try.func27; (with_reducible refine (laws_eqIntS.calls kj36 _ _ t651 _ _ t619 true _ ?side1 ?side2 ?side3 ?side4 A69.out).mono ?_); (case side1 => repeat (first | exact (Kd.R_reads' HO653.out).2.2 | (with_reducible refine Kd.C_alloc ?_ _) | (with_reducible refine Kd.C_drewN ?_ _) | (with_reducible refine Kd.C_drew ?_))); (case side2 => exact (Kd.R_reads' HO653.out).2.1); (case side3 => repeat (first | exact (Kd.R_reads' HO_4.out).2.2 | (with_reducible refine Kd.C_alloc ?_ _) | (with_reducible refine Kd.C_drewN ?_ _) | (with_reducible refine Kd.C_drew ?_))); (case side4 => exact (Kd.R_reads' HO_4.out).2.1); rintro e w' ⟨rfl, ⟨nd, rfl⟩⟩; refine ⟨_, rfl, ?_⟩))
             go_meet
             case rel => exact ⟨_, ((t654 != t622)), (by first | rfl | (simp; done) | (simp [*]; done)), H', ⟨by have := HJ10.out; have := HJ36.out; first | omega | exact Nat.le_refl _⟩, ⟨by (try simp only [hl629002_36]); (with_reducible repeat (first | apply Kd.R_alloc | apply Kd.R_drewN | apply Kd.R_drew)); exact Kd.R_mono HO_7.out (fun _ hk => trivial)⟩, ⟨by (try simp only [hl629002_36]); (with_reducible repeat (first | apply Kd.R_alloc | apply Kd.R_drewN | apply Kd.R_drew)); exact Kd.R_mono HO_629002.out (fun _ hk => trivial)⟩, ⟨by (try simp only [hl629002_36]); (with_reducible repeat (first | refine blk_drewN ?_ _ | refine blk_drew ?_ | refine blk_alloc ?_ _)); exact BK612.out⟩, ⟨by (try simp only [hl629002_36]); (with_reducible repeat (first | refine blk_drewN ?_ _ | refine blk_drew ?_ | refine blk_alloc ?_ _)); exact BK628.out⟩, ⟨viaB HB⟩⟩
            ·(rw [if_neg c70] at H; exact absurd H (laws_FnExactMetCells.bad_j2 _ _ _))
           case rest =>
            clear HC61
            (try clear c52); (try clear c55b0); (try clear c58b0); (try clear c58b1)
            (try clear hcz65_0); (try clear hcz65_1); (try clear hcz65_2); (try clear hfz65_0); (try clear hfz65_1); (try clear hfz65_2)
            obtain ⟨kq, x87_60, rfl, HA, HJ60, HO_7, HO_629002, BK612, BK628, HB⟩ := hcut
            have hl7_60 := (Kd.R_reads' HO_7.out).1
            rw [hl7_60] at HO_7
            (try simp only [hl7_60])
            (try simp only [hl7_60] at BK612)
            (try simp only [hl7_60] at BK628)
            (try simp only [hl7_60] at HO_629002)
            cases kq with
            | zero => exact absurd HA.out (by simp [laws_FnExactMetCells.j2])
            | succ kj60 =>
             have H := HA.out
             clear HA
             simp only [laws_FnExactMetCells.j2] at H
             by_cases c75 : x87_60 = true
             ·(rw [if_pos c75] at H; exact absurd H (by decide))
             ·replace c75 := Bool.eq_false_iff.mpr c75
              subst c75
              have H1 : ((laws_heldIntS.f kj60 t644 1).bind fun t656 => (if t656 < 0 then (some false) else (if t656 = t643 then (some true) else (some false)))) = some true := by rw [if_neg (show ¬ (false = true) by decide)] at H; exact H
              clear H
              have H := H1
              clear H1
              replace H := Option.bind_eq_some_iff.mp H
              obtain ⟨t656, A760, H⟩ := H
              replace H : (if t656 < 0 then (some false) else (if t656 = t643 then (some true) else (some false))) = some true := H
              have A76 := Aside0.mk A760
              clear A760
              by_cases c77 : t656 < 0
              ·(rw [if_pos c77] at H; exact absurd H (by decide))
              ·rw [if_neg c77] at H
               have c77b0 := decide_eq_false c77
               (try simp only [hl629002_36] at c77b0)
               (try simp only [hl7_60] at c77b0)
               clear c77
               by_cases c78 : t656 = t643
               ·rw [if_pos c78] at H
                have c78b0 := beq_iff_eq.mpr c78
                have c78b1 := bne_eq_false_iff_eq.mpr c78
                clear c78
                clear H
                go_wp2_with (first | ((with_reducible refine gate_callee (f := 29) rfl ?_); refine goesA (some 90) _ #[.slice Ao62 t644.length co62, .int .i64 1] ?_ Try.func29; (with_reducible refine (laws_heldIntS.calls kj60 _ _ t644 1 t656 _ ?side1 ?side2 A76.out).mono ?_); (case side1 => repeat (first | exact (Kd.R_reads' HO_7.out).2.2 | (with_reducible refine Kd.C_alloc ?_ _) | (with_reducible refine Kd.C_drewN ?_ _) | (with_reducible refine Kd.C_drew ?_))); (case side2 => exact (Kd.R_reads' HO_7.out).2.1); rintro e w' ⟨rfl, ⟨nd, rfl⟩⟩; refine ⟨_, rfl, ?_⟩))
                go_ret
                exact ⟨by first | rfl | (simp [errW_none, errW_some] <;> rfl) | (simp [*, errW_none, errW_some] <;> rfl), viaB HB⟩
               ·(rw [if_neg c78] at H; exact absurd H (by decide))
          ·(rw [if_neg c58] at H; exact absurd H (by decide))
     ·(rw [if_neg c35] at H; exact absurd H (by decide))

end Go.Proofs.Ytoklfgjemfojgaa.PAll
