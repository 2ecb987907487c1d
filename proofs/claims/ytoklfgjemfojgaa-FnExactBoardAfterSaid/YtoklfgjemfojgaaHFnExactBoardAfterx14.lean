/- This text began as one that print.sh wrote for this claim (of the functions named below); it is this session's own: turned where Lean did not take the printed proof, where it was too long for a claim, or only in what it imports. -/
import Derived.Test.YtoklfgjemfojgaaHFnExactBoardAfterx0
import Derived.Test.YtoklfgjemfojgaaHFnExactBoardAfterx1
import Derived.Test.YtoklfgjemfojgaaHFnExactBoardAfterx8
import Derived.Test.YtoklfgjemfojgaaHFnExactBoardAfterx13
namespace Go.Proofs.Ytoklfgjemfojgaa.PFnExactBoardAfter
open Go.RowKit Go.Proofs.YtoklfgjemfojgaaW.PrintWords Go.Proofs.YtoklfgjemfojgaaW.PrintLast Go.Proofs.YtoklfgjemfojgaaW.PrintMore
attribute [local go_sem] max2_int min2_int max_two min_two max_three min_three max_four min_four   -- for this text's walks alone
set_option linter.unusedVariables false
set_option linter.unusedSimpArgs false

/-! ### laws_FnExactBoardAfter: function 5 -/
mutual
def laws_FnExactBoardAfter.j0 : Nat → Int → Bool → Bool → Bool → Int → Int → List (S91) → Int → Int → List (S89) → Int → Int → List (S89) → Int → Int → List (S89) → Option (Bool)
 | 0, _, _, _, _, _, _, _, _, _, _, _, _, _, _, _, _ => none
 | k + 1, x1, x7, x10, x44, x377000, x377001, x377002, x390000, x390001, x390002, x396000, x396001, x396002, x403000, x403001, x403002 => if x44 = true then (some false) else ((laws_toBoard.f k x377000 x377001 x377002).bind fun bt404 => ((laws_eqBoard.f k x396000 x396001 x396002 bt404.1 bt404.2.1 bt404.2.2).bind fun t409 => (if t409 = true then ((laws_markBoard.f k x396000 x396001 x396002 1).bind fun bt410 => (if bt410.1 < 0 then (laws_FnExactBoardAfter.j1 k x1 x7 true x377000 x377001 x377002 x390000 x390001 x390002 x403000 x403001 x403002) else ((laws_eqBoard.f k x403000 x403001 x403002 x390000 x390001 x390002).bind fun t412 => (if t412 = true then (laws_FnExactBoardAfter.j1 k x1 x7 (x10 != x7) x377000 x377001 x377002 x390000 x390001 x390002 x403000 x403001 x403002) else (laws_FnExactBoardAfter.j1 k x1 x7 true x377000 x377001 x377002 x390000 x390001 x390002 x403000 x403001 x403002))))) else (some false))))
def laws_FnExactBoardAfter.j1 : Nat → Int → Bool → Bool → Int → Int → List (S91) → Int → Int → List (S89) → Int → Int → List (S89) → Option (Bool)
 | 0, _, _, _, _, _, _, _, _, _, _, _, _ => none
 | k + 1, x1, x7, x65, x377000, x377001, x377002, x390000, x390001, x390002, x403000, x403001, x403002 => if x65 = true then (some false) else ((laws_markBoard.f k x403000 x403001 x403002 1).bind fun bt413 => ((laws_heldBoard.f k x403000 x403001 bt413.2 1).bind fun t415 => (if t415 < 0 then (some false) else (if t415 = bt413.1 then ((laws_toBoard.f k x377000 x377001 x377002).bind fun bt416 => ((impl_BoardAfter.f k bt416.1 bt416.2.1 bt416.2.2 x1).bind fun bt421 => ((laws_eqBoard.f k bt421.1 bt421.2.1 bt421.2.2.1 x390000 x390001 x390002).bind fun t428 => (if t428 = true then (laws_FnExactBoardAfter.j2 k bt413.1 (bt421.2.2.2 != x7) x403000 x403001 bt413.2) else (laws_FnExactBoardAfter.j2 k bt413.1 true x403000 x403001 bt413.2))))) else (some false)))))
def laws_FnExactBoardAfter.j2 : Nat → Int → Bool → Int → Int → List (S89) → Option (Bool)
 | 0, _, _, _, _, _ => none
 | k + 1, x12, x92, x403000, x403001, x403002 => if x92 = true then (some false) else ((laws_heldBoard.f k x403000 x403001 x403002 1).bind fun t429 => (if t429 < 0 then (some false) else (if t429 = x12 then (some true) else (some false))))
end
def laws_FnExactBoardAfter.f (k : Nat) (a0_0 : Int) (a0_1 : Int) (l0_2 : List (S91)) (a1 : Int) : Option (Bool) := (laws_szBoard.f a0_0 a0_1 l0_2 1048576).bind fun t377 => (if t377 < 0 then (some true) else ((laws_toBoard.f k a0_0 a0_1 l0_2).bind fun bt378 => ((spec_BoardAfter.f k bt378.1 bt378.2.1 bt378.2.2 a1).bind fun bt383 => ((laws_toBoard.f k a0_0 a0_1 l0_2).bind fun bt390 => ((impl_BoardAfter.f k bt390.1 bt390.2.1 bt390.2.2 a1).bind fun bt396 => ((laws_eqBoard.f k bt396.1 bt396.2.1 bt396.2.2.1 bt383.1 bt383.2.1 bt383.2.2.1).bind fun t403 => (if t403 = true then (laws_FnExactBoardAfter.j0 k a1 bt383.2.2.2 bt396.2.2.2 (bt396.2.2.2 != bt383.2.2.2) a0_0 a0_1 l0_2 bt383.1 bt383.2.1 bt383.2.2.1 bt390.1 bt390.2.1 bt390.2.2 bt396.1 bt396.2.1 bt396.2.2.1) else (laws_FnExactBoardAfter.j0 k a1 bt383.2.2.2 bt396.2.2.2 true a0_0 a0_1 l0_2 bt383.1 bt383.2.1 bt383.2.2.1 bt390.1 bt390.2.1 bt390.2.2 bt396.1 bt396.2.1 bt396.2.2.1))))))))
theorem laws_FnExactBoardAfter.mono_l : ∀ k, (∀ y0 y1 y2 y3 y4 y5 y6 y7 y8 y9 y10 y11 y12 y13 y14 y15, LeO (laws_FnExactBoardAfter.j0 k y0 y1 y2 y3 y4 y5 y6 y7 y8 y9 y10 y11 y12 y13 y14 y15) (laws_FnExactBoardAfter.j0 (k + 1) y0 y1 y2 y3 y4 y5 y6 y7 y8 y9 y10 y11 y12 y13 y14 y15)) ∧ (∀ y0 y1 y2 y3 y4 y5 y6 y7 y8 y9 y10 y11, LeO (laws_FnExactBoardAfter.j1 k y0 y1 y2 y3 y4 y5 y6 y7 y8 y9 y10 y11) (laws_FnExactBoardAfter.j1 (k + 1) y0 y1 y2 y3 y4 y5 y6 y7 y8 y9 y10 y11)) ∧ (∀ y0 y1 y2 y3 y4, LeO (laws_FnExactBoardAfter.j2 k y0 y1 y2 y3 y4) (laws_FnExactBoardAfter.j2 (k + 1) y0 y1 y2 y3 y4))
 | 0 => ⟨fun _ _ _ _ _ _ _ _ _ _ _ _ _ _ _ _ r h => by simp [laws_FnExactBoardAfter.j0] at h, fun _ _ _ _ _ _ _ _ _ _ _ _ r h => by simp [laws_FnExactBoardAfter.j1] at h, fun _ _ _ _ _ r h => by simp [laws_FnExactBoardAfter.j2] at h⟩
 | k + 1 => by
  obtain ⟨ih0, ih1, ih2⟩ := laws_FnExactBoardAfter.mono_l k
  refine ⟨?_, ?_, ?_⟩
  ·intro y0 y1 y2 y3 y4 y5 y6 y7 y8 y9 y10 y11 y12 y13 y14 y15
   unfold laws_FnExactBoardAfter.j0
   repeat' first
   | (with_reducible exact ih0 _ _ _ _ _ _ _ _ _ _ _ _ _ _ _ _)
   | (with_reducible exact ih1 _ _ _ _ _ _ _ _ _ _ _ _)
   | (with_reducible exact ih2 _ _ _ _ _)
   | (with_reducible exact impl_BoardAfter.mono _ _ _ _ _)
   | (with_reducible exact laws_eqBoard.mono _ _ _ _ _ _ _)
   | (with_reducible exact laws_heldBoard.mono _ _ _ _ _)
   | (with_reducible exact laws_markBoard.mono _ _ _ _ _)
   | (with_reducible exact laws_toBoard.mono _ _ _ _)
   | (with_reducible exact spec_BoardAfter.mono _ _ _ _ _)
   | (with_reducible exact LeO.refl _)
   | (with_reducible exact LeO.none _)
   | (with_reducible refine LeO.ite ?_ ?_)
   | (with_reducible refine LeO.bind ?_ (fun _ => ?_))
   | exact ih0 _ _ _ _ _ _ _ _ _ _ _ _ _ _ _ _
   | exact ih1 _ _ _ _ _ _ _ _ _ _ _ _
   | exact ih2 _ _ _ _ _
   | exact impl_BoardAfter.mono _ _ _ _ _
   | exact laws_eqBoard.mono _ _ _ _ _ _ _
   | exact laws_heldBoard.mono _ _ _ _ _
   | exact laws_markBoard.mono _ _ _ _ _
   | exact laws_toBoard.mono _ _ _ _
   | exact spec_BoardAfter.mono _ _ _ _ _
   | exact LeO.none _
   | refine LeO.ite ?_ ?_
   | refine LeO.bind ?_ (fun _ => ?_)
  ·intro y0 y1 y2 y3 y4 y5 y6 y7 y8 y9 y10 y11
   unfold laws_FnExactBoardAfter.j1
   repeat' first
   | (with_reducible exact ih0 _ _ _ _ _ _ _ _ _ _ _ _ _ _ _ _)
   | (with_reducible exact ih1 _ _ _ _ _ _ _ _ _ _ _ _)
   | (with_reducible exact ih2 _ _ _ _ _)
   | (with_reducible exact impl_BoardAfter.mono _ _ _ _ _)
   | (with_reducible exact laws_eqBoard.mono _ _ _ _ _ _ _)
   | (with_reducible exact laws_heldBoard.mono _ _ _ _ _)
   | (with_reducible exact laws_markBoard.mono _ _ _ _ _)
   | (with_reducible exact laws_toBoard.mono _ _ _ _)
   | (with_reducible exact spec_BoardAfter.mono _ _ _ _ _)
   | (with_reducible exact LeO.refl _)
   | (with_reducible exact LeO.none _)
   | (with_reducible refine LeO.ite ?_ ?_)
   | (with_reducible refine LeO.bind ?_ (fun _ => ?_))
   | exact ih0 _ _ _ _ _ _ _ _ _ _ _ _ _ _ _ _
   | exact ih1 _ _ _ _ _ _ _ _ _ _ _ _
   | exact ih2 _ _ _ _ _
   | exact impl_BoardAfter.mono _ _ _ _ _
   | exact laws_eqBoard.mono _ _ _ _ _ _ _
   | exact laws_heldBoard.mono _ _ _ _ _
   | exact laws_markBoard.mono _ _ _ _ _
   | exact laws_toBoard.mono _ _ _ _
   | exact spec_BoardAfter.mono _ _ _ _ _
   | exact LeO.none _
   | refine LeO.ite ?_ ?_
   | refine LeO.bind ?_ (fun _ => ?_)
  ·intro y0 y1 y2 y3 y4
   unfold laws_FnExactBoardAfter.j2
   repeat' first
   | (with_reducible exact ih0 _ _ _ _ _ _ _ _ _ _ _ _ _ _ _ _)
   | (with_reducible exact ih1 _ _ _ _ _ _ _ _ _ _ _ _)
   | (with_reducible exact ih2 _ _ _ _ _)
   | (with_reducible exact impl_BoardAfter.mono _ _ _ _ _)
   | (with_reducible exact laws_eqBoard.mono _ _ _ _ _ _ _)
   | (with_reducible exact laws_heldBoard.mono _ _ _ _ _)
   | (with_reducible exact laws_markBoard.mono _ _ _ _ _)
   | (with_reducible exact laws_toBoard.mono _ _ _ _)
   | (with_reducible exact spec_BoardAfter.mono _ _ _ _ _)
   | (with_reducible exact LeO.refl _)
   | (with_reducible exact LeO.none _)
   | (with_reducible refine LeO.ite ?_ ?_)
   | (with_reducible refine LeO.bind ?_ (fun _ => ?_))
   | exact ih0 _ _ _ _ _ _ _ _ _ _ _ _ _ _ _ _
   | exact ih1 _ _ _ _ _ _ _ _ _ _ _ _
   | exact ih2 _ _ _ _ _
   | exact impl_BoardAfter.mono _ _ _ _ _
   | exact laws_eqBoard.mono _ _ _ _ _ _ _
   | exact laws_heldBoard.mono _ _ _ _ _
   | exact laws_markBoard.mono _ _ _ _ _
   | exact laws_toBoard.mono _ _ _ _
   | exact spec_BoardAfter.mono _ _ _ _ _
   | exact LeO.none _
   | refine LeO.ite ?_ ?_
   | refine LeO.bind ?_ (fun _ => ?_)
theorem laws_FnExactBoardAfter.mono : ∀ a0 a1 a2 a3 k, LeO (laws_FnExactBoardAfter.f k a0 a1 a2 a3) (laws_FnExactBoardAfter.f (k + 1) a0 a1 a2 a3) := by
 intro a0 a1 a2 a3 k
 obtain ⟨ih0, ih1, ih2⟩ := laws_FnExactBoardAfter.mono_l k
 unfold laws_FnExactBoardAfter.f
 repeat' first
   | (with_reducible exact ih0 _ _ _ _ _ _ _ _ _ _ _ _ _ _ _ _)
   | (with_reducible exact ih1 _ _ _ _ _ _ _ _ _ _ _ _)
   | (with_reducible exact ih2 _ _ _ _ _)
   | (with_reducible exact impl_BoardAfter.mono _ _ _ _ _)
   | (with_reducible exact laws_eqBoard.mono _ _ _ _ _ _ _)
   | (with_reducible exact laws_heldBoard.mono _ _ _ _ _)
   | (with_reducible exact laws_markBoard.mono _ _ _ _ _)
   | (with_reducible exact laws_toBoard.mono _ _ _ _)
   | (with_reducible exact spec_BoardAfter.mono _ _ _ _ _)
   | (with_reducible exact LeO.refl _)
   | (with_reducible exact LeO.none _)
   | (with_reducible refine LeO.ite ?_ ?_)
   | (with_reducible refine LeO.bind ?_ (fun _ => ?_))
   | exact ih0 _ _ _ _ _ _ _ _ _ _ _ _ _ _ _ _
   | exact ih1 _ _ _ _ _ _ _ _ _ _ _ _
   | exact ih2 _ _ _ _ _
   | exact impl_BoardAfter.mono _ _ _ _ _
   | exact laws_eqBoard.mono _ _ _ _ _ _ _
   | exact laws_heldBoard.mono _ _ _ _ _
   | exact laws_markBoard.mono _ _ _ _ _
   | exact laws_toBoard.mono _ _ _ _
   | exact spec_BoardAfter.mono _ _ _ _ _
   | exact LeO.none _
   | refine LeO.ite ?_ ?_
   | refine LeO.bind ?_ (fun _ => ?_)
theorem laws_FnExactBoardAfter.bad_j0 (k : Nat) (y0 : Int) (y1 : Bool) (y2 : Bool) (y4 : Int) (y5 : Int) (y6 : List (S91)) (y7 : Int) (y8 : Int) (y9 : List (S89)) (y10 : Int) (y11 : Int) (y12 : List (S89)) (y13 : Int) (y14 : Int) (y15 : List (S89)) : ¬ laws_FnExactBoardAfter.j0 k y0 y1 y2 true y4 y5 y6 y7 y8 y9 y10 y11 y12 y13 y14 y15 = some true := by
 cases k <;> simp [laws_FnExactBoardAfter.j0]
theorem laws_FnExactBoardAfter.bad_j1 (k : Nat) (y0 : Int) (y1 : Bool) (y3 : Int) (y4 : Int) (y5 : List (S91)) (y6 : Int) (y7 : Int) (y8 : List (S89)) (y9 : Int) (y10 : Int) (y11 : List (S89)) : ¬ laws_FnExactBoardAfter.j1 k y0 y1 true y3 y4 y5 y6 y7 y8 y9 y10 y11 = some true := by
 cases k <;> simp [laws_FnExactBoardAfter.j1]
theorem laws_FnExactBoardAfter.bad_j2 (k : Nat) (y0 : Int) (y2 : Int) (y3 : Int) (y4 : List (S89)) : ¬ laws_FnExactBoardAfter.j2 k y0 true y2 y3 y4 = some true := by
 cases k <;> simp [laws_FnExactBoardAfter.j2]
set_option maxHeartbeats 8000000 in
set_option maxRecDepth 100000 in
theorem laws_FnExactBoardAfter.calls (k : Nat) (a0_0 : Int) (a0_1 : Int) (A0_2 : Option Addr) (c0_2 : Nat) (l0_2 : List (S91)) (a1 : Int) (w : World) (hr0_2 : Kd.C k91 w A0_2 l0_2.length l0_2) (hc0_2 : l0_2.length ≤ c0_2) (h : laws_FnExactBoardAfter.f k a0_0 a0_1 l0_2 a1 = some true) :
  Calls Try.prog 5 #[.agg #[.int .i64 a0_0, .int .i64 a0_1, .slice A0_2 l0_2.length c0_2], .int .i64 a1] w fun e w' => e = .returned (.bool true) ∧ Below w.heap.size w w' := by
 have hu24 := Try.underlying24
 have hu32 := Try.underlying32
 have HR0_2 := Aside0.mk hr0_2
 have HC0_2 := Aside0.mk hc0_2
 clear hr0_2 hc0_2
 have HB := Aside0.mk (Below.refl w.heap.size w)
 have H : ((laws_szBoard.f a0_0 a0_1 l0_2 1048576).bind fun t377 => (if t377 < 0 then (some true) else ((laws_toBoard.f k a0_0 a0_1 l0_2).bind fun bt378 => ((spec_BoardAfter.f k bt378.1 bt378.2.1 bt378.2.2 a1).bind fun bt383 => ((laws_toBoard.f k a0_0 a0_1 l0_2).bind fun bt390 => ((impl_BoardAfter.f k bt390.1 bt390.2.1 bt390.2.2 a1).bind fun bt396 => ((laws_eqBoard.f k bt396.1 bt396.2.1 bt396.2.2.1 bt383.1 bt383.2.1 bt383.2.2.1).bind fun t403 => (if t403 = true then (laws_FnExactBoardAfter.j0 k a1 bt383.2.2.2 bt396.2.2.2 (bt396.2.2.2 != bt383.2.2.2) a0_0 a0_1 l0_2 bt383.1 bt383.2.1 bt383.2.2.1 bt390.1 bt390.2.1 bt390.2.2 bt396.1 bt396.2.1 bt396.2.2.1) else (laws_FnExactBoardAfter.j0 k a1 bt383.2.2.2 bt396.2.2.2 true a0_0 a0_1 l0_2 bt383.1 bt383.2.1 bt383.2.2.1 bt390.1 bt390.2.1 bt390.2.2 bt396.1 bt396.2.1 bt396.2.2.1))))))))) = some true := h
 clear h
 replace H := Option.bind_eq_some_iff.mp H
 obtain ⟨t377, A30, H⟩ := H
 replace H : (if t377 < 0 then (some true) else ((laws_toBoard.f k a0_0 a0_1 l0_2).bind fun bt378 => ((spec_BoardAfter.f k bt378.1 bt378.2.1 bt378.2.2 a1).bind fun bt383 => ((laws_toBoard.f k a0_0 a0_1 l0_2).bind fun bt390 => ((impl_BoardAfter.f k bt390.1 bt390.2.1 bt390.2.2 a1).bind fun bt396 => ((laws_eqBoard.f k bt396.1 bt396.2.1 bt396.2.2.1 bt383.1 bt383.2.1 bt383.2.2.1).bind fun t403 => (if t403 = true then (laws_FnExactBoardAfter.j0 k a1 bt383.2.2.2 bt396.2.2.2 (bt396.2.2.2 != bt383.2.2.2) a0_0 a0_1 l0_2 bt383.1 bt383.2.1 bt383.2.2.1 bt390.1 bt390.2.1 bt390.2.2 bt396.1 bt396.2.1 bt396.2.2.1) else (laws_FnExactBoardAfter.j0 k a1 bt383.2.2.2 bt396.2.2.2 true a0_0 a0_1 l0_2 bt383.1 bt383.2.1 bt383.2.2.1 bt390.1 bt390.2.1 bt390.2.2 bt396.1 bt396.2.1 bt396.2.2.1)))))))) = some true := H
 have A3 := Aside0.mk A30
 clear A30
 by_cases c4 : t377 < 0
 ·rw [if_pos c4] at H
  have c4b0 := decide_eq_true c4
  clear c4
  clear H
  go_enter Try.func5, Try.ntmps5
  go_wp2_with (first | ((with_reducible refine gate_dst (N := 2) rfl ?_); refine box_ev (N := 2) (cs := #[.int .i64 a0_0, .int .i64 a0_1, .slice A0_2 l0_2.length c0_2]) (t := 24) ?_; intro gb376 hg w5 hbox hb; have BK376 := Aside0.mk (hbox); have GW376 := gW (w := w) HB hg; have GE376 := gW (w := w) HB hg; replace HB := bB HB hb; clear hb hbox hg; have hcz6_0 := bc0 BK376; have hcz6_1 := bc1 BK376; have hcz6_2 := bc2 BK376; have hfz6_0 := blk_frozen BK376.out 0; have hfz6_1 := blk_frozen BK376.out 1; have hfz6_2 := blk_frozen BK376.out 2) | ((with_reducible refine gate_callee (f := 13) rfl ?_); refine goesA (some 18) _ #[.agg #[.int .i64 a0_0, .int .i64 a0_1, .slice A0_2 l0_2.length c0_2], .int .i64 1048576] ?_ Try.func13; (with_reducible refine (laws_szBoard.calls a0_0 a0_1 _ _ l0_2 1048576 t377 _ ?side1 ?side2 A3.out).mono ?_); (case side1 => repeat (first | exact (Kd.C_below HR0_2.out HB.out) | (with_reducible refine Kd.C_alloc ?_ _) | (with_reducible refine Kd.C_drewN ?_ _) | (with_reducible refine Kd.C_drew ?_))); (case side2 => exact HC0_2.out); rintro e w7 ⟨rfl, hb⟩; refine ⟨_, rfl, ?_⟩; replace BK376 := kB BK376 hb; replace HB := bB HB hb; (try clear hb); (try clear hb2); (try clear hk); (try clear hi)))
  go_ret
  exact ⟨by first | rfl | (simp [errW_none, errW_some] <;> rfl) | (simp [*, errW_none, errW_some] <;> rfl), viaB HB⟩
 ·rw [if_neg c4] at H
  have c4b0 := decide_eq_false c4
  clear c4
  replace H := Option.bind_eq_some_iff.mp H
  obtain ⟨⟨t378, t379, t380⟩, A80, H⟩ := H
  replace H : ((spec_BoardAfter.f k t378 t379 t380 a1).bind fun bt383 => ((laws_toBoard.f k a0_0 a0_1 l0_2).bind fun bt390 => ((impl_BoardAfter.f k bt390.1 bt390.2.1 bt390.2.2 a1).bind fun bt396 => ((laws_eqBoard.f k bt396.1 bt396.2.1 bt396.2.2.1 bt383.1 bt383.2.1 bt383.2.2.1).bind fun t403 => (if t403 = true then (laws_FnExactBoardAfter.j0 k a1 bt383.2.2.2 bt396.2.2.2 (bt396.2.2.2 != bt383.2.2.2) a0_0 a0_1 l0_2 bt383.1 bt383.2.1 bt383.2.2.1 bt390.1 bt390.2.1 bt390.2.2 bt396.1 bt396.2.1 bt396.2.2.1) else (laws_FnExactBoardAfter.j0 k a1 bt383.2.2.2 bt396.2.2.2 true a0_0 a0_1 l0_2 bt383.1 bt383.2.1 bt383.2.2.1 bt390.1 bt390.2.1 bt390.2.2 bt396.1 bt396.2.1 bt396.2.2.1)))))) = some true := H
  have A8 := Aside0.mk A80
  clear A80
  replace H := Option.bind_eq_some_iff.mp H
  obtain ⟨⟨t383, t384, t385, t388⟩, A90, H⟩ := H
  replace H : ((laws_toBoard.f k a0_0 a0_1 l0_2).bind fun bt390 => ((impl_BoardAfter.f k bt390.1 bt390.2.1 bt390.2.2 a1).bind fun bt396 => ((laws_eqBoard.f k bt396.1 bt396.2.1 bt396.2.2.1 t383 t384 t385).bind fun t403 => (if t403 = true then (laws_FnExactBoardAfter.j0 k a1 t388 bt396.2.2.2 (bt396.2.2.2 != t388) a0_0 a0_1 l0_2 t383 t384 t385 bt390.1 bt390.2.1 bt390.2.2 bt396.1 bt396.2.1 bt396.2.2.1) else (laws_FnExactBoardAfter.j0 k a1 t388 bt396.2.2.2 true a0_0 a0_1 l0_2 t383 t384 t385 bt390.1 bt390.2.1 bt390.2.2 bt396.1 bt396.2.1 bt396.2.2.1))))) = some true := H
  have A9 := Aside0.mk A90
  clear A90
  replace H := Option.bind_eq_some_iff.mp H
  obtain ⟨⟨t390, t391, t392⟩, A100, H⟩ := H
  replace H : ((impl_BoardAfter.f k t390 t391 t392 a1).bind fun bt396 => ((laws_eqBoard.f k bt396.1 bt396.2.1 bt396.2.2.1 t383 t384 t385).bind fun t403 => (if t403 = true then (laws_FnExactBoardAfter.j0 k a1 t388 bt396.2.2.2 (bt396.2.2.2 != t388) a0_0 a0_1 l0_2 t383 t384 t385 t390 t391 t392 bt396.1 bt396.2.1 bt396.2.2.1) else (laws_FnExactBoardAfter.j0 k a1 t388 bt396.2.2.2 true a0_0 a0_1 l0_2 t383 t384 t385 t390 t391 t392 bt396.1 bt396.2.1 bt396.2.2.1)))) = some true := H
  have A10 := Aside0.mk A100
  clear A100
  replace H := Option.bind_eq_some_iff.mp H
  obtain ⟨⟨t396, t397, t398, t401⟩, A110, H⟩ := H
  replace H : ((laws_eqBoard.f k t396 t397 t398 t383 t384 t385).bind fun t403 => (if t403 = true then (laws_FnExactBoardAfter.j0 k a1 t388 t401 (t401 != t388) a0_0 a0_1 l0_2 t383 t384 t385 t390 t391 t392 t396 t397 t398) else (laws_FnExactBoardAfter.j0 k a1 t388 t401 true a0_0 a0_1 l0_2 t383 t384 t385 t390 t391 t392 t396 t397 t398))) = some true := H
  have A11 := Aside0.mk A110
  clear A110
  have HC12 := Aside0.mk H
  clear H
  go_enter Try.func5, Try.ntmps5
  go_upto_region 8 with (first | ((with_reducible refine gate_dst (N := 2) rfl ?_); refine box_ev (N := 2) (cs := #[.int .i64 a0_0, .int .i64 a0_1, .slice A0_2 l0_2.length c0_2]) (t := 24) ?_; intro gb376 hg w13 hbox hb; have BK376 := Aside0.mk (hbox); have GW376 := gW (w := w) HB hg; have GE376 := gW (w := w) HB hg; replace HB := bB HB hb; clear hb hbox hg; have hcz14_0 := bc0 BK376; have hcz14_1 := bc1 BK376; have hcz14_2 := bc2 BK376; have hfz14_0 := blk_frozen BK376.out 0; have hfz14_1 := blk_frozen BK376.out 1; have hfz14_2 := blk_frozen BK376.out 2) | ((with_reducible refine gate_callee (f := 13) rfl ?_); refine goesA (some 18) _ #[.agg #[.int .i64 a0_0, .int .i64 a0_1, .slice A0_2 l0_2.length c0_2], .int .i64 1048576] ?_ Try.func13; (with_reducible refine (laws_szBoard.calls a0_0 a0_1 _ _ l0_2 1048576 t377 _ ?side1 ?side2 A3.out).mono ?_); (case side1 => repeat (first | exact (Kd.C_below HR0_2.out HB.out) | (with_reducible refine Kd.C_alloc ?_ _) | (with_reducible refine Kd.C_drewN ?_ _) | (with_reducible refine Kd.C_drew ?_))); (case side2 => exact HC0_2.out); rintro e w15 ⟨rfl, hb⟩; refine ⟨_, rfl, ?_⟩; replace BK376 := kB BK376 hb; replace HB := bB HB hb; (try clear hb); (try clear hb2); (try clear hk); (try clear hi); have hcz16_0 := bc0 BK376; have hcz16_1 := bc1 BK376; have hcz16_2 := bc2 BK376; have hfz16_0 := blk_frozen BK376.out 0; have hfz16_1 := blk_frozen BK376.out 1; have hfz16_2 := blk_frozen BK376.out 2) | ((with_reducible refine gate_callee (f := 15) rfl ?_); refine goesA (some 23) _ #[.agg #[.int .i64 a0_0, .int .i64 a0_1, .slice A0_2 l0_2.length c0_2]] ?_ Try.func15; (with_reducible refine (laws_toBoard.calls k a0_0 a0_1 _ _ l0_2 t378 t379 t380 _ ?side1 ?side2 A8.out).mono ?_); (case side1 => repeat (first | exact (Kd.C_below HR0_2.out HB.out) | (with_reducible refine Kd.C_alloc ?_ _) | (with_reducible refine Kd.C_drewN ?_ _) | (with_reducible refine Kd.C_drew ?_))); (case side2 => exact HC0_2.out); rintro e w17 ⟨v381, rfl, ho0, hb⟩; refine ⟨_, rfl, ?_⟩; have HO382 := Aside0.mk (Kd.R_lower ho0 (below_size (viaB HB))); replace BK376 := kB BK376 hb; replace HB := bB HB hb; (try clear hb); (try clear hb2); (try clear hk); (try clear hi); (try clear ho0); obtain ⟨Ao18, co18, eo18⟩ := Kd.R_slice HO382.out; subst eo18) | ((with_reducible refine gate_callee (f := 21) rfl ?_); refine goesA (some 25) _ #[.agg #[.int .i64 t378, .int .i64 t379, .slice Ao18 t380.length co18], .int .i64 a1] ?_ Try.func21; (with_reducible refine (spec_BoardAfter.calls k t378 t379 _ _ t380 a1 t383 t384 t385 t388 _ ?side1 ?side2 A9.out).mono ?_); (case side1 => repeat (first | exact (Kd.R_reads' HO382.out).2.2 | (with_reducible refine Kd.C_alloc ?_ _) | (with_reducible refine Kd.C_drewN ?_ _) | (with_reducible refine Kd.C_drew ?_))); (case side2 => exact (Kd.R_reads' HO382.out).2.1); rintro e w19 ⟨v386, rfl, ho0, hb⟩; refine ⟨_, rfl, ?_⟩; have HO387 := Aside0.mk (Kd.R_lower (Kd.R_new' ho0 (Kd.R_lt (viaR HO382))) (below_size (viaB HB))); replace HO382 := Aside0.mk (Kd.R_elder' (viaR HO382) (Kd.R_base ho0) hb); replace BK376 := kB BK376 hb; replace HB := bB HB hb; (try clear hb); (try clear hb2); (try clear hk); (try clear hi); (try clear ho0)) | ((with_reducible refine gate_dst (N := 6) rfl ?_); refine box_ev (N := 6) (cs := #[.int .i64 0, .int .i64 0, .slice none 0 0]) (t := 32) ?_; intro gb389 hg w20 hbox hb; have BK389 := Aside0.mk (hbox); have GW389 := gW (w := w) HB hg; have GE389 := gW (w := w) HB hg; have NB376_389 := neL BK376 hg; have NB389_376 := neG BK376 hg; replace HO382 := Aside0.mk (Kd.R_below (viaR HO382) hb); replace HO387 := Aside0.mk (Kd.R_below (viaR HO387) hb); replace BK376 := kB BK376 hb; replace HB := bB HB hb; clear hb hbox hg; have hnb21 := NB389_376.out; have hnc21 := NB376_389.out; have hcz22_0 := bc0 BK389; have hcz22_1 := bc1 BK389; have hcz22_2 := bc2 BK389; have hfz22_0 := blk_frozen BK389.out 0; have hfz22_1 := blk_frozen BK389.out 1; have hfz22_2 := blk_frozen BK389.out 2; obtain ⟨Ao23, co23, eo23⟩ := Kd.R_slice HO387.out; subst eo23; have hcz24_0 := bc0 BK376; have hcz24_1 := bc1 BK376; have hcz24_2 := bc2 BK376; have hfz24_0 := blk_frozen BK376.out 0; have hfz24_1 := blk_frozen BK376.out 1; have hfz24_2 := blk_frozen BK376.out 2) | ((with_reducible refine gate_callee (f := 15) rfl ?_); refine goesA (some 29) _ #[.agg #[.int .i64 a0_0, .int .i64 a0_1, .slice A0_2 l0_2.length c0_2]] ?_ Try.func15; (with_reducible refine (laws_toBoard.calls k a0_0 a0_1 _ _ l0_2 t390 t391 t392 _ ?side1 ?side2 A10.out).mono ?_); (case side1 => exact Kd.C_below HR0_2.out (viaB HB)); (case side2 => exact HC0_2.out); rintro e w25 ⟨v393, rfl, ho0, hb⟩; refine ⟨_, rfl, ?_⟩; have HO394 := Aside0.mk (Kd.R_lower (Kd.R_new' (Kd.R_new' ho0 (Kd.R_lt (by (with_reducible repeat (first | apply Kd.R_alloc | apply Kd.R_drewN | apply Kd.R_drew)); exact (Kd.R_mono (Kd.R_far (p := ⟨gb389, 2, none⟩) (Kd.R_far (p := ⟨gb389, 1, none⟩) (Kd.R_far (p := ⟨gb389, 0, none⟩) (Kd.R_types HO382.out BK389.out (by decide)) (fun _ hk => hk.2) (.int .i64 t383)) (fun _ hk => hk.2) (.int .i64 t384)) (fun _ hk => hk.2) (.slice Ao23 t385.length co23)) (fun _ h_ => h_.1))))) (Kd.R_lt (by (with_reducible repeat (first | apply Kd.R_alloc | apply Kd.R_drewN | apply Kd.R_drew)); exact (Kd.R_mono (Kd.R_far (p := ⟨gb389, 2, none⟩) (Kd.R_far (p := ⟨gb389, 1, none⟩) (Kd.R_far (p := ⟨gb389, 0, none⟩) (Kd.R_types HO387.out BK389.out (by decide)) (fun _ hk => hk.2) (.int .i64 t383)) (fun _ hk => hk.2) (.int .i64 t384)) (fun _ hk => hk.2) (.slice Ao23 t385.length co23)) (fun _ h_ => h_.1))))) (below_size (viaB HB))); replace HO382 := Aside0.mk (Kd.R_elder' (by (with_reducible repeat (first | apply Kd.R_alloc | apply Kd.R_drewN | apply Kd.R_drew)); exact (Kd.R_mono (Kd.R_far (p := ⟨gb389, 2, none⟩) (Kd.R_far (p := ⟨gb389, 1, none⟩) (Kd.R_far (p := ⟨gb389, 0, none⟩) (Kd.R_types HO382.out BK389.out (by decide)) (fun _ hk => hk.2) (.int .i64 t383)) (fun _ hk => hk.2) (.int .i64 t384)) (fun _ hk => hk.2) (.slice Ao23 t385.length co23)) (fun _ h_ => h_.1))) (Kd.R_base ho0) hb); replace HO387 := Aside0.mk (Kd.R_elder' (by (with_reducible repeat (first | apply Kd.R_alloc | apply Kd.R_drewN | apply Kd.R_drew)); exact (Kd.R_mono (Kd.R_far (p := ⟨gb389, 2, none⟩) (Kd.R_far (p := ⟨gb389, 1, none⟩) (Kd.R_far (p := ⟨gb389, 0, none⟩) (Kd.R_types HO387.out BK389.out (by decide)) (fun _ hk => hk.2) (.int .i64 t383)) (fun _ hk => hk.2) (.int .i64 t384)) (fun _ hk => hk.2) (.slice Ao23 t385.length co23)) (fun _ h_ => h_.1))) (Kd.R_base ho0) hb); replace BK376 := Aside0.mk (blk_below (g := gb376) (o := .cells #[.int .i64 a0_0, .int .i64 a0_1, .slice A0_2 l0_2.length c0_2] 24 (0, 0)) (by (with_reducible repeat (first | refine blk_drewN ?_ _ | refine blk_drew ?_ | refine blk_alloc ?_ _)); refine blk_far ?_ NB376_389.out _; (with_reducible repeat (first | refine blk_drewN ?_ _ | refine blk_drew ?_ | refine blk_alloc ?_ _)); refine blk_far ?_ NB376_389.out _; (with_reducible repeat (first | refine blk_drewN ?_ _ | refine blk_drew ?_ | refine blk_alloc ?_ _)); refine blk_far ?_ NB376_389.out _; (with_reducible repeat (first | refine blk_drewN ?_ _ | refine blk_drew ?_ | refine blk_alloc ?_ _)); exact BK376.out) hb); replace BK389 := Aside0.mk (blk_below (g := gb389) (o := .cells #[.int .i64 t383, .int .i64 t384, .slice Ao23 t385.length co23] 32 (0, 0)) (by (with_reducible repeat (first | refine blk_drewN ?_ _ | refine blk_drew ?_ | refine blk_alloc ?_ _)); refine blk_put (cs := #[.int .i64 t383, .int .i64 t384, .slice none 0 0]) ?_ 2 _ rfl; (with_reducible repeat (first | refine blk_drewN ?_ _ | refine blk_drew ?_ | refine blk_alloc ?_ _)); refine blk_put (cs := #[.int .i64 t383, .int .i64 0, .slice none 0 0]) ?_ 1 _ rfl; (with_reducible repeat (first | refine blk_drewN ?_ _ | refine blk_drew ?_ | refine blk_alloc ?_ _)); refine blk_put (cs := #[.int .i64 0, .int .i64 0, .slice none 0 0]) ?_ 0 _ rfl; (with_reducible repeat (first | refine blk_drewN ?_ _ | refine blk_drew ?_ | refine blk_alloc ?_ _)); exact BK389.out) hb); replace HB := bB HB hb; (try clear hb); (try clear hb2); (try clear hk); (try clear hi); (try clear ho0)) | ((with_reducible refine gate_dst (N := 8) rfl ?_); refine box_ev (N := 8) (cs := #[.int .i64 0, .int .i64 0, .slice none 0 0]) (t := 32) ?_; intro gb395 hg w26 hbox hb; have BK395 := Aside0.mk (hbox); have GW395 := gW (w := w) HB hg; have GE395 := gW (w := w) HB hg; have NB376_395 := neL BK376 hg; have NB395_376 := neG BK376 hg; have NB389_395 := neL BK389 hg; have NB395_389 := neG BK389 hg; replace HO382 := Aside0.mk (Kd.R_below (viaR HO382) hb); replace HO387 := Aside0.mk (Kd.R_below (viaR HO387) hb); replace HO394 := Aside0.mk (Kd.R_below (viaR HO394) hb); replace BK376 := kB BK376 hb; replace BK389 := kB BK389 hb; replace HB := bB HB hb; clear hb hbox hg; have hnb27 := NB395_376.out; have hnc27 := NB376_395.out; have hnb28 := NB395_389.out; have hnc28 := NB389_395.out; have hcz29_0 := bc0 BK395; have hcz29_1 := bc1 BK395; have hcz29_2 := bc2 BK395; have hfz29_0 := blk_frozen BK395.out 0; have hfz29_1 := blk_frozen BK395.out 1; have hfz29_2 := blk_frozen BK395.out 2; obtain ⟨Ao30, co30, eo30⟩ := Kd.R_slice HO394.out; subst eo30) | ((with_reducible refine gate_callee (f := 22) rfl ?_); refine goesA (some 33) _ #[.agg #[.int .i64 t390, .int .i64 t391, .slice Ao30 t392.length co30], .int .i64 a1] ?_ Try.func22; (with_reducible refine (impl_BoardAfter.calls k t390 t391 _ _ t392 a1 t396 t397 t398 t401 _ ?side1 ?side2 A11.out).mono ?_); (case side1 => refine (Kd.R_reads' (e := 89) (base := w.heap.size) (ok := fun k_ => ((True ∧ some k_ ≠ (.slice Ao18 t380.length co18 : Value).ownBlock) ∧ some k_ ≠ (.slice Ao23 t385.length co23 : Value).ownBlock)) (n := t392.length) (c := co30) ?_).2.2; exact (by (with_reducible repeat (first | apply Kd.R_alloc | apply Kd.R_drewN | apply Kd.R_drew)); exact (Kd.R_mono (Kd.R_far (p := ⟨gb395, 2, none⟩) (Kd.R_far (p := ⟨gb395, 1, none⟩) (Kd.R_far (p := ⟨gb395, 0, none⟩) (Kd.R_types HO394.out BK395.out (by decide)) (fun _ hk => hk.2) (.int .i64 t390)) (fun _ hk => hk.2) (.int .i64 t391)) (fun _ hk => hk.2) (.slice Ao30 t392.length co30)) (fun _ h_ => h_.1)))); (case side2 => exact (Kd.R_reads' HO394.out).2.1); rintro e w31 ⟨v399, rfl, ho0, hb⟩; refine ⟨_, rfl, ?_⟩; have HO400 := Aside0.mk (Kd.R_lower (Kd.R_new' (Kd.R_new' (Kd.R_new' ho0 (Kd.R_lt (by (with_reducible repeat (first | apply Kd.R_alloc | apply Kd.R_drewN | apply Kd.R_drew)); exact (Kd.R_mono (Kd.R_far (p := ⟨gb395, 2, none⟩) (Kd.R_far (p := ⟨gb395, 1, none⟩) (Kd.R_far (p := ⟨gb395, 0, none⟩) (Kd.R_types HO382.out BK395.out (by decide)) (fun _ hk => hk.2) (.int .i64 t390)) (fun _ hk => hk.2) (.int .i64 t391)) (fun _ hk => hk.2) (.slice Ao30 t392.length co30)) (fun _ h_ => h_.1))))) (Kd.R_lt (by (with_reducible repeat (first | apply Kd.R_alloc | apply Kd.R_drewN | apply Kd.R_drew)); exact (Kd.R_mono (Kd.R_far (p := ⟨gb395, 2, none⟩) (Kd.R_far (p := ⟨gb395, 1, none⟩) (Kd.R_far (p := ⟨gb395, 0, none⟩) (Kd.R_types HO387.out BK395.out (by decide)) (fun _ hk => hk.2) (.int .i64 t390)) (fun _ hk => hk.2) (.int .i64 t391)) (fun _ hk => hk.2) (.slice Ao30 t392.length co30)) (fun _ h_ => h_.1))))) (Kd.R_lt (by (with_reducible repeat (first | apply Kd.R_alloc | apply Kd.R_drewN | apply Kd.R_drew)); exact (Kd.R_mono (Kd.R_far (p := ⟨gb395, 2, none⟩) (Kd.R_far (p := ⟨gb395, 1, none⟩) (Kd.R_far (p := ⟨gb395, 0, none⟩) (Kd.R_types HO394.out BK395.out (by decide)) (fun _ hk => hk.2) (.int .i64 t390)) (fun _ hk => hk.2) (.int .i64 t391)) (fun _ hk => hk.2) (.slice Ao30 t392.length co30)) (fun _ h_ => h_.1))))) (below_size (viaB HB))); replace HO382 := Aside0.mk (Kd.R_elder' (by (with_reducible repeat (first | apply Kd.R_alloc | apply Kd.R_drewN | apply Kd.R_drew)); exact (Kd.R_mono (Kd.R_far (p := ⟨gb395, 2, none⟩) (Kd.R_far (p := ⟨gb395, 1, none⟩) (Kd.R_far (p := ⟨gb395, 0, none⟩) (Kd.R_types HO382.out BK395.out (by decide)) (fun _ hk => hk.2) (.int .i64 t390)) (fun _ hk => hk.2) (.int .i64 t391)) (fun _ hk => hk.2) (.slice Ao30 t392.length co30)) (fun _ h_ => h_.1))) (Kd.R_base ho0) hb); replace HO387 := Aside0.mk (Kd.R_elder' (by (with_reducible repeat (first | apply Kd.R_alloc | apply Kd.R_drewN | apply Kd.R_drew)); exact (Kd.R_mono (Kd.R_far (p := ⟨gb395, 2, none⟩) (Kd.R_far (p := ⟨gb395, 1, none⟩) (Kd.R_far (p := ⟨gb395, 0, none⟩) (Kd.R_types HO387.out BK395.out (by decide)) (fun _ hk => hk.2) (.int .i64 t390)) (fun _ hk => hk.2) (.int .i64 t391)) (fun _ hk => hk.2) (.slice Ao30 t392.length co30)) (fun _ h_ => h_.1))) (Kd.R_base ho0) hb); replace HO394 := Aside0.mk (Kd.R_elder' (by (with_reducible repeat (first | apply Kd.R_alloc | apply Kd.R_drewN | apply Kd.R_drew)); exact (Kd.R_mono (Kd.R_far (p := ⟨gb395, 2, none⟩) (Kd.R_far (p := ⟨gb395, 1, none⟩) (Kd.R_far (p := ⟨gb395, 0, none⟩) (Kd.R_types HO394.out BK395.out (by decide)) (fun _ hk => hk.2) (.int .i64 t390)) (fun _ hk => hk.2) (.int .i64 t391)) (fun _ hk => hk.2) (.slice Ao30 t392.length co30)) (fun _ h_ => h_.1))) (Kd.R_base ho0) hb); replace BK376 := Aside0.mk (blk_below (g := gb376) (o := .cells #[.int .i64 a0_0, .int .i64 a0_1, .slice A0_2 l0_2.length c0_2] 24 (0, 0)) (by (with_reducible repeat (first | refine blk_drewN ?_ _ | refine blk_drew ?_ | refine blk_alloc ?_ _)); refine blk_far ?_ NB376_395.out _; (with_reducible repeat (first | refine blk_drewN ?_ _ | refine blk_drew ?_ | refine blk_alloc ?_ _)); refine blk_far ?_ NB376_395.out _; (with_reducible repeat (first | refine blk_drewN ?_ _ | refine blk_drew ?_ | refine blk_alloc ?_ _)); refine blk_far ?_ NB376_395.out _; (with_reducible repeat (first | refine blk_drewN ?_ _ | refine blk_drew ?_ | refine blk_alloc ?_ _)); exact BK376.out) hb); replace BK389 := Aside0.mk (blk_below (g := gb389) (o := .cells #[.int .i64 t383, .int .i64 t384, .slice Ao23 t385.length co23] 32 (0, 0)) (by (with_reducible repeat (first | refine blk_drewN ?_ _ | refine blk_drew ?_ | refine blk_alloc ?_ _)); refine blk_far ?_ NB389_395.out _; (with_reducible repeat (first | refine blk_drewN ?_ _ | refine blk_drew ?_ | refine blk_alloc ?_ _)); refine blk_far ?_ NB389_395.out _; (with_reducible repeat (first | refine blk_drewN ?_ _ | refine blk_drew ?_ | refine blk_alloc ?_ _)); refine blk_far ?_ NB389_395.out _; (with_reducible repeat (first | refine blk_drewN ?_ _ | refine blk_drew ?_ | refine blk_alloc ?_ _)); exact BK389.out) hb); replace BK395 := Aside0.mk (blk_below (g := gb395) (o := .cells #[.int .i64 t390, .int .i64 t391, .slice Ao30 t392.length co30] 32 (0, 0)) (by (with_reducible repeat (first | refine blk_drewN ?_ _ | refine blk_drew ?_ | refine blk_alloc ?_ _)); refine blk_put (cs := #[.int .i64 t390, .int .i64 t391, .slice none 0 0]) ?_ 2 _ rfl; (with_reducible repeat (first | refine blk_drewN ?_ _ | refine blk_drew ?_ | refine blk_alloc ?_ _)); refine blk_put (cs := #[.int .i64 t390, .int .i64 0, .slice none 0 0]) ?_ 1 _ rfl; (with_reducible repeat (first | refine blk_drewN ?_ _ | refine blk_drew ?_ | refine blk_alloc ?_ _)); refine blk_put (cs := #[.int .i64 0, .int .i64 0, .slice none 0 0]) ?_ 0 _ rfl; (with_reducible repeat (first | refine blk_drewN ?_ _ | refine blk_drew ?_ | refine blk_alloc ?_ _)); exact BK395.out) hb); replace HB := bB HB hb; (try clear hb); (try clear hb2); (try clear hk); (try clear hi); (try clear ho0)) | ((with_reducible refine gate_dst (N := 9) rfl ?_); refine box_ev (N := 9) (cs := #[.int .i64 0, .int .i64 0, .slice none 0 0]) (t := 32) ?_; intro gb402 hg w32 hbox hb; have BK402 := Aside0.mk (hbox); have GW402 := gW (w := w) HB hg; have GE402 := gW (w := w) HB hg; have NB376_402 := neL BK376 hg; have NB402_376 := neG BK376 hg; have NB389_402 := neL BK389 hg; have NB402_389 := neG BK389 hg; have NB395_402 := neL BK395 hg; have NB402_395 := neG BK395 hg; replace HO382 := Aside0.mk (Kd.R_below (viaR HO382) hb); replace HO387 := Aside0.mk (Kd.R_below (viaR HO387) hb); replace HO394 := Aside0.mk (Kd.R_below (viaR HO394) hb); replace HO400 := Aside0.mk (Kd.R_below (viaR HO400) hb); replace BK376 := kB BK376 hb; replace BK389 := kB BK389 hb; replace BK395 := kB BK395 hb; replace HB := bB HB hb; clear hb hbox hg; have hnb33 := NB402_376.out; have hnc33 := NB376_402.out; have hnb34 := NB402_389.out; have hnc34 := NB389_402.out; have hnb35 := NB402_395.out; have hnc35 := NB395_402.out; have hcz36_0 := bc0 BK402; have hcz36_1 := bc1 BK402; have hcz36_2 := bc2 BK402; have hfz36_0 := blk_frozen BK402.out 0; have hfz36_1 := blk_frozen BK402.out 1; have hfz36_2 := blk_frozen BK402.out 2; obtain ⟨Ao37, co37, eo37⟩ := Kd.R_slice HO400.out; subst eo37))
  (try simp only [Act.put, q1, q2, q3])
  go_cut [44] (fun v44 wc => ∃ (kq : Nat) (x44_11 : Bool), v44 = .bool x44_11 ∧ Aside0 (laws_FnExactBoardAfter.j0 kq a1 t388 t401 x44_11 a0_0 a0_1 l0_2 t383 t384 t385 t390 t391 t392 t396 t397 t398 = some true) ∧ Aside0 (kq ≤ k) ∧ Aside0 (Kd.R k89 89 wc w.heap.size (fun k_ => some k_ ≠ ((.slice Ao30 t392.length co30) : Value).ownBlock ∧ some k_ ≠ ((.slice Ao37 t398.length co37) : Value).ownBlock) (.slice Ao23 t385.length co23) t385) ∧ Aside0 (Kd.R k89 89 wc w.heap.size (fun k_ => some k_ ≠ ((.slice Ao23 t385.length co23) : Value).ownBlock ∧ some k_ ≠ ((.slice Ao37 t398.length co37) : Value).ownBlock) (.slice Ao30 t392.length co30) t392) ∧ Aside0 (Kd.R k89 89 wc w.heap.size (fun k_ => some k_ ≠ ((.slice Ao23 t385.length co23) : Value).ownBlock ∧ some k_ ≠ ((.slice Ao30 t392.length co30) : Value).ownBlock) (.slice Ao37 t398.length co37) t398) ∧ Aside0 (wc.heap[gb376]? = some (.cells #[.int .i64 a0_0, .int .i64 a0_1, (.slice A0_2 l0_2.length c0_2)] 24 (0, 0))) ∧ Aside0 (wc.heap[gb389]? = some (.cells #[.int .i64 t383, .int .i64 t384, (.slice Ao23 t385.length co23)] 32 (0, 0))) ∧ Aside0 (wc.heap[gb395]? = some (.cells #[.int .i64 t390, .int .i64 t391, (.slice Ao30 t392.length co30)] 32 (0, 0))) ∧ Aside0 (wc.heap[gb402]? = some (.cells #[.int .i64 t396, .int .i64 t397, (.slice Ao37 t398.length co37)] 32 (0, 0))) ∧ Aside0 (Below w.heap.size w wc))
  case first =>
   have H := HC12.out
   clear HC12
   replace H := Option.bind_eq_some_iff.mp H
   obtain ⟨t403, A380, H⟩ := H
   replace H : (if t403 = true then (laws_FnExactBoardAfter.j0 k a1 t388 t401 (t401 != t388) a0_0 a0_1 l0_2 t383 t384 t385 t390 t391 t392 t396 t397 t398) else (laws_FnExactBoardAfter.j0 k a1 t388 t401 true a0_0 a0_1 l0_2 t383 t384 t385 t390 t391 t392 t396 t397 t398)) = some true := H
   have A38 := Aside0.mk A380
   clear A380
   by_cases c39 : t403 = true
   ·subst c39
    have H1 : (laws_FnExactBoardAfter.j0 k a1 t388 t401 (t401 != t388) a0_0 a0_1 l0_2 t383 t384 t385 t390 t391 t392 t396 t397 t398) = some true := by rw [if_pos rfl] at H; exact H
    clear H
    have H := H1
    clear H1
    have H' := Aside0.mk H
    clear H
    have hnb40 := NB402_376.out
    have hnc40 := NB376_402.out
    have hnb41 := NB402_389.out
    have hnc41 := NB389_402.out
    have hnb42 := NB402_395.out
    have hnc42 := NB395_402.out
    have hcz43_0 := bc0 BK402
    have hcz43_1 := bc1 BK402
    have hcz43_2 := bc2 BK402
    have hfz43_0 := blk_frozen BK402.out 0
    have hfz43_1 := blk_frozen BK402.out 1
    have hfz43_2 := blk_frozen BK402.out 2
    have hnb44 := NB389_376.out
    have hnc44 := NB376_389.out
    have hnb45 := NB389_395.out
    have hnc45 := NB395_389.out
    have hcz46_0 := bc0 BK389
    have hcz46_1 := bc1 BK389
    have hcz46_2 := bc2 BK389
    have hfz46_0 := blk_frozen BK389.out 0
    have hfz46_1 := blk_frozen BK389.out 1
    have hfz46_2 := blk_frozen BK389.out 2
    go_wp2_with (first | ((with_reducible refine gate_callee (f := 18) rfl ?_); refine goesA (some 38) _ #[.agg #[.int .i64 t396, .int .i64 t397, .slice Ao37 t398.length co37], .agg #[.int .i64 t383, .int .i64 t384, .slice Ao23 t385.length co23]] ?_ Try.func18; (with_reducible refine (laws_eqBoard.calls k t396 t397 _ _ t398 t383 t384 _ _ t385 true _ ?side1 ?side2 ?side3 ?side4 A38.out).mono ?_); (case side1 => refine (Kd.R_reads' (e := 89) (base := w.heap.size) (ok := fun k_ => (((True ∧ some k_ ≠ (.slice Ao18 t380.length co18 : Value).ownBlock) ∧ some k_ ≠ (.slice Ao23 t385.length co23 : Value).ownBlock) ∧ some k_ ≠ (.slice Ao30 t392.length co30 : Value).ownBlock)) (n := t398.length) (c := co37) ?_).2.2; exact (by (with_reducible repeat (first | apply Kd.R_alloc | apply Kd.R_drewN | apply Kd.R_drew)); exact (Kd.R_mono (Kd.R_far (p := ⟨gb402, 2, none⟩) (Kd.R_far (p := ⟨gb402, 1, none⟩) (Kd.R_far (p := ⟨gb402, 0, none⟩) (Kd.R_types HO400.out BK402.out (by decide)) (fun _ hk => hk.2) (.int .i64 t396)) (fun _ hk => hk.2) (.int .i64 t397)) (fun _ hk => hk.2) (.slice Ao37 t398.length co37)) (fun _ h_ => h_.1)))); (case side2 => exact (Kd.R_reads' HO400.out).2.1); (case side3 => refine (Kd.R_reads' (e := 89) (base := w.heap.size) (ok := fun k_ => (((True ∧ some k_ ≠ (.slice Ao18 t380.length co18 : Value).ownBlock) ∧ some k_ ≠ (.slice Ao30 t392.length co30 : Value).ownBlock) ∧ some k_ ≠ (.slice Ao37 t398.length co37 : Value).ownBlock)) (n := t385.length) (c := co23) ?_).2.2; exact (by (with_reducible repeat (first | apply Kd.R_alloc | apply Kd.R_drewN | apply Kd.R_drew)); exact (Kd.R_mono (Kd.R_far (p := ⟨gb402, 2, none⟩) (Kd.R_far (p := ⟨gb402, 1, none⟩) (Kd.R_far (p := ⟨gb402, 0, none⟩) (Kd.R_types HO387.out BK402.out (by decide)) (fun _ hk => hk.2) (.int .i64 t396)) (fun _ hk => hk.2) (.int .i64 t397)) (fun _ hk => hk.2) (.slice Ao37 t398.length co37)) (fun _ h_ => h_.1)))); (case side4 => exact (Kd.R_reads' HO387.out).2.1); rintro e w47 ⟨rfl, hb⟩; refine ⟨_, rfl, ?_⟩; replace HO382 := Aside0.mk (Kd.R_below (by (with_reducible repeat (first | apply Kd.R_alloc | apply Kd.R_drewN | apply Kd.R_drew)); exact (Kd.R_mono (Kd.R_far (p := ⟨gb402, 2, none⟩) (Kd.R_far (p := ⟨gb402, 1, none⟩) (Kd.R_far (p := ⟨gb402, 0, none⟩) (Kd.R_types HO382.out BK402.out (by decide)) (fun _ hk => hk.2) (.int .i64 t396)) (fun _ hk => hk.2) (.int .i64 t397)) (fun _ hk => hk.2) (.slice Ao37 t398.length co37)) (fun _ h_ => h_.1))) hb); replace HO387 := Aside0.mk (Kd.R_below (by (with_reducible repeat (first | apply Kd.R_alloc | apply Kd.R_drewN | apply Kd.R_drew)); exact (Kd.R_mono (Kd.R_far (p := ⟨gb402, 2, none⟩) (Kd.R_far (p := ⟨gb402, 1, none⟩) (Kd.R_far (p := ⟨gb402, 0, none⟩) (Kd.R_types HO387.out BK402.out (by decide)) (fun _ hk => hk.2) (.int .i64 t396)) (fun _ hk => hk.2) (.int .i64 t397)) (fun _ hk => hk.2) (.slice Ao37 t398.length co37)) (fun _ h_ => h_.1))) hb); replace HO394 := Aside0.mk (Kd.R_below (by (with_reducible repeat (first | apply Kd.R_alloc | apply Kd.R_drewN | apply Kd.R_drew)); exact (Kd.R_mono (Kd.R_far (p := ⟨gb402, 2, none⟩) (Kd.R_far (p := ⟨gb402, 1, none⟩) (Kd.R_far (p := ⟨gb402, 0, none⟩) (Kd.R_types HO394.out BK402.out (by decide)) (fun _ hk => hk.2) (.int .i64 t396)) (fun _ hk => hk.2) (.int .i64 t397)) (fun _ hk => hk.2) (.slice Ao37 t398.length co37)) (fun _ h_ => h_.1))) hb); replace HO400 := Aside0.mk (Kd.R_below (by (with_reducible repeat (first | apply Kd.R_alloc | apply Kd.R_drewN | apply Kd.R_drew)); exact (Kd.R_mono (Kd.R_far (p := ⟨gb402, 2, none⟩) (Kd.R_far (p := ⟨gb402, 1, none⟩) (Kd.R_far (p := ⟨gb402, 0, none⟩) (Kd.R_types HO400.out BK402.out (by decide)) (fun _ hk => hk.2) (.int .i64 t396)) (fun _ hk => hk.2) (.int .i64 t397)) (fun _ hk => hk.2) (.slice Ao37 t398.length co37)) (fun _ h_ => h_.1))) hb); replace BK376 := Aside0.mk (blk_below (g := gb376) (o := .cells #[.int .i64 a0_0, .int .i64 a0_1, .slice A0_2 l0_2.length c0_2] 24 (0, 0)) (by (with_reducible repeat (first | refine blk_drewN ?_ _ | refine blk_drew ?_ | refine blk_alloc ?_ _)); refine blk_far ?_ NB376_402.out _; (with_reducible repeat (first | refine blk_drewN ?_ _ | refine blk_drew ?_ | refine blk_alloc ?_ _)); refine blk_far ?_ NB376_402.out _; (with_reducible repeat (first | refine blk_drewN ?_ _ | refine blk_drew ?_ | refine blk_alloc ?_ _)); refine blk_far ?_ NB376_402.out _; (with_reducible repeat (first | refine blk_drewN ?_ _ | refine blk_drew ?_ | refine blk_alloc ?_ _)); exact BK376.out) hb); replace BK389 := Aside0.mk (blk_below (g := gb389) (o := .cells #[.int .i64 t383, .int .i64 t384, .slice Ao23 t385.length co23] 32 (0, 0)) (by (with_reducible repeat (first | refine blk_drewN ?_ _ | refine blk_drew ?_ | refine blk_alloc ?_ _)); refine blk_far ?_ NB389_402.out _; (with_reducible repeat (first | refine blk_drewN ?_ _ | refine blk_drew ?_ | refine blk_alloc ?_ _)); refine blk_far ?_ NB389_402.out _; (with_reducible repeat (first | refine blk_drewN ?_ _ | refine blk_drew ?_ | refine blk_alloc ?_ _)); refine blk_far ?_ NB389_402.out _; (with_reducible repeat (first | refine blk_drewN ?_ _ | refine blk_drew ?_ | refine blk_alloc ?_ _)); exact BK389.out) hb); replace BK395 := Aside0.mk (blk_below (g := gb395) (o := .cells #[.int .i64 t390, .int .i64 t391, .slice Ao30 t392.length co30] 32 (0, 0)) (by (with_reducible repeat (first | refine blk_drewN ?_ _ | refine blk_drew ?_ | refine blk_alloc ?_ _)); refine blk_far ?_ NB395_402.out _; (with_reducible repeat (first | refine blk_drewN ?_ _ | refine blk_drew ?_ | refine blk_alloc ?_ _)); refine blk_far ?_ NB395_402.out _; (with_reducible repeat (first | refine blk_drewN ?_ _ | refine blk_drew ?_ | refine blk_alloc ?_ _)); refine blk_far ?_ NB395_402.out _; (with_reducible repeat (first | refine blk_drewN ?_ _ | refine blk_drew ?_ | refine blk_alloc ?_ _)); exact BK395.out) hb); replace BK402 := Aside0.mk (blk_below (g := gb402) (o := .cells #[.int .i64 t396, .int .i64 t397, .slice Ao37 t398.length co37] 32 (0, 0)) (by (with_reducible repeat (first | refine blk_drewN ?_ _ | refine blk_drew ?_ | refine blk_alloc ?_ _)); refine blk_put (cs := #[.int .i64 t396, .int .i64 t397, .slice none 0 0]) ?_ 2 _ rfl; (with_reducible repeat (first | refine blk_drewN ?_ _ | refine blk_drew ?_ | refine blk_alloc ?_ _)); refine blk_put (cs := #[.int .i64 t396, .int .i64 0, .slice none 0 0]) ?_ 1 _ rfl; (with_reducible repeat (first | refine blk_drewN ?_ _ | refine blk_drew ?_ | refine blk_alloc ?_ _)); refine blk_put (cs := #[.int .i64 0, .int .i64 0, .slice none 0 0]) ?_ 0 _ rfl; (with_reducible repeat (first | refine blk_drewN ?_ _ | refine blk_drew ?_ | refine blk_alloc ?_ _)); exact BK402.out) hb); replace HB := bB HB hb; (try clear hb); (try clear hb2); (try clear hk); (try clear hi)))
    go_meet
    case rel => exact ⟨_, ((t401 != t388)), (by first | rfl | (simp; done) | (simp [*]; done)), H', ⟨by first | omega | exact Nat.le_refl _⟩, ⟨by (with_reducible repeat (first | apply Kd.R_alloc | apply Kd.R_drewN | apply Kd.R_drew)); exact Kd.R_mono HO387.out (fun _ hk => ⟨hk.1.2, hk.2⟩)⟩, ⟨by (with_reducible repeat (first | apply Kd.R_alloc | apply Kd.R_drewN | apply Kd.R_drew)); exact Kd.R_mono HO394.out (fun _ hk => ⟨hk.1.2, hk.2⟩)⟩, ⟨by (with_reducible repeat (first | apply Kd.R_alloc | apply Kd.R_drewN | apply Kd.R_drew)); exact Kd.R_mono HO400.out (fun _ hk => ⟨hk.1.2, hk.2⟩)⟩, ⟨viaK BK376⟩, ⟨viaK BK389⟩, ⟨viaK BK395⟩, ⟨viaK BK402⟩, ⟨viaB HB⟩⟩
   ·(rw [if_neg c39] at H; exact absurd H (laws_FnExactBoardAfter.bad_j0 _ _ _ _ _ _ _ _ _ _ _ _ _ _ _ _))
  case rest =>
   clear HC12
   (try clear c4); (try clear c4b0); (try clear c39)
   (try clear hcz14_0 hcz14_1 hcz14_2); (try clear hcz16_0 hcz16_1 hcz16_2); (try clear hcz22_0 hcz22_1 hcz22_2); (try clear hcz24_0 hcz24_1 hcz24_2); (try clear hcz29_0 hcz29_1 hcz29_2); (try clear hcz36_0 hcz36_1 hcz36_2); (try clear hcz43_0 hcz43_1 hcz43_2); (try clear hcz46_0 hcz46_1 hcz46_2); (try clear hcz6_0 hcz6_1 hcz6_2); (try clear hfz14_0 hfz14_1 hfz14_2); (try clear hfz16_0 hfz16_1 hfz16_2); (try clear hfz22_0 hfz22_1 hfz22_2); (try clear hfz24_0 hfz24_1 hfz24_2); (try clear hfz29_0 hfz29_1 hfz29_2); (try clear hfz36_0 hfz36_1 hfz36_2); (try clear hfz43_0 hfz43_1 hfz43_2); (try clear hfz46_0 hfz46_1 hfz46_2); (try clear hfz6_0 hfz6_1 hfz6_2)
   obtain ⟨kq, x44_11, rfl, HA, HJ11, HO_390002, HO_396002, HO_403002, BK376, BK389, BK395, BK402, HB⟩ := hcut
   cases kq with
   | zero => exact absurd HA.out (by simp [laws_FnExactBoardAfter.j0])
   | succ kj11 =>
    have H := HA.out
    clear HA
    simp only [laws_FnExactBoardAfter.j0] at H
    by_cases c56 : x44_11 = true
    ·(rw [if_pos c56] at H; exact absurd H (by decide))
    ·replace c56 := Bool.eq_false_iff.mpr c56
     subst c56
     have H1 : ((laws_toBoard.f kj11 a0_0 a0_1 l0_2).bind fun bt404 => ((laws_eqBoard.f kj11 t390 t391 t392 bt404.1 bt404.2.1 bt404.2.2).bind fun t409 => (if t409 = true then ((laws_markBoard.f kj11 t390 t391 t392 1).bind fun bt410 => (if bt410.1 < 0 then (laws_FnExactBoardAfter.j1 kj11 a1 t388 true a0_0 a0_1 l0_2 t383 t384 t385 t396 t397 t398) else ((laws_eqBoard.f kj11 t396 t397 t398 t383 t384 t385).bind fun t412 => (if t412 = true then (laws_FnExactBoardAfter.j1 kj11 a1 t388 (t401 != t388) a0_0 a0_1 l0_2 t383 t384 t385 t396 t397 t398) else (laws_FnExactBoardAfter.j1 kj11 a1 t388 true a0_0 a0_1 l0_2 t383 t384 t385 t396 t397 t398))))) else (some false)))) = some true := by rw [if_neg (show ¬ (false = true) by decide)] at H; exact H
     clear H
     have H := H1
     clear H1
     replace H := Option.bind_eq_some_iff.mp H
     obtain ⟨⟨t404, t405, t406⟩, A570, H⟩ := H
     replace H : ((laws_eqBoard.f kj11 t390 t391 t392 t404 t405 t406).bind fun t409 => (if t409 = true then ((laws_markBoard.f kj11 t390 t391 t392 1).bind fun bt410 => (if bt410.1 < 0 then (laws_FnExactBoardAfter.j1 kj11 a1 t388 true a0_0 a0_1 l0_2 t383 t384 t385 t396 t397 t398) else ((laws_eqBoard.f kj11 t396 t397 t398 t383 t384 t385).bind fun t412 => (if t412 = true then (laws_FnExactBoardAfter.j1 kj11 a1 t388 (t401 != t388) a0_0 a0_1 l0_2 t383 t384 t385 t396 t397 t398) else (laws_FnExactBoardAfter.j1 kj11 a1 t388 true a0_0 a0_1 l0_2 t383 t384 t385 t396 t397 t398))))) else (some false))) = some true := H
     have A57 := Aside0.mk A570
     clear A570
     replace H := Option.bind_eq_some_iff.mp H
     obtain ⟨t409, A580, H⟩ := H
     replace H : (if t409 = true then ((laws_markBoard.f kj11 t390 t391 t392 1).bind fun bt410 => (if bt410.1 < 0 then (laws_FnExactBoardAfter.j1 kj11 a1 t388 true a0_0 a0_1 l0_2 t383 t384 t385 t396 t397 t398) else ((laws_eqBoard.f kj11 t396 t397 t398 t383 t384 t385).bind fun t412 => (if t412 = true then (laws_FnExactBoardAfter.j1 kj11 a1 t388 (t401 != t388) a0_0 a0_1 l0_2 t383 t384 t385 t396 t397 t398) else (laws_FnExactBoardAfter.j1 kj11 a1 t388 true a0_0 a0_1 l0_2 t383 t384 t385 t396 t397 t398))))) else (some false)) = some true := H
     have A58 := Aside0.mk A580
     clear A580
     by_cases c59 : t409 = true
     ·subst c59
      have H1 : ((laws_markBoard.f kj11 t390 t391 t392 1).bind fun bt410 => (if bt410.1 < 0 then (laws_FnExactBoardAfter.j1 kj11 a1 t388 true a0_0 a0_1 l0_2 t383 t384 t385 t396 t397 t398) else ((laws_eqBoard.f kj11 t396 t397 t398 t383 t384 t385).bind fun t412 => (if t412 = true then (laws_FnExactBoardAfter.j1 kj11 a1 t388 (t401 != t388) a0_0 a0_1 l0_2 t383 t384 t385 t396 t397 t398) else (laws_FnExactBoardAfter.j1 kj11 a1 t388 true a0_0 a0_1 l0_2 t383 t384 t385 t396 t397 t398))))) = some true := by rw [if_pos rfl] at H; exact H
      clear H
      have H := H1
      clear H1
      replace H := Option.bind_eq_some_iff.mp H
      obtain ⟨⟨t410, t411⟩, A600, H⟩ := H
      replace H : (if t410 < 0 then (laws_FnExactBoardAfter.j1 kj11 a1 t388 true a0_0 a0_1 l0_2 t383 t384 t385 t396 t397 t398) else ((laws_eqBoard.f kj11 t396 t397 t398 t383 t384 t385).bind fun t412 => (if t412 = true then (laws_FnExactBoardAfter.j1 kj11 a1 t388 (t401 != t388) a0_0 a0_1 l0_2 t383 t384 t385 t396 t397 t398) else (laws_FnExactBoardAfter.j1 kj11 a1 t388 true a0_0 a0_1 l0_2 t383 t384 t385 t396 t397 t398)))) = some true := H
      have A60 := Aside0.mk A600
      clear A600
      have HC61 := Aside0.mk H
      clear H
      try go_wp2
      replace HO_390002 := Aside0.mk (Kd.R_drew HO_390002.out)
      replace HO_396002 := Aside0.mk (Kd.R_drew HO_396002.out)
      replace HO_403002 := Aside0.mk (Kd.R_drew HO_403002.out)
      replace BK376 := Aside0.mk (blk_drew BK376.out)
      replace BK389 := Aside0.mk (blk_drew BK389.out)
      replace BK395 := Aside0.mk (blk_drew BK395.out)
      replace BK402 := Aside0.mk (blk_drew BK402.out)
      replace HB := Aside0.mk (below_drew1 HB.out)
      refine start_ (n := 5) (S := fun w' => w'.cell? ⟨gb395, 0, none⟩ = some (.int .i64 t390) ∧ w'.cell? ⟨gb395, 1, none⟩ = some (.int .i64 t391) ∧ w'.cell? ⟨gb395, 2, none⟩ = some (.slice Ao30 t392.length co30) ∧ w'.cell? ⟨gb376, 0, none⟩ = some (.int .i64 a0_0) ∧ w'.cell? ⟨gb376, 1, none⟩ = some (.int .i64 a0_1) ∧ w'.cell? ⟨gb376, 2, none⟩ = some (.slice A0_2 l0_2.length c0_2)) (ds := []) #[false, false, false, false, false] (by kernel_rfl) rfl rfl ⟨(blk_cell BK395.out 0).trans rfl, (blk_cell BK395.out 1).trans rfl, (blk_cell BK395.out 2).trans rfl, (blk_cell BK376.out 0).trans rfl, (blk_cell BK376.out 1).trans rfl, (blk_cell BK376.out 2).trans rfl⟩ (fun hHeld => ?_)
      generalize wc.drew = w62 at HO_390002 HO_396002 HO_403002 BK376 BK389 BK395 BK402 HB hHeld ⊢
      refine take_ (i := 0) (N := some 45) (v := ?_) (a' := ?_) #[true, false, false, false, false] rfl rfl (by kernel_rfl) (fun _ _ _ h => h) (Or.inl ⟨by rfl, ?_⟩) hHeld ?_ ?_
      rotate_left
      ·rintro w' ⟨s0, s1, s2, s3, s4, s5⟩
       go_simp
       with_reducible rfl
      rotate_left
      ·simp only [Act.put, q1, q2, q3, i64_w, i32_w]
       rfl
      refine take_ (i := 1) (N := some 46) (v := ?_) (a' := ?_) #[true, true, false, false, false] rfl rfl (by kernel_rfl) (fun _ _ _ h => h) (Or.inl ⟨by rfl, ?_⟩) hHeld ?_ ?_
      rotate_left
      ·rintro w' ⟨s0, s1, s2, s3, s4, s5⟩
       go_simp
       with_reducible rfl
      rotate_left
      ·simp only [Act.put, q1, q2, q3, i64_w, i32_w]
       rfl
      refine one_ (i := 2) (N := some 47) #[true, true, true, false, false] rfl rfl (by kernel_rfl) (by decide) (fun K hK => ?_)
      refine goes_ Try.func15 (by kernel_rfl) rfl #[.agg #[.int .i64 a0_0, .int .i64 a0_1, .slice A0_2 l0_2.length c0_2]] (by rfl) rfl rfl (by (try simp only [List.map_toArray, List.map_cons, List.map_nil]); first | done | rfl | (simp only [List.length_drop, List.length_take]; rfl)) ?_
      with_reducible refine (laws_toBoard.calls kj11 a0_0 a0_1 _ _ l0_2 t404 t405 t406 _ ?side1 ?side2 A57.out).mono ?_
      (case side1 => repeat (first | exact (Kd.C_below HR0_2.out HB.out) | (with_reducible refine Kd.C_alloc ?_ _) | (with_reducible refine Kd.C_drewN ?_ _) | (with_reducible refine Kd.C_drew ?_)))
      (case side2 => exact HC0_2.out)
      rintro e w63 ⟨v407, rfl, ho0, hb⟩
      refine ⟨_, rfl, ?_⟩
      have HO408 := Aside0.mk (Kd.R_lower (Kd.R_new' (Kd.R_new' (Kd.R_new' ho0 (Kd.R_lt (viaR HO_390002))) (Kd.R_lt (viaR HO_396002))) (Kd.R_lt (viaR HO_403002))) (below_size (viaB HB)))
      replace HO_390002 := Aside0.mk (Kd.R_elder' (viaR HO_390002) (Kd.R_base ho0) hb)
      replace HO_396002 := Aside0.mk (Kd.R_elder' (viaR HO_396002) (Kd.R_base ho0) hb)
      replace HO_403002 := Aside0.mk (Kd.R_elder' (viaR HO_403002) (Kd.R_base ho0) hb)
      replace BK376 := kB BK376 hb
      replace BK389 := kB BK389 hb
      replace BK395 := kB BK395 hb
      replace BK402 := kB BK402 hb
      replace HB := bB HB hb
      (try clear hb); (try clear hb2); (try clear hk); (try clear hi); (try clear ho0)
      obtain ⟨Ao64, co64, eo64⟩ := Kd.R_slice HO408.out
      (first | subst eo64 | (injection eo64 with f1_ f2_ f3_; have f4_ := f1_.symm; have f5_ := f3_.symm; clear f1_ f2_ f3_; subst f4_; subst f5_))
      refine hK.out _ _ ⟨(blk_cell BK395.out 0).trans rfl, (blk_cell BK395.out 1).trans rfl, (blk_cell BK395.out 2).trans rfl, (blk_cell BK376.out 0).trans rfl, (blk_cell BK376.out 1).trans rfl, (blk_cell BK376.out 2).trans rfl⟩ (fun hHeld => ?_)
      clear hK K
      refine norm_ (a' := ?_) ?_ ?_
      rotate_left
      ·show Act.put _ (some 47) _ = _
       simp only [Act.put, q1, q2, q3, i64_w, i32_w]
       rfl
      refine one_ (i := 3) (N := some 48) #[true, true, true, true, false] rfl rfl (by kernel_rfl) (by decide) (fun K hK => ?_)
      refine goes_ Try.func18 (by kernel_rfl) rfl #[.agg #[.int .i64 t390, .int .i64 t391, .slice Ao30 t392.length co30], .agg #[.int .i64 t404, .int .i64 t405, .slice Ao64 t406.length co64]] (by rfl) rfl rfl (by (try simp only [List.map_toArray, List.map_cons, List.map_nil]); first | done | rfl | (simp only [List.length_drop, List.length_take]; rfl)) ?_
      with_reducible refine (laws_eqBoard.calls kj11 t390 t391 _ _ t392 t404 t405 _ _ t406 true _ ?side1 ?side2 ?side3 ?side4 A58.out).mono ?_
      (case side1 => repeat (first | exact (Kd.R_reads' HO_396002.out).2.2 | (with_reducible refine Kd.C_alloc ?_ _) | (with_reducible refine Kd.C_drewN ?_ _) | (with_reducible refine Kd.C_drew ?_)))
      (case side2 => exact (Kd.R_reads' HO_396002.out).2.1)
      (case side3 => repeat (first | exact (Kd.R_reads' HO408.out).2.2 | (with_reducible refine Kd.C_alloc ?_ _) | (with_reducible refine Kd.C_drewN ?_ _) | (with_reducible refine Kd.C_drew ?_)))
      (case side4 => exact (Kd.R_reads' HO408.out).2.1)
      rintro e w65 ⟨rfl, hb⟩
      refine ⟨_, rfl, ?_⟩
      replace HO_390002 := Aside0.mk (Kd.R_below (viaR HO_390002) hb)
      replace HO_396002 := Aside0.mk (Kd.R_below (viaR HO_396002) hb)
      replace HO_403002 := Aside0.mk (Kd.R_below (viaR HO_403002) hb)
      replace HO408 := Aside0.mk (Kd.R_below (viaR HO408) hb)
      replace BK376 := kB BK376 hb
      replace BK389 := kB BK389 hb
      replace BK395 := kB BK395 hb
      replace BK402 := kB BK402 hb
      replace HB := bB HB hb
      (try clear hb); (try clear hb2); (try clear hk); (try clear hi)
      refine hK.out _ _ ⟨(blk_cell BK395.out 0).trans rfl, (blk_cell BK395.out 1).trans rfl, (blk_cell BK395.out 2).trans rfl, (blk_cell BK376.out 0).trans rfl, (blk_cell BK376.out 1).trans rfl, (blk_cell BK376.out 2).trans rfl⟩ (fun hHeld => ?_)
      clear hK K
      refine norm_ (a' := ?_) ?_ ?_
      rotate_left
      ·show Act.put _ (some 48) _ = _
       simp only [Act.put, q1, q2, q3, i64_w, i32_w]
       rfl
      refine pure_ (i := 4) (N := some 49) (v := ?_) (a' := ?_) #[true, true, true, true, true] rfl rfl (by kernel_rfl) (fun _ _ _ h => h) (Or.inl ⟨by rfl, ?_⟩) ?_ ?_
      rotate_left
      ·intro w'
       go_simp
       with_reducible rfl
      rotate_left
      ·simp only [Act.put, q1, q2, q3, i64_w, i32_w]
       rfl
      refine done_ (by kernel_rfl) ?_
      have hnb66 := NB395_376.out
      have hnc66 := NB376_395.out
      have hnb67 := NB395_389.out
      have hnc67 := NB389_395.out
      have hnb68 := NB395_402.out
      have hnc68 := NB402_395.out
      have hcz69_0 := bc0 BK395
      have hcz69_1 := bc1 BK395
      have hcz69_2 := bc2 BK395
      have hfz69_0 := blk_frozen BK395.out 0
      have hfz69_1 := blk_frozen BK395.out 1
      have hfz69_2 := blk_frozen BK395.out 2
      go_upto_region 14 with (first | ((with_reducible refine gate_callee (f := 23) rfl ?_); refine goesA (some 52) _ #[.agg #[.int .i64 t390, .int .i64 t391, .slice Ao30 t392.length co30], .int .i64 1] ?_ Try.func23; (with_reducible refine (laws_markBoard.calls kj11 t390 t391 (fun k_ => some k_ = (.slice Ao30 t392.length co30 : Value).ownBlock) (.slice Ao30 t392.length co30) t392 1 t410 t411 w _ ?side1 ?side2 A60.out).mono ?_); (case side1 => repeat (first | (with_reducible first | exact HB.out | apply below_alloc | apply pw_below_drewN | apply below_drew1 | refine below_set ?_ GE376.out | refine below_set ?_ GE389.out | refine below_set ?_ GE395.out | refine below_set ?_ GE402.out) | exact HB.out)); (case side2 => exact Kd.R_tight rfl HO_396002.out); rintro e w70 ⟨rfl, hy0, hb, hkp⟩; refine ⟨_, rfl, ?_⟩; replace HO_390002 := Aside0.mk (Kd.R_mono (ok' := fun k_ => some k_ ≠ (.slice Ao30 t392.length co30 : Value).ownBlock ∧ some k_ ≠ (.slice Ao37 t398.length co37 : Value).ownBlock ∧ some k_ ≠ (.slice Ao64 t406.length co64 : Value).ownBlock) (Kd.R_keptB (HO_390002.out) hkp (fun k_ hk_ hs_ => (hk_.1.1) hs_)) (fun k_ hk_ => ⟨hk_.1.1.1, hk_.1.1.2, hk_.1.2⟩)); replace HO_403002 := Aside0.mk (Kd.R_mono (ok' := fun k_ => some k_ ≠ (.slice Ao23 t385.length co23 : Value).ownBlock ∧ some k_ ≠ (.slice Ao30 t392.length co30 : Value).ownBlock ∧ some k_ ≠ (.slice Ao64 t406.length co64 : Value).ownBlock) (Kd.R_keptB (HO_403002.out) hkp (fun k_ hk_ hs_ => (hk_.1.2) hs_)) (fun k_ hk_ => ⟨hk_.1.1.1, hk_.1.1.2, hk_.1.2⟩)); replace BK376 := Aside0.mk (blk_kept (viaK BK376) hkp (fun hs_ => (fun e_ => (Kd.R_ne HO_396002.out BK376.out (by decide)) e_) hs_)); replace BK389 := Aside0.mk (blk_kept (viaK BK389) hkp (fun hs_ => (fun e_ => (Kd.R_ne HO_396002.out BK389.out (by decide)) e_) hs_)); replace BK395 := Aside0.mk (blk_kept (viaK BK395) hkp (fun hs_ => (fun e_ => (Kd.R_ne HO_396002.out BK395.out (by decide)) e_) hs_)); replace BK402 := Aside0.mk (blk_kept (viaK BK402) hkp (fun hs_ => (fun e_ => (Kd.R_ne HO_396002.out BK402.out (by decide)) e_) hs_)); replace HO_396002 := Aside0.mk (Kd.R_reok rfl hy0 (fun k_ e_ => HO_396002.out.1 k_ e_)); replace HO408 := Aside0.mk (Kd.R_mono (ok' := fun k_ => some k_ ≠ (.slice Ao23 t385.length co23 : Value).ownBlock ∧ some k_ ≠ (.slice Ao30 t392.length co30 : Value).ownBlock ∧ some k_ ≠ (.slice Ao37 t398.length co37 : Value).ownBlock) (Kd.R_keptB (HO408.out) hkp (fun k_ hk_ hs_ => (hk_.1.2) hs_)) (fun k_ hk_ => ⟨hk_.1.1.1.2, hk_.1.1.2, hk_.1.2⟩)); replace HB := Aside0.mk (hb); (try clear hb); (try clear hkp); (try clear hy0)))
      (try simp only [Act.put, q1, q2, q3])
      go_cut [65] (fun v65 wc => ∃ (kq : Nat) (x65_60 : Bool), v65 = .bool x65_60 ∧ Aside0 (laws_FnExactBoardAfter.j1 kq a1 t388 x65_60 a0_0 a0_1 l0_2 t383 t384 t385 t396 t397 t398 = some true) ∧ Aside0 (kq ≤ kj11) ∧ Aside0 (Kd.R k89 89 wc w.heap.size (fun k_ => some k_ ≠ ((.slice Ao30 t392.length co30) : Value).ownBlock ∧ some k_ ≠ ((.slice Ao37 t398.length co37) : Value).ownBlock) (.slice Ao23 t385.length co23) t385) ∧ Aside0 (Kd.R k89 89 wc w.heap.size (fun k_ => some k_ ≠ ((.slice Ao23 t385.length co23) : Value).ownBlock ∧ some k_ ≠ ((.slice Ao37 t398.length co37) : Value).ownBlock) (.slice Ao30 t392.length co30) t411) ∧ Aside0 (Kd.R k89 89 wc w.heap.size (fun k_ => some k_ ≠ ((.slice Ao23 t385.length co23) : Value).ownBlock ∧ some k_ ≠ ((.slice Ao30 t392.length co30) : Value).ownBlock) (.slice Ao37 t398.length co37) t398) ∧ Aside0 (wc.heap[gb376]? = some (.cells #[.int .i64 a0_0, .int .i64 a0_1, (.slice A0_2 l0_2.length c0_2)] 24 (0, 0))) ∧ Aside0 (wc.heap[gb389]? = some (.cells #[.int .i64 t383, .int .i64 t384, (.slice Ao23 t385.length co23)] 32 (0, 0))) ∧ Aside0 (wc.heap[gb395]? = some (.cells #[.int .i64 t390, .int .i64 t391, (.slice Ao30 t392.length co30)] 32 (0, 0))) ∧ Aside0 (wc.heap[gb402]? = some (.cells #[.int .i64 t396, .int .i64 t397, (.slice Ao37 t398.length co37)] 32 (0, 0))) ∧ Aside0 (Below w.heap.size w wc))
      case first =>
       have H := HC61.out
       clear HC61
       by_cases c71 : t410 < 0
       ·rw [if_pos c71] at H
        have c71b0 := decide_eq_true c71
        clear c71
        (first | rw [c71b0] | (simp only [i64_w, i32_w]; rw [c71b0]) | skip)
        have H' := Aside0.mk H
        clear H
        go_wp2
        go_meet
        case rel => exact ⟨_, (true), (by first | rfl | (simp; done) | (simp [*]; done)), H', ⟨by have := HJ11.out; first | omega | exact Nat.le_refl _⟩, ⟨by (with_reducible repeat (first | apply Kd.R_alloc | apply Kd.R_drewN | apply Kd.R_drew)); exact Kd.R_mono HO_390002.out (fun _ hk => ⟨hk.1, hk.2.1⟩)⟩, ⟨by (with_reducible repeat (first | apply Kd.R_alloc | apply Kd.R_drewN | apply Kd.R_drew)); exact Kd.R_mono HO_396002.out (fun _ hk => ⟨hk.1.1, hk.1.2⟩)⟩, ⟨by (with_reducible repeat (first | apply Kd.R_alloc | apply Kd.R_drewN | apply Kd.R_drew)); exact Kd.R_mono HO_403002.out (fun _ hk => ⟨hk.1, hk.2.1⟩)⟩, ⟨viaK BK376⟩, ⟨viaK BK389⟩, ⟨viaK BK395⟩, ⟨viaK BK402⟩, ⟨viaB HB⟩⟩
       ·rw [if_neg c71] at H
        have c71b0 := decide_eq_false c71
        clear c71
        (first | rw [c71b0] | (simp only [i64_w, i32_w]; rw [c71b0]) | skip)
        replace H := Option.bind_eq_some_iff.mp H
        obtain ⟨t412, A720, H⟩ := H
        replace H : (if t412 = true then (laws_FnExactBoardAfter.j1 kj11 a1 t388 (t401 != t388) a0_0 a0_1 l0_2 t383 t384 t385 t396 t397 t398) else (laws_FnExactBoardAfter.j1 kj11 a1 t388 true a0_0 a0_1 l0_2 t383 t384 t385 t396 t397 t398)) = some true := H
        have A72 := Aside0.mk A720
        clear A720
        by_cases c73 : t412 = true
        ·subst c73
         have H1 : (laws_FnExactBoardAfter.j1 kj11 a1 t388 (t401 != t388) a0_0 a0_1 l0_2 t383 t384 t385 t396 t397 t398) = some true := by rw [if_pos rfl] at H; exact H
         clear H
         have H := H1
         clear H1
         have H' := Aside0.mk H
         clear H
         have hnb74 := NB402_376.out
         have hnc74 := NB376_402.out
         have hnb75 := NB402_389.out
         have hnc75 := NB389_402.out
         have hnb76 := NB402_395.out
         have hnc76 := NB395_402.out
         have hcz77_0 := bc0 BK402
         have hcz77_1 := bc1 BK402
         have hcz77_2 := bc2 BK402
         have hfz77_0 := blk_frozen BK402.out 0
         have hfz77_1 := blk_frozen BK402.out 1
         have hfz77_2 := blk_frozen BK402.out 2
         have hnb78 := NB389_376.out
         have hnc78 := NB376_389.out
         have hnb79 := NB389_395.out
         have hnc79 := NB395_389.out
         have hcz80_0 := bc0 BK389
         have hcz80_1 := bc1 BK389
         have hcz80_2 := bc2 BK389
         have hfz80_0 := blk_frozen BK389.out 0
         have hfz80_1 := blk_frozen BK389.out 1
         have hfz80_2 := blk_frozen BK389.out 2
         go_wp2_with (first | (go_at_call 18; (with_reducible refine (laws_eqBoard.calls kj11 t396 t397 _ _ t398 t383 t384 _ _ t385 true _ ?side1 ?side2 ?side3 ?side4 A72.out).mono ?_); (case side1 => repeat (first | exact (Kd.R_reads' HO_403002.out).2.2 | (with_reducible refine Kd.C_alloc ?_ _) | (with_reducible refine Kd.C_drewN ?_ _) | (with_reducible refine Kd.C_drew ?_))); (case side2 => exact (Kd.R_reads' HO_403002.out).2.1); (case side3 => repeat (first | exact (Kd.R_reads' HO_390002.out).2.2 | (with_reducible refine Kd.C_alloc ?_ _) | (with_reducible refine Kd.C_drewN ?_ _) | (with_reducible refine Kd.C_drew ?_))); (case side4 => exact (Kd.R_reads' HO_390002.out).2.1); rintro e w81 ⟨rfl, hb⟩; replace HO_390002 := Aside0.mk (Kd.R_below (viaR HO_390002) hb); replace HO_396002 := Aside0.mk (Kd.R_below (viaR HO_396002) hb); replace HO_403002 := Aside0.mk (Kd.R_below (viaR HO_403002) hb); replace HO408 := Aside0.mk (Kd.R_below (viaR HO408) hb); replace BK376 := kB BK376 hb; replace BK389 := kB BK389 hb; replace BK395 := kB BK395 hb; replace BK402 := kB BK402 hb; replace HB := bB HB hb; (try clear hb); (try clear hb2); (try clear hk); (try clear hi)))
         go_meet
         case rel => exact ⟨_, ((t401 != t388)), (by first | rfl | (simp; done) | (simp [*]; done)), H', ⟨by have := HJ11.out; first | omega | exact Nat.le_refl _⟩, ⟨by (with_reducible repeat (first | apply Kd.R_alloc | apply Kd.R_drewN | apply Kd.R_drew)); exact Kd.R_mono HO_390002.out (fun _ hk => ⟨hk.1, hk.2.1⟩)⟩, ⟨by (with_reducible repeat (first | apply Kd.R_alloc | apply Kd.R_drewN | apply Kd.R_drew)); exact Kd.R_mono HO_396002.out (fun _ hk => ⟨hk.1.1, hk.1.2⟩)⟩, ⟨by (with_reducible repeat (first | apply Kd.R_alloc | apply Kd.R_drewN | apply Kd.R_drew)); exact Kd.R_mono HO_403002.out (fun _ hk => ⟨hk.1, hk.2.1⟩)⟩, ⟨viaK BK376⟩, ⟨viaK BK389⟩, ⟨viaK BK395⟩, ⟨viaK BK402⟩, ⟨viaB HB⟩⟩
        ·(rw [if_neg c73] at H; exact absurd H (laws_FnExactBoardAfter.bad_j1 _ _ _ _ _ _ _ _ _ _ _ _))
      case rest =>
       clear HC61
       (try clear c4); (try clear c4b0); (try clear c39); (try clear c56); (try clear c59); (try clear c71); (try clear c71b0); (try clear c73)
       (try clear hcz14_0 hcz14_1 hcz14_2); (try clear hcz16_0 hcz16_1 hcz16_2); (try clear hcz22_0 hcz22_1 hcz22_2); (try clear hcz24_0 hcz24_1 hcz24_2); (try clear hcz29_0 hcz29_1 hcz29_2); (try clear hcz36_0 hcz36_1 hcz36_2); (try clear hcz43_0 hcz43_1 hcz43_2); (try clear hcz46_0 hcz46_1 hcz46_2); (try clear hcz69_0 hcz69_1 hcz69_2); (try clear hcz6_0 hcz6_1 hcz6_2); (try clear hcz77_0 hcz77_1 hcz77_2); (try clear hcz80_0 hcz80_1 hcz80_2); (try clear hfz14_0 hfz14_1 hfz14_2); (try clear hfz16_0 hfz16_1 hfz16_2); (try clear hfz22_0 hfz22_1 hfz22_2); (try clear hfz24_0 hfz24_1 hfz24_2); (try clear hfz29_0 hfz29_1 hfz29_2); (try clear hfz36_0 hfz36_1 hfz36_2); (try clear hfz43_0 hfz43_1 hfz43_2); (try clear hfz46_0 hfz46_1 hfz46_2); (try clear hfz69_0 hfz69_1 hfz69_2); (try clear hfz6_0 hfz6_1 hfz6_2); (try clear hfz77_0 hfz77_1 hfz77_2); (try clear hfz80_0 hfz80_1 hfz80_2)
       obtain ⟨kq, x65_60, rfl, HA, HJ60, HO_390002, HO_396002, HO_403002, BK376, BK389, BK395, BK402, HB⟩ := hcut
       have hl396002_60 := (Kd.R_reads' HO_396002.out).1
       rw [hl396002_60] at HO_396002
       (try simp only [hl396002_60])
       (try simp only [hl396002_60] at BK376)
       (try simp only [hl396002_60] at BK389)
       (try simp only [hl396002_60] at BK395)
       (try simp only [hl396002_60] at BK402)
       (try simp only [hl396002_60] at HO_390002)
       (try simp only [hl396002_60] at HO_403002)
       cases kq with
       | zero => exact absurd HA.out (by simp [laws_FnExactBoardAfter.j1])
       | succ kj60 =>
        have H := HA.out
        clear HA
        simp only [laws_FnExactBoardAfter.j1] at H
        by_cases c90 : x65_60 = true
        ·(rw [if_pos c90] at H; exact absurd H (by decide))
        ·replace c90 := Bool.eq_false_iff.mpr c90
         subst c90
         have H1 : ((laws_markBoard.f kj60 t396 t397 t398 1).bind fun bt413 => ((laws_heldBoard.f kj60 t396 t397 bt413.2 1).bind fun t415 => (if t415 < 0 then (some false) else (if t415 = bt413.1 then ((laws_toBoard.f kj60 a0_0 a0_1 l0_2).bind fun bt416 => ((impl_BoardAfter.f kj60 bt416.1 bt416.2.1 bt416.2.2 a1).bind fun bt421 => ((laws_eqBoard.f kj60 bt421.1 bt421.2.1 bt421.2.2.1 t383 t384 t385).bind fun t428 => (if t428 = true then (laws_FnExactBoardAfter.j2 kj60 bt413.1 (bt421.2.2.2 != t388) t396 t397 bt413.2) else (laws_FnExactBoardAfter.j2 kj60 bt413.1 true t396 t397 bt413.2))))) else (some false))))) = some true := by rw [if_neg (show ¬ (false = true) by decide)] at H; exact H
         clear H
         have H := H1
         clear H1
         replace H := Option.bind_eq_some_iff.mp H
         obtain ⟨⟨t413, t414⟩, A910, H⟩ := H
         replace H : ((laws_heldBoard.f kj60 t396 t397 t414 1).bind fun t415 => (if t415 < 0 then (some false) else (if t415 = t413 then ((laws_toBoard.f kj60 a0_0 a0_1 l0_2).bind fun bt416 => ((impl_BoardAfter.f kj60 bt416.1 bt416.2.1 bt416.2.2 a1).bind fun bt421 => ((laws_eqBoard.f kj60 bt421.1 bt421.2.1 bt421.2.2.1 t383 t384 t385).bind fun t428 => (if t428 = true then (laws_FnExactBoardAfter.j2 kj60 t413 (bt421.2.2.2 != t388) t396 t397 t414) else (laws_FnExactBoardAfter.j2 kj60 t413 true t396 t397 t414))))) else (some false)))) = some true := H
         have A91 := Aside0.mk A910
         clear A910
         replace H := Option.bind_eq_some_iff.mp H
         obtain ⟨t415, A920, H⟩ := H
         replace H : (if t415 < 0 then (some false) else (if t415 = t413 then ((laws_toBoard.f kj60 a0_0 a0_1 l0_2).bind fun bt416 => ((impl_BoardAfter.f kj60 bt416.1 bt416.2.1 bt416.2.2 a1).bind fun bt421 => ((laws_eqBoard.f kj60 bt421.1 bt421.2.1 bt421.2.2.1 t383 t384 t385).bind fun t428 => (if t428 = true then (laws_FnExactBoardAfter.j2 kj60 t413 (bt421.2.2.2 != t388) t396 t397 t414) else (laws_FnExactBoardAfter.j2 kj60 t413 true t396 t397 t414))))) else (some false))) = some true := H
         have A92 := Aside0.mk A920
         clear A920
         by_cases c93 : t415 < 0
         ·(rw [if_pos c93] at H; exact absurd H (by decide))
         ·rw [if_neg c93] at H
          have c93b0 := decide_eq_false c93
          (try simp only [hl396002_60] at c93b0)
          clear c93
          by_cases c101 : t415 = t413
          ·rw [if_pos c101] at H
           have c101b0 := beq_iff_eq.mpr c101
           have c101b1 := bne_eq_false_iff_eq.mpr c101
           clear c101
           replace H := Option.bind_eq_some_iff.mp H
           obtain ⟨⟨t416, t417, t418⟩, A1020, H⟩ := H
           replace H : ((impl_BoardAfter.f kj60 t416 t417 t418 a1).bind fun bt421 => ((laws_eqBoard.f kj60 bt421.1 bt421.2.1 bt421.2.2.1 t383 t384 t385).bind fun t428 => (if t428 = true then (laws_FnExactBoardAfter.j2 kj60 t413 (bt421.2.2.2 != t388) t396 t397 t414) else (laws_FnExactBoardAfter.j2 kj60 t413 true t396 t397 t414)))) = some true := H
           have A102 := Aside0.mk A1020
           clear A1020
           replace H := Option.bind_eq_some_iff.mp H
           obtain ⟨⟨t421, t422, t423, t426⟩, A1030, H⟩ := H
           replace H : ((laws_eqBoard.f kj60 t421 t422 t423 t383 t384 t385).bind fun t428 => (if t428 = true then (laws_FnExactBoardAfter.j2 kj60 t413 (t426 != t388) t396 t397 t414) else (laws_FnExactBoardAfter.j2 kj60 t413 true t396 t397 t414))) = some true := H
           have A103 := Aside0.mk A1030
           clear A1030
           have HC104 := Aside0.mk H
           clear H
           have hnb105 := NB402_376.out
           have hnc105 := NB376_402.out
           have hnb106 := NB402_389.out
           have hnc106 := NB389_402.out
           have hnb107 := NB402_395.out
           have hnc107 := NB395_402.out
           have hcz108_0 := bc0 BK402
           have hcz108_1 := bc1 BK402
           have hcz108_2 := bc2 BK402
           have hfz108_0 := blk_frozen BK402.out 0
           have hfz108_1 := blk_frozen BK402.out 1
           have hfz108_2 := blk_frozen BK402.out 2
           go_upto_region 25 with (first | ((with_reducible refine gate_callee (f := 23) rfl ?_); refine goesA (some 68) _ #[.agg #[.int .i64 t396, .int .i64 t397, .slice Ao37 t398.length co37], .int .i64 1] ?_ Try.func23; (with_reducible refine (laws_markBoard.calls kj60 t396 t397 (fun k_ => some k_ = (.slice Ao37 t398.length co37 : Value).ownBlock) (.slice Ao37 t398.length co37) t398 1 t413 t414 w _ ?side1 ?side2 A91.out).mono ?_); (case side1 => repeat (first | (with_reducible first | exact HB.out | apply below_alloc | apply pw_below_drewN | apply below_drew1 | refine below_set ?_ GE376.out | refine below_set ?_ GE389.out | refine below_set ?_ GE395.out | refine below_set ?_ GE402.out) | exact HB.out)); (case side2 => exact Kd.R_tight rfl HO_403002.out); rintro e w109 ⟨rfl, hy0, hb, hkp⟩; refine ⟨_, rfl, ?_⟩; replace HO_390002 := Aside0.mk (Kd.R_mono (ok' := fun k_ => some k_ ≠ (.slice Ao30 t411.length co30 : Value).ownBlock ∧ some k_ ≠ (.slice Ao37 t398.length co37 : Value).ownBlock) (Kd.R_keptB (HO_390002.out) hkp (fun k_ hk_ hs_ => (hk_.2) hs_)) (fun k_ hk_ => ⟨hk_.1.1, hk_.1.2⟩)); replace HO_396002 := Aside0.mk (Kd.R_mono (ok' := fun k_ => some k_ ≠ (.slice Ao23 t385.length co23 : Value).ownBlock ∧ some k_ ≠ (.slice Ao37 t398.length co37 : Value).ownBlock) (Kd.R_keptB (HO_396002.out) hkp (fun k_ hk_ hs_ => (hk_.2) hs_)) (fun k_ hk_ => ⟨hk_.1.1, hk_.1.2⟩)); replace BK376 := Aside0.mk (blk_kept (viaK BK376) hkp (fun hs_ => (fun e_ => (Kd.R_ne HO_403002.out BK376.out (by decide)) e_) hs_)); replace BK389 := Aside0.mk (blk_kept (viaK BK389) hkp (fun hs_ => (fun e_ => (Kd.R_ne HO_403002.out BK389.out (by decide)) e_) hs_)); replace BK395 := Aside0.mk (blk_kept (viaK BK395) hkp (fun hs_ => (fun e_ => (Kd.R_ne HO_403002.out BK395.out (by decide)) e_) hs_)); replace BK402 := Aside0.mk (blk_kept (viaK BK402) hkp (fun hs_ => (fun e_ => (Kd.R_ne HO_403002.out BK402.out (by decide)) e_) hs_)); replace HO_403002 := Aside0.mk (Kd.R_reok rfl hy0 (fun k_ e_ => HO_403002.out.1 k_ e_)); replace HB := Aside0.mk (hb); (try clear hb); (try clear hkp); (try clear hy0); have hcz110_0 := bc0 BK402; have hcz110_1 := bc1 BK402; have hcz110_2 := bc2 BK402; have hfz110_0 := blk_frozen BK402.out 0; have hfz110_1 := blk_frozen BK402.out 1; have hfz110_2 := blk_frozen BK402.out 2) | ((with_reducible refine gate_callee (f := 24) rfl ?_); refine goesL_ (some 71) rfl rfl Try.func24 (by kernel_rfl) rfl #[.agg #[.int .i64 t396, .int .i64 t397, .slice Ao37 t414.length co37], .int .i64 1] rfl (by (try simp only [List.map_toArray, List.map_cons, List.map_nil]); first | done | (rw [show t414.length = t398.length from (Kd.R_reads' HO_403002.out).1.symm] <;> rfl) | rfl | (simp only [List.length_drop, List.length_take]; rfl)) ?_; (with_reducible refine (laws_heldBoard.calls kj60 t396 t397 _ _ t414 1 t415 _ ?side1 ?side2 A92.out).mono ?_); (case side1 => repeat (first | exact (Kd.R_reads' HO_403002.out).2.2 | (with_reducible refine Kd.C_alloc ?_ _) | (with_reducible refine Kd.C_drewN ?_ _) | (with_reducible refine Kd.C_drew ?_))); (case side2 => rw [show t414.length = t398.length from (Kd.R_reads' HO_403002.out).1.symm]; exact (Kd.R_reads' HO_403002.out).2.1); rintro e w111 ⟨rfl, hb⟩; refine ⟨_, rfl, ?_⟩; replace HO_390002 := Aside0.mk (Kd.R_below (viaR HO_390002) hb); replace HO_396002 := Aside0.mk (Kd.R_below (viaR HO_396002) hb); replace HO_403002 := Aside0.mk (Kd.R_below (viaR HO_403002) hb); replace BK376 := kB BK376 hb; replace BK389 := kB BK389 hb; replace BK395 := kB BK395 hb; replace BK402 := kB BK402 hb; replace HB := bB HB hb; (try clear hb); (try clear hb2); (try clear hk); (try clear hi); have hnb112 := NB376_389.out; have hnc112 := NB389_376.out; have hnb113 := NB376_395.out; have hnc113 := NB395_376.out; have hcz114_0 := bc0 BK376; have hcz114_1 := bc1 BK376; have hcz114_2 := bc2 BK376; have hfz114_0 := blk_frozen BK376.out 0; have hfz114_1 := blk_frozen BK376.out 1; have hfz114_2 := blk_frozen BK376.out 2) | ((with_reducible refine gate_callee (f := 15) rfl ?_); refine goesA (some 79) _ #[.agg #[.int .i64 a0_0, .int .i64 a0_1, .slice A0_2 l0_2.length c0_2]] ?_ Try.func15; (with_reducible refine (laws_toBoard.calls kj60 a0_0 a0_1 _ _ l0_2 t416 t417 t418 _ ?side1 ?side2 A102.out).mono ?_); (case side1 => repeat (first | exact (Kd.C_below HR0_2.out HB.out) | (with_reducible refine Kd.C_alloc ?_ _) | (with_reducible refine Kd.C_drewN ?_ _) | (with_reducible refine Kd.C_drew ?_))); (case side2 => exact HC0_2.out); rintro e w115 ⟨v419, rfl, ho0, hb⟩; refine ⟨_, rfl, ?_⟩; have HO420 := Aside0.mk (Kd.R_lower (Kd.R_new' (Kd.R_new' (Kd.R_new' ho0 (Kd.R_lt (viaR HO_390002))) (Kd.R_lt (viaR HO_396002))) (Kd.R_lt (viaR HO_403002))) (below_size (viaB HB))); replace HO_390002 := Aside0.mk (Kd.R_elder' (viaR HO_390002) (Kd.R_base ho0) hb); replace HO_396002 := Aside0.mk (Kd.R_elder' (viaR HO_396002) (Kd.R_base ho0) hb); replace HO_403002 := Aside0.mk (Kd.R_elder' (viaR HO_403002) (Kd.R_base ho0) hb); replace BK376 := kB BK376 hb; replace BK389 := kB BK389 hb; replace BK395 := kB BK395 hb; replace BK402 := kB BK402 hb; replace HB := bB HB hb; (try clear hb); (try clear hb2); (try clear hk); (try clear hi); (try clear ho0); obtain ⟨Ao116, co116, eo116⟩ := Kd.R_slice HO420.out; subst eo116) | ((with_reducible refine gate_callee (f := 22) rfl ?_); refine goesA (some 81) _ #[.agg #[.int .i64 t416, .int .i64 t417, .slice Ao116 t418.length co116], .int .i64 a1] ?_ Try.func22; (with_reducible refine (impl_BoardAfter.calls kj60 t416 t417 _ _ t418 a1 t421 t422 t423 t426 _ ?side1 ?side2 A103.out).mono ?_); (case side1 => repeat (first | exact (Kd.R_reads' HO420.out).2.2 | (with_reducible refine Kd.C_alloc ?_ _) | (with_reducible refine Kd.C_drewN ?_ _) | (with_reducible refine Kd.C_drew ?_))); (case side2 => exact (Kd.R_reads' HO420.out).2.1); rintro e w117 ⟨v424, rfl, ho0, hb⟩; refine ⟨_, rfl, ?_⟩; have HO425 := Aside0.mk (Kd.R_lower (Kd.R_new' (Kd.R_new' (Kd.R_new' (Kd.R_new' ho0 (Kd.R_lt (viaR HO_390002))) (Kd.R_lt (viaR HO_396002))) (Kd.R_lt (viaR HO_403002))) (Kd.R_lt (viaR HO420))) (below_size (viaB HB))); replace HO_390002 := Aside0.mk (Kd.R_elder' (viaR HO_390002) (Kd.R_base ho0) hb); replace HO_396002 := Aside0.mk (Kd.R_elder' (viaR HO_396002) (Kd.R_base ho0) hb); replace HO_403002 := Aside0.mk (Kd.R_elder' (viaR HO_403002) (Kd.R_base ho0) hb); replace HO420 := Aside0.mk (Kd.R_elder' (viaR HO420) (Kd.R_base ho0) hb); replace BK376 := kB BK376 hb; replace BK389 := kB BK389 hb; replace BK395 := kB BK395 hb; replace BK402 := kB BK402 hb; replace HB := bB HB hb; (try clear hb); (try clear hb2); (try clear hk); (try clear hi); (try clear ho0)) | ((with_reducible refine gate_dst (N := 14) rfl ?_); refine box_ev (N := 14) (cs := #[.int .i64 0, .int .i64 0, .slice none 0 0]) (t := 32) ?_; intro gb427 hg w118 hbox hb; have BK427 := Aside0.mk (hbox); have GW427 := gW (w := w) HB hg; have GE427 := gW (w := w) HB hg; have NB376_427 := neL BK376 hg; have NB427_376 := neG BK376 hg; have NB389_427 := neL BK389 hg; have NB427_389 := neG BK389 hg; have NB395_427 := neL BK395 hg; have NB427_395 := neG BK395 hg; have NB402_427 := neL BK402 hg; have NB427_402 := neG BK402 hg; replace HO_390002 := Aside0.mk (Kd.R_below (viaR HO_390002) hb); replace HO_396002 := Aside0.mk (Kd.R_below (viaR HO_396002) hb); replace HO_403002 := Aside0.mk (Kd.R_below (viaR HO_403002) hb); replace HO420 := Aside0.mk (Kd.R_below (viaR HO420) hb); replace HO425 := Aside0.mk (Kd.R_below (viaR HO425) hb); replace BK376 := kB BK376 hb; replace BK389 := kB BK389 hb; replace BK395 := kB BK395 hb; replace BK402 := kB BK402 hb; replace HB := bB HB hb; clear hb hbox hg; have hnb119 := NB427_376.out; have hnc119 := NB376_427.out; have hnb120 := NB427_389.out; have hnc120 := NB389_427.out; have hnb121 := NB427_395.out; have hnc121 := NB395_427.out; have hnb122 := NB427_402.out; have hnc122 := NB402_427.out; have hcz123_0 := bc0 BK427; have hcz123_1 := bc1 BK427; have hcz123_2 := bc2 BK427; have hfz123_0 := blk_frozen BK427.out 0; have hfz123_1 := blk_frozen BK427.out 1; have hfz123_2 := blk_frozen BK427.out 2; obtain ⟨Ao124, co124, eo124⟩ := Kd.R_slice HO425.out; subst eo124))
           (try simp only [Act.put, q1, q2, q3])
           go_cut [92] (fun v92 wc => ∃ (kq : Nat) (x92_103 : Bool), v92 = .bool x92_103 ∧ Aside0 (laws_FnExactBoardAfter.j2 kq t413 x92_103 t396 t397 t414 = some true) ∧ Aside0 (kq ≤ kj60) ∧ Aside0 (Kd.R k89 89 wc w.heap.size (fun k_ => some k_ ≠ ((.slice Ao30 t411.length co30) : Value).ownBlock ∧ some k_ ≠ ((.slice Ao37 t398.length co37) : Value).ownBlock ∧ some k_ ≠ ((.slice Ao124 t423.length co124) : Value).ownBlock) (.slice Ao23 t385.length co23) t385) ∧ Aside0 (Kd.R k89 89 wc w.heap.size (fun k_ => some k_ ≠ ((.slice Ao23 t385.length co23) : Value).ownBlock ∧ some k_ ≠ ((.slice Ao37 t398.length co37) : Value).ownBlock ∧ some k_ ≠ ((.slice Ao124 t423.length co124) : Value).ownBlock) (.slice Ao30 t411.length co30) t411) ∧ Aside0 (Kd.R k89 89 wc w.heap.size (fun k_ => some k_ ≠ ((.slice Ao23 t385.length co23) : Value).ownBlock ∧ some k_ ≠ ((.slice Ao30 t411.length co30) : Value).ownBlock ∧ some k_ ≠ ((.slice Ao124 t423.length co124) : Value).ownBlock) (.slice Ao37 t398.length co37) t414) ∧ Aside0 (Kd.R k89 89 wc w.heap.size (fun k_ => some k_ ≠ ((.slice Ao23 t385.length co23) : Value).ownBlock ∧ some k_ ≠ ((.slice Ao30 t411.length co30) : Value).ownBlock ∧ some k_ ≠ ((.slice Ao37 t398.length co37) : Value).ownBlock) (.slice Ao124 t423.length co124) t423) ∧ Aside0 (wc.heap[gb376]? = some (.cells #[.int .i64 a0_0, .int .i64 a0_1, (.slice A0_2 l0_2.length c0_2)] 24 (0, 0))) ∧ Aside0 (wc.heap[gb389]? = some (.cells #[.int .i64 t383, .int .i64 t384, (.slice Ao23 t385.length co23)] 32 (0, 0))) ∧ Aside0 (wc.heap[gb395]? = some (.cells #[.int .i64 t390, .int .i64 t391, (.slice Ao30 t411.length co30)] 32 (0, 0))) ∧ Aside0 (wc.heap[gb402]? = some (.cells #[.int .i64 t396, .int .i64 t397, (.slice Ao37 t398.length co37)] 32 (0, 0))) ∧ Aside0 (wc.heap[gb427]? = some (.cells #[.int .i64 t421, .int .i64 t422, (.slice Ao124 t423.length co124)] 32 (0, 0))) ∧ Aside0 (Below w.heap.size w wc))
           case first =>
            have H := HC104.out
            clear HC104
            replace H := Option.bind_eq_some_iff.mp H
            obtain ⟨t428, A1250, H⟩ := H
            replace H : (if t428 = true then (laws_FnExactBoardAfter.j2 kj60 t413 (t426 != t388) t396 t397 t414) else (laws_FnExactBoardAfter.j2 kj60 t413 true t396 t397 t414)) = some true := H
            have A125 := Aside0.mk A1250
            clear A1250
            by_cases c126 : t428 = true
            ·subst c126
             have H1 : (laws_FnExactBoardAfter.j2 kj60 t413 (t426 != t388) t396 t397 t414) = some true := by rw [if_pos rfl] at H; exact H
             clear H
             have H := H1
             clear H1
             have H' := Aside0.mk H
             clear H
             have hnb127 := NB427_376.out
             have hnc127 := NB376_427.out
             have hnb128 := NB427_389.out
             have hnc128 := NB389_427.out
             have hnb129 := NB427_395.out
             have hnc129 := NB395_427.out
             have hnb130 := NB427_402.out
             have hnc130 := NB402_427.out
             have hcz131_0 := bc0 BK427
             have hcz131_1 := bc1 BK427
             have hcz131_2 := bc2 BK427
             have hfz131_0 := blk_frozen BK427.out 0
             have hfz131_1 := blk_frozen BK427.out 1
             have hfz131_2 := blk_frozen BK427.out 2
             have hnb132 := NB389_376.out
             have hnc132 := NB376_389.out
             have hnb133 := NB389_395.out
             have hnc133 := NB395_389.out
             have hnb134 := NB389_402.out
             have hnc134 := NB402_389.out
             have hcz135_0 := bc0 BK389
             have hcz135_1 := bc1 BK389
             have hcz135_2 := bc2 BK389
             have hfz135_0 := blk_frozen BK389.out 0
             have hfz135_1 := blk_frozen BK389.out 1
             have hfz135_2 := blk_frozen BK389.out 2
             go_wp2_with (first | ((with_reducible refine gate_callee (f := 18) rfl ?_); refine goesA (some 86) _ #[.agg #[.int .i64 t421, .int .i64 t422, .slice Ao124 t423.length co124], .agg #[.int .i64 t383, .int .i64 t384, .slice Ao23 t385.length co23]] ?_ Try.func18; (with_reducible refine (laws_eqBoard.calls kj60 t421 t422 _ _ t423 t383 t384 _ _ t385 true _ ?side1 ?side2 ?side3 ?side4 A125.out).mono ?_); (case side1 => refine (Kd.R_reads' (e := 89) (base := w.heap.size) (ok := fun k_ => ((((True ∧ some k_ ≠ (.slice Ao23 t385.length co23 : Value).ownBlock) ∧ some k_ ≠ (.slice Ao30 t411.length co30 : Value).ownBlock) ∧ some k_ ≠ (.slice Ao37 t398.length co37 : Value).ownBlock) ∧ some k_ ≠ (.slice Ao116 t418.length co116 : Value).ownBlock)) (n := t423.length) (c := co124) ?_).2.2; exact (by (with_reducible repeat (first | apply Kd.R_alloc | apply Kd.R_drewN | apply Kd.R_drew)); exact (Kd.R_mono (Kd.R_far (p := ⟨gb427, 2, none⟩) (Kd.R_far (p := ⟨gb427, 1, none⟩) (Kd.R_far (p := ⟨gb427, 0, none⟩) (Kd.R_types HO425.out BK427.out (by decide)) (fun _ hk => hk.2) (.int .i64 t421)) (fun _ hk => hk.2) (.int .i64 t422)) (fun _ hk => hk.2) (.slice Ao124 t423.length co124)) (fun _ h_ => h_.1)))); (case side2 => exact (Kd.R_reads' HO425.out).2.1); (case side3 => refine (Kd.R_reads' (e := 89) (base := w.heap.size) (ok := fun k_ => (((some k_ ≠ (.slice Ao30 t411.length co30 : Value).ownBlock ∧ some k_ ≠ (.slice Ao37 t398.length co37 : Value).ownBlock) ∧ some k_ ≠ (.slice Ao116 t418.length co116 : Value).ownBlock) ∧ some k_ ≠ (.slice Ao124 t423.length co124 : Value).ownBlock)) (n := t385.length) (c := co23) ?_).2.2; exact (by (with_reducible repeat (first | apply Kd.R_alloc | apply Kd.R_drewN | apply Kd.R_drew)); exact (Kd.R_mono (Kd.R_far (p := ⟨gb427, 2, none⟩) (Kd.R_far (p := ⟨gb427, 1, none⟩) (Kd.R_far (p := ⟨gb427, 0, none⟩) (Kd.R_types HO_390002.out BK427.out (by decide)) (fun _ hk => hk.2) (.int .i64 t421)) (fun _ hk => hk.2) (.int .i64 t422)) (fun _ hk => hk.2) (.slice Ao124 t423.length co124)) (fun _ h_ => h_.1)))); (case side4 => exact (Kd.R_reads' HO_390002.out).2.1); rintro e w136 ⟨rfl, hb⟩; refine ⟨_, rfl, ?_⟩; replace HO_390002 := Aside0.mk (Kd.R_below (by (with_reducible repeat (first | apply Kd.R_alloc | apply Kd.R_drewN | apply Kd.R_drew)); exact (Kd.R_mono (Kd.R_far (p := ⟨gb427, 2, none⟩) (Kd.R_far (p := ⟨gb427, 1, none⟩) (Kd.R_far (p := ⟨gb427, 0, none⟩) (Kd.R_types HO_390002.out BK427.out (by decide)) (fun _ hk => hk.2) (.int .i64 t421)) (fun _ hk => hk.2) (.int .i64 t422)) (fun _ hk => hk.2) (.slice Ao124 t423.length co124)) (fun _ h_ => h_.1))) hb); replace HO_396002 := Aside0.mk (Kd.R_below (by (with_reducible repeat (first | apply Kd.R_alloc | apply Kd.R_drewN | apply Kd.R_drew)); exact (Kd.R_mono (Kd.R_far (p := ⟨gb427, 2, none⟩) (Kd.R_far (p := ⟨gb427, 1, none⟩) (Kd.R_far (p := ⟨gb427, 0, none⟩) (Kd.R_types HO_396002.out BK427.out (by decide)) (fun _ hk => hk.2) (.int .i64 t421)) (fun _ hk => hk.2) (.int .i64 t422)) (fun _ hk => hk.2) (.slice Ao124 t423.length co124)) (fun _ h_ => h_.1))) hb); replace HO_403002 := Aside0.mk (Kd.R_below (by (with_reducible repeat (first | apply Kd.R_alloc | apply Kd.R_drewN | apply Kd.R_drew)); exact (Kd.R_mono (Kd.R_far (p := ⟨gb427, 2, none⟩) (Kd.R_far (p := ⟨gb427, 1, none⟩) (Kd.R_far (p := ⟨gb427, 0, none⟩) (Kd.R_types HO_403002.out BK427.out (by decide)) (fun _ hk => hk.2) (.int .i64 t421)) (fun _ hk => hk.2) (.int .i64 t422)) (fun _ hk => hk.2) (.slice Ao124 t423.length co124)) (fun _ h_ => h_.1))) hb); replace HO420 := Aside0.mk (Kd.R_below (by (with_reducible repeat (first | apply Kd.R_alloc | apply Kd.R_drewN | apply Kd.R_drew)); exact (Kd.R_mono (Kd.R_far (p := ⟨gb427, 2, none⟩) (Kd.R_far (p := ⟨gb427, 1, none⟩) (Kd.R_far (p := ⟨gb427, 0, none⟩) (Kd.R_types HO420.out BK427.out (by decide)) (fun _ hk => hk.2) (.int .i64 t421)) (fun _ hk => hk.2) (.int .i64 t422)) (fun _ hk => hk.2) (.slice Ao124 t423.length co124)) (fun _ h_ => h_.1))) hb); replace HO425 := Aside0.mk (Kd.R_below (by (with_reducible repeat (first | apply Kd.R_alloc | apply Kd.R_drewN | apply Kd.R_drew)); exact (Kd.R_mono (Kd.R_far (p := ⟨gb427, 2, none⟩) (Kd.R_far (p := ⟨gb427, 1, none⟩) (Kd.R_far (p := ⟨gb427, 0, none⟩) (Kd.R_types HO425.out BK427.out (by decide)) (fun _ hk => hk.2) (.int .i64 t421)) (fun _ hk => hk.2) (.int .i64 t422)) (fun _ hk => hk.2) (.slice Ao124 t423.length co124)) (fun _ h_ => h_.1))) hb); replace BK376 := Aside0.mk (blk_below (g := gb376) (o := .cells #[.int .i64 a0_0, .int .i64 a0_1, .slice A0_2 l0_2.length c0_2] 24 (0, 0)) (by (with_reducible repeat (first | refine blk_drewN ?_ _ | refine blk_drew ?_ | refine blk_alloc ?_ _)); refine blk_far ?_ NB376_427.out _; (with_reducible repeat (first | refine blk_drewN ?_ _ | refine blk_drew ?_ | refine blk_alloc ?_ _)); refine blk_far ?_ NB376_427.out _; (with_reducible repeat (first | refine blk_drewN ?_ _ | refine blk_drew ?_ | refine blk_alloc ?_ _)); refine blk_far ?_ NB376_427.out _; (with_reducible repeat (first | refine blk_drewN ?_ _ | refine blk_drew ?_ | refine blk_alloc ?_ _)); exact BK376.out) hb); replace BK389 := Aside0.mk (blk_below (g := gb389) (o := .cells #[.int .i64 t383, .int .i64 t384, .slice Ao23 t385.length co23] 32 (0, 0)) (by (with_reducible repeat (first | refine blk_drewN ?_ _ | refine blk_drew ?_ | refine blk_alloc ?_ _)); refine blk_far ?_ NB389_427.out _; (with_reducible repeat (first | refine blk_drewN ?_ _ | refine blk_drew ?_ | refine blk_alloc ?_ _)); refine blk_far ?_ NB389_427.out _; (with_reducible repeat (first | refine blk_drewN ?_ _ | refine blk_drew ?_ | refine blk_alloc ?_ _)); refine blk_far ?_ NB389_427.out _; (with_reducible repeat (first | refine blk_drewN ?_ _ | refine blk_drew ?_ | refine blk_alloc ?_ _)); exact BK389.out) hb); replace BK395 := Aside0.mk (blk_below (g := gb395) (o := .cells #[.int .i64 t390, .int .i64 t391, .slice Ao30 t411.length co30] 32 (0, 0)) (by (with_reducible repeat (first | refine blk_drewN ?_ _ | refine blk_drew ?_ | refine blk_alloc ?_ _)); refine blk_far ?_ NB395_427.out _; (with_reducible repeat (first | refine blk_drewN ?_ _ | refine blk_drew ?_ | refine blk_alloc ?_ _)); refine blk_far ?_ NB395_427.out _; (with_reducible repeat (first | refine blk_drewN ?_ _ | refine blk_drew ?_ | refine blk_alloc ?_ _)); refine blk_far ?_ NB395_427.out _; (with_reducible repeat (first | refine blk_drewN ?_ _ | refine blk_drew ?_ | refine blk_alloc ?_ _)); exact BK395.out) hb); replace BK402 := Aside0.mk (blk_below (g := gb402) (o := .cells #[.int .i64 t396, .int .i64 t397, .slice Ao37 t398.length co37] 32 (0, 0)) (by (with_reducible repeat (first | refine blk_drewN ?_ _ | refine blk_drew ?_ | refine blk_alloc ?_ _)); refine blk_far ?_ NB402_427.out _; (with_reducible repeat (first | refine blk_drewN ?_ _ | refine blk_drew ?_ | refine blk_alloc ?_ _)); refine blk_far ?_ NB402_427.out _; (with_reducible repeat (first | refine blk_drewN ?_ _ | refine blk_drew ?_ | refine blk_alloc ?_ _)); refine blk_far ?_ NB402_427.out _; (with_reducible repeat (first | refine blk_drewN ?_ _ | refine blk_drew ?_ | refine blk_alloc ?_ _)); exact BK402.out) hb); replace BK427 := Aside0.mk (blk_below (g := gb427) (o := .cells #[.int .i64 t421, .int .i64 t422, .slice Ao124 t423.length co124] 32 (0, 0)) (by (with_reducible repeat (first | refine blk_drewN ?_ _ | refine blk_drew ?_ | refine blk_alloc ?_ _)); refine blk_put (cs := #[.int .i64 t421, .int .i64 t422, .slice none 0 0]) ?_ 2 _ rfl; (with_reducible repeat (first | refine blk_drewN ?_ _ | refine blk_drew ?_ | refine blk_alloc ?_ _)); refine blk_put (cs := #[.int .i64 t421, .int .i64 0, .slice none 0 0]) ?_ 1 _ rfl; (with_reducible repeat (first | refine blk_drewN ?_ _ | refine blk_drew ?_ | refine blk_alloc ?_ _)); refine blk_put (cs := #[.int .i64 0, .int .i64 0, .slice none 0 0]) ?_ 0 _ rfl; (with_reducible repeat (first | refine blk_drewN ?_ _ | refine blk_drew ?_ | refine blk_alloc ?_ _)); exact BK427.out) hb); replace HB := bB HB hb; (try clear hb); (try clear hb2); (try clear hk); (try clear hi)))
             go_meet
             case rel => exact ⟨_, ((t426 != t388)), (by first | rfl | (simp; done) | (simp [*]; done)), H', ⟨by have := HJ11.out; have := HJ60.out; first | omega | exact Nat.le_refl _⟩, ⟨by (try simp only [hl396002_60]); (with_reducible repeat (first | apply Kd.R_alloc | apply Kd.R_drewN | apply Kd.R_drew)); exact Kd.R_mono HO_390002.out (fun _ hk => ⟨hk.1.1.1, ⟨hk.1.1.2, hk.2⟩⟩)⟩, ⟨by (try simp only [hl396002_60]); (with_reducible repeat (first | apply Kd.R_alloc | apply Kd.R_drewN | apply Kd.R_drew)); exact Kd.R_mono HO_396002.out (fun _ hk => ⟨hk.1.1.1, ⟨hk.1.1.2, hk.2⟩⟩)⟩, ⟨by (try simp only [hl396002_60]); (with_reducible repeat (first | apply Kd.R_alloc | apply Kd.R_drewN | apply Kd.R_drew)); exact Kd.R_mono HO_403002.out (fun _ hk => ⟨hk.1.1.1, ⟨hk.1.1.2, hk.2⟩⟩)⟩, ⟨by (try simp only [hl396002_60]); (with_reducible repeat (first | apply Kd.R_alloc | apply Kd.R_drewN | apply Kd.R_drew)); exact Kd.R_mono HO425.out (fun _ hk => ⟨hk.1.1.1.2, ⟨hk.1.1.2, hk.1.2⟩⟩)⟩, ⟨by (try simp only [hl396002_60]); (with_reducible repeat (first | refine blk_drewN ?_ _ | refine blk_drew ?_ | refine blk_alloc ?_ _)); exact BK376.out⟩, ⟨by (try simp only [hl396002_60]); (with_reducible repeat (first | refine blk_drewN ?_ _ | refine blk_drew ?_ | refine blk_alloc ?_ _)); exact BK389.out⟩, ⟨by (try simp only [hl396002_60]); (with_reducible repeat (first | refine blk_drewN ?_ _ | refine blk_drew ?_ | refine blk_alloc ?_ _)); exact BK395.out⟩, ⟨by (try simp only [hl396002_60]); (with_reducible repeat (first | refine blk_drewN ?_ _ | refine blk_drew ?_ | refine blk_alloc ?_ _)); exact BK402.out⟩, ⟨by (try simp only [hl396002_60]); (with_reducible repeat (first | refine blk_drewN ?_ _ | refine blk_drew ?_ | refine blk_alloc ?_ _)); exact BK427.out⟩, ⟨viaB HB⟩⟩
            ·(rw [if_neg c126] at H; exact absurd H (laws_FnExactBoardAfter.bad_j2 _ _ _ _ _))
           case rest =>
            clear HC104
            (try clear c4); (try clear c4b0); (try clear c39); (try clear c56); (try clear c59); (try clear c71); (try clear c71b0); (try clear c73); (try clear c90); (try clear c93); (try clear c93b0); (try clear c101); (try clear c101b0); (try clear c101b1); (try clear c126)
            (try clear hcz108_0 hcz108_1 hcz108_2); (try clear hcz110_0 hcz110_1 hcz110_2); (try clear hcz114_0 hcz114_1 hcz114_2); (try clear hcz123_0 hcz123_1 hcz123_2); (try clear hcz131_0 hcz131_1 hcz131_2); (try clear hcz135_0 hcz135_1 hcz135_2); (try clear hcz14_0 hcz14_1 hcz14_2); (try clear hcz16_0 hcz16_1 hcz16_2); (try clear hcz22_0 hcz22_1 hcz22_2); (try clear hcz24_0 hcz24_1 hcz24_2); (try clear hcz29_0 hcz29_1 hcz29_2); (try clear hcz36_0 hcz36_1 hcz36_2); (try clear hcz43_0 hcz43_1 hcz43_2); (try clear hcz46_0 hcz46_1 hcz46_2); (try clear hcz69_0 hcz69_1 hcz69_2); (try clear hcz6_0 hcz6_1 hcz6_2); (try clear hcz77_0 hcz77_1 hcz77_2); (try clear hcz80_0 hcz80_1 hcz80_2); (try clear hfz108_0 hfz108_1 hfz108_2); (try clear hfz110_0 hfz110_1 hfz110_2); (try clear hfz114_0 hfz114_1 hfz114_2); (try clear hfz123_0 hfz123_1 hfz123_2); (try clear hfz131_0 hfz131_1 hfz131_2); (try clear hfz135_0 hfz135_1 hfz135_2); (try clear hfz14_0 hfz14_1 hfz14_2); (try clear hfz16_0 hfz16_1 hfz16_2); (try clear hfz22_0 hfz22_1 hfz22_2); (try clear hfz24_0 hfz24_1 hfz24_2); (try clear hfz29_0 hfz29_1 hfz29_2); (try clear hfz36_0 hfz36_1 hfz36_2); (try clear hfz43_0 hfz43_1 hfz43_2); (try clear hfz46_0 hfz46_1 hfz46_2); (try clear hfz69_0 hfz69_1 hfz69_2); (try clear hfz6_0 hfz6_1 hfz6_2); (try clear hfz77_0 hfz77_1 hfz77_2); (try clear hfz80_0 hfz80_1 hfz80_2)
            obtain ⟨kq, x92_103, rfl, HA, HJ103, HO_390002, HO_396002, HO_403002, HO_428002, BK376, BK389, BK395, BK402, BK427, HB⟩ := hcut
            have hl403002_103 := (Kd.R_reads' HO_403002.out).1
            rw [hl403002_103] at HO_403002
            (try simp only [hl403002_103])
            (try simp only [hl403002_103] at BK376)
            (try simp only [hl403002_103] at BK389)
            (try simp only [hl403002_103] at BK395)
            (try simp only [hl403002_103] at BK402)
            (try simp only [hl403002_103] at BK427)
            (try simp only [hl403002_103] at HO_390002)
            (try simp only [hl403002_103] at HO_396002)
            (try simp only [hl403002_103] at HO_428002)
            cases kq with
            | zero => exact absurd HA.out (by simp [laws_FnExactBoardAfter.j2])
            | succ kj103 =>
             have H := HA.out
             clear HA
             simp only [laws_FnExactBoardAfter.j2] at H
             by_cases c147 : x92_103 = true
             ·(rw [if_pos c147] at H; exact absurd H (by decide))
             ·replace c147 := Bool.eq_false_iff.mpr c147
              subst c147
              have H1 : ((laws_heldBoard.f kj103 t396 t397 t414 1).bind fun t429 => (if t429 < 0 then (some false) else (if t429 = t413 then (some true) else (some false)))) = some true := by rw [if_neg (show ¬ (false = true) by decide)] at H; exact H
              clear H
              have H := H1
              clear H1
              replace H := Option.bind_eq_some_iff.mp H
              obtain ⟨t429, A1480, H⟩ := H
              replace H : (if t429 < 0 then (some false) else (if t429 = t413 then (some true) else (some false))) = some true := H
              have A148 := Aside0.mk A1480
              clear A1480
              by_cases c149 : t429 < 0
              ·(rw [if_pos c149] at H; exact absurd H (by decide))
              ·rw [if_neg c149] at H
               have c149b0 := decide_eq_false c149
               (try simp only [hl396002_60] at c149b0)
               (try simp only [hl403002_103] at c149b0)
               clear c149
               by_cases c156 : t429 = t413
               ·rw [if_pos c156] at H
                have c156b0 := beq_iff_eq.mpr c156
                have c156b1 := bne_eq_false_iff_eq.mpr c156
                clear c156
                clear H
                have hnb157 := NB402_376.out
                have hnc157 := NB376_402.out
                have hnb158 := NB402_389.out
                have hnc158 := NB389_402.out
                have hnb159 := NB402_395.out
                have hnc159 := NB395_402.out
                have hnb160 := NB402_427.out
                have hnc160 := NB427_402.out
                have hcz161_0 := bc0 BK402
                have hcz161_1 := bc1 BK402
                have hcz161_2 := bc2 BK402
                have hfz161_0 := blk_frozen BK402.out 0
                have hfz161_1 := blk_frozen BK402.out 1
                have hfz161_2 := blk_frozen BK402.out 2
                go_wp2_with (first | ((with_reducible refine gate_callee (f := 24) rfl ?_); refine goesA (some 95) _ #[.agg #[.int .i64 t396, .int .i64 t397, .slice Ao37 t414.length co37], .int .i64 1] ?_ Try.func24; (with_reducible refine (laws_heldBoard.calls kj103 t396 t397 _ _ t414 1 t429 _ ?side1 ?side2 A148.out).mono ?_); (case side1 => repeat (first | exact (Kd.R_reads' HO_403002.out).2.2 | (with_reducible refine Kd.C_alloc ?_ _) | (with_reducible refine Kd.C_drewN ?_ _) | (with_reducible refine Kd.C_drew ?_))); (case side2 => exact (Kd.R_reads' HO_403002.out).2.1); rintro e w162 ⟨rfl, hb⟩; refine ⟨_, rfl, ?_⟩; replace HO_390002 := Aside0.mk (Kd.R_below (viaR HO_390002) hb); replace HO_396002 := Aside0.mk (Kd.R_below (viaR HO_396002) hb); replace HO_403002 := Aside0.mk (Kd.R_below (viaR HO_403002) hb); replace HO_428002 := Aside0.mk (Kd.R_below (viaR HO_428002) hb); replace BK376 := kB BK376 hb; replace BK389 := kB BK389 hb; replace BK395 := kB BK395 hb; replace BK402 := kB BK402 hb; replace BK427 := kB BK427 hb; replace HB := bB HB hb; (try clear hb); (try clear hb2); (try clear hk); (try clear hi)))
                go_ret
                exact ⟨by first | rfl | (simp [errW_none, errW_some] <;> rfl) | (simp [*, errW_none, errW_some] <;> rfl), viaB HB⟩
               ·(rw [if_neg c156] at H; exact absurd H (by decide))
          ·(rw [if_neg c101] at H; exact absurd H (by decide))
     ·(rw [if_neg c59] at H; exact absurd H (by decide))
end Go.Proofs.Ytoklfgjemfojgaa.PFnExactBoardAfter
