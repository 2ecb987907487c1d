/- This text began as one that print.sh wrote for this seat (of the functions named below); it is this session's own: turned where Lean did not take the printed proof, where it was too long for a claim, or only in what it imports. -/
import Derived.Test.YtoklfgjemfojgaaG0
import Derived.Test.YtoklfgjemfojgaaG3
import Derived.Test.YtoklfgjemfojgaaG21
import Derived.Test.YtoklfgjemfojgaaG24
import Derived.Test.YtoklfgjemfojgaaG25
import Derived.Test.YtoklfgjemfojgaaG26
import Derived.Test.YtoklfgjemfojgaaG39
import Derived.Test.YtoklfgjemfojgaaG41
namespace Go.Proofs.Ytoklfgjemfojgaa.PAll
open Go.RowKit Go.Proofs.YtoklfgjemfojgaaW.PrintWords Go.Proofs.YtoklfgjemfojgaaW.PrintLast Go.Proofs.YtoklfgjemfojgaaW.PrintMore
attribute [local go_sem] max2_int min2_int max_two min_two max_three min_three max_four min_four   -- for this text's walks alone
set_option linter.unusedVariables false
set_option linter.unusedSimpArgs false

/-! ### laws_FnExactTurnedBy: function 10 -/
mutual
def laws_FnExactTurnedBy.j0 : Nat → Int → List Int → Bool → List Int → Bool → Bool → Int → Int → List (S91) → Int → Int → List (S89) → Option (Bool)
 | 0, _, _, _, _, _, _, _, _, _, _, _, _ => none
 | k + 1, x1, x6, x7, x9, x10, x44, x892000, x892001, x892002, x908000, x908001, x908002 => if x44 = true then (some false) else ((laws_toBoard.f k x892000 x892001 x892002).bind fun bt913 => ((laws_eqBoard.f k x908000 x908001 x908002 bt913.1 bt913.2.1 bt913.2.2).bind fun t918 => (if t918 = true then ((laws_markBoard.f k x908000 x908001 x908002 1).bind fun bt919 => (if bt919.1 < 0 then (laws_FnExactTurnedBy.j1 k x1 x6 x7 x9 true x892000 x892001 x892002) else ((laws_eqIntS.f k x9 x6).bind fun t921 => (if t921 = true then (laws_FnExactTurnedBy.j1 k x1 x6 x7 x9 (x10 != x7) x892000 x892001 x892002) else (laws_FnExactTurnedBy.j1 k x1 x6 x7 x9 true x892000 x892001 x892002))))) else (some false))))
def laws_FnExactTurnedBy.j1 : Nat → Int → List Int → Bool → List Int → Bool → Int → Int → List (S91) → Option (Bool)
 | 0, _, _, _, _, _, _, _, _ => none
 | k + 1, x1, x6, x7, x9, x65, x892000, x892001, x892002 => if x65 = true then (some false) else ((laws_markIntS.f k x9 1).bind fun bt922 => ((laws_heldIntS.f k bt922.2 1).bind fun t924 => (if t924 < 0 then (some false) else (if t924 = bt922.1 then ((laws_toBoard.f k x892000 x892001 x892002).bind fun bt925 => ((impl_TurnedBy.f k bt925.1 bt925.2.1 bt925.2.2 x1).bind fun bt930 => ((laws_eqIntS.f k bt930.1 x6).bind fun t934 => (if t934 = true then (laws_FnExactTurnedBy.j2 k bt922.2 bt922.1 (bt930.2 != x7)) else (laws_FnExactTurnedBy.j2 k bt922.2 bt922.1 true))))) else (some false)))))
def laws_FnExactTurnedBy.j2 : Nat → List Int → Int → Bool → Option (Bool)
 | 0, _, _, _ => none
 | k + 1, x9, x12, x92 => if x92 = true then (some false) else ((laws_heldIntS.f k x9 1).bind fun t935 => (if t935 < 0 then (some false) else (if t935 = x12 then (some true) else (some false))))
end
def laws_FnExactTurnedBy.f (k : Nat) (a0_0 : Int) (a0_1 : Int) (l0_2 : List (S91)) (a1 : Int) : Option (Bool) := (laws_szBoard.f a0_0 a0_1 l0_2 1048576).bind fun t892 => (if t892 < 0 then (some true) else ((laws_toBoard.f k a0_0 a0_1 l0_2).bind fun bt893 => ((spec_TurnedBy.f k bt893.1 bt893.2.1 bt893.2.2 a1).bind fun bt898 => ((laws_toBoard.f k a0_0 a0_1 l0_2).bind fun bt902 => ((impl_TurnedBy.f k bt902.1 bt902.2.1 bt902.2.2 a1).bind fun bt908 => ((laws_eqIntS.f k bt908.1 bt898.1).bind fun t912 => (if t912 = true then (laws_FnExactTurnedBy.j0 k a1 bt898.1 bt898.2 bt908.1 bt908.2 (bt908.2 != bt898.2) a0_0 a0_1 l0_2 bt902.1 bt902.2.1 bt902.2.2) else (laws_FnExactTurnedBy.j0 k a1 bt898.1 bt898.2 bt908.1 bt908.2 true a0_0 a0_1 l0_2 bt902.1 bt902.2.1 bt902.2.2))))))))
theorem laws_FnExactTurnedBy.mono_l : ∀ k, (∀ y0 y1 y2 y3 y4 y5 y6 y7 y8 y9 y10 y11, LeO (laws_FnExactTurnedBy.j0 k y0 y1 y2 y3 y4 y5 y6 y7 y8 y9 y10 y11) (laws_FnExactTurnedBy.j0 (k + 1) y0 y1 y2 y3 y4 y5 y6 y7 y8 y9 y10 y11)) ∧ (∀ y0 y1 y2 y3 y4 y5 y6 y7, LeO (laws_FnExactTurnedBy.j1 k y0 y1 y2 y3 y4 y5 y6 y7) (laws_FnExactTurnedBy.j1 (k + 1) y0 y1 y2 y3 y4 y5 y6 y7)) ∧ (∀ y0 y1 y2, LeO (laws_FnExactTurnedBy.j2 k y0 y1 y2) (laws_FnExactTurnedBy.j2 (k + 1) y0 y1 y2))
 | 0 => ⟨fun _ _ _ _ _ _ _ _ _ _ _ _ r h => by simp [laws_FnExactTurnedBy.j0] at h, fun _ _ _ _ _ _ _ _ r h => by simp [laws_FnExactTurnedBy.j1] at h, fun _ _ _ r h => by simp [laws_FnExactTurnedBy.j2] at h⟩
 | k + 1 => by
  obtain ⟨ih0, ih1, ih2⟩ := laws_FnExactTurnedBy.mono_l k
  refine ⟨?_, ?_, ?_⟩
  ·intro y0 y1 y2 y3 y4 y5 y6 y7 y8 y9 y10 y11
   unfold laws_FnExactTurnedBy.j0
   repeat' first | (with_reducible first | exact ih0 _ _ _ _ _ _ _ _ _ _ _ _ | exact ih1 _ _ _ _ _ _ _ _ | exact ih2 _ _ _ | exact impl_TurnedBy.mono _ _ _ _ _ | exact laws_eqBoard.mono _ _ _ _ _ _ _ | exact laws_eqIntS.mono _ _ _ | exact laws_heldIntS.mono _ _ _ | exact laws_markBoard.mono _ _ _ _ _ | exact laws_markIntS.mono _ _ _ | exact laws_toBoard.mono _ _ _ _ | exact spec_TurnedBy.mono _ _ _ _ _ | exact LeO.refl _ | exact LeO.none _ | refine LeO.ite ?_ ?_ | refine LeO.bind ?_ (fun _ => ?_)) | exact ih0 _ _ _ _ _ _ _ _ _ _ _ _ | exact ih1 _ _ _ _ _ _ _ _ | exact ih2 _ _ _ | exact impl_TurnedBy.mono _ _ _ _ _ | exact laws_eqBoard.mono _ _ _ _ _ _ _ | exact laws_eqIntS.mono _ _ _ | exact laws_heldIntS.mono _ _ _ | exact laws_markBoard.mono _ _ _ _ _ | exact laws_markIntS.mono _ _ _ | exact laws_toBoard.mono _ _ _ _ | exact spec_TurnedBy.mono _ _ _ _ _ | exact LeO.none _ | refine LeO.ite ?_ ?_ | refine LeO.bind ?_ (fun _ => ?_)
  ·intro y0 y1 y2 y3 y4 y5 y6 y7
   unfold laws_FnExactTurnedBy.j1
   repeat' first | (with_reducible first | exact ih0 _ _ _ _ _ _ _ _ _ _ _ _ | exact ih1 _ _ _ _ _ _ _ _ | exact ih2 _ _ _ | exact impl_TurnedBy.mono _ _ _ _ _ | exact laws_eqBoard.mono _ _ _ _ _ _ _ | exact laws_eqIntS.mono _ _ _ | exact laws_heldIntS.mono _ _ _ | exact laws_markBoard.mono _ _ _ _ _ | exact laws_markIntS.mono _ _ _ | exact laws_toBoard.mono _ _ _ _ | exact spec_TurnedBy.mono _ _ _ _ _ | exact LeO.refl _ | exact LeO.none _ | refine LeO.ite ?_ ?_ | refine LeO.bind ?_ (fun _ => ?_)) | exact ih0 _ _ _ _ _ _ _ _ _ _ _ _ | exact ih1 _ _ _ _ _ _ _ _ | exact ih2 _ _ _ | exact impl_TurnedBy.mono _ _ _ _ _ | exact laws_eqBoard.mono _ _ _ _ _ _ _ | exact laws_eqIntS.mono _ _ _ | exact laws_heldIntS.mono _ _ _ | exact laws_markBoard.mono _ _ _ _ _ | exact laws_markIntS.mono _ _ _ | exact laws_toBoard.mono _ _ _ _ | exact spec_TurnedBy.mono _ _ _ _ _ | exact LeO.none _ | refine LeO.ite ?_ ?_ | refine LeO.bind ?_ (fun _ => ?_)
  ·intro y0 y1 y2
   unfold laws_FnExactTurnedBy.j2
   repeat' first | (with_reducible first | exact ih0 _ _ _ _ _ _ _ _ _ _ _ _ | exact ih1 _ _ _ _ _ _ _ _ | exact ih2 _ _ _ | exact impl_TurnedBy.mono _ _ _ _ _ | exact laws_eqBoard.mono _ _ _ _ _ _ _ | exact laws_eqIntS.mono _ _ _ | exact laws_heldIntS.mono _ _ _ | exact laws_markBoard.mono _ _ _ _ _ | exact laws_markIntS.mono _ _ _ | exact laws_toBoard.mono _ _ _ _ | exact spec_TurnedBy.mono _ _ _ _ _ | exact LeO.refl _ | exact LeO.none _ | refine LeO.ite ?_ ?_ | refine LeO.bind ?_ (fun _ => ?_)) | exact ih0 _ _ _ _ _ _ _ _ _ _ _ _ | exact ih1 _ _ _ _ _ _ _ _ | exact ih2 _ _ _ | exact impl_TurnedBy.mono _ _ _ _ _ | exact laws_eqBoard.mono _ _ _ _ _ _ _ | exact laws_eqIntS.mono _ _ _ | exact laws_heldIntS.mono _ _ _ | exact laws_markBoard.mono _ _ _ _ _ | exact laws_markIntS.mono _ _ _ | exact laws_toBoard.mono _ _ _ _ | exact spec_TurnedBy.mono _ _ _ _ _ | exact LeO.none _ | refine LeO.ite ?_ ?_ | refine LeO.bind ?_ (fun _ => ?_)
theorem laws_FnExactTurnedBy.mono : ∀ a0 a1 a2 a3 k, LeO (laws_FnExactTurnedBy.f k a0 a1 a2 a3) (laws_FnExactTurnedBy.f (k + 1) a0 a1 a2 a3) := by
 intro a0 a1 a2 a3 k
 obtain ⟨ih0, ih1, ih2⟩ := laws_FnExactTurnedBy.mono_l k
 unfold laws_FnExactTurnedBy.f
 repeat' first | (with_reducible first | exact ih0 _ _ _ _ _ _ _ _ _ _ _ _ | exact ih1 _ _ _ _ _ _ _ _ | exact ih2 _ _ _ | exact impl_TurnedBy.mono _ _ _ _ _ | exact laws_eqBoard.mono _ _ _ _ _ _ _ | exact laws_eqIntS.mono _ _ _ | exact laws_heldIntS.mono _ _ _ | exact laws_markBoard.mono _ _ _ _ _ | exact laws_markIntS.mono _ _ _ | exact laws_toBoard.mono _ _ _ _ | exact spec_TurnedBy.mono _ _ _ _ _ | exact LeO.refl _ | exact LeO.none _ | refine LeO.ite ?_ ?_ | refine LeO.bind ?_ (fun _ => ?_)) | exact ih0 _ _ _ _ _ _ _ _ _ _ _ _ | exact ih1 _ _ _ _ _ _ _ _ | exact ih2 _ _ _ | exact impl_TurnedBy.mono _ _ _ _ _ | exact laws_eqBoard.mono _ _ _ _ _ _ _ | exact laws_eqIntS.mono _ _ _ | exact laws_heldIntS.mono _ _ _ | exact laws_markBoard.mono _ _ _ _ _ | exact laws_markIntS.mono _ _ _ | exact laws_toBoard.mono _ _ _ _ | exact spec_TurnedBy.mono _ _ _ _ _ | exact LeO.none _ | refine LeO.ite ?_ ?_ | refine LeO.bind ?_ (fun _ => ?_)
theorem laws_FnExactTurnedBy.bad_j0 (k : Nat) (y0 : Int) (y1 : List Int) (y2 : Bool) (y3 : List Int) (y4 : Bool) (y6 : Int) (y7 : Int) (y8 : List (S91)) (y9 : Int) (y10 : Int) (y11 : List (S89)) : ¬ laws_FnExactTurnedBy.j0 k y0 y1 y2 y3 y4 true y6 y7 y8 y9 y10 y11 = some true := by
 cases k <;> simp [laws_FnExactTurnedBy.j0]
theorem laws_FnExactTurnedBy.bad_j1 (k : Nat) (y0 : Int) (y1 : List Int) (y2 : Bool) (y3 : List Int) (y5 : Int) (y6 : Int) (y7 : List (S91)) : ¬ laws_FnExactTurnedBy.j1 k y0 y1 y2 y3 true y5 y6 y7 = some true := by
 cases k <;> simp [laws_FnExactTurnedBy.j1]
theorem laws_FnExactTurnedBy.bad_j2 (k : Nat) (y0 : List Int) (y1 : Int) : ¬ laws_FnExactTurnedBy.j2 k y0 y1 true = some true := by
 cases k <;> simp [laws_FnExactTurnedBy.j2]
set_option maxHeartbeats 8000000 in
set_option maxRecDepth 100000 in
theorem laws_FnExactTurnedBy.calls (k : Nat) (a0_0 : Int) (a0_1 : Int) (A0_2 : Option Addr) (c0_2 : Nat) (l0_2 : List (S91)) (a1 : Int) (w : World) (hr0_2 : Kd.C k91 w A0_2 l0_2.length l0_2) (hc0_2 : l0_2.length ≤ c0_2) (h : laws_FnExactTurnedBy.f k a0_0 a0_1 l0_2 a1 = some true) :
  Calls Try.prog 10 #[.agg #[.int .i64 a0_0, .int .i64 a0_1, .slice A0_2 l0_2.length c0_2], .int .i64 a1] w fun e w' => e = .returned (.bool true) ∧ Below w.heap.size w w' := by
 have hu24 := Try.underlying24
 have hu32 := Try.underlying32
 have HR0_2 := Aside0.mk hr0_2
 have HC0_2 := Aside0.mk hc0_2
 clear hr0_2 hc0_2
 have HB := Aside0.mk (Below.refl w.heap.size w)
 have H : ((laws_szBoard.f a0_0 a0_1 l0_2 1048576).bind fun t892 => (if t892 < 0 then (some true) else ((laws_toBoard.f k a0_0 a0_1 l0_2).bind fun bt893 => ((spec_TurnedBy.f k bt893.1 bt893.2.1 bt893.2.2 a1).bind fun bt898 => ((laws_toBoard.f k a0_0 a0_1 l0_2).bind fun bt902 => ((impl_TurnedBy.f k bt902.1 bt902.2.1 bt902.2.2 a1).bind fun bt908 => ((laws_eqIntS.f k bt908.1 bt898.1).bind fun t912 => (if t912 = true then (laws_FnExactTurnedBy.j0 k a1 bt898.1 bt898.2 bt908.1 bt908.2 (bt908.2 != bt898.2) a0_0 a0_1 l0_2 bt902.1 bt902.2.1 bt902.2.2) else (laws_FnExactTurnedBy.j0 k a1 bt898.1 bt898.2 bt908.1 bt908.2 true a0_0 a0_1 l0_2 bt902.1 bt902.2.1 bt902.2.2))))))))) = some true := h
 clear h
 replace H := Option.bind_eq_some_iff.mp H
 obtain ⟨t892, A30, H⟩ := H
 replace H : (if t892 < 0 then (some true) else ((laws_toBoard.f k a0_0 a0_1 l0_2).bind fun bt893 => ((spec_TurnedBy.f k bt893.1 bt893.2.1 bt893.2.2 a1).bind fun bt898 => ((laws_toBoard.f k a0_0 a0_1 l0_2).bind fun bt902 => ((impl_TurnedBy.f k bt902.1 bt902.2.1 bt902.2.2 a1).bind fun bt908 => ((laws_eqIntS.f k bt908.1 bt898.1).bind fun t912 => (if t912 = true then (laws_FnExactTurnedBy.j0 k a1 bt898.1 bt898.2 bt908.1 bt908.2 (bt908.2 != bt898.2) a0_0 a0_1 l0_2 bt902.1 bt902.2.1 bt902.2.2) else (laws_FnExactTurnedBy.j0 k a1 bt898.1 bt898.2 bt908.1 bt908.2 true a0_0 a0_1 l0_2 bt902.1 bt902.2.1 bt902.2.2)))))))) = some true := H
 have A3 := Aside0.mk A30
 clear A30
 by_cases c4 : t892 < 0
 ·rw [if_pos c4] at H
  have c4b0 := decide_eq_true c4
  clear c4
  clear H
  go_enter Try.func10, Try.ntmps10
  go_wp2_with (first | ((with_reducible refine gate_dst (N := 2) rfl ?_); refine box_ev (N := 2) (cs := #[.int .i64 a0_0, .int .i64 a0_1, .slice A0_2 l0_2.length c0_2]) (t := 24) ?_; intro gb891 hg w5 hbox hb; have BK891 := Aside0.mk (hbox); have GW891 := gW (w := w) HB hg; have GE891 := gW (w := w) HB hg; replace HB := bB HB hb; clear hb hbox hg; have hcz6_0 := bc0 BK891; have hcz6_1 := bc1 BK891; have hcz6_2 := bc2 BK891; have hfz6_0 := blk_frozen BK891.out 0; have hfz6_1 := blk_frozen BK891.out 1; have hfz6_2 := blk_frozen BK891.out 2) | ((with_reducible refine gate_callee (f := 13) rfl ?_); refine goesA (some 18) _ #[.agg #[.int .i64 a0_0, .int .i64 a0_1, .slice A0_2 l0_2.length c0_2], .int .i64 1048576] ?_ Try.func13; (with_reducible refine (laws_szBoard.calls a0_0 a0_1 _ _ l0_2 1048576 t892 _ ?side1 ?side2 A3.out).mono ?_); (case side1 => repeat (first | exact (Kd.C_below HR0_2.out HB.out) | (with_reducible refine Kd.C_alloc ?_ _) | (with_reducible refine Kd.C_drewN ?_ _) | (with_reducible refine Kd.C_drew ?_))); (case side2 => exact HC0_2.out); rintro e w7 ⟨rfl, hb⟩; refine ⟨_, rfl, ?_⟩; replace BK891 := kB BK891 hb; replace HB := bB HB hb; (try clear hb); (try clear hb2); (try clear hk); (try clear hi)))
  go_ret
  exact ⟨by first | rfl | (simp [errW_none, errW_some] <;> rfl) | (simp [*, errW_none, errW_some] <;> rfl), viaB HB⟩
 ·rw [if_neg c4] at H
  have c4b0 := decide_eq_false c4
  clear c4
  replace H := Option.bind_eq_some_iff.mp H
  obtain ⟨⟨t893, t894, t895⟩, A80, H⟩ := H
  replace H : ((spec_TurnedBy.f k t893 t894 t895 a1).bind fun bt898 => ((laws_toBoard.f k a0_0 a0_1 l0_2).bind fun bt902 => ((impl_TurnedBy.f k bt902.1 bt902.2.1 bt902.2.2 a1).bind fun bt908 => ((laws_eqIntS.f k bt908.1 bt898.1).bind fun t912 => (if t912 = true then (laws_FnExactTurnedBy.j0 k a1 bt898.1 bt898.2 bt908.1 bt908.2 (bt908.2 != bt898.2) a0_0 a0_1 l0_2 bt902.1 bt902.2.1 bt902.2.2) else (laws_FnExactTurnedBy.j0 k a1 bt898.1 bt898.2 bt908.1 bt908.2 true a0_0 a0_1 l0_2 bt902.1 bt902.2.1 bt902.2.2)))))) = some true := H
  have A8 := Aside0.mk A80
  clear A80
  replace H := Option.bind_eq_some_iff.mp H
  obtain ⟨⟨t898, t901⟩, A90, H⟩ := H
  replace H : ((laws_toBoard.f k a0_0 a0_1 l0_2).bind fun bt902 => ((impl_TurnedBy.f k bt902.1 bt902.2.1 bt902.2.2 a1).bind fun bt908 => ((laws_eqIntS.f k bt908.1 t898).bind fun t912 => (if t912 = true then (laws_FnExactTurnedBy.j0 k a1 t898 t901 bt908.1 bt908.2 (bt908.2 != t901) a0_0 a0_1 l0_2 bt902.1 bt902.2.1 bt902.2.2) else (laws_FnExactTurnedBy.j0 k a1 t898 t901 bt908.1 bt908.2 true a0_0 a0_1 l0_2 bt902.1 bt902.2.1 bt902.2.2))))) = some true := H
  have A9 := Aside0.mk A90
  clear A90
  replace H := Option.bind_eq_some_iff.mp H
  obtain ⟨⟨t902, t903, t904⟩, A100, H⟩ := H
  replace H : ((impl_TurnedBy.f k t902 t903 t904 a1).bind fun bt908 => ((laws_eqIntS.f k bt908.1 t898).bind fun t912 => (if t912 = true then (laws_FnExactTurnedBy.j0 k a1 t898 t901 bt908.1 bt908.2 (bt908.2 != t901) a0_0 a0_1 l0_2 t902 t903 t904) else (laws_FnExactTurnedBy.j0 k a1 t898 t901 bt908.1 bt908.2 true a0_0 a0_1 l0_2 t902 t903 t904)))) = some true := H
  have A10 := Aside0.mk A100
  clear A100
  replace H := Option.bind_eq_some_iff.mp H
  obtain ⟨⟨t908, t911⟩, A110, H⟩ := H
  replace H : ((laws_eqIntS.f k t908 t898).bind fun t912 => (if t912 = true then (laws_FnExactTurnedBy.j0 k a1 t898 t901 t908 t911 (t911 != t901) a0_0 a0_1 l0_2 t902 t903 t904) else (laws_FnExactTurnedBy.j0 k a1 t898 t901 t908 t911 true a0_0 a0_1 l0_2 t902 t903 t904))) = some true := H
  have A11 := Aside0.mk A110
  clear A110
  have HC12 := Aside0.mk H
  clear H
  go_enter Try.func10, Try.ntmps10
  go_upto_region 8 with (first | ((with_reducible refine gate_dst (N := 2) rfl ?_); refine box_ev (N := 2) (cs := #[.int .i64 a0_0, .int .i64 a0_1, .slice A0_2 l0_2.length c0_2]) (t := 24) ?_; intro gb891 hg w13 hbox hb; have BK891 := Aside0.mk (hbox); have GW891 := gW (w := w) HB hg; have GE891 := gW (w := w) HB hg; replace HB := bB HB hb; clear hb hbox hg; have hcz14_0 := bc0 BK891; have hcz14_1 := bc1 BK891; have hcz14_2 := bc2 BK891; have hfz14_0 := blk_frozen BK891.out 0; have hfz14_1 := blk_frozen BK891.out 1; have hfz14_2 := blk_frozen BK891.out 2) | ((with_reducible refine gate_callee (f := 13) rfl ?_); refine goesA (some 18) _ #[.agg #[.int .i64 a0_0, .int .i64 a0_1, .slice A0_2 l0_2.length c0_2], .int .i64 1048576] ?_ Try.func13; (with_reducible refine (laws_szBoard.calls a0_0 a0_1 _ _ l0_2 1048576 t892 _ ?side1 ?side2 A3.out).mono ?_); (case side1 => repeat (first | exact (Kd.C_below HR0_2.out HB.out) | (with_reducible refine Kd.C_alloc ?_ _) | (with_reducible refine Kd.C_drewN ?_ _) | (with_reducible refine Kd.C_drew ?_))); (case side2 => exact HC0_2.out); rintro e w15 ⟨rfl, hb⟩; refine ⟨_, rfl, ?_⟩; replace BK891 := kB BK891 hb; replace HB := bB HB hb; (try clear hb); (try clear hb2); (try clear hk); (try clear hi); have hcz16_0 := bc0 BK891; have hcz16_1 := bc1 BK891; have hcz16_2 := bc2 BK891; have hfz16_0 := blk_frozen BK891.out 0; have hfz16_1 := blk_frozen BK891.out 1; have hfz16_2 := blk_frozen BK891.out 2) | ((with_reducible refine gate_callee (f := 15) rfl ?_); refine goesA (some 23) _ #[.agg #[.int .i64 a0_0, .int .i64 a0_1, .slice A0_2 l0_2.length c0_2]] ?_ Try.func15; (with_reducible refine (laws_toBoard.calls k a0_0 a0_1 _ _ l0_2 t893 t894 t895 _ ?side1 ?side2 A8.out).mono ?_); (case side1 => repeat (first | exact (Kd.C_below HR0_2.out HB.out) | (with_reducible refine Kd.C_alloc ?_ _) | (with_reducible refine Kd.C_drewN ?_ _) | (with_reducible refine Kd.C_drew ?_))); (case side2 => exact HC0_2.out); rintro e w17 ⟨v896, rfl, ho0, hb⟩; refine ⟨_, rfl, ?_⟩; have HO897 := Aside0.mk (Kd.R_lower ho0 (below_size (viaB HB))); replace BK891 := kB BK891 hb; replace HB := bB HB hb; (try clear hb); (try clear hb2); (try clear hk); (try clear hi); (try clear ho0); obtain ⟨Ao18, co18, eo18⟩ := Kd.R_slice HO897.out; subst eo18) | ((with_reducible refine gate_callee (f := 40) rfl ?_); refine goesA (some 25) _ #[.agg #[.int .i64 t893, .int .i64 t894, .slice Ao18 t895.length co18], .int .i64 a1] ?_ Try.func40; (with_reducible refine (spec_TurnedBy.calls k t893 t894 _ _ t895 a1 t898 t901 _ ?side1 ?side2 A9.out).mono ?_); (case side1 => repeat (first | exact (Kd.R_reads' HO897.out).2.2 | (with_reducible refine Kd.C_alloc ?_ _) | (with_reducible refine Kd.C_drewN ?_ _) | (with_reducible refine Kd.C_drew ?_))); (case side2 => exact (Kd.R_reads' HO897.out).2.1); rintro e w19 ⟨v899, rfl, ho0, hb⟩; refine ⟨_, rfl, ?_⟩; have HO900 := Aside0.mk (Kd.R_lower ho0 (below_size (viaB HB))); replace HO897 := Aside0.mk (Kd.R_below (viaR HO897) hb); replace BK891 := kB BK891 hb; replace HB := bB HB hb; (try clear hb); (try clear hb2); (try clear hk); (try clear hi); (try clear ho0); have hcz20_0 := bc0 BK891; have hcz20_1 := bc1 BK891; have hcz20_2 := bc2 BK891; have hfz20_0 := blk_frozen BK891.out 0; have hfz20_1 := blk_frozen BK891.out 1; have hfz20_2 := blk_frozen BK891.out 2) | ((with_reducible refine gate_callee (f := 15) rfl ?_); refine goesA (some 29) _ #[.agg #[.int .i64 a0_0, .int .i64 a0_1, .slice A0_2 l0_2.length c0_2]] ?_ Try.func15; (with_reducible refine (laws_toBoard.calls k a0_0 a0_1 _ _ l0_2 t902 t903 t904 _ ?side1 ?side2 A10.out).mono ?_); (case side1 => repeat (first | exact (Kd.C_below HR0_2.out HB.out) | (with_reducible refine Kd.C_alloc ?_ _) | (with_reducible refine Kd.C_drewN ?_ _) | (with_reducible refine Kd.C_drew ?_))); (case side2 => exact HC0_2.out); rintro e w21 ⟨v905, rfl, ho0, hb⟩; refine ⟨_, rfl, ?_⟩; have HO906 := Aside0.mk (Kd.R_lower (Kd.R_new' ho0 (Kd.R_lt (viaR HO897))) (below_size (viaB HB))); replace HO897 := Aside0.mk (Kd.R_elder' (viaR HO897) (Kd.R_base ho0) hb); replace HO900 := Aside0.mk (Kd.R_below (viaR HO900) hb); replace BK891 := kB BK891 hb; replace HB := bB HB hb; (try clear hb); (try clear hb2); (try clear hk); (try clear hi); (try clear ho0)) | ((with_reducible refine gate_dst (N := 8) rfl ?_); refine box_ev (N := 8) (cs := #[.int .i64 0, .int .i64 0, .slice none 0 0]) (t := 32) ?_; intro gb907 hg w22 hbox hb; have BK907 := Aside0.mk (hbox); have GW907 := gW (w := w) HB hg; have GE907 := gW (w := w) HB hg; have NB891_907 := neL BK891 hg; have NB907_891 := neG BK891 hg; replace HO897 := Aside0.mk (Kd.R_below (viaR HO897) hb); replace HO900 := Aside0.mk (Kd.R_below (viaR HO900) hb); replace HO906 := Aside0.mk (Kd.R_below (viaR HO906) hb); replace BK891 := kB BK891 hb; replace HB := bB HB hb; clear hb hbox hg; have hnb23 := NB907_891.out; have hnc23 := NB891_907.out; have hcz24_0 := bc0 BK907; have hcz24_1 := bc1 BK907; have hcz24_2 := bc2 BK907; have hfz24_0 := blk_frozen BK907.out 0; have hfz24_1 := blk_frozen BK907.out 1; have hfz24_2 := blk_frozen BK907.out 2; obtain ⟨Ao25, co25, eo25⟩ := Kd.R_slice HO906.out; subst eo25) | ((with_reducible refine gate_callee (f := 41) rfl ?_); refine goesA (some 33) _ #[.agg #[.int .i64 t902, .int .i64 t903, .slice Ao25 t904.length co25], .int .i64 a1] ?_ Try.func41; (with_reducible refine (impl_TurnedBy.calls k t902 t903 _ _ t904 a1 t908 t911 _ ?side1 ?side2 A11.out).mono ?_); (case side1 => refine (Kd.R_reads' (e := 89) (base := w.heap.size) (ok := fun k_ => (True ∧ some k_ ≠ (.slice Ao18 t895.length co18 : Value).ownBlock)) (n := t904.length) (c := co25) ?_).2.2; exact (by (with_reducible repeat (first | apply Kd.R_alloc | apply Kd.R_drewN | apply Kd.R_drew)); exact (Kd.R_mono (Kd.R_far (p := ⟨gb907, 2, none⟩) (Kd.R_far (p := ⟨gb907, 1, none⟩) (Kd.R_far (p := ⟨gb907, 0, none⟩) (Kd.R_types HO906.out BK907.out (by decide)) (fun _ hk => hk.2) (.int .i64 t902)) (fun _ hk => hk.2) (.int .i64 t903)) (fun _ hk => hk.2) (.slice Ao25 t904.length co25)) (fun _ h_ => h_.1)))); (case side2 => exact (Kd.R_reads' HO906.out).2.1); rintro e w26 ⟨v909, rfl, ho0, hb⟩; refine ⟨_, rfl, ?_⟩; have HO910 := Aside0.mk (Kd.R_lower (Kd.R_new' ho0 (Kd.R_lt (by (with_reducible repeat (first | apply Kd.R_alloc | apply Kd.R_drewN | apply Kd.R_drew)); exact (Kd.R_mono (Kd.R_far (p := ⟨gb907, 2, none⟩) (Kd.R_far (p := ⟨gb907, 1, none⟩) (Kd.R_far (p := ⟨gb907, 0, none⟩) (Kd.R_types HO900.out BK907.out (by decide)) (fun _ hk => hk.2) (.int .i64 t902)) (fun _ hk => hk.2) (.int .i64 t903)) (fun _ hk => hk.2) (.slice Ao25 t904.length co25)) (fun _ h_ => h_.1))))) (below_size (viaB HB))); replace HO897 := Aside0.mk (Kd.R_below (by (with_reducible repeat (first | apply Kd.R_alloc | apply Kd.R_drewN | apply Kd.R_drew)); exact (Kd.R_mono (Kd.R_far (p := ⟨gb907, 2, none⟩) (Kd.R_far (p := ⟨gb907, 1, none⟩) (Kd.R_far (p := ⟨gb907, 0, none⟩) (Kd.R_types HO897.out BK907.out (by decide)) (fun _ hk => hk.2) (.int .i64 t902)) (fun _ hk => hk.2) (.int .i64 t903)) (fun _ hk => hk.2) (.slice Ao25 t904.length co25)) (fun _ h_ => h_.1))) hb); replace HO900 := Aside0.mk (Kd.R_elder' (by (with_reducible repeat (first | apply Kd.R_alloc | apply Kd.R_drewN | apply Kd.R_drew)); exact (Kd.R_mono (Kd.R_far (p := ⟨gb907, 2, none⟩) (Kd.R_far (p := ⟨gb907, 1, none⟩) (Kd.R_far (p := ⟨gb907, 0, none⟩) (Kd.R_types HO900.out BK907.out (by decide)) (fun _ hk => hk.2) (.int .i64 t902)) (fun _ hk => hk.2) (.int .i64 t903)) (fun _ hk => hk.2) (.slice Ao25 t904.length co25)) (fun _ h_ => h_.1))) (Kd.R_base ho0) hb); replace HO906 := Aside0.mk (Kd.R_below (by (with_reducible repeat (first | apply Kd.R_alloc | apply Kd.R_drewN | apply Kd.R_drew)); exact (Kd.R_mono (Kd.R_far (p := ⟨gb907, 2, none⟩) (Kd.R_far (p := ⟨gb907, 1, none⟩) (Kd.R_far (p := ⟨gb907, 0, none⟩) (Kd.R_types HO906.out BK907.out (by decide)) (fun _ hk => hk.2) (.int .i64 t902)) (fun _ hk => hk.2) (.int .i64 t903)) (fun _ hk => hk.2) (.slice Ao25 t904.length co25)) (fun _ h_ => h_.1))) hb); replace BK891 := Aside0.mk (blk_below (g := gb891) (o := .cells #[.int .i64 a0_0, .int .i64 a0_1, .slice A0_2 l0_2.length c0_2] 24 (0, 0)) (by (with_reducible repeat (first | refine blk_drewN ?_ _ | refine blk_drew ?_ | refine blk_alloc ?_ _)); refine blk_far ?_ NB891_907.out _; (with_reducible repeat (first | refine blk_drewN ?_ _ | refine blk_drew ?_ | refine blk_alloc ?_ _)); refine blk_far ?_ NB891_907.out _; (with_reducible repeat (first | refine blk_drewN ?_ _ | refine blk_drew ?_ | refine blk_alloc ?_ _)); refine blk_far ?_ NB891_907.out _; (with_reducible repeat (first | refine blk_drewN ?_ _ | refine blk_drew ?_ | refine blk_alloc ?_ _)); exact BK891.out) hb); replace BK907 := Aside0.mk (blk_below (g := gb907) (o := .cells #[.int .i64 t902, .int .i64 t903, .slice Ao25 t904.length co25] 32 (0, 0)) (by (with_reducible repeat (first | refine blk_drewN ?_ _ | refine blk_drew ?_ | refine blk_alloc ?_ _)); refine blk_put (cs := #[.int .i64 t902, .int .i64 t903, .slice none 0 0]) ?_ 2 _ rfl; (with_reducible repeat (first | refine blk_drewN ?_ _ | refine blk_drew ?_ | refine blk_alloc ?_ _)); refine blk_put (cs := #[.int .i64 t902, .int .i64 0, .slice none 0 0]) ?_ 1 _ rfl; (with_reducible repeat (first | refine blk_drewN ?_ _ | refine blk_drew ?_ | refine blk_alloc ?_ _)); refine blk_put (cs := #[.int .i64 0, .int .i64 0, .slice none 0 0]) ?_ 0 _ rfl; (with_reducible repeat (first | refine blk_drewN ?_ _ | refine blk_drew ?_ | refine blk_alloc ?_ _)); exact BK907.out) hb); replace HB := bB HB hb; (try clear hb); (try clear hb2); (try clear hk); (try clear hi); (try clear ho0)))
  (try simp only [Act.put, q1, q2, q3])
  go_cut [44] (fun v44 wc => ∃ (kq : Nat) (x44_11 : Bool), v44 = .bool x44_11 ∧ Aside0 (laws_FnExactTurnedBy.j0 kq a1 t898 t901 t908 t911 x44_11 a0_0 a0_1 l0_2 t902 t903 t904 = some true) ∧ Aside0 (kq ≤ k) ∧ Aside0 (Kd.R (Kd.int .i64) 3 wc w.heap.size (fun k_ => some k_ ≠ (v909 : Value).ownBlock) v899 t898) ∧ Aside0 (Kd.R (Kd.int .i64) 3 wc w.heap.size (fun k_ => some k_ ≠ (v899 : Value).ownBlock) v909 t908) ∧ Aside0 (Kd.R k89 89 wc w.heap.size (fun _ => True) (.slice Ao25 t904.length co25) t904) ∧ Aside0 (wc.heap[gb891]? = some (.cells #[.int .i64 a0_0, .int .i64 a0_1, (.slice A0_2 l0_2.length c0_2)] 24 (0, 0))) ∧ Aside0 (wc.heap[gb907]? = some (.cells #[.int .i64 t902, .int .i64 t903, (.slice Ao25 t904.length co25)] 32 (0, 0))) ∧ Aside0 (Below w.heap.size w wc))
  case first =>
   have H := HC12.out
   clear HC12
   replace H := Option.bind_eq_some_iff.mp H
   obtain ⟨t912, A270, H⟩ := H
   replace H : (if t912 = true then (laws_FnExactTurnedBy.j0 k a1 t898 t901 t908 t911 (t911 != t901) a0_0 a0_1 l0_2 t902 t903 t904) else (laws_FnExactTurnedBy.j0 k a1 t898 t901 t908 t911 true a0_0 a0_1 l0_2 t902 t903 t904)) = some true := H
   have A27 := Aside0.mk A270
   clear A270
   by_cases c28 : t912 = true
   ·subst c28
    have H1 : (laws_FnExactTurnedBy.j0 k a1 t898 t901 t908 t911 (t911 != t901) a0_0 a0_1 l0_2 t902 t903 t904) = some true := by rw [if_pos rfl] at H; exact H
    clear H
    have H := H1
    clear H1
    have H' := Aside0.mk H
    clear H
    obtain ⟨Ao29, co29, eo29⟩ := Kd.R_slice HO910.out
    subst eo29
    obtain ⟨Ao30, co30, eo30⟩ := Kd.R_slice HO900.out
    subst eo30
    go_wp2_with (first | ((with_reducible refine gate_callee (f := 27) rfl ?_); refine goesA (some 38) _ #[.slice Ao29 t908.length co29, .slice Ao30 t898.length co30] ?_ Try.func27; (with_reducible refine (laws_eqIntS.calls k _ _ t908 _ _ t898 true _ ?side1 ?side2 ?side3 ?side4 A27.out).mono ?_); (case side1 => repeat (first | exact (Kd.R_reads' HO910.out).2.2 | (with_reducible refine Kd.C_alloc ?_ _) | (with_reducible refine Kd.C_drewN ?_ _) | (with_reducible refine Kd.C_drew ?_))); (case side2 => exact (Kd.R_reads' HO910.out).2.1); (case side3 => repeat (first | exact (Kd.R_reads' HO900.out).2.2 | (with_reducible refine Kd.C_alloc ?_ _) | (with_reducible refine Kd.C_drewN ?_ _) | (with_reducible refine Kd.C_drew ?_))); (case side4 => exact (Kd.R_reads' HO900.out).2.1); rintro e w' ⟨rfl, ⟨nd, rfl⟩⟩; refine ⟨_, rfl, ?_⟩))
    go_meet
    case rel => exact ⟨_, ((t911 != t901)), (by first | rfl | (simp; done) | (simp [*]; done)), H', ⟨by first | omega | exact Nat.le_refl _⟩, ⟨by (with_reducible repeat (first | apply Kd.R_alloc | apply Kd.R_drewN | apply Kd.R_drew)); exact Kd.R_mono HO900.out (fun _ hk => hk.2)⟩, ⟨by (with_reducible repeat (first | apply Kd.R_alloc | apply Kd.R_drewN | apply Kd.R_drew)); exact Kd.R_mono HO910.out (fun _ hk => hk.2)⟩, ⟨by (with_reducible repeat (first | apply Kd.R_alloc | apply Kd.R_drewN | apply Kd.R_drew)); exact Kd.R_mono HO906.out (fun _ hk => trivial)⟩, ⟨viaK BK891⟩, ⟨viaK BK907⟩, ⟨viaB HB⟩⟩
   ·(rw [if_neg c28] at H; exact absurd H (laws_FnExactTurnedBy.bad_j0 _ _ _ _ _ _ _ _ _ _ _ _))
  case rest =>
   clear HC12
   (try clear c4b0)
   (try clear hcz14_0); (try clear hcz14_1); (try clear hcz14_2); (try clear hcz16_0); (try clear hcz16_1); (try clear hcz16_2); (try clear hcz20_0); (try clear hcz20_1)
   (try clear hcz20_2); (try clear hcz24_0); (try clear hcz24_1); (try clear hcz24_2); (try clear hfz14_0); (try clear hfz14_1); (try clear hfz14_2); (try clear hfz16_0)
   (try clear hfz16_1); (try clear hfz16_2); (try clear hfz20_0); (try clear hfz20_1); (try clear hfz20_2); (try clear hfz24_0); (try clear hfz24_1); (try clear hfz24_2)
   obtain ⟨kq, x44_11, rfl, HA, HJ11, HO_6, HO_9, HO_908002, BK891, BK907, HB⟩ := hcut
   cases kq with
   | zero => exact absurd HA.out (by simp [laws_FnExactTurnedBy.j0])
   | succ kj11 =>
    have H := HA.out
    clear HA
    simp only [laws_FnExactTurnedBy.j0] at H
    by_cases c33 : x44_11 = true
    ·(rw [if_pos c33] at H; exact absurd H (by decide))
    ·replace c33 := Bool.eq_false_iff.mpr c33
     subst c33
     have H1 : ((laws_toBoard.f kj11 a0_0 a0_1 l0_2).bind fun bt913 => ((laws_eqBoard.f kj11 t902 t903 t904 bt913.1 bt913.2.1 bt913.2.2).bind fun t918 => (if t918 = true then ((laws_markBoard.f kj11 t902 t903 t904 1).bind fun bt919 => (if bt919.1 < 0 then (laws_FnExactTurnedBy.j1 kj11 a1 t898 t901 t908 true a0_0 a0_1 l0_2) else ((laws_eqIntS.f kj11 t908 t898).bind fun t921 => (if t921 = true then (laws_FnExactTurnedBy.j1 kj11 a1 t898 t901 t908 (t911 != t901) a0_0 a0_1 l0_2) else (laws_FnExactTurnedBy.j1 kj11 a1 t898 t901 t908 true a0_0 a0_1 l0_2))))) else (some false)))) = some true := by rw [if_neg (show ¬ (false = true) by decide)] at H; exact H
     clear H
     have H := H1
     clear H1
     replace H := Option.bind_eq_some_iff.mp H
     obtain ⟨⟨t913, t914, t915⟩, A340, H⟩ := H
     replace H : ((laws_eqBoard.f kj11 t902 t903 t904 t913 t914 t915).bind fun t918 => (if t918 = true then ((laws_markBoard.f kj11 t902 t903 t904 1).bind fun bt919 => (if bt919.1 < 0 then (laws_FnExactTurnedBy.j1 kj11 a1 t898 t901 t908 true a0_0 a0_1 l0_2) else ((laws_eqIntS.f kj11 t908 t898).bind fun t921 => (if t921 = true then (laws_FnExactTurnedBy.j1 kj11 a1 t898 t901 t908 (t911 != t901) a0_0 a0_1 l0_2) else (laws_FnExactTurnedBy.j1 kj11 a1 t898 t901 t908 true a0_0 a0_1 l0_2))))) else (some false))) = some true := H
     have A34 := Aside0.mk A340
     clear A340
     replace H := Option.bind_eq_some_iff.mp H
     obtain ⟨t918, A350, H⟩ := H
     replace H : (if t918 = true then ((laws_markBoard.f kj11 t902 t903 t904 1).bind fun bt919 => (if bt919.1 < 0 then (laws_FnExactTurnedBy.j1 kj11 a1 t898 t901 t908 true a0_0 a0_1 l0_2) else ((laws_eqIntS.f kj11 t908 t898).bind fun t921 => (if t921 = true then (laws_FnExactTurnedBy.j1 kj11 a1 t898 t901 t908 (t911 != t901) a0_0 a0_1 l0_2) else (laws_FnExactTurnedBy.j1 kj11 a1 t898 t901 t908 true a0_0 a0_1 l0_2))))) else (some false)) = some true := H
     have A35 := Aside0.mk A350
     clear A350
     by_cases c36 : t918 = true
     ·subst c36
      have H1 : ((laws_markBoard.f kj11 t902 t903 t904 1).bind fun bt919 => (if bt919.1 < 0 then (laws_FnExactTurnedBy.j1 kj11 a1 t898 t901 t908 true a0_0 a0_1 l0_2) else ((laws_eqIntS.f kj11 t908 t898).bind fun t921 => (if t921 = true then (laws_FnExactTurnedBy.j1 kj11 a1 t898 t901 t908 (t911 != t901) a0_0 a0_1 l0_2) else (laws_FnExactTurnedBy.j1 kj11 a1 t898 t901 t908 true a0_0 a0_1 l0_2))))) = some true := by rw [if_pos rfl] at H; exact H
      clear H
      have H := H1
      clear H1
      replace H := Option.bind_eq_some_iff.mp H
      obtain ⟨⟨t919, t920⟩, A370, H⟩ := H
      replace H : (if t919 < 0 then (laws_FnExactTurnedBy.j1 kj11 a1 t898 t901 t908 true a0_0 a0_1 l0_2) else ((laws_eqIntS.f kj11 t908 t898).bind fun t921 => (if t921 = true then (laws_FnExactTurnedBy.j1 kj11 a1 t898 t901 t908 (t911 != t901) a0_0 a0_1 l0_2) else (laws_FnExactTurnedBy.j1 kj11 a1 t898 t901 t908 true a0_0 a0_1 l0_2)))) = some true := H
      have A37 := Aside0.mk A370
      clear A370
      have HC38 := Aside0.mk H
      clear H
      try go_wp2
      replace HO_6 := Aside0.mk (Kd.R_drew HO_6.out)
      replace HO_9 := Aside0.mk (Kd.R_drew HO_9.out)
      replace HO_908002 := Aside0.mk (Kd.R_drew HO_908002.out)
      replace BK891 := Aside0.mk (blk_drew BK891.out)
      replace BK907 := Aside0.mk (blk_drew BK907.out)
      replace HB := Aside0.mk (below_drew1 HB.out)
      refine start_ (n := 5) (S := fun w' => w'.cell? ⟨gb907, 0, none⟩ = some (.int .i64 t902) ∧ w'.cell? ⟨gb907, 1, none⟩ = some (.int .i64 t903) ∧ w'.cell? ⟨gb907, 2, none⟩ = some (.slice Ao25 t904.length co25) ∧ w'.cell? ⟨gb891, 0, none⟩ = some (.int .i64 a0_0) ∧ w'.cell? ⟨gb891, 1, none⟩ = some (.int .i64 a0_1) ∧ w'.cell? ⟨gb891, 2, none⟩ = some (.slice A0_2 l0_2.length c0_2)) (ds := []) #[false, false, false, false, false] (by kernel_rfl) rfl rfl ⟨(blk_cell BK907.out 0).trans rfl, (blk_cell BK907.out 1).trans rfl, (blk_cell BK907.out 2).trans rfl, (blk_cell BK891.out 0).trans rfl, (blk_cell BK891.out 1).trans rfl, (blk_cell BK891.out 2).trans rfl⟩ (fun hHeld => ?_)
      generalize wc.drew = w39 at HO_6 HO_9 HO_908002 BK891 BK907 HB hHeld ⊢
      refine take_ (i := 0) (N := some 45) (v := ?_) (a' := ?_) #[true, false, false, false, false] rfl rfl (by kernel_rfl) (fun _ _ _ h => h) (Or.inl ⟨by rfl, ?_⟩) hHeld ?_ ?_
      rotate_left
      ·rintro w' ⟨s0, s1, s2, s3, s4, s5⟩
       go_simp
       with_reducible rfl
      rotate_left
      ·simp only [Act.put, q1, q2, q3, i64_w, i32_w]
       rfl
      refine take_ (i := 1) (N := some 46) (v := ?_) (a' := ?_) #[true, true, false, false, false] rfl rfl (by kernel_rfl) (fun _ _ _ h => h) (Or.inl ⟨by rfl, ?_⟩) hHeld ?_ ?_
      rotate_left
      ·rintro w' ⟨s0, s1, s2, s3, s4, s5⟩
       go_simp
       with_reducible rfl
      rotate_left
      ·simp only [Act.put, q1, q2, q3, i64_w, i32_w]
       rfl
      refine one_ (i := 2) (N := some 47) #[true, true, true, false, false] rfl rfl (by kernel_rfl) (by decide) (fun K hK => ?_)
      refine goes_ Try.func15 (by kernel_rfl) rfl #[.agg #[.int .i64 a0_0, .int .i64 a0_1, .slice A0_2 l0_2.length c0_2]] (by rfl) rfl rfl (by (try simp only [List.map_toArray, List.map_cons, List.map_nil]); first | done | rfl | (simp only [List.length_drop, List.length_take]; rfl)) ?_
      with_reducible refine (laws_toBoard.calls kj11 a0_0 a0_1 _ _ l0_2 t913 t914 t915 _ ?side1 ?side2 A34.out).mono ?_
      (case side1 => repeat (first | exact (Kd.C_below HR0_2.out HB.out) | (with_reducible refine Kd.C_alloc ?_ _) | (with_reducible refine Kd.C_drewN ?_ _) | (with_reducible refine Kd.C_drew ?_)))
      (case side2 => exact HC0_2.out)
      rintro e w40 ⟨v916, rfl, ho0, hb⟩
      refine ⟨_, rfl, ?_⟩
      have HO917 := Aside0.mk (Kd.R_lower (Kd.R_new' ho0 (Kd.R_lt (viaR HO_908002))) (below_size (viaB HB)))
      replace HO_6 := Aside0.mk (Kd.R_below (viaR HO_6) hb)
      replace HO_9 := Aside0.mk (Kd.R_below (viaR HO_9) hb)
      replace HO_908002 := Aside0.mk (Kd.R_elder' (viaR HO_908002) (Kd.R_base ho0) hb)
      replace BK891 := kB BK891 hb
      replace BK907 := kB BK907 hb
      replace HB := bB HB hb
      (try clear hb); (try clear ho0)
      obtain ⟨Ao41, co41, eo41⟩ := Kd.R_slice HO917.out
      (first | subst eo41 | (injection eo41 with f1_ f2_ f3_; have f4_ := f1_.symm; have f5_ := f3_.symm; clear f1_ f2_ f3_; subst f4_; subst f5_))
      refine hK.out _ _ ⟨(blk_cell BK907.out 0).trans rfl, (blk_cell BK907.out 1).trans rfl, (blk_cell BK907.out 2).trans rfl, (blk_cell BK891.out 0).trans rfl, (blk_cell BK891.out 1).trans rfl, (blk_cell BK891.out 2).trans rfl⟩ (fun hHeld => ?_)
      clear hK K
      refine norm_ (a' := ?_) ?_ ?_
      rotate_left
      ·show Act.put _ (some 47) _ = _
       simp only [Act.put, q1, q2, q3, i64_w, i32_w]
       rfl
      refine one_ (i := 3) (N := some 48) #[true, true, true, true, false] rfl rfl (by kernel_rfl) (by decide) (fun K hK => ?_)
      refine goes_ Try.func18 (by kernel_rfl) rfl #[.agg #[.int .i64 t902, .int .i64 t903, .slice Ao25 t904.length co25], .agg #[.int .i64 t913, .int .i64 t914, .slice Ao41 t915.length co41]] (by rfl) rfl rfl (by (try simp only [List.map_toArray, List.map_cons, List.map_nil]); first | done | rfl | (simp only [List.length_drop, List.length_take]; rfl)) ?_
      with_reducible refine (laws_eqBoard.calls kj11 t902 t903 _ _ t904 t913 t914 _ _ t915 true _ ?side1 ?side2 ?side3 ?side4 A35.out).mono ?_
      (case side1 => repeat (first | exact (Kd.R_reads' HO_908002.out).2.2 | (with_reducible refine Kd.C_alloc ?_ _) | (with_reducible refine Kd.C_drewN ?_ _) | (with_reducible refine Kd.C_drew ?_)))
      (case side2 => exact (Kd.R_reads' HO_908002.out).2.1)
      (case side3 => repeat (first | exact (Kd.R_reads' HO917.out).2.2 | (with_reducible refine Kd.C_alloc ?_ _) | (with_reducible refine Kd.C_drewN ?_ _) | (with_reducible refine Kd.C_drew ?_)))
      (case side4 => exact (Kd.R_reads' HO917.out).2.1)
      rintro e w42 ⟨rfl, hb⟩
      refine ⟨_, rfl, ?_⟩
      replace HO_6 := Aside0.mk (Kd.R_below (viaR HO_6) hb)
      replace HO_9 := Aside0.mk (Kd.R_below (viaR HO_9) hb)
      replace HO_908002 := Aside0.mk (Kd.R_below (viaR HO_908002) hb)
      replace HO917 := Aside0.mk (Kd.R_below (viaR HO917) hb)
      replace BK891 := kB BK891 hb
      replace BK907 := kB BK907 hb
      replace HB := bB HB hb
      (try clear hb)
      refine hK.out _ _ ⟨(blk_cell BK907.out 0).trans rfl, (blk_cell BK907.out 1).trans rfl, (blk_cell BK907.out 2).trans rfl, (blk_cell BK891.out 0).trans rfl, (blk_cell BK891.out 1).trans rfl, (blk_cell BK891.out 2).trans rfl⟩ (fun hHeld => ?_)
      clear hK K
      refine norm_ (a' := ?_) ?_ ?_
      rotate_left
      ·show Act.put _ (some 48) _ = _
       simp only [Act.put, q1, q2, q3, i64_w, i32_w]
       rfl
      refine pure_ (i := 4) (N := some 49) (v := ?_) (a' := ?_) #[true, true, true, true, true] rfl rfl (by kernel_rfl) (fun _ _ _ h => h) (Or.inl ⟨by rfl, ?_⟩) ?_ ?_
      rotate_left
      ·intro w'
       go_simp
       with_reducible rfl
      rotate_left
      ·simp only [Act.put, q1, q2, q3, i64_w, i32_w]
       rfl
      refine done_ (by kernel_rfl) ?_
      have hnb43 := NB907_891.out
      have hnc43 := NB891_907.out
      have hcz44_0 := bc0 BK907
      have hcz44_1 := bc1 BK907
      have hcz44_2 := bc2 BK907
      have hfz44_0 := blk_frozen BK907.out 0
      have hfz44_1 := blk_frozen BK907.out 1
      have hfz44_2 := blk_frozen BK907.out 2
      go_upto_region 14 with (first | ((with_reducible refine gate_callee (f := 23) rfl ?_); refine goesA (some 52) _ #[.agg #[.int .i64 t902, .int .i64 t903, .slice Ao25 t904.length co25], .int .i64 1] ?_ Try.func23; (with_reducible refine (laws_markBoard.calls kj11 t902 t903 (fun k_ => some k_ = (.slice Ao25 t904.length co25 : Value).ownBlock) (.slice Ao25 t904.length co25) t904 1 t919 t920 w _ ?side1 ?side2 A37.out).mono ?_); (case side1 => repeat (first | (with_reducible first | exact HB.out | apply below_alloc | apply pw_below_drewN | apply below_drew1 | refine below_set ?_ GE891.out | refine below_set ?_ GE907.out) | exact HB.out)); (case side2 => exact Kd.R_tight rfl HO_908002.out); rintro e w45 ⟨rfl, hy0, hb, hkp⟩; refine ⟨_, rfl, ?_⟩; replace HO_6 := Aside0.mk (Kd.R_mono (ok' := fun k_ => some k_ ≠ (v909 : Value).ownBlock) (Kd.R_keptB ((Kd.R_apart' HO_6.out (Kd.R_typed HO_908002.out) (by decide))) hkp (fun k_ hk_ hs_ => (hk_.2) hs_)) (fun k_ hk_ => hk_.1.1)); replace HO_9 := Aside0.mk (Kd.R_mono (ok' := fun k_ => some k_ ≠ (v899 : Value).ownBlock) (Kd.R_keptB ((Kd.R_apart' HO_9.out (Kd.R_typed HO_908002.out) (by decide))) hkp (fun k_ hk_ hs_ => (hk_.2) hs_)) (fun k_ hk_ => hk_.1.1)); replace BK891 := Aside0.mk (blk_kept (viaK BK891) hkp (fun hs_ => (fun e_ => (Kd.R_ne HO_908002.out BK891.out (by decide)) e_) hs_)); replace BK907 := Aside0.mk (blk_kept (viaK BK907) hkp (fun hs_ => (fun e_ => (Kd.R_ne HO_908002.out BK907.out (by decide)) e_) hs_)); replace HO_908002 := Aside0.mk (Kd.R_reok rfl hy0 (fun k_ e_ => HO_908002.out.1 k_ e_)); replace HO917 := Aside0.mk (Kd.R_mono (ok' := fun k_ => some k_ ≠ (.slice Ao25 t904.length co25 : Value).ownBlock) (Kd.R_keptB (HO917.out) hkp (fun k_ hk_ hs_ => (hk_.2) hs_)) (fun k_ hk_ => hk_.1.2)); replace HB := Aside0.mk (hb); (try clear hb); (try clear hkp); (try clear hy0)))
      (try simp only [Act.put, q1, q2, q3])
      go_cut [65] (fun v65 wc => ∃ (kq : Nat) (x65_37 : Bool), v65 = .bool x65_37 ∧ Aside0 (laws_FnExactTurnedBy.j1 kq a1 t898 t901 t908 x65_37 a0_0 a0_1 l0_2 = some true) ∧ Aside0 (kq ≤ kj11) ∧ Aside0 (Kd.R (Kd.int .i64) 3 wc w.heap.size (fun k_ => some k_ ≠ (v909 : Value).ownBlock) v899 t898) ∧ Aside0 (Kd.R (Kd.int .i64) 3 wc w.heap.size (fun k_ => some k_ ≠ (v899 : Value).ownBlock) v909 t908) ∧ Aside0 (Kd.R k89 89 wc w.heap.size (fun _ => True) (.slice Ao25 t904.length co25) t920) ∧ Aside0 (wc.heap[gb891]? = some (.cells #[.int .i64 a0_0, .int .i64 a0_1, (.slice A0_2 l0_2.length c0_2)] 24 (0, 0))) ∧ Aside0 (wc.heap[gb907]? = some (.cells #[.int .i64 t902, .int .i64 t903, (.slice Ao25 t904.length co25)] 32 (0, 0))) ∧ Aside0 (Below w.heap.size w wc))
      case first =>
       have H := HC38.out
       clear HC38
       by_cases c46 : t919 < 0
       ·rw [if_pos c46] at H
        have c46b0 := decide_eq_true c46
        clear c46
        (first | rw [c46b0] | (simp only [i64_w, i32_w]; rw [c46b0]) | skip)
        have H' := Aside0.mk H
        clear H
        go_wp2
        go_meet
        case rel => exact ⟨_, (true), (by first | rfl | (simp; done) | (simp [*]; done)), H', ⟨by have := HJ11.out; first | omega | exact Nat.le_refl _⟩, ⟨viaR HO_6⟩, ⟨viaR HO_9⟩, ⟨by (with_reducible repeat (first | apply Kd.R_alloc | apply Kd.R_drewN | apply Kd.R_drew)); exact Kd.R_mono HO_908002.out (fun _ hk => trivial)⟩, ⟨viaK BK891⟩, ⟨viaK BK907⟩, ⟨viaB HB⟩⟩
       ·rw [if_neg c46] at H
        have c46b0 := decide_eq_false c46
        clear c46
        (first | rw [c46b0] | (simp only [i64_w, i32_w]; rw [c46b0]) | skip)
        replace H := Option.bind_eq_some_iff.mp H
        obtain ⟨t921, A470, H⟩ := H
        replace H : (if t921 = true then (laws_FnExactTurnedBy.j1 kj11 a1 t898 t901 t908 (t911 != t901) a0_0 a0_1 l0_2) else (laws_FnExactTurnedBy.j1 kj11 a1 t898 t901 t908 true a0_0 a0_1 l0_2)) = some true := H
        have A47 := Aside0.mk A470
        clear A470
        by_cases c48 : t921 = true
        ·subst c48
         have H1 : (laws_FnExactTurnedBy.j1 kj11 a1 t898 t901 t908 (t911 != t901) a0_0 a0_1 l0_2) = some true := by rw [if_pos rfl] at H; exact H
         clear H
         have H := H1
         clear H1
         have H' := Aside0.mk H
         clear H
         obtain ⟨Ao49, co49, eo49⟩ := Kd.R_slice HO_9.out
         subst eo49
         obtain ⟨Ao50, co50, eo50⟩ := Kd.R_slice HO_6.out
         subst eo50
         go_wp2_with (first | (go_at_call 27; (with_reducible refine (laws_eqIntS.calls kj11 _ _ t908 _ _ t898 true _ ?side1 ?side2 ?side3 ?side4 A47.out).mono ?_); (case side1 => repeat (first | exact (Kd.R_reads' HO_9.out).2.2 | (with_reducible refine Kd.C_alloc ?_ _) | (with_reducible refine Kd.C_drewN ?_ _) | (with_reducible refine Kd.C_drew ?_))); (case side2 => exact (Kd.R_reads' HO_9.out).2.1); (case side3 => repeat (first | exact (Kd.R_reads' HO_6.out).2.2 | (with_reducible refine Kd.C_alloc ?_ _) | (with_reducible refine Kd.C_drewN ?_ _) | (with_reducible refine Kd.C_drew ?_))); (case side4 => exact (Kd.R_reads' HO_6.out).2.1); rintro e w' ⟨rfl, ⟨nd, rfl⟩⟩))
         go_meet
         case rel => exact ⟨_, ((t911 != t901)), (by first | rfl | (simp; done) | (simp [*]; done)), H', ⟨by have := HJ11.out; first | omega | exact Nat.le_refl _⟩, ⟨viaR HO_6⟩, ⟨viaR HO_9⟩, ⟨by (with_reducible repeat (first | apply Kd.R_alloc | apply Kd.R_drewN | apply Kd.R_drew)); exact Kd.R_mono HO_908002.out (fun _ hk => trivial)⟩, ⟨viaK BK891⟩, ⟨viaK BK907⟩, ⟨viaB HB⟩⟩
        ·(rw [if_neg c48] at H; exact absurd H (laws_FnExactTurnedBy.bad_j1 _ _ _ _ _ _ _ _))
      case rest =>
       clear HC38
       (try clear c33); (try clear c36)
       (try clear hcz44_0); (try clear hcz44_1); (try clear hcz44_2); (try clear hfz44_0); (try clear hfz44_1); (try clear hfz44_2)
       obtain ⟨kq, x65_37, rfl, HA, HJ37, HO_6, HO_9, HO_908002, BK891, BK907, HB⟩ := hcut
       have hl908002_37 := (Kd.R_reads' HO_908002.out).1
       rw [hl908002_37] at HO_908002
       (try simp only [hl908002_37])
       (try simp only [hl908002_37] at BK891)
       (try simp only [hl908002_37] at BK907)
       (try simp only [hl908002_37] at HO_6)
       (try simp only [hl908002_37] at HO_9)
       cases kq with
       | zero => exact absurd HA.out (by simp [laws_FnExactTurnedBy.j1])
       | succ kj37 =>
        have H := HA.out
        clear HA
        simp only [laws_FnExactTurnedBy.j1] at H
        by_cases c53 : x65_37 = true
        ·(rw [if_pos c53] at H; exact absurd H (by decide))
        ·replace c53 := Bool.eq_false_iff.mpr c53
         subst c53
         have H1 : ((laws_markIntS.f kj37 t908 1).bind fun bt922 => ((laws_heldIntS.f kj37 bt922.2 1).bind fun t924 => (if t924 < 0 then (some false) else (if t924 = bt922.1 then ((laws_toBoard.f kj37 a0_0 a0_1 l0_2).bind fun bt925 => ((impl_TurnedBy.f kj37 bt925.1 bt925.2.1 bt925.2.2 a1).bind fun bt930 => ((laws_eqIntS.f kj37 bt930.1 t898).bind fun t934 => (if t934 = true then (laws_FnExactTurnedBy.j2 kj37 bt922.2 bt922.1 (bt930.2 != t901)) else (laws_FnExactTurnedBy.j2 kj37 bt922.2 bt922.1 true))))) else (some false))))) = some true := by rw [if_neg (show ¬ (false = true) by decide)] at H; exact H
         clear H
         have H := H1
         clear H1
         replace H := Option.bind_eq_some_iff.mp H
         obtain ⟨⟨t922, t923⟩, A540, H⟩ := H
         replace H : ((laws_heldIntS.f kj37 t923 1).bind fun t924 => (if t924 < 0 then (some false) else (if t924 = t922 then ((laws_toBoard.f kj37 a0_0 a0_1 l0_2).bind fun bt925 => ((impl_TurnedBy.f kj37 bt925.1 bt925.2.1 bt925.2.2 a1).bind fun bt930 => ((laws_eqIntS.f kj37 bt930.1 t898).bind fun t934 => (if t934 = true then (laws_FnExactTurnedBy.j2 kj37 t923 t922 (bt930.2 != t901)) else (laws_FnExactTurnedBy.j2 kj37 t923 t922 true))))) else (some false)))) = some true := H
         have A54 := Aside0.mk A540
         clear A540
         replace H := Option.bind_eq_some_iff.mp H
         obtain ⟨t924, A550, H⟩ := H
         replace H : (if t924 < 0 then (some false) else (if t924 = t922 then ((laws_toBoard.f kj37 a0_0 a0_1 l0_2).bind fun bt925 => ((impl_TurnedBy.f kj37 bt925.1 bt925.2.1 bt925.2.2 a1).bind fun bt930 => ((laws_eqIntS.f kj37 bt930.1 t898).bind fun t934 => (if t934 = true then (laws_FnExactTurnedBy.j2 kj37 t923 t922 (bt930.2 != t901)) else (laws_FnExactTurnedBy.j2 kj37 t923 t922 true))))) else (some false))) = some true := H
         have A55 := Aside0.mk A550
         clear A550
         by_cases c56 : t924 < 0
         ·(rw [if_pos c56] at H; exact absurd H (by decide))
         ·rw [if_neg c56] at H
          have c56b0 := decide_eq_false c56
          (try simp only [hl908002_37] at c56b0)
          clear c56
          by_cases c59 : t924 = t922
          ·rw [if_pos c59] at H
           have c59b0 := beq_iff_eq.mpr c59
           have c59b1 := bne_eq_false_iff_eq.mpr c59
           clear c59
           replace H := Option.bind_eq_some_iff.mp H
           obtain ⟨⟨t925, t926, t927⟩, A600, H⟩ := H
           replace H : ((impl_TurnedBy.f kj37 t925 t926 t927 a1).bind fun bt930 => ((laws_eqIntS.f kj37 bt930.1 t898).bind fun t934 => (if t934 = true then (laws_FnExactTurnedBy.j2 kj37 t923 t922 (bt930.2 != t901)) else (laws_FnExactTurnedBy.j2 kj37 t923 t922 true)))) = some true := H
           have A60 := Aside0.mk A600
           clear A600
           replace H := Option.bind_eq_some_iff.mp H
           obtain ⟨⟨t930, t933⟩, A610, H⟩ := H
           replace H : ((laws_eqIntS.f kj37 t930 t898).bind fun t934 => (if t934 = true then (laws_FnExactTurnedBy.j2 kj37 t923 t922 (t933 != t901)) else (laws_FnExactTurnedBy.j2 kj37 t923 t922 true))) = some true := H
           have A61 := Aside0.mk A610
           clear A610
           have HC62 := Aside0.mk H
           clear H
           obtain ⟨Ao63, co63, eo63⟩ := Kd.R_slice HO_9.out
           subst eo63
           go_upto_region 25 with (first | ((with_reducible refine gate_callee (f := 28) rfl ?_); refine goesA (some 68) _ #[.slice Ao63 t908.length co63, .int .i64 1] ?_ Try.func28; (with_reducible refine (laws_markIntS.calls kj37 (fun k_ => some k_ = (.slice Ao63 t908.length co63 : Value).ownBlock) (.slice Ao63 t908.length co63) t908 1 t922 t923 w _ ?side1 ?side2 A54.out).mono ?_); (case side1 => repeat (first | (with_reducible first | exact HB.out | apply below_alloc | apply pw_below_drewN | apply below_drew1 | refine below_set ?_ GE891.out | refine below_set ?_ GE907.out) | exact HB.out)); (case side2 => exact Kd.R_tight rfl HO_9.out); rintro e w64 ⟨rfl, hy0, hb, hkp⟩; refine ⟨_, rfl, ?_⟩; replace HO_6 := Aside0.mk (Kd.R_mono (ok' := fun k_ => some k_ ≠ (.slice Ao63 t908.length co63 : Value).ownBlock) (Kd.R_keptB (HO_6.out) hkp (fun k_ hk_ hs_ => (hk_) hs_)) (fun k_ hk_ => hk_.1)); replace HO_908002 := Aside0.mk (Kd.R_mono (ok' := fun k_ => True) (Kd.R_keptB ((Kd.R_apart' HO_908002.out (Kd.R_typed HO_9.out) (by decide))) hkp (fun k_ hk_ hs_ => (hk_.2) hs_)) (fun k_ hk_ => trivial)); replace BK891 := Aside0.mk (blk_kept (viaK BK891) hkp (fun hs_ => (fun e_ => (Kd.R_ne HO_9.out BK891.out (by decide)) e_) hs_)); replace BK907 := Aside0.mk (blk_kept (viaK BK907) hkp (fun hs_ => (fun e_ => (Kd.R_ne HO_9.out BK907.out (by decide)) e_) hs_)); replace HO_9 := Aside0.mk (Kd.R_reok rfl hy0 (fun k_ e_ => HO_9.out.1 k_ e_)); replace HB := Aside0.mk (hb); (try clear hb); (try clear hkp); (try clear hy0)) | ((with_reducible refine gate_callee (f := 29) rfl ?_); refine goesL_ (some 71) rfl rfl Try.func29 (by kernel_rfl) rfl #[.slice Ao63 t923.length co63, .int .i64 1] rfl (by (try simp only [List.map_toArray, List.map_cons, List.map_nil]); first | done | (rw [show t923.length = t908.length from (Kd.R_reads' HO_9.out).1.symm] <;> rfl) | rfl | (simp only [List.length_drop, List.length_take]; rfl)) ?_; (with_reducible refine (laws_heldIntS.calls kj37 _ _ t923 1 t924 _ ?side1 ?side2 A55.out).mono ?_); (case side1 => repeat (first | exact (Kd.R_reads' HO_9.out).2.2 | (with_reducible refine Kd.C_alloc ?_ _) | (with_reducible refine Kd.C_drewN ?_ _) | (with_reducible refine Kd.C_drew ?_))); (case side2 => rw [show t923.length = t908.length from (Kd.R_reads' HO_9.out).1.symm]; exact (Kd.R_reads' HO_9.out).2.1); rintro e w' ⟨rfl, ⟨nd, rfl⟩⟩; refine ⟨_, rfl, ?_⟩; have hnb65 := NB891_907.out; have hnc65 := NB907_891.out; have hcz66_0 := bc0 BK891; have hcz66_1 := bc1 BK891; have hcz66_2 := bc2 BK891; have hfz66_0 := blk_frozen BK891.out 0; have hfz66_1 := blk_frozen BK891.out 1; have hfz66_2 := blk_frozen BK891.out 2) | ((with_reducible refine gate_callee (f := 15) rfl ?_); refine goesA (some 79) _ #[.agg #[.int .i64 a0_0, .int .i64 a0_1, .slice A0_2 l0_2.length c0_2]] ?_ Try.func15; (with_reducible refine (laws_toBoard.calls kj37 a0_0 a0_1 _ _ l0_2 t925 t926 t927 _ ?side1 ?side2 A60.out).mono ?_); (case side1 => repeat (first | exact (Kd.C_below HR0_2.out (viaB HB)) | (with_reducible refine Kd.C_alloc ?_ _) | (with_reducible refine Kd.C_drewN ?_ _) | (with_reducible refine Kd.C_drew ?_))); (case side2 => exact HC0_2.out); rintro e w67 ⟨v928, rfl, ho0, hb⟩; refine ⟨_, rfl, ?_⟩; have HO929 := Aside0.mk (Kd.R_lower (Kd.R_new' ho0 (Kd.R_lt (viaR HO_908002))) (below_size (viaB HB))); replace HO_6 := Aside0.mk (Kd.R_below (viaR HO_6) hb); replace HO_9 := Aside0.mk (Kd.R_below (viaR HO_9) hb); replace HO_908002 := Aside0.mk (Kd.R_elder' (viaR HO_908002) (Kd.R_base ho0) hb); replace BK891 := kB BK891 hb; replace BK907 := kB BK907 hb; replace HB := bB HB hb; (try clear hb); (try clear hb2); (try clear hk); (try clear hi); (try clear ho0); obtain ⟨Ao68, co68, eo68⟩ := Kd.R_slice HO929.out; subst eo68) | ((with_reducible refine gate_callee (f := 41) rfl ?_); refine goesA (some 81) _ #[.agg #[.int .i64 t925, .int .i64 t926, .slice Ao68 t927.length co68], .int .i64 a1] ?_ Try.func41; (with_reducible refine (impl_TurnedBy.calls kj37 t925 t926 _ _ t927 a1 t930 t933 _ ?side1 ?side2 A61.out).mono ?_); (case side1 => repeat (first | exact (Kd.R_reads' HO929.out).2.2 | (with_reducible refine Kd.C_alloc ?_ _) | (with_reducible refine Kd.C_drewN ?_ _) | (with_reducible refine Kd.C_drew ?_))); (case side2 => exact (Kd.R_reads' HO929.out).2.1); rintro e w69 ⟨v931, rfl, ho0, hb⟩; refine ⟨_, rfl, ?_⟩; have HO932 := Aside0.mk (Kd.R_lower (Kd.R_new' (Kd.R_new' ho0 (Kd.R_lt (viaR HO_6))) (Kd.R_lt (viaR HO_9))) (below_size (viaB HB))); replace HO_6 := Aside0.mk (Kd.R_elder' (viaR HO_6) (Kd.R_base ho0) hb); replace HO_9 := Aside0.mk (Kd.R_elder' (viaR HO_9) (Kd.R_base ho0) hb); replace HO_908002 := Aside0.mk (Kd.R_below (viaR HO_908002) hb); replace HO929 := Aside0.mk (Kd.R_below (viaR HO929) hb); replace BK891 := kB BK891 hb; replace BK907 := kB BK907 hb; replace HB := bB HB hb; (try clear hb); (try clear hb2); (try clear hk); (try clear hi); (try clear ho0)))
           (try simp only [Act.put, q1, q2, q3])
           go_cut [92] (fun v92 wc => ∃ (kq : Nat) (x92_61 : Bool), v92 = .bool x92_61 ∧ Aside0 (laws_FnExactTurnedBy.j2 kq t923 t922 x92_61 = some true) ∧ Aside0 (kq ≤ kj37) ∧ Aside0 (Kd.R (Kd.int .i64) 3 wc w.heap.size (fun _ => True) (.slice Ao63 t908.length co63) t923) ∧ Aside0 (Kd.R k89 89 wc w.heap.size (fun _ => True) (.slice Ao25 t920.length co25) t920) ∧ Aside0 (wc.heap[gb891]? = some (.cells #[.int .i64 a0_0, .int .i64 a0_1, (.slice A0_2 l0_2.length c0_2)] 24 (0, 0))) ∧ Aside0 (wc.heap[gb907]? = some (.cells #[.int .i64 t902, .int .i64 t903, (.slice Ao25 t920.length co25)] 32 (0, 0))) ∧ Aside0 (Below w.heap.size w wc))
           case first =>
            have H := HC62.out
            clear HC62
            replace H := Option.bind_eq_some_iff.mp H
            obtain ⟨t934, A700, H⟩ := H
            replace H : (if t934 = true then (laws_FnExactTurnedBy.j2 kj37 t923 t922 (t933 != t901)) else (laws_FnExactTurnedBy.j2 kj37 t923 t922 true)) = some true := H
            have A70 := Aside0.mk A700
            clear A700
            by_cases c71 : t934 = true
            ·subst c71
             have H1 : (laws_FnExactTurnedBy.j2 kj37 t923 t922 (t933 != t901)) = some true := by rw [if_pos rfl] at H; exact H
             clear H
             have H := H1
             clear H1
             have H' := Aside0.mk H
             clear H
             obtain ⟨Ao72, co72, eo72⟩ := Kd.R_slice HO932.out
             subst eo72
             obtain ⟨Ao73, co73, eo73⟩ := Kd.R_slice HO_6.out
             subst eo73
             go_wp2_with (first | ((with_reducible refine gate_callee (f := 27) rfl ?_); refine goesA (some 86) _ #[.slice Ao72 t930.length co72, .slice Ao73 t898.length co73] ?_ Try.func27; (with_reducible refine (laws_eqIntS.calls kj37 _ _ t930 _ _ t898 true _ ?side1 ?side2 ?side3 ?side4 A70.out).mono ?_); (case side1 => repeat (first | exact (Kd.R_reads' HO932.out).2.2 | (with_reducible refine Kd.C_alloc ?_ _) | (with_reducible refine Kd.C_drewN ?_ _) | (with_reducible refine Kd.C_drew ?_))); (case side2 => exact (Kd.R_reads' HO932.out).2.1); (case side3 => repeat (first | exact (Kd.R_reads' HO_6.out).2.2 | (with_reducible refine Kd.C_alloc ?_ _) | (with_reducible refine Kd.C_drewN ?_ _) | (with_reducible refine Kd.C_drew ?_))); (case side4 => exact (Kd.R_reads' HO_6.out).2.1); rintro e w' ⟨rfl, ⟨nd, rfl⟩⟩; refine ⟨_, rfl, ?_⟩))
             go_meet
             case rel => exact ⟨_, ((t933 != t901)), (by first | rfl | (simp; done) | (simp [*]; done)), H', ⟨by have := HJ11.out; have := HJ37.out; first | omega | exact Nat.le_refl _⟩, ⟨by (try simp only [hl908002_37]); (with_reducible repeat (first | apply Kd.R_alloc | apply Kd.R_drewN | apply Kd.R_drew)); exact Kd.R_mono HO_9.out (fun _ hk => trivial)⟩, ⟨by (try simp only [hl908002_37]); (with_reducible repeat (first | apply Kd.R_alloc | apply Kd.R_drewN | apply Kd.R_drew)); exact Kd.R_mono HO_908002.out (fun _ hk => trivial)⟩, ⟨by (try simp only [hl908002_37]); (with_reducible repeat (first | refine blk_drewN ?_ _ | refine blk_drew ?_ | refine blk_alloc ?_ _)); exact BK891.out⟩, ⟨by (try simp only [hl908002_37]); (with_reducible repeat (first | refine blk_drewN ?_ _ | refine blk_drew ?_ | refine blk_alloc ?_ _)); exact BK907.out⟩, ⟨viaB HB⟩⟩
            ·(rw [if_neg c71] at H; exact absurd H (laws_FnExactTurnedBy.bad_j2 _ _ _))
           case rest =>
            clear HC62
            (try clear c53); (try clear c56b0); (try clear c59b0); (try clear c59b1)
            (try clear hcz66_0); (try clear hcz66_1); (try clear hcz66_2); (try clear hfz66_0); (try clear hfz66_1); (try clear hfz66_2)
            obtain ⟨kq, x92_61, rfl, HA, HJ61, HO_9, HO_908002, BK891, BK907, HB⟩ := hcut
            have hl9_61 := (Kd.R_reads' HO_9.out).1
            rw [hl9_61] at HO_9
            (try simp only [hl9_61])
            (try simp only [hl9_61] at BK891)
            (try simp only [hl9_61] at BK907)
            (try simp only [hl9_61] at HO_908002)
            cases kq with
            | zero => exact absurd HA.out (by simp [laws_FnExactTurnedBy.j2])
            | succ kj61 =>
             have H := HA.out
             clear HA
             simp only [laws_FnExactTurnedBy.j2] at H
             by_cases c76 : x92_61 = true
             ·(rw [if_pos c76] at H; exact absurd H (by decide))
             ·replace c76 := Bool.eq_false_iff.mpr c76
              subst c76
              have H1 : ((laws_heldIntS.f kj61 t923 1).bind fun t935 => (if t935 < 0 then (some false) else (if t935 = t922 then (some true) else (some false)))) = some true := by rw [if_neg (show ¬ (false = true) by decide)] at H; exact H
              clear H
              have H := H1
              clear H1
              replace H := Option.bind_eq_some_iff.mp H
              obtain ⟨t935, A770, H⟩ := H
              replace H : (if t935 < 0 then (some false) else (if t935 = t922 then (some true) else (some false))) = some true := H
              have A77 := Aside0.mk A770
              clear A770
              by_cases c78 : t935 < 0
              ·(rw [if_pos c78] at H; exact absurd H (by decide))
              ·rw [if_neg c78] at H
               have c78b0 := decide_eq_false c78
               (try simp only [hl908002_37] at c78b0)
               (try simp only [hl9_61] at c78b0)
               clear c78
               by_cases c79 : t935 = t922
               ·rw [if_pos c79] at H
                have c79b0 := beq_iff_eq.mpr c79
                have c79b1 := bne_eq_false_iff_eq.mpr c79
                clear c79
                clear H
                go_wp2_with (first | ((with_reducible refine gate_callee (f := 29) rfl ?_); refine goesA (some 95) _ #[.slice Ao63 t923.length co63, .int .i64 1] ?_ Try.func29; (with_reducible refine (laws_heldIntS.calls kj61 _ _ t923 1 t935 _ ?side1 ?side2 A77.out).mono ?_); (case side1 => repeat (first | exact (Kd.R_reads' HO_9.out).2.2 | (with_reducible refine Kd.C_alloc ?_ _) | (with_reducible refine Kd.C_drewN ?_ _) | (with_reducible refine Kd.C_drew ?_))); (case side2 => exact (Kd.R_reads' HO_9.out).2.1); rintro e w' ⟨rfl, ⟨nd, rfl⟩⟩; refine ⟨_, rfl, ?_⟩))
                go_ret
                exact ⟨by first | rfl | (simp [errW_none, errW_some] <;> rfl) | (simp [*, errW_none, errW_some] <;> rfl), viaB HB⟩
               ·(rw [if_neg c79] at H; exact absurd H (by decide))
          ·(rw [if_neg c59] at H; exact absurd H (by decide))
     ·(rw [if_neg c36] at H; exact absurd H (by decide))

end Go.Proofs.Ytoklfgjemfojgaa.PAll
