/- This text began as one that print.sh wrote for this seat (of the functions named below); it is this session's own: turned where Lean did not take the printed proof, where it was too long for a claim, or only in what it imports. -/
import Derived.Test.YtoklfgjemfojgaaG0
import Derived.Test.YtoklfgjemfojgaaG3
import Derived.Test.YtoklfgjemfojgaaG21
import Derived.Test.YtoklfgjemfojgaaG24
import Derived.Test.YtoklfgjemfojgaaG25
import Derived.Test.YtoklfgjemfojgaaG26
import Derived.Test.YtoklfgjemfojgaaG35
import Derived.Test.YtoklfgjemfojgaaG43
import Derived.Test.YtoklfgjemfojgaaG44
namespace Go.Proofs.Ytoklfgjemfojgaa.PAll
open Go.RowKit Go.Proofs.YtoklfgjemfojgaaW.PrintWords Go.Proofs.YtoklfgjemfojgaaW.PrintLast Go.Proofs.YtoklfgjemfojgaaW.PrintMore
attribute [local go_sem] max2_int min2_int max_two min_two max_three min_three max_four min_four   -- for this text's walks alone
set_option linter.unusedVariables false
set_option linter.unusedSimpArgs false

/-! ### laws_FnExactArrivalCounts: function 11 -/
mutual
def laws_FnExactArrivalCounts.j0 : Nat → List Int → List Int → Bool → List Int → List Int → Bool → Bool → Int → Int → List (S91) → Int → Int → List (S89) → Option (Bool)
 | 0, _, _, _, _, _, _, _, _, _, _, _, _, _ => none
 | k + 1, x1, x6, x7, x9, x10, x11, x51, x981000, x981001, x981002, x1000000, x1000001, x1000002 => if x51 = true then (some false) else ((laws_toBoard.f k x981000 x981001 x981002).bind fun bt1008 => ((laws_eqBoard.f k x1000000 x1000001 x1000002 bt1008.1 bt1008.2.1 bt1008.2.2).bind fun t1013 => (if t1013 = true then ((laws_toIntS.f k x1).bind fun t1014 => ((laws_eqIntS.f k x9 t1014).bind fun t1017 => (if t1017 = true then ((laws_markBoard.f k x1000000 x1000001 x1000002 1).bind fun bt1018 => ((laws_markIntS.f k x9 bt1018.1).bind fun bt1020 => (if bt1020.1 < 0 then (laws_FnExactArrivalCounts.j1 k x1 x6 x7 x10 true x981000 x981001 x981002) else ((laws_eqIntS.f k x10 x6).bind fun t1022 => (if t1022 = true then (laws_FnExactArrivalCounts.j1 k x1 x6 x7 x10 (x11 != x7) x981000 x981001 x981002) else (laws_FnExactArrivalCounts.j1 k x1 x6 x7 x10 true x981000 x981001 x981002)))))) else (some false)))) else (some false))))
def laws_FnExactArrivalCounts.j1 : Nat → List Int → List Int → Bool → List Int → Bool → Int → Int → List (S91) → Option (Bool)
 | 0, _, _, _, _, _, _, _, _ => none
 | k + 1, x1, x6, x7, x10, x80, x981000, x981001, x981002 => if x80 = true then (some false) else ((laws_markIntS.f k x10 1).bind fun bt1023 => ((laws_heldIntS.f k bt1023.2 1).bind fun t1025 => (if t1025 < 0 then (some false) else (if t1025 = bt1023.1 then ((laws_toBoard.f k x981000 x981001 x981002).bind fun bt1026 => ((laws_toIntS.f k x1).bind fun t1031 => ((impl_ArrivalCounts.f k bt1026.1 bt1026.2.1 bt1026.2.2 t1031).bind fun bt1034 => ((laws_eqIntS.f k bt1034.1 x6).bind fun t1038 => (if t1038 = true then (laws_FnExactArrivalCounts.j2 k bt1023.2 bt1023.1 (bt1034.2 != x7)) else (laws_FnExactArrivalCounts.j2 k bt1023.2 bt1023.1 true)))))) else (some false)))))
def laws_FnExactArrivalCounts.j2 : Nat → List Int → Int → Bool → Option (Bool)
 | 0, _, _, _ => none
 | k + 1, x10, x13, x108 => if x108 = true then (some false) else ((laws_heldIntS.f k x10 1).bind fun t1039 => (if t1039 < 0 then (some false) else (if t1039 = x13 then (some true) else (some false))))
end
def laws_FnExactArrivalCounts.f (k : Nat) (a0_0 : Int) (a0_1 : Int) (l0_2 : List (S91)) (l1 : List Int) : Option (Bool) := if (l1.length : Int) > 1048576 then (some true) else ((laws_szBoard.f a0_0 a0_1 l0_2 1048576).bind fun t981 => (if t981 < 0 then (some true) else ((laws_toBoard.f k a0_0 a0_1 l0_2).bind fun bt982 => ((laws_toIntS.f k l1).bind fun t987 => ((spec_ArrivalCounts.f k bt982.1 bt982.2.1 bt982.2.2 t987).bind fun bt990 => ((laws_toBoard.f k a0_0 a0_1 l0_2).bind fun bt994 => ((laws_toIntS.f k l1).bind fun t1000 => ((impl_ArrivalCounts.f k bt994.1 bt994.2.1 bt994.2.2 t1000).bind fun bt1003 => ((laws_eqIntS.f k bt1003.1 bt990.1).bind fun t1007 => (if t1007 = true then (laws_FnExactArrivalCounts.j0 k l1 bt990.1 bt990.2 t1000 bt1003.1 bt1003.2 (bt1003.2 != bt990.2) a0_0 a0_1 l0_2 bt994.1 bt994.2.1 bt994.2.2) else (laws_FnExactArrivalCounts.j0 k l1 bt990.1 bt990.2 t1000 bt1003.1 bt1003.2 true a0_0 a0_1 l0_2 bt994.1 bt994.2.1 bt994.2.2)))))))))))
theorem laws_FnExactArrivalCounts.mono_l : ∀ k, (∀ y0 y1 y2 y3 y4 y5 y6 y7 y8 y9 y10 y11 y12, LeO (laws_FnExactArrivalCounts.j0 k y0 y1 y2 y3 y4 y5 y6 y7 y8 y9 y10 y11 y12) (laws_FnExactArrivalCounts.j0 (k + 1) y0 y1 y2 y3 y4 y5 y6 y7 y8 y9 y10 y11 y12)) ∧ (∀ y0 y1 y2 y3 y4 y5 y6 y7, LeO (laws_FnExactArrivalCounts.j1 k y0 y1 y2 y3 y4 y5 y6 y7) (laws_FnExactArrivalCounts.j1 (k + 1) y0 y1 y2 y3 y4 y5 y6 y7)) ∧ (∀ y0 y1 y2, LeO (laws_FnExactArrivalCounts.j2 k y0 y1 y2) (laws_FnExactArrivalCounts.j2 (k + 1) y0 y1 y2))
 | 0 => ⟨fun _ _ _ _ _ _ _ _ _ _ _ _ _ r h => by simp [laws_FnExactArrivalCounts.j0] at h, fun _ _ _ _ _ _ _ _ r h => by simp [laws_FnExactArrivalCounts.j1] at h, fun _ _ _ r h => by simp [laws_FnExactArrivalCounts.j2] at h⟩
 | k + 1 => by
  obtain ⟨ih0, ih1, ih2⟩ := laws_FnExactArrivalCounts.mono_l k
  refine ⟨?_, ?_, ?_⟩
  ·intro y0 y1 y2 y3 y4 y5 y6 y7 y8 y9 y10 y11 y12
   unfold laws_FnExactArrivalCounts.j0
   repeat' first | (with_reducible first | exact ih0 _ _ _ _ _ _ _ _ _ _ _ _ _ | exact ih1 _ _ _ _ _ _ _ _ | exact ih2 _ _ _ | exact impl_ArrivalCounts.mono _ _ _ _ _ | exact laws_eqBoard.mono _ _ _ _ _ _ _ | exact laws_eqIntS.mono _ _ _ | exact laws_heldIntS.mono _ _ _ | exact laws_markBoard.mono _ _ _ _ _ | exact laws_markIntS.mono _ _ _ | exact laws_toBoard.mono _ _ _ _ | exact laws_toIntS.mono _ _ | exact spec_ArrivalCounts.mono _ _ _ _ _ | exact LeO.refl _ | exact LeO.none _ | refine LeO.ite ?_ ?_ | refine LeO.bind ?_ (fun _ => ?_)) | exact ih0 _ _ _ _ _ _ _ _ _ _ _ _ _ | exact ih1 _ _ _ _ _ _ _ _ | exact ih2 _ _ _ | exact impl_ArrivalCounts.mono _ _ _ _ _ | exact laws_eqBoard.mono _ _ _ _ _ _ _ | exact laws_eqIntS.mono _ _ _ | exact laws_heldIntS.mono _ _ _ | exact laws_markBoard.mono _ _ _ _ _ | exact laws_markIntS.mono _ _ _ | exact laws_toBoard.mono _ _ _ _ | exact laws_toIntS.mono _ _ | exact spec_ArrivalCounts.mono _ _ _ _ _ | exact LeO.none _ | refine LeO.ite ?_ ?_ | refine LeO.bind ?_ (fun _ => ?_)
  ·intro y0 y1 y2 y3 y4 y5 y6 y7
   unfold laws_FnExactArrivalCounts.j1
   repeat' first | (with_reducible first | exact ih0 _ _ _ _ _ _ _ _ _ _ _ _ _ | exact ih1 _ _ _ _ _ _ _ _ | exact ih2 _ _ _ | exact impl_ArrivalCounts.mono _ _ _ _ _ | exact laws_eqBoard.mono _ _ _ _ _ _ _ | exact laws_eqIntS.mono _ _ _ | exact laws_heldIntS.mono _ _ _ | exact laws_markBoard.mono _ _ _ _ _ | exact laws_markIntS.mono _ _ _ | exact laws_toBoard.mono _ _ _ _ | exact laws_toIntS.mono _ _ | exact spec_ArrivalCounts.mono _ _ _ _ _ | exact LeO.refl _ | exact LeO.none _ | refine LeO.ite ?_ ?_ | refine LeO.bind ?_ (fun _ => ?_)) | exact ih0 _ _ _ _ _ _ _ _ _ _ _ _ _ | exact ih1 _ _ _ _ _ _ _ _ | exact ih2 _ _ _ | exact impl_ArrivalCounts.mono _ _ _ _ _ | exact laws_eqBoard.mono _ _ _ _ _ _ _ | exact laws_eqIntS.mono _ _ _ | exact laws_heldIntS.mono _ _ _ | exact laws_markBoard.mono _ _ _ _ _ | exact laws_markIntS.mono _ _ _ | exact laws_toBoard.mono _ _ _ _ | exact laws_toIntS.mono _ _ | exact spec_ArrivalCounts.mono _ _ _ _ _ | exact LeO.none _ | refine LeO.ite ?_ ?_ | refine LeO.bind ?_ (fun _ => ?_)
  ·intro y0 y1 y2
   unfold laws_FnExactArrivalCounts.j2
   repeat' first | (with_reducible first | exact ih0 _ _ _ _ _ _ _ _ _ _ _ _ _ | exact ih1 _ _ _ _ _ _ _ _ | exact ih2 _ _ _ | exact impl_ArrivalCounts.mono _ _ _ _ _ | exact laws_eqBoard.mono _ _ _ _ _ _ _ | exact laws_eqIntS.mono _ _ _ | exact laws_heldIntS.mono _ _ _ | exact laws_markBoard.mono _ _ _ _ _ | exact laws_markIntS.mono _ _ _ | exact laws_toBoard.mono _ _ _ _ | exact laws_toIntS.mono _ _ | exact spec_ArrivalCounts.mono _ _ _ _ _ | exact LeO.refl _ | exact LeO.none _ | refine LeO.ite ?_ ?_ | refine LeO.bind ?_ (fun _ => ?_)) | exact ih0 _ _ _ _ _ _ _ _ _ _ _ _ _ | exact ih1 _ _ _ _ _ _ _ _ | exact ih2 _ _ _ | exact impl_ArrivalCounts.mono _ _ _ _ _ | exact laws_eqBoard.mono _ _ _ _ _ _ _ | exact laws_eqIntS.mono _ _ _ | exact laws_heldIntS.mono _ _ _ | exact laws_markBoard.mono _ _ _ _ _ | exact laws_markIntS.mono _ _ _ | exact laws_toBoard.mono _ _ _ _ | exact laws_toIntS.mono _ _ | exact spec_ArrivalCounts.mono _ _ _ _ _ | exact LeO.none _ | refine LeO.ite ?_ ?_ | refine LeO.bind ?_ (fun _ => ?_)
theorem laws_FnExactArrivalCounts.mono : ∀ a0 a1 a2 a3 k, LeO (laws_FnExactArrivalCounts.f k a0 a1 a2 a3) (laws_FnExactArrivalCounts.f (k + 1) a0 a1 a2 a3) := by
 intro a0 a1 a2 a3 k
 obtain ⟨ih0, ih1, ih2⟩ := laws_FnExactArrivalCounts.mono_l k
 unfold laws_FnExactArrivalCounts.f
 repeat' first | (with_reducible first | exact ih0 _ _ _ _ _ _ _ _ _ _ _ _ _ | exact ih1 _ _ _ _ _ _ _ _ | exact ih2 _ _ _ | exact impl_ArrivalCounts.mono _ _ _ _ _ | exact laws_eqBoard.mono _ _ _ _ _ _ _ | exact laws_eqIntS.mono _ _ _ | exact laws_heldIntS.mono _ _ _ | exact laws_markBoard.mono _ _ _ _ _ | exact laws_markIntS.mono _ _ _ | exact laws_toBoard.mono _ _ _ _ | exact laws_toIntS.mono _ _ | exact spec_ArrivalCounts.mono _ _ _ _ _ | exact LeO.refl _ | exact LeO.none _ | refine LeO.ite ?_ ?_ | refine LeO.bind ?_ (fun _ => ?_)) | exact ih0 _ _ _ _ _ _ _ _ _ _ _ _ _ | exact ih1 _ _ _ _ _ _ _ _ | exact ih2 _ _ _ | exact impl_ArrivalCounts.mono _ _ _ _ _ | exact laws_eqBoard.mono _ _ _ _ _ _ _ | exact laws_eqIntS.mono _ _ _ | exact laws_heldIntS.mono _ _ _ | exact laws_markBoard.mono _ _ _ _ _ | exact laws_markIntS.mono _ _ _ | exact laws_toBoard.mono _ _ _ _ | exact laws_toIntS.mono _ _ | exact spec_ArrivalCounts.mono _ _ _ _ _ | exact LeO.none _ | refine LeO.ite ?_ ?_ | refine LeO.bind ?_ (fun _ => ?_)
theorem laws_FnExactArrivalCounts.bad_j0 (k : Nat) (y0 : List Int) (y1 : List Int) (y2 : Bool) (y3 : List Int) (y4 : List Int) (y5 : Bool) (y7 : Int) (y8 : Int) (y9 : List (S91)) (y10 : Int) (y11 : Int) (y12 : List (S89)) : ¬ laws_FnExactArrivalCounts.j0 k y0 y1 y2 y3 y4 y5 true y7 y8 y9 y10 y11 y12 = some true := by
 cases k <;> simp [laws_FnExactArrivalCounts.j0]
theorem laws_FnExactArrivalCounts.bad_j1 (k : Nat) (y0 : List Int) (y1 : List Int) (y2 : Bool) (y3 : List Int) (y5 : Int) (y6 : Int) (y7 : List (S91)) : ¬ laws_FnExactArrivalCounts.j1 k y0 y1 y2 y3 true y5 y6 y7 = some true := by
 cases k <;> simp [laws_FnExactArrivalCounts.j1]
theorem laws_FnExactArrivalCounts.bad_j2 (k : Nat) (y0 : List Int) (y1 : Int) : ¬ laws_FnExactArrivalCounts.j2 k y0 y1 true = some true := by
 cases k <;> simp [laws_FnExactArrivalCounts.j2]
set_option maxHeartbeats 8000000 in
set_option maxRecDepth 100000 in
theorem laws_FnExactArrivalCounts.calls (k : Nat) (a0_0 : Int) (a0_1 : Int) (A0_2 : Option Addr) (c0_2 : Nat) (l0_2 : List (S91)) (A1 : Option Addr) (c1 : Nat) (l1 : List Int) (w : World) (hr0_2 : Kd.C k91 w A0_2 l0_2.length l0_2) (hc0_2 : l0_2.length ≤ c0_2) (hr1 : Kd.C (Kd.int .i64) w A1 l1.length l1) (hc1 : l1.length ≤ c1) (h : laws_FnExactArrivalCounts.f k a0_0 a0_1 l0_2 l1 = some true) :
  Calls Try.prog 11 #[.agg #[.int .i64 a0_0, .int .i64 a0_1, .slice A0_2 l0_2.length c0_2], .slice A1 l1.length c1] w fun e w' => e = .returned (.bool true) ∧ Below w.heap.size w w' := by
 have hu24 := Try.underlying24
 have hu32 := Try.underlying32
 have HR0_2 := Aside0.mk hr0_2
 have HC0_2 := Aside0.mk hc0_2
 clear hr0_2 hc0_2
 have HR1 := Aside0.mk hr1
 have HC1 := Aside0.mk hc1
 clear hr1 hc1
 have HB := Aside0.mk (Below.refl w.heap.size w)
 have H : (if (l1.length : Int) > 1048576 then (some true) else ((laws_szBoard.f a0_0 a0_1 l0_2 1048576).bind fun t981 => (if t981 < 0 then (some true) else ((laws_toBoard.f k a0_0 a0_1 l0_2).bind fun bt982 => ((laws_toIntS.f k l1).bind fun t987 => ((spec_ArrivalCounts.f k bt982.1 bt982.2.1 bt982.2.2 t987).bind fun bt990 => ((laws_toBoard.f k a0_0 a0_1 l0_2).bind fun bt994 => ((laws_toIntS.f k l1).bind fun t1000 => ((impl_ArrivalCounts.f k bt994.1 bt994.2.1 bt994.2.2 t1000).bind fun bt1003 => ((laws_eqIntS.f k bt1003.1 bt990.1).bind fun t1007 => (if t1007 = true then (laws_FnExactArrivalCounts.j0 k l1 bt990.1 bt990.2 t1000 bt1003.1 bt1003.2 (bt1003.2 != bt990.2) a0_0 a0_1 l0_2 bt994.1 bt994.2.1 bt994.2.2) else (laws_FnExactArrivalCounts.j0 k l1 bt990.1 bt990.2 t1000 bt1003.1 bt1003.2 true a0_0 a0_1 l0_2 bt994.1 bt994.2.1 bt994.2.2)))))))))))) = some true := h
 clear h
 by_cases c3 : (l1.length : Int) > 1048576
 ·rw [if_pos c3] at H
  have c3b0 := decide_eq_true c3
  have c3b1 : decide (1048576 < l1.length) = true := decide_eq_true (by omega)
  clear c3
  clear H
  go_enter Try.func11, Try.ntmps11
  go_wp2_with (first | ((with_reducible refine gate_dst (N := 2) rfl ?_); refine box_ev (N := 2) (cs := #[.int .i64 a0_0, .int .i64 a0_1, .slice A0_2 l0_2.length c0_2]) (t := 24) ?_; intro gb980 hg w4 hbox hb; have BK980 := Aside0.mk (hbox); have GW980 := gW (w := w) HB hg; have GE980 := gW (w := w) HB hg; replace HB := bB HB hb; clear hb hbox hg))
  go_ret
  exact ⟨by first | rfl | (simp [errW_none, errW_some] <;> rfl) | (simp [*, errW_none, errW_some] <;> rfl), viaB HB⟩
 ·rw [if_neg c3] at H
  have c3b0 := decide_eq_false c3
  have c3b1 : decide (1048576 < l1.length) = false := decide_eq_false (by omega)
  clear c3
  replace H := Option.bind_eq_some_iff.mp H
  obtain ⟨t981, A50, H⟩ := H
  replace H : (if t981 < 0 then (some true) else ((laws_toBoard.f k a0_0 a0_1 l0_2).bind fun bt982 => ((laws_toIntS.f k l1).bind fun t987 => ((spec_ArrivalCounts.f k bt982.1 bt982.2.1 bt982.2.2 t987).bind fun bt990 => ((laws_toBoard.f k a0_0 a0_1 l0_2).bind fun bt994 => ((laws_toIntS.f k l1).bind fun t1000 => ((impl_ArrivalCounts.f k bt994.1 bt994.2.1 bt994.2.2 t1000).bind fun bt1003 => ((laws_eqIntS.f k bt1003.1 bt990.1).bind fun t1007 => (if t1007 = true then (laws_FnExactArrivalCounts.j0 k l1 bt990.1 bt990.2 t1000 bt1003.1 bt1003.2 (bt1003.2 != bt990.2) a0_0 a0_1 l0_2 bt994.1 bt994.2.1 bt994.2.2) else (laws_FnExactArrivalCounts.j0 k l1 bt990.1 bt990.2 t1000 bt1003.1 bt1003.2 true a0_0 a0_1 l0_2 bt994.1 bt994.2.1 bt994.2.2)))))))))) = some true := H
  have A5 := Aside0.mk A50
  clear A50
  by_cases c6 : t981 < 0
  ·rw [if_pos c6] at H
   have c6b0 := decide_eq_true c6
   clear c6
   clear H
   go_enter Try.func11, Try.ntmps11
   go_wp2_with (first | ((with_reducible refine gate_dst (N := 2) rfl ?_); refine box_ev (N := 2) (cs := #[.int .i64 a0_0, .int .i64 a0_1, .slice A0_2 l0_2.length c0_2]) (t := 24) ?_; intro gb980 hg w7 hbox hb; have BK980 := Aside0.mk (hbox); have GW980 := gW (w := w) HB hg; have GE980 := gW (w := w) HB hg; replace HB := bB HB hb; clear hb hbox hg; have hcz8_0 := bc0 BK980; have hcz8_1 := bc1 BK980; have hcz8_2 := bc2 BK980; have hfz8_0 := blk_frozen BK980.out 0; have hfz8_1 := blk_frozen BK980.out 1; have hfz8_2 := blk_frozen BK980.out 2) | ((with_reducible refine gate_callee (f := 13) rfl ?_); refine goesA (some 22) _ #[.agg #[.int .i64 a0_0, .int .i64 a0_1, .slice A0_2 l0_2.length c0_2], .int .i64 1048576] ?_ Try.func13; (with_reducible refine (laws_szBoard.calls a0_0 a0_1 _ _ l0_2 1048576 t981 _ ?side1 ?side2 A5.out).mono ?_); (case side1 => repeat (first | exact (Kd.C_below HR0_2.out HB.out) | (with_reducible refine Kd.C_alloc ?_ _) | (with_reducible refine Kd.C_drewN ?_ _) | (with_reducible refine Kd.C_drew ?_))); (case side2 => exact HC0_2.out); rintro e w9 ⟨rfl, hb⟩; refine ⟨_, rfl, ?_⟩; replace BK980 := kB BK980 hb; replace HB := bB HB hb; (try clear hb); (try clear hb2); (try clear hk); (try clear hi)))
   go_ret
   exact ⟨by first | rfl | (simp [errW_none, errW_some] <;> rfl) | (simp [*, errW_none, errW_some] <;> rfl), viaB HB⟩
  ·rw [if_neg c6] at H
   have c6b0 := decide_eq_false c6
   clear c6
   replace H := Option.bind_eq_some_iff.mp H
   obtain ⟨⟨t982, t983, t984⟩, A100, H⟩ := H
   replace H : ((laws_toIntS.f k l1).bind fun t987 => ((spec_ArrivalCounts.f k t982 t983 t984 t987).bind fun bt990 => ((laws_toBoard.f k a0_0 a0_1 l0_2).bind fun bt994 => ((laws_toIntS.f k l1).bind fun t1000 => ((impl_ArrivalCounts.f k bt994.1 bt994.2.1 bt994.2.2 t1000).bind fun bt1003 => ((laws_eqIntS.f k bt1003.1 bt990.1).bind fun t1007 => (if t1007 = true then (laws_FnExactArrivalCounts.j0 k l1 bt990.1 bt990.2 t1000 bt1003.1 bt1003.2 (bt1003.2 != bt990.2) a0_0 a0_1 l0_2 bt994.1 bt994.2.1 bt994.2.2) else (laws_FnExactArrivalCounts.j0 k l1 bt990.1 bt990.2 t1000 bt1003.1 bt1003.2 true a0_0 a0_1 l0_2 bt994.1 bt994.2.1 bt994.2.2)))))))) = some true := H
   have A10 := Aside0.mk A100
   clear A100
   replace H := Option.bind_eq_some_iff.mp H
   obtain ⟨t987, A110, H⟩ := H
   replace H : ((spec_ArrivalCounts.f k t982 t983 t984 t987).bind fun bt990 => ((laws_toBoard.f k a0_0 a0_1 l0_2).bind fun bt994 => ((laws_toIntS.f k l1).bind fun t1000 => ((impl_ArrivalCounts.f k bt994.1 bt994.2.1 bt994.2.2 t1000).bind fun bt1003 => ((laws_eqIntS.f k bt1003.1 bt990.1).bind fun t1007 => (if t1007 = true then (laws_FnExactArrivalCounts.j0 k l1 bt990.1 bt990.2 t1000 bt1003.1 bt1003.2 (bt1003.2 != bt990.2) a0_0 a0_1 l0_2 bt994.1 bt994.2.1 bt994.2.2) else (laws_FnExactArrivalCounts.j0 k l1 bt990.1 bt990.2 t1000 bt1003.1 bt1003.2 true a0_0 a0_1 l0_2 bt994.1 bt994.2.1 bt994.2.2))))))) = some true := H
   have A11 := Aside0.mk A110
   clear A110
   replace H := Option.bind_eq_some_iff.mp H
   obtain ⟨⟨t990, t993⟩, A120, H⟩ := H
   replace H : ((laws_toBoard.f k a0_0 a0_1 l0_2).bind fun bt994 => ((laws_toIntS.f k l1).bind fun t1000 => ((impl_ArrivalCounts.f k bt994.1 bt994.2.1 bt994.2.2 t1000).bind fun bt1003 => ((laws_eqIntS.f k bt1003.1 t990).bind fun t1007 => (if t1007 = true then (laws_FnExactArrivalCounts.j0 k l1 t990 t993 t1000 bt1003.1 bt1003.2 (bt1003.2 != t993) a0_0 a0_1 l0_2 bt994.1 bt994.2.1 bt994.2.2) else (laws_FnExactArrivalCounts.j0 k l1 t990 t993 t1000 bt1003.1 bt1003.2 true a0_0 a0_1 l0_2 bt994.1 bt994.2.1 bt994.2.2)))))) = some true := H
   have A12 := Aside0.mk A120
   clear A120
   replace H := Option.bind_eq_some_iff.mp H
   obtain ⟨⟨t994, t995, t996⟩, A130, H⟩ := H
   replace H : ((laws_toIntS.f k l1).bind fun t1000 => ((impl_ArrivalCounts.f k t994 t995 t996 t1000).bind fun bt1003 => ((laws_eqIntS.f k bt1003.1 t990).bind fun t1007 => (if t1007 = true then (laws_FnExactArrivalCounts.j0 k l1 t990 t993 t1000 bt1003.1 bt1003.2 (bt1003.2 != t993) a0_0 a0_1 l0_2 t994 t995 t996) else (laws_FnExactArrivalCounts.j0 k l1 t990 t993 t1000 bt1003.1 bt1003.2 true a0_0 a0_1 l0_2 t994 t995 t996))))) = some true := H
   have A13 := Aside0.mk A130
   clear A130
   replace H := Option.bind_eq_some_iff.mp H
   obtain ⟨t1000, A140, H⟩ := H
   replace H : ((impl_ArrivalCounts.f k t994 t995 t996 t1000).bind fun bt1003 => ((laws_eqIntS.f k bt1003.1 t990).bind fun t1007 => (if t1007 = true then (laws_FnExactArrivalCounts.j0 k l1 t990 t993 t1000 bt1003.1 bt1003.2 (bt1003.2 != t993) a0_0 a0_1 l0_2 t994 t995 t996) else (laws_FnExactArrivalCounts.j0 k l1 t990 t993 t1000 bt1003.1 bt1003.2 true a0_0 a0_1 l0_2 t994 t995 t996)))) = some true := H
   have A14 := Aside0.mk A140
   clear A140
   replace H := Option.bind_eq_some_iff.mp H
   obtain ⟨⟨t1003, t1006⟩, A150, H⟩ := H
   replace H : ((laws_eqIntS.f k t1003 t990).bind fun t1007 => (if t1007 = true then (laws_FnExactArrivalCounts.j0 k l1 t990 t993 t1000 t1003 t1006 (t1006 != t993) a0_0 a0_1 l0_2 t994 t995 t996) else (laws_FnExactArrivalCounts.j0 k l1 t990 t993 t1000 t1003 t1006 true a0_0 a0_1 l0_2 t994 t995 t996))) = some true := H
   have A15 := Aside0.mk A150
   clear A150
   have HC16 := Aside0.mk H
   clear H
   go_enter Try.func11, Try.ntmps11
   go_upto_region 11 with (first | ((with_reducible refine gate_dst (N := 2) rfl ?_); refine box_ev (N := 2) (cs := #[.int .i64 a0_0, .int .i64 a0_1, .slice A0_2 l0_2.length c0_2]) (t := 24) ?_; intro gb980 hg w17 hbox hb; have BK980 := Aside0.mk (hbox); have GW980 := gW (w := w) HB hg; have GE980 := gW (w := w) HB hg; replace HB := bB HB hb; clear hb hbox hg; have hcz18_0 := bc0 BK980; have hcz18_1 := bc1 BK980; have hcz18_2 := bc2 BK980; have hfz18_0 := blk_frozen BK980.out 0; have hfz18_1 := blk_frozen BK980.out 1; have hfz18_2 := blk_frozen BK980.out 2) | ((with_reducible refine gate_callee (f := 13) rfl ?_); refine goesA (some 22) _ #[.agg #[.int .i64 a0_0, .int .i64 a0_1, .slice A0_2 l0_2.length c0_2], .int .i64 1048576] ?_ Try.func13; (with_reducible refine (laws_szBoard.calls a0_0 a0_1 _ _ l0_2 1048576 t981 _ ?side1 ?side2 A5.out).mono ?_); (case side1 => repeat (first | exact (Kd.C_below HR0_2.out HB.out) | (with_reducible refine Kd.C_alloc ?_ _) | (with_reducible refine Kd.C_drewN ?_ _) | (with_reducible refine Kd.C_drew ?_))); (case side2 => exact HC0_2.out); rintro e w19 ⟨rfl, hb⟩; refine ⟨_, rfl, ?_⟩; replace BK980 := kB BK980 hb; replace HB := bB HB hb; (try clear hb); (try clear hb2); (try clear hk); (try clear hi); have hcz20_0 := bc0 BK980; have hcz20_1 := bc1 BK980; have hcz20_2 := bc2 BK980; have hfz20_0 := blk_frozen BK980.out 0; have hfz20_1 := blk_frozen BK980.out 1; have hfz20_2 := blk_frozen BK980.out 2) | ((with_reducible refine gate_callee (f := 15) rfl ?_); refine goesA (some 27) _ #[.agg #[.int .i64 a0_0, .int .i64 a0_1, .slice A0_2 l0_2.length c0_2]] ?_ Try.func15; (with_reducible refine (laws_toBoard.calls k a0_0 a0_1 _ _ l0_2 t982 t983 t984 _ ?side1 ?side2 A10.out).mono ?_); (case side1 => repeat (first | exact (Kd.C_below HR0_2.out HB.out) | (with_reducible refine Kd.C_alloc ?_ _) | (with_reducible refine Kd.C_drewN ?_ _) | (with_reducible refine Kd.C_drew ?_))); (case side2 => exact HC0_2.out); rintro e w21 ⟨v985, rfl, ho0, hb⟩; refine ⟨_, rfl, ?_⟩; have HO986 := Aside0.mk (Kd.R_lower ho0 (below_size (viaB HB))); replace BK980 := kB BK980 hb; replace HB := bB HB hb; (try clear hb); (try clear hb2); (try clear hk); (try clear hi); (try clear ho0)) | ((with_reducible refine gate_callee (f := 33) rfl ?_); refine goesA (some 29) _ #[.slice A1 l1.length c1] ?_ Try.func33; (with_reducible refine (laws_toIntS.calls k _ _ l1 t987 _ ?side1 ?side2 A11.out).mono ?_); (case side1 => repeat (first | exact (Kd.C_below HR1.out HB.out) | (with_reducible refine Kd.C_alloc ?_ _) | (with_reducible refine Kd.C_drewN ?_ _) | (with_reducible refine Kd.C_drew ?_))); (case side2 => exact HC1.out); rintro e w22 ⟨v988, rfl, ho0, hb⟩; refine ⟨_, rfl, ?_⟩; have HO989 := Aside0.mk (Kd.R_lower ho0 (below_size (viaB HB))); replace HO986 := Aside0.mk (Kd.R_below (viaR HO986) hb); replace BK980 := kB BK980 hb; replace HB := bB HB hb; (try clear hb); (try clear hb2); (try clear hk); (try clear hi); (try clear ho0); obtain ⟨Ao23, co23, eo23⟩ := Kd.R_slice HO986.out; subst eo23; obtain ⟨Ao24, co24, eo24⟩ := Kd.R_slice HO989.out; subst eo24) | ((with_reducible refine gate_callee (f := 42) rfl ?_); refine goesA (some 30) _ #[.agg #[.int .i64 t982, .int .i64 t983, .slice Ao23 t984.length co23], .slice Ao24 t987.length co24] ?_ Try.func42; (with_reducible refine (spec_ArrivalCounts.calls k t982 t983 _ _ t984 _ _ t987 t990 t993 _ ?side1 ?side2 ?side3 ?side4 A12.out).mono ?_); (case side1 => repeat (first | exact (Kd.R_reads' HO986.out).2.2 | (with_reducible refine Kd.C_alloc ?_ _) | (with_reducible refine Kd.C_drewN ?_ _) | (with_reducible refine Kd.C_drew ?_))); (case side2 => exact (Kd.R_reads' HO986.out).2.1); (case side3 => repeat (first | exact (Kd.R_reads' HO989.out).2.2 | (with_reducible refine Kd.C_alloc ?_ _) | (with_reducible refine Kd.C_drewN ?_ _) | (with_reducible refine Kd.C_drew ?_))); (case side4 => exact (Kd.R_reads' HO989.out).2.1); rintro e w25 ⟨v991, rfl, ho0, hb⟩; refine ⟨_, rfl, ?_⟩; have HO992 := Aside0.mk (Kd.R_lower (Kd.R_new' ho0 (Kd.R_lt (viaR HO989))) (below_size (viaB HB))); replace HO986 := Aside0.mk (Kd.R_below (viaR HO986) hb); replace HO989 := Aside0.mk (Kd.R_elder' (viaR HO989) (Kd.R_base ho0) hb); replace BK980 := kB BK980 hb; replace HB := bB HB hb; (try clear hb); (try clear hb2); (try clear hk); (try clear hi); (try clear ho0); have hcz26_0 := bc0 BK980; have hcz26_1 := bc1 BK980; have hcz26_2 := bc2 BK980; have hfz26_0 := blk_frozen BK980.out 0; have hfz26_1 := blk_frozen BK980.out 1; have hfz26_2 := blk_frozen BK980.out 2) | ((with_reducible refine gate_callee (f := 15) rfl ?_); refine goesA (some 34) _ #[.agg #[.int .i64 a0_0, .int .i64 a0_1, .slice A0_2 l0_2.length c0_2]] ?_ Try.func15; (with_reducible refine (laws_toBoard.calls k a0_0 a0_1 _ _ l0_2 t994 t995 t996 _ ?side1 ?side2 A13.out).mono ?_); (case side1 => repeat (first | exact (Kd.C_below HR0_2.out HB.out) | (with_reducible refine Kd.C_alloc ?_ _) | (with_reducible refine Kd.C_drewN ?_ _) | (with_reducible refine Kd.C_drew ?_))); (case side2 => exact HC0_2.out); rintro e w27 ⟨v997, rfl, ho0, hb⟩; refine ⟨_, rfl, ?_⟩; have HO998 := Aside0.mk (Kd.R_lower (Kd.R_new' ho0 (Kd.R_lt (viaR HO986))) (below_size (viaB HB))); replace HO986 := Aside0.mk (Kd.R_elder' (viaR HO986) (Kd.R_base ho0) hb); replace HO989 := Aside0.mk (Kd.R_below (viaR HO989) hb); replace HO992 := Aside0.mk (Kd.R_below (viaR HO992) hb); replace BK980 := kB BK980 hb; replace HB := bB HB hb; (try clear hb); (try clear hb2); (try clear hk); (try clear hi); (try clear ho0)) | ((with_reducible refine gate_dst (N := 8) rfl ?_); refine box_ev (N := 8) (cs := #[.int .i64 0, .int .i64 0, .slice none 0 0]) (t := 32) ?_; intro gb999 hg w28 hbox hb; have BK999 := Aside0.mk (hbox); have GW999 := gW (w := w) HB hg; have GE999 := gW (w := w) HB hg; have NB980_999 := neL BK980 hg; have NB999_980 := neG BK980 hg; replace HO986 := Aside0.mk (Kd.R_below (viaR HO986) hb); replace HO989 := Aside0.mk (Kd.R_below (viaR HO989) hb); replace HO992 := Aside0.mk (Kd.R_below (viaR HO992) hb); replace HO998 := Aside0.mk (Kd.R_below (viaR HO998) hb); replace BK980 := kB BK980 hb; replace HB := bB HB hb; clear hb hbox hg; have hnb29 := NB999_980.out; have hnc29 := NB980_999.out; have hcz30_0 := bc0 BK999; have hcz30_1 := bc1 BK999; have hcz30_2 := bc2 BK999; have hfz30_0 := blk_frozen BK999.out 0; have hfz30_1 := blk_frozen BK999.out 1; have hfz30_2 := blk_frozen BK999.out 2; obtain ⟨Ao31, co31, eo31⟩ := Kd.R_slice HO998.out; subst eo31) | ((with_reducible refine gate_callee (f := 33) rfl ?_); refine goesA (some 36) _ #[.slice A1 l1.length c1] ?_ Try.func33; (with_reducible refine (laws_toIntS.calls k _ _ l1 t1000 _ ?side1 ?side2 A14.out).mono ?_); (case side1 => exact Kd.C_below HR1.out (viaB HB)); (case side2 => exact HC1.out); rintro e w32 ⟨v1001, rfl, ho0, hb⟩; refine ⟨_, rfl, ?_⟩; have HO1002 := Aside0.mk (Kd.R_lower (Kd.R_new' (Kd.R_new' ho0 (Kd.R_lt (by (with_reducible repeat (first | apply Kd.R_alloc | apply Kd.R_drewN | apply Kd.R_drew)); exact (Kd.R_mono (Kd.R_far (p := ⟨gb999, 2, none⟩) (Kd.R_far (p := ⟨gb999, 1, none⟩) (Kd.R_far (p := ⟨gb999, 0, none⟩) (Kd.R_types HO989.out BK999.out (by decide)) (fun _ hk => hk.2) (.int .i64 t994)) (fun _ hk => hk.2) (.int .i64 t995)) (fun _ hk => hk.2) (.slice Ao31 t996.length co31)) (fun _ h_ => h_.1))))) (Kd.R_lt (by (with_reducible repeat (first | apply Kd.R_alloc | apply Kd.R_drewN | apply Kd.R_drew)); exact (Kd.R_mono (Kd.R_far (p := ⟨gb999, 2, none⟩) (Kd.R_far (p := ⟨gb999, 1, none⟩) (Kd.R_far (p := ⟨gb999, 0, none⟩) (Kd.R_types HO992.out BK999.out (by decide)) (fun _ hk => hk.2) (.int .i64 t994)) (fun _ hk => hk.2) (.int .i64 t995)) (fun _ hk => hk.2) (.slice Ao31 t996.length co31)) (fun _ h_ => h_.1))))) (below_size (viaB HB))); replace HO986 := Aside0.mk (Kd.R_below (by (with_reducible repeat (first | apply Kd.R_alloc | apply Kd.R_drewN | apply Kd.R_drew)); exact (Kd.R_mono (Kd.R_far (p := ⟨gb999, 2, none⟩) (Kd.R_far (p := ⟨gb999, 1, none⟩) (Kd.R_far (p := ⟨gb999, 0, none⟩) (Kd.R_types HO986.out BK999.out (by decide)) (fun _ hk => hk.2) (.int .i64 t994)) (fun _ hk => hk.2) (.int .i64 t995)) (fun _ hk => hk.2) (.slice Ao31 t996.length co31)) (fun _ h_ => h_.1))) hb); replace HO989 := Aside0.mk (Kd.R_elder' (by (with_reducible repeat (first | apply Kd.R_alloc | apply Kd.R_drewN | apply Kd.R_drew)); exact (Kd.R_mono (Kd.R_far (p := ⟨gb999, 2, none⟩) (Kd.R_far (p := ⟨gb999, 1, none⟩) (Kd.R_far (p := ⟨gb999, 0, none⟩) (Kd.R_types HO989.out BK999.out (by decide)) (fun _ hk => hk.2) (.int .i64 t994)) (fun _ hk => hk.2) (.int .i64 t995)) (fun _ hk => hk.2) (.slice Ao31 t996.length co31)) (fun _ h_ => h_.1))) (Kd.R_base ho0) hb); replace HO992 := Aside0.mk (Kd.R_elder' (by (with_reducible repeat (first | apply Kd.R_alloc | apply Kd.R_drewN | apply Kd.R_drew)); exact (Kd.R_mono (Kd.R_far (p := ⟨gb999, 2, none⟩) (Kd.R_far (p := ⟨gb999, 1, none⟩) (Kd.R_far (p := ⟨gb999, 0, none⟩) (Kd.R_types HO992.out BK999.out (by decide)) (fun _ hk => hk.2) (.int .i64 t994)) (fun _ hk => hk.2) (.int .i64 t995)) (fun _ hk => hk.2) (.slice Ao31 t996.length co31)) (fun _ h_ => h_.1))) (Kd.R_base ho0) hb); replace HO998 := Aside0.mk (Kd.R_below (by (with_reducible repeat (first | apply Kd.R_alloc | apply Kd.R_drewN | apply Kd.R_drew)); exact (Kd.R_mono (Kd.R_far (p := ⟨gb999, 2, none⟩) (Kd.R_far (p := ⟨gb999, 1, none⟩) (Kd.R_far (p := ⟨gb999, 0, none⟩) (Kd.R_types HO998.out BK999.out (by decide)) (fun _ hk => hk.2) (.int .i64 t994)) (fun _ hk => hk.2) (.int .i64 t995)) (fun _ hk => hk.2) (.slice Ao31 t996.length co31)) (fun _ h_ => h_.1))) hb); replace BK980 := Aside0.mk (blk_below (g := gb980) (o := .cells #[.int .i64 a0_0, .int .i64 a0_1, .slice A0_2 l0_2.length c0_2] 24 (0, 0)) (by (with_reducible repeat (first | refine blk_drewN ?_ _ | refine blk_drew ?_ | refine blk_alloc ?_ _)); refine blk_far ?_ NB980_999.out _; (with_reducible repeat (first | refine blk_drewN ?_ _ | refine blk_drew ?_ | refine blk_alloc ?_ _)); refine blk_far ?_ NB980_999.out _; (with_reducible repeat (first | refine blk_drewN ?_ _ | refine blk_drew ?_ | refine blk_alloc ?_ _)); refine blk_far ?_ NB980_999.out _; (with_reducible repeat (first | refine blk_drewN ?_ _ | refine blk_drew ?_ | refine blk_alloc ?_ _)); exact BK980.out) hb); replace BK999 := Aside0.mk (blk_below (g := gb999) (o := .cells #[.int .i64 t994, .int .i64 t995, .slice Ao31 t996.length co31] 32 (0, 0)) (by (with_reducible repeat (first | refine blk_drewN ?_ _ | refine blk_drew ?_ | refine blk_alloc ?_ _)); refine blk_put (cs := #[.int .i64 t994, .int .i64 t995, .slice none 0 0]) ?_ 2 _ rfl; (with_reducible repeat (first | refine blk_drewN ?_ _ | refine blk_drew ?_ | refine blk_alloc ?_ _)); refine blk_put (cs := #[.int .i64 t994, .int .i64 0, .slice none 0 0]) ?_ 1 _ rfl; (with_reducible repeat (first | refine blk_drewN ?_ _ | refine blk_drew ?_ | refine blk_alloc ?_ _)); refine blk_put (cs := #[.int .i64 0, .int .i64 0, .slice none 0 0]) ?_ 0 _ rfl; (with_reducible repeat (first | refine blk_drewN ?_ _ | refine blk_drew ?_ | refine blk_alloc ?_ _)); exact BK999.out) hb); replace HB := bB HB hb; (try clear hb); (try clear hb2); (try clear hk); (try clear hi); (try clear ho0); have hcz33_0 := bc0 BK999; have hcz33_1 := bc1 BK999; have hcz33_2 := bc2 BK999; have hfz33_0 := blk_frozen BK999.out 0; have hfz33_1 := blk_frozen BK999.out 1; have hfz33_2 := blk_frozen BK999.out 2; obtain ⟨Ao34, co34, eo34⟩ := Kd.R_slice HO1002.out; subst eo34) | ((with_reducible refine gate_callee (f := 43) rfl ?_); refine goesA (some 40) _ #[.agg #[.int .i64 t994, .int .i64 t995, .slice Ao31 t996.length co31], .slice Ao34 t1000.length co34] ?_ Try.func43; (with_reducible refine (impl_ArrivalCounts.calls k t994 t995 _ _ t996 _ _ t1000 t1003 t1006 _ ?side1 ?side2 ?side3 ?side4 A15.out).mono ?_); (case side1 => repeat (first | exact (Kd.R_reads' HO998.out).2.2 | (with_reducible refine Kd.C_alloc ?_ _) | (with_reducible refine Kd.C_drewN ?_ _) | (with_reducible refine Kd.C_drew ?_))); (case side2 => exact (Kd.R_reads' HO998.out).2.1); (case side3 => repeat (first | exact (Kd.R_reads' HO1002.out).2.2 | (with_reducible refine Kd.C_alloc ?_ _) | (with_reducible refine Kd.C_drewN ?_ _) | (with_reducible refine Kd.C_drew ?_))); (case side4 => exact (Kd.R_reads' HO1002.out).2.1); rintro e w35 ⟨v1004, rfl, ho0, hb⟩; refine ⟨_, rfl, ?_⟩; have HO1005 := Aside0.mk (Kd.R_lower (Kd.R_new' (Kd.R_new' (Kd.R_new' ho0 (Kd.R_lt (viaR HO989))) (Kd.R_lt (viaR HO992))) (Kd.R_lt (viaR HO1002))) (below_size (viaB HB))); replace HO986 := Aside0.mk (Kd.R_below (viaR HO986) hb); replace HO989 := Aside0.mk (Kd.R_elder' (viaR HO989) (Kd.R_base ho0) hb); replace HO992 := Aside0.mk (Kd.R_elder' (viaR HO992) (Kd.R_base ho0) hb); replace HO998 := Aside0.mk (Kd.R_below (viaR HO998) hb); replace HO1002 := Aside0.mk (Kd.R_elder' (viaR HO1002) (Kd.R_base ho0) hb); replace BK980 := kB BK980 hb; replace BK999 := kB BK999 hb; replace HB := bB HB hb; (try clear hb); (try clear hb2); (try clear hk); (try clear hi); (try clear ho0)))
   (try simp only [Act.put, q1, q2, q3])
   go_cut [51] (fun v51 wc => ∃ (kq : Nat) (x51_15 : Bool), v51 = .bool x51_15 ∧ Aside0 (laws_FnExactArrivalCounts.j0 kq l1 t990 t993 t1000 t1003 t1006 x51_15 a0_0 a0_1 l0_2 t994 t995 t996 = some true) ∧ Aside0 (kq ≤ k) ∧ Aside0 (Kd.R (Kd.int .i64) 3 wc w.heap.size (fun k_ => some k_ ≠ ((.slice Ao34 t1000.length co34) : Value).ownBlock ∧ some k_ ≠ (v1004 : Value).ownBlock) v991 t990) ∧ Aside0 (Kd.R (Kd.int .i64) 3 wc w.heap.size (fun k_ => some k_ ≠ (v991 : Value).ownBlock ∧ some k_ ≠ (v1004 : Value).ownBlock) (.slice Ao34 t1000.length co34) t1000) ∧ Aside0 (Kd.R (Kd.int .i64) 3 wc w.heap.size (fun k_ => some k_ ≠ (v991 : Value).ownBlock ∧ some k_ ≠ ((.slice Ao34 t1000.length co34) : Value).ownBlock) v1004 t1003) ∧ Aside0 (Kd.R k89 89 wc w.heap.size (fun _ => True) (.slice Ao31 t996.length co31) t996) ∧ Aside0 (wc.heap[gb980]? = some (.cells #[.int .i64 a0_0, .int .i64 a0_1, (.slice A0_2 l0_2.length c0_2)] 24 (0, 0))) ∧ Aside0 (wc.heap[gb999]? = some (.cells #[.int .i64 t994, .int .i64 t995, (.slice Ao31 t996.length co31)] 32 (0, 0))) ∧ Aside0 (Below w.heap.size w wc))
   case first =>
    have H := HC16.out
    clear HC16
    replace H := Option.bind_eq_some_iff.mp H
    obtain ⟨t1007, A360, H⟩ := H
    replace H : (if t1007 = true then (laws_FnExactArrivalCounts.j0 k l1 t990 t993 t1000 t1003 t1006 (t1006 != t993) a0_0 a0_1 l0_2 t994 t995 t996) else (laws_FnExactArrivalCounts.j0 k l1 t990 t993 t1000 t1003 t1006 true a0_0 a0_1 l0_2 t994 t995 t996)) = some true := H
    have A36 := Aside0.mk A360
    clear A360
    by_cases c37 : t1007 = true
    ·subst c37
     have H1 : (laws_FnExactArrivalCounts.j0 k l1 t990 t993 t1000 t1003 t1006 (t1006 != t993) a0_0 a0_1 l0_2 t994 t995 t996) = some true := by rw [if_pos rfl] at H; exact H
     clear H
     have H := H1
     clear H1
     have H' := Aside0.mk H
     clear H
     obtain ⟨Ao38, co38, eo38⟩ := Kd.R_slice HO1005.out
     subst eo38
     obtain ⟨Ao39, co39, eo39⟩ := Kd.R_slice HO992.out
     subst eo39
     go_wp2_with (first | ((with_reducible refine gate_callee (f := 27) rfl ?_); refine goesA (some 45) _ #[.slice Ao38 t1003.length co38, .slice Ao39 t990.length co39] ?_ Try.func27; (with_reducible refine (laws_eqIntS.calls k _ _ t1003 _ _ t990 true _ ?side1 ?side2 ?side3 ?side4 A36.out).mono ?_); (case side1 => repeat (first | exact (Kd.R_reads' HO1005.out).2.2 | (with_reducible refine Kd.C_alloc ?_ _) | (with_reducible refine Kd.C_drewN ?_ _) | (with_reducible refine Kd.C_drew ?_))); (case side2 => exact (Kd.R_reads' HO1005.out).2.1); (case side3 => repeat (first | exact (Kd.R_reads' HO992.out).2.2 | (with_reducible refine Kd.C_alloc ?_ _) | (with_reducible refine Kd.C_drewN ?_ _) | (with_reducible refine Kd.C_drew ?_))); (case side4 => exact (Kd.R_reads' HO992.out).2.1); rintro e w' ⟨rfl, ⟨nd, rfl⟩⟩; refine ⟨_, rfl, ?_⟩))
     go_meet
     case rel => exact ⟨_, ((t1006 != t993)), (by first | rfl | (simp; done) | (simp [*]; done)), H', ⟨by first | omega | exact Nat.le_refl _⟩, ⟨by (with_reducible repeat (first | apply Kd.R_alloc | apply Kd.R_drewN | apply Kd.R_drew)); exact Kd.R_mono HO992.out (fun _ hk => ⟨hk.1.2, hk.2⟩)⟩, ⟨by (with_reducible repeat (first | apply Kd.R_alloc | apply Kd.R_drewN | apply Kd.R_drew)); exact Kd.R_mono HO1002.out (fun _ hk => ⟨hk.1.2, hk.2⟩)⟩, ⟨by (with_reducible repeat (first | apply Kd.R_alloc | apply Kd.R_drewN | apply Kd.R_drew)); exact Kd.R_mono HO1005.out (fun _ hk => ⟨hk.1.2, hk.2⟩)⟩, ⟨by (with_reducible repeat (first | apply Kd.R_alloc | apply Kd.R_drewN | apply Kd.R_drew)); exact Kd.R_mono HO998.out (fun _ hk => trivial)⟩, ⟨viaK BK980⟩, ⟨viaK BK999⟩, ⟨viaB HB⟩⟩
    ·(rw [if_neg c37] at H; exact absurd H (laws_FnExactArrivalCounts.bad_j0 _ _ _ _ _ _ _ _ _ _ _ _ _))
   case rest =>
    clear HC16
    (try clear c3b0); (try clear c3b1); (try clear c6b0)
    (try clear hcz18_0); (try clear hcz18_1); (try clear hcz18_2); (try clear hcz20_0); (try clear hcz20_1); (try clear hcz20_2); (try clear hcz26_0); (try clear hcz26_1)
    (try clear hcz26_2); (try clear hcz30_0); (try clear hcz30_1); (try clear hcz30_2); (try clear hcz33_0); (try clear hcz33_1); (try clear hcz33_2); (try clear hfz18_0)
    (try clear hfz18_1); (try clear hfz18_2); (try clear hfz20_0); (try clear hfz20_1); (try clear hfz20_2); (try clear hfz26_0); (try clear hfz26_1); (try clear hfz26_2)
    (try clear hfz30_0); (try clear hfz30_1); (try clear hfz30_2); (try clear hfz33_0); (try clear hfz33_1); (try clear hfz33_2)
    obtain ⟨kq, x51_15, rfl, HA, HJ15, HO_6, HO_9, HO_10, HO_1000002, BK980, BK999, HB⟩ := hcut
    cases kq with
    | zero => exact absurd HA.out (by simp [laws_FnExactArrivalCounts.j0])
    | succ kj15 =>
     have H := HA.out
     clear HA
     simp only [laws_FnExactArrivalCounts.j0] at H
     by_cases c42 : x51_15 = true
     ·(rw [if_pos c42] at H; exact absurd H (by decide))
     ·replace c42 := Bool.eq_false_iff.mpr c42
      subst c42
      have H1 : ((laws_toBoard.f kj15 a0_0 a0_1 l0_2).bind fun bt1008 => ((laws_eqBoard.f kj15 t994 t995 t996 bt1008.1 bt1008.2.1 bt1008.2.2).bind fun t1013 => (if t1013 = true then ((laws_toIntS.f kj15 l1).bind fun t1014 => ((laws_eqIntS.f kj15 t1000 t1014).bind fun t1017 => (if t1017 = true then ((laws_markBoard.f kj15 t994 t995 t996 1).bind fun bt1018 => ((laws_markIntS.f kj15 t1000 bt1018.1).bind fun bt1020 => (if bt1020.1 < 0 then (laws_FnExactArrivalCounts.j1 kj15 l1 t990 t993 t1003 true a0_0 a0_1 l0_2) else ((laws_eqIntS.f kj15 t1003 t990).bind fun t1022 => (if t1022 = true then (laws_FnExactArrivalCounts.j1 kj15 l1 t990 t993 t1003 (t1006 != t993) a0_0 a0_1 l0_2) else (laws_FnExactArrivalCounts.j1 kj15 l1 t990 t993 t1003 true a0_0 a0_1 l0_2)))))) else (some false)))) else (some false)))) = some true := by rw [if_neg (show ¬ (false = true) by decide)] at H; exact H
      clear H
      have H := H1
      clear H1
      replace H := Option.bind_eq_some_iff.mp H
      obtain ⟨⟨t1008, t1009, t1010⟩, A430, H⟩ := H
      replace H : ((laws_eqBoard.f kj15 t994 t995 t996 t1008 t1009 t1010).bind fun t1013 => (if t1013 = true then ((laws_toIntS.f kj15 l1).bind fun t1014 => ((laws_eqIntS.f kj15 t1000 t1014).bind fun t1017 => (if t1017 = true then ((laws_markBoard.f kj15 t994 t995 t996 1).bind fun bt1018 => ((laws_markIntS.f kj15 t1000 bt1018.1).bind fun bt1020 => (if bt1020.1 < 0 then (laws_FnExactArrivalCounts.j1 kj15 l1 t990 t993 t1003 true a0_0 a0_1 l0_2) else ((laws_eqIntS.f kj15 t1003 t990).bind fun t1022 => (if t1022 = true then (laws_FnExactArrivalCounts.j1 kj15 l1 t990 t993 t1003 (t1006 != t993) a0_0 a0_1 l0_2) else (laws_FnExactArrivalCounts.j1 kj15 l1 t990 t993 t1003 true a0_0 a0_1 l0_2)))))) else (some false)))) else (some false))) = some true := H
      have A43 := Aside0.mk A430
      clear A430
      replace H := Option.bind_eq_some_iff.mp H
      obtain ⟨t1013, A440, H⟩ := H
      replace H : (if t1013 = true then ((laws_toIntS.f kj15 l1).bind fun t1014 => ((laws_eqIntS.f kj15 t1000 t1014).bind fun t1017 => (if t1017 = true then ((laws_markBoard.f kj15 t994 t995 t996 1).bind fun bt1018 => ((laws_markIntS.f kj15 t1000 bt1018.1).bind fun bt1020 => (if bt1020.1 < 0 then (laws_FnExactArrivalCounts.j1 kj15 l1 t990 t993 t1003 true a0_0 a0_1 l0_2) else ((laws_eqIntS.f kj15 t1003 t990).bind fun t1022 => (if t1022 = true then (laws_FnExactArrivalCounts.j1 kj15 l1 t990 t993 t1003 (t1006 != t993) a0_0 a0_1 l0_2) else (laws_FnExactArrivalCounts.j1 kj15 l1 t990 t993 t1003 true a0_0 a0_1 l0_2)))))) else (some false)))) else (some false)) = some true := H
      have A44 := Aside0.mk A440
      clear A440
      by_cases c45 : t1013 = true
      ·subst c45
       have H1 : ((laws_toIntS.f kj15 l1).bind fun t1014 => ((laws_eqIntS.f kj15 t1000 t1014).bind fun t1017 => (if t1017 = true then ((laws_markBoard.f kj15 t994 t995 t996 1).bind fun bt1018 => ((laws_markIntS.f kj15 t1000 bt1018.1).bind fun bt1020 => (if bt1020.1 < 0 then (laws_FnExactArrivalCounts.j1 kj15 l1 t990 t993 t1003 true a0_0 a0_1 l0_2) else ((laws_eqIntS.f kj15 t1003 t990).bind fun t1022 => (if t1022 = true then (laws_FnExactArrivalCounts.j1 kj15 l1 t990 t993 t1003 (t1006 != t993) a0_0 a0_1 l0_2) else (laws_FnExactArrivalCounts.j1 kj15 l1 t990 t993 t1003 true a0_0 a0_1 l0_2)))))) else (some false)))) = some true := by rw [if_pos rfl] at H; exact H
       clear H
       have H := H1
       clear H1
       replace H := Option.bind_eq_some_iff.mp H
       obtain ⟨t1014, A460, H⟩ := H
       replace H : ((laws_eqIntS.f kj15 t1000 t1014).bind fun t1017 => (if t1017 = true then ((laws_markBoard.f kj15 t994 t995 t996 1).bind fun bt1018 => ((laws_markIntS.f kj15 t1000 bt1018.1).bind fun bt1020 => (if bt1020.1 < 0 then (laws_FnExactArrivalCounts.j1 kj15 l1 t990 t993 t1003 true a0_0 a0_1 l0_2) else ((laws_eqIntS.f kj15 t1003 t990).bind fun t1022 => (if t1022 = true then (laws_FnExactArrivalCounts.j1 kj15 l1 t990 t993 t1003 (t1006 != t993) a0_0 a0_1 l0_2) else (laws_FnExactArrivalCounts.j1 kj15 l1 t990 t993 t1003 true a0_0 a0_1 l0_2)))))) else (some false))) = some true := H
       have A46 := Aside0.mk A460
       clear A460
       replace H := Option.bind_eq_some_iff.mp H
       obtain ⟨t1017, A470, H⟩ := H
       replace H : (if t1017 = true then ((laws_markBoard.f kj15 t994 t995 t996 1).bind fun bt1018 => ((laws_markIntS.f kj15 t1000 bt1018.1).bind fun bt1020 => (if bt1020.1 < 0 then (laws_FnExactArrivalCounts.j1 kj15 l1 t990 t993 t1003 true a0_0 a0_1 l0_2) else ((laws_eqIntS.f kj15 t1003 t990).bind fun t1022 => (if t1022 = true then (laws_FnExactArrivalCounts.j1 kj15 l1 t990 t993 t1003 (t1006 != t993) a0_0 a0_1 l0_2) else (laws_FnExactArrivalCounts.j1 kj15 l1 t990 t993 t1003 true a0_0 a0_1 l0_2)))))) else (some false)) = some true := H
       have A47 := Aside0.mk A470
       clear A470
       by_cases c48 : t1017 = true
       ·subst c48
        have H1 : ((laws_markBoard.f kj15 t994 t995 t996 1).bind fun bt1018 => ((laws_markIntS.f kj15 t1000 bt1018.1).bind fun bt1020 => (if bt1020.1 < 0 then (laws_FnExactArrivalCounts.j1 kj15 l1 t990 t993 t1003 true a0_0 a0_1 l0_2) else ((laws_eqIntS.f kj15 t1003 t990).bind fun t1022 => (if t1022 = true then (laws_FnExactArrivalCounts.j1 kj15 l1 t990 t993 t1003 (t1006 != t993) a0_0 a0_1 l0_2) else (laws_FnExactArrivalCounts.j1 kj15 l1 t990 t993 t1003 true a0_0 a0_1 l0_2)))))) = some true := by rw [if_pos rfl] at H; exact H
        clear H
        have H := H1
        clear H1
        replace H := Option.bind_eq_some_iff.mp H
        obtain ⟨⟨t1018, t1019⟩, A490, H⟩ := H
        replace H : ((laws_markIntS.f kj15 t1000 t1018).bind fun bt1020 => (if bt1020.1 < 0 then (laws_FnExactArrivalCounts.j1 kj15 l1 t990 t993 t1003 true a0_0 a0_1 l0_2) else ((laws_eqIntS.f kj15 t1003 t990).bind fun t1022 => (if t1022 = true then (laws_FnExactArrivalCounts.j1 kj15 l1 t990 t993 t1003 (t1006 != t993) a0_0 a0_1 l0_2) else (laws_FnExactArrivalCounts.j1 kj15 l1 t990 t993 t1003 true a0_0 a0_1 l0_2))))) = some true := H
        have A49 := Aside0.mk A490
        clear A490
        replace H := Option.bind_eq_some_iff.mp H
        obtain ⟨⟨t1020, t1021⟩, A500, H⟩ := H
        replace H : (if t1020 < 0 then (laws_FnExactArrivalCounts.j1 kj15 l1 t990 t993 t1003 true a0_0 a0_1 l0_2) else ((laws_eqIntS.f kj15 t1003 t990).bind fun t1022 => (if t1022 = true then (laws_FnExactArrivalCounts.j1 kj15 l1 t990 t993 t1003 (t1006 != t993) a0_0 a0_1 l0_2) else (laws_FnExactArrivalCounts.j1 kj15 l1 t990 t993 t1003 true a0_0 a0_1 l0_2)))) = some true := H
        have A50 := Aside0.mk A500
        clear A500
        have HC51 := Aside0.mk H
        clear H
        try go_wp2
        replace HO_6 := Aside0.mk (Kd.R_drew HO_6.out)
        replace HO_9 := Aside0.mk (Kd.R_drew HO_9.out)
        replace HO_10 := Aside0.mk (Kd.R_drew HO_10.out)
        replace HO_1000002 := Aside0.mk (Kd.R_drew HO_1000002.out)
        replace BK980 := Aside0.mk (blk_drew BK980.out)
        replace BK999 := Aside0.mk (blk_drew BK999.out)
        replace HB := Aside0.mk (below_drew1 HB.out)
        refine start_ (n := 5) (S := fun w' => w'.cell? ⟨gb999, 0, none⟩ = some (.int .i64 t994) ∧ w'.cell? ⟨gb999, 1, none⟩ = some (.int .i64 t995) ∧ w'.cell? ⟨gb999, 2, none⟩ = some (.slice Ao31 t996.length co31) ∧ w'.cell? ⟨gb980, 0, none⟩ = some (.int .i64 a0_0) ∧ w'.cell? ⟨gb980, 1, none⟩ = some (.int .i64 a0_1) ∧ w'.cell? ⟨gb980, 2, none⟩ = some (.slice A0_2 l0_2.length c0_2)) (ds := []) #[false, false, false, false, false] (by kernel_rfl) rfl rfl ⟨(blk_cell BK999.out 0).trans rfl, (blk_cell BK999.out 1).trans rfl, (blk_cell BK999.out 2).trans rfl, (blk_cell BK980.out 0).trans rfl, (blk_cell BK980.out 1).trans rfl, (blk_cell BK980.out 2).trans rfl⟩ (fun hHeld => ?_)
        generalize wc.drew = w52 at HO_6 HO_9 HO_10 HO_1000002 BK980 BK999 HB hHeld ⊢
        refine take_ (i := 0) (N := some 52) (v := ?_) (a' := ?_) #[true, false, false, false, false] rfl rfl (by kernel_rfl) (fun _ _ _ h => h) (Or.inl ⟨by rfl, ?_⟩) hHeld ?_ ?_
        rotate_left
        ·rintro w' ⟨s0, s1, s2, s3, s4, s5⟩
         go_simp
         with_reducible rfl
        rotate_left
        ·simp only [Act.put, q1, q2, q3, i64_w, i32_w]
         rfl
        refine take_ (i := 1) (N := some 53) (v := ?_) (a' := ?_) #[true, true, false, false, false] rfl rfl (by kernel_rfl) (fun _ _ _ h => h) (Or.inl ⟨by rfl, ?_⟩) hHeld ?_ ?_
        rotate_left
        ·rintro w' ⟨s0, s1, s2, s3, s4, s5⟩
         go_simp
         with_reducible rfl
        rotate_left
        ·simp only [Act.put, q1, q2, q3, i64_w, i32_w]
         rfl
        refine one_ (i := 2) (N := some 54) #[true, true, true, false, false] rfl rfl (by kernel_rfl) (by decide) (fun K hK => ?_)
        refine goes_ Try.func15 (by kernel_rfl) rfl #[.agg #[.int .i64 a0_0, .int .i64 a0_1, .slice A0_2 l0_2.length c0_2]] (by rfl) rfl rfl (by (try simp only [List.map_toArray, List.map_cons, List.map_nil]); first | done | rfl | (simp only [List.length_drop, List.length_take]; rfl)) ?_
        with_reducible refine (laws_toBoard.calls kj15 a0_0 a0_1 _ _ l0_2 t1008 t1009 t1010 _ ?side1 ?side2 A43.out).mono ?_
        (case side1 => repeat (first | exact (Kd.C_below HR0_2.out HB.out) | (with_reducible refine Kd.C_alloc ?_ _) | (with_reducible refine Kd.C_drewN ?_ _) | (with_reducible refine Kd.C_drew ?_)))
        (case side2 => exact HC0_2.out)
        rintro e w53 ⟨v1011, rfl, ho0, hb⟩
        refine ⟨_, rfl, ?_⟩
        have HO1012 := Aside0.mk (Kd.R_lower (Kd.R_new' ho0 (Kd.R_lt (viaR HO_1000002))) (below_size (viaB HB)))
        replace HO_6 := Aside0.mk (Kd.R_below (viaR HO_6) hb)
        replace HO_9 := Aside0.mk (Kd.R_below (viaR HO_9) hb)
        replace HO_10 := Aside0.mk (Kd.R_below (viaR HO_10) hb)
        replace HO_1000002 := Aside0.mk (Kd.R_elder' (viaR HO_1000002) (Kd.R_base ho0) hb)
        replace BK980 := kB BK980 hb
        replace BK999 := kB BK999 hb
        replace HB := bB HB hb
        (try clear hb); (try clear ho0)
        obtain ⟨Ao54, co54, eo54⟩ := Kd.R_slice HO1012.out
        (first | subst eo54 | (injection eo54 with f1_ f2_ f3_; have f4_ := f1_.symm; have f5_ := f3_.symm; clear f1_ f2_ f3_; subst f4_; subst f5_))
        refine hK.out _ _ ⟨(blk_cell BK999.out 0).trans rfl, (blk_cell BK999.out 1).trans rfl, (blk_cell BK999.out 2).trans rfl, (blk_cell BK980.out 0).trans rfl, (blk_cell BK980.out 1).trans rfl, (blk_cell BK980.out 2).trans rfl⟩ (fun hHeld => ?_)
        clear hK K
        refine norm_ (a' := ?_) ?_ ?_
        rotate_left
        ·show Act.put _ (some 54) _ = _
         simp only [Act.put, q1, q2, q3, i64_w, i32_w]
         rfl
        refine one_ (i := 3) (N := some 55) #[true, true, true, true, false] rfl rfl (by kernel_rfl) (by decide) (fun K hK => ?_)
        refine goes_ Try.func18 (by kernel_rfl) rfl #[.agg #[.int .i64 t994, .int .i64 t995, .slice Ao31 t996.length co31], .agg #[.int .i64 t1008, .int .i64 t1009, .slice Ao54 t1010.length co54]] (by rfl) rfl rfl (by (try simp only [List.map_toArray, List.map_cons, List.map_nil]); first | done | rfl | (simp only [List.length_drop, List.length_take]; rfl)) ?_
        with_reducible refine (laws_eqBoard.calls kj15 t994 t995 _ _ t996 t1008 t1009 _ _ t1010 true _ ?side1 ?side2 ?side3 ?side4 A44.out).mono ?_
        (case side1 => repeat (first | exact (Kd.R_reads' HO_1000002.out).2.2 | (with_reducible refine Kd.C_alloc ?_ _) | (with_reducible refine Kd.C_drewN ?_ _) | (with_reducible refine Kd.C_drew ?_)))
        (case side2 => exact (Kd.R_reads' HO_1000002.out).2.1)
        (case side3 => repeat (first | exact (Kd.R_reads' HO1012.out).2.2 | (with_reducible refine Kd.C_alloc ?_ _) | (with_reducible refine Kd.C_drewN ?_ _) | (with_reducible refine Kd.C_drew ?_)))
        (case side4 => exact (Kd.R_reads' HO1012.out).2.1)
        rintro e w55 ⟨rfl, hb⟩
        refine ⟨_, rfl, ?_⟩
        replace HO_6 := Aside0.mk (Kd.R_below (viaR HO_6) hb)
        replace HO_9 := Aside0.mk (Kd.R_below (viaR HO_9) hb)
        replace HO_10 := Aside0.mk (Kd.R_below (viaR HO_10) hb)
        replace HO_1000002 := Aside0.mk (Kd.R_below (viaR HO_1000002) hb)
        replace HO1012 := Aside0.mk (Kd.R_below (viaR HO1012) hb)
        replace BK980 := kB BK980 hb
        replace BK999 := kB BK999 hb
        replace HB := bB HB hb
        (try clear hb)
        refine hK.out _ _ ⟨(blk_cell BK999.out 0).trans rfl, (blk_cell BK999.out 1).trans rfl, (blk_cell BK999.out 2).trans rfl, (blk_cell BK980.out 0).trans rfl, (blk_cell BK980.out 1).trans rfl, (blk_cell BK980.out 2).trans rfl⟩ (fun hHeld => ?_)
        clear hK K
        refine norm_ (a' := ?_) ?_ ?_
        rotate_left
        ·show Act.put _ (some 55) _ = _
         simp only [Act.put, q1, q2, q3, i64_w, i32_w]
         rfl
        refine pure_ (i := 4) (N := some 56) (v := ?_) (a' := ?_) #[true, true, true, true, true] rfl rfl (by kernel_rfl) (fun _ _ _ h => h) (Or.inl ⟨by rfl, ?_⟩) ?_ ?_
        rotate_left
        ·intro w'
         go_simp
         with_reducible rfl
        rotate_left
        ·simp only [Act.put, q1, q2, q3, i64_w, i32_w]
         rfl
        refine done_ (by kernel_rfl) ?_
        go_upto_region 20 with (first | ((with_reducible refine gate_callee (f := 33) rfl ?_); refine goesA (some 59) _ #[.slice A1 l1.length c1] ?_ Try.func33; (with_reducible refine (laws_toIntS.calls kj15 _ _ l1 t1014 _ ?side1 ?side2 A46.out).mono ?_); (case side1 => repeat (first | exact (Kd.C_below HR1.out HB.out) | (with_reducible refine Kd.C_alloc ?_ _) | (with_reducible refine Kd.C_drewN ?_ _) | (with_reducible refine Kd.C_drew ?_))); (case side2 => exact HC1.out); rintro e w56 ⟨v1015, rfl, ho0, hb⟩; refine ⟨_, rfl, ?_⟩; have HO1016 := Aside0.mk (Kd.R_lower (Kd.R_new' (Kd.R_new' (Kd.R_new' ho0 (Kd.R_lt (viaR HO_6))) (Kd.R_lt (viaR HO_9))) (Kd.R_lt (viaR HO_10))) (below_size (viaB HB))); replace HO_6 := Aside0.mk (Kd.R_elder' (viaR HO_6) (Kd.R_base ho0) hb); replace HO_9 := Aside0.mk (Kd.R_elder' (viaR HO_9) (Kd.R_base ho0) hb); replace HO_10 := Aside0.mk (Kd.R_elder' (viaR HO_10) (Kd.R_base ho0) hb); replace HO_1000002 := Aside0.mk (Kd.R_below (viaR HO_1000002) hb); replace HO1012 := Aside0.mk (Kd.R_below (viaR HO1012) hb); replace BK980 := kB BK980 hb; replace BK999 := kB BK999 hb; replace HB := bB HB hb; (try clear hb); (try clear hb2); (try clear hk); (try clear hi); (try clear ho0); obtain ⟨Ao57, co57, eo57⟩ := Kd.R_slice HO1016.out; subst eo57) | ((with_reducible refine gate_callee (f := 27) rfl ?_); refine goesA (some 60) _ #[.slice Ao34 t1000.length co34, .slice Ao57 t1014.length co57] ?_ Try.func27; (with_reducible refine (laws_eqIntS.calls kj15 _ _ t1000 _ _ t1014 true _ ?side1 ?side2 ?side3 ?side4 A47.out).mono ?_); (case side1 => repeat (first | exact (Kd.R_reads' HO_9.out).2.2 | (with_reducible refine Kd.C_alloc ?_ _) | (with_reducible refine Kd.C_drewN ?_ _) | (with_reducible refine Kd.C_drew ?_))); (case side2 => exact (Kd.R_reads' HO_9.out).2.1); (case side3 => repeat (first | exact (Kd.R_reads' HO1016.out).2.2 | (with_reducible refine Kd.C_alloc ?_ _) | (with_reducible refine Kd.C_drewN ?_ _) | (with_reducible refine Kd.C_drew ?_))); (case side4 => exact (Kd.R_reads' HO1016.out).2.1); rintro e w' ⟨rfl, ⟨nd, rfl⟩⟩; refine ⟨_, rfl, ?_⟩; have hnb58 := NB999_980.out; have hnc58 := NB980_999.out; have hcz59_0 := bc0 BK999; have hcz59_1 := bc1 BK999; have hcz59_2 := bc2 BK999; have hfz59_0 := blk_frozen BK999.out 0; have hfz59_1 := blk_frozen BK999.out 1; have hfz59_2 := blk_frozen BK999.out 2) | ((with_reducible refine gate_callee (f := 23) rfl ?_); refine goesA (some 64) _ #[.agg #[.int .i64 t994, .int .i64 t995, .slice Ao31 t996.length co31], .int .i64 1] ?_ Try.func23; (with_reducible refine (laws_markBoard.calls kj15 t994 t995 (fun k_ => some k_ = (.slice Ao31 t996.length co31 : Value).ownBlock) (.slice Ao31 t996.length co31) t996 1 t1018 t1019 w _ ?side1 ?side2 A49.out).mono ?_); (case side1 => repeat (first | (with_reducible first | exact HB.out | apply below_alloc | apply pw_below_drewN | apply below_drew1 | refine below_set ?_ GE980.out | refine below_set ?_ GE999.out) | exact HB.out)); (case side2 => exact Kd.R_tight rfl HO_1000002.out); rintro e w60 ⟨rfl, hy0, hb, hkp⟩; refine ⟨_, rfl, ?_⟩; replace HO_6 := Aside0.mk (Kd.R_mono (ok' := fun k_ => some k_ ≠ (.slice Ao34 t1000.length co34 : Value).ownBlock ∧ some k_ ≠ (v1004 : Value).ownBlock ∧ some k_ ≠ (.slice Ao57 t1014.length co57 : Value).ownBlock) (Kd.R_keptB ((Kd.R_apart' HO_6.out (Kd.R_typed HO_1000002.out) (by decide))) hkp (fun k_ hk_ hs_ => (hk_.2) hs_)) (fun k_ hk_ => ⟨hk_.1.1.1.1, hk_.1.1.1.2, hk_.1.1.2⟩)); replace HO_9 := Aside0.mk (Kd.R_mono (ok' := fun k_ => some k_ ≠ (v991 : Value).ownBlock ∧ some k_ ≠ (v1004 : Value).ownBlock ∧ some k_ ≠ (.slice Ao57 t1014.length co57 : Value).ownBlock) (Kd.R_keptB ((Kd.R_apart' HO_9.out (Kd.R_typed HO_1000002.out) (by decide))) hkp (fun k_ hk_ hs_ => (hk_.2) hs_)) (fun k_ hk_ => ⟨hk_.1.1.1.1, hk_.1.1.1.2, hk_.1.1.2⟩)); replace HO_10 := Aside0.mk (Kd.R_mono (ok' := fun k_ => some k_ ≠ (v991 : Value).ownBlock ∧ some k_ ≠ (.slice Ao34 t1000.length co34 : Value).ownBlock ∧ some k_ ≠ (.slice Ao57 t1014.length co57 : Value).ownBlock) (Kd.R_keptB ((Kd.R_apart' HO_10.out (Kd.R_typed HO_1000002.out) (by decide))) hkp (fun k_ hk_ hs_ => (hk_.2) hs_)) (fun k_ hk_ => ⟨hk_.1.1.1.1, hk_.1.1.1.2, hk_.1.1.2⟩)); replace BK980 := Aside0.mk (blk_kept (viaK BK980) hkp (fun hs_ => (fun e_ => (Kd.R_ne HO_1000002.out BK980.out (by decide)) e_) hs_)); replace BK999 := Aside0.mk (blk_kept (viaK BK999) hkp (fun hs_ => (fun e_ => (Kd.R_ne HO_1000002.out BK999.out (by decide)) e_) hs_)); replace HO1012 := Aside0.mk (Kd.R_mono (ok' := fun k_ => some k_ ≠ (.slice Ao31 t996.length co31 : Value).ownBlock) (Kd.R_keptB (HO1012.out) hkp (fun k_ hk_ hs_ => (hk_.2) hs_)) (fun k_ hk_ => hk_.1.2)); replace HO1016 := Aside0.mk (Kd.R_mono (ok' := fun k_ => some k_ ≠ (v991 : Value).ownBlock ∧ some k_ ≠ (.slice Ao34 t1000.length co34 : Value).ownBlock ∧ some k_ ≠ (v1004 : Value).ownBlock) (Kd.R_keptB ((Kd.R_apart' HO1016.out (Kd.R_typed HO_1000002.out) (by decide))) hkp (fun k_ hk_ hs_ => (hk_.2) hs_)) (fun k_ hk_ => ⟨hk_.1.1.1.1.2, hk_.1.1.1.2, hk_.1.1.2⟩)); replace HO_1000002 := Aside0.mk (Kd.R_reok rfl hy0 (fun k_ e_ => HO_1000002.out.1 k_ e_)); replace HB := Aside0.mk (hb); (try clear hb); (try clear hkp); (try clear hy0)) | ((with_reducible refine gate_callee (f := 28) rfl ?_); refine goesA (some 67) _ #[.slice Ao34 t1000.length co34, .int .i64 t1018] ?_ Try.func28; (with_reducible refine (laws_markIntS.calls kj15 (fun k_ => some k_ = (.slice Ao34 t1000.length co34 : Value).ownBlock) (.slice Ao34 t1000.length co34) t1000 t1018 t1020 t1021 w _ ?side1 ?side2 A50.out).mono ?_); (case side1 => repeat (first | (with_reducible first | exact HB.out | apply below_alloc | apply pw_below_drewN | apply below_drew1 | refine below_set ?_ GE980.out | refine below_set ?_ GE999.out) | exact HB.out)); (case side2 => exact Kd.R_tight rfl HO_9.out); rintro e w61 ⟨rfl, hy0, hb, hkp⟩; refine ⟨_, rfl, ?_⟩; replace HO_6 := Aside0.mk (Kd.R_mono (ok' := fun k_ => some k_ ≠ (.slice Ao34 t1000.length co34 : Value).ownBlock ∧ some k_ ≠ (v1004 : Value).ownBlock ∧ some k_ ≠ (.slice Ao57 t1014.length co57 : Value).ownBlock) (Kd.R_keptB (HO_6.out) hkp (fun k_ hk_ hs_ => (hk_.1) hs_)) (fun k_ hk_ => ⟨hk_.1.1, hk_.1.2.1, hk_.1.2.2⟩)); replace HO_10 := Aside0.mk (Kd.R_mono (ok' := fun k_ => some k_ ≠ (v991 : Value).ownBlock ∧ some k_ ≠ (.slice Ao34 t1000.length co34 : Value).ownBlock ∧ some k_ ≠ (.slice Ao57 t1014.length co57 : Value).ownBlock) (Kd.R_keptB (HO_10.out) hkp (fun k_ hk_ hs_ => (hk_.2.1) hs_)) (fun k_ hk_ => ⟨hk_.1.1, hk_.1.2.1, hk_.1.2.2⟩)); replace HO_1000002 := Aside0.mk (Kd.R_mono (ok' := fun k_ => some k_ ≠ (.slice Ao54 t1010.length co54 : Value).ownBlock) (Kd.R_keptB ((Kd.R_apart' HO_1000002.out (Kd.R_typed HO_9.out) (by decide))) hkp (fun k_ hk_ hs_ => (hk_.2) hs_)) (fun k_ hk_ => hk_.1.1.2)); replace BK980 := Aside0.mk (blk_kept (viaK BK980) hkp (fun hs_ => (fun e_ => (Kd.R_ne HO_9.out BK980.out (by decide)) e_) hs_)); replace BK999 := Aside0.mk (blk_kept (viaK BK999) hkp (fun hs_ => (fun e_ => (Kd.R_ne HO_9.out BK999.out (by decide)) e_) hs_)); replace HO1012 := Aside0.mk (Kd.R_mono (ok' := fun k_ => some k_ ≠ (.slice Ao31 t996.length co31 : Value).ownBlock) (Kd.R_keptB ((Kd.R_apart' HO1012.out (Kd.R_typed HO_9.out) (by decide))) hkp (fun k_ hk_ hs_ => (hk_.2) hs_)) (fun k_ hk_ => hk_.1.1)); replace HO_9 := Aside0.mk (Kd.R_reok rfl hy0 (fun k_ e_ => HO_9.out.1 k_ e_)); replace HO1016 := Aside0.mk (Kd.R_mono (ok' := fun k_ => some k_ ≠ (v991 : Value).ownBlock ∧ some k_ ≠ (.slice Ao34 t1000.length co34 : Value).ownBlock ∧ some k_ ≠ (v1004 : Value).ownBlock) (Kd.R_keptB (HO1016.out) hkp (fun k_ hk_ hs_ => (hk_.2.1) hs_)) (fun k_ hk_ => ⟨hk_.1.1, hk_.1.2.1, hk_.1.2.2⟩)); replace HB := Aside0.mk (hb); (try clear hb); (try clear hkp); (try clear hy0)))
        (try simp only [Act.put, q1, q2, q3])
        go_cut [80] (fun v80 wc => ∃ (kq : Nat) (x80_50 : Bool), v80 = .bool x80_50 ∧ Aside0 (laws_FnExactArrivalCounts.j1 kq l1 t990 t993 t1003 x80_50 a0_0 a0_1 l0_2 = some true) ∧ Aside0 (kq ≤ kj15) ∧ Aside0 (Kd.R (Kd.int .i64) 3 wc w.heap.size (fun k_ => some k_ ≠ (v1004 : Value).ownBlock) v991 t990) ∧ Aside0 (Kd.R (Kd.int .i64) 3 wc w.heap.size (fun k_ => some k_ ≠ (v991 : Value).ownBlock) v1004 t1003) ∧ Aside0 (Kd.R k89 89 wc w.heap.size (fun _ => True) (.slice Ao31 t996.length co31) t1019) ∧ Aside0 (wc.heap[gb980]? = some (.cells #[.int .i64 a0_0, .int .i64 a0_1, (.slice A0_2 l0_2.length c0_2)] 24 (0, 0))) ∧ Aside0 (wc.heap[gb999]? = some (.cells #[.int .i64 t994, .int .i64 t995, (.slice Ao31 t996.length co31)] 32 (0, 0))) ∧ Aside0 (Below w.heap.size w wc))
        case first =>
         have H := HC51.out
         clear HC51
         by_cases c62 : t1020 < 0
         ·rw [if_pos c62] at H
          have c62b0 := decide_eq_true c62
          clear c62
          (first | rw [c62b0] | (simp only [i64_w, i32_w]; rw [c62b0]) | skip)
          have H' := Aside0.mk H
          clear H
          go_wp2
          go_meet
          case rel => exact ⟨_, (true), (by first | rfl | (simp; done) | (simp [*]; done)), H', ⟨by have := HJ15.out; first | omega | exact Nat.le_refl _⟩, ⟨by (with_reducible repeat (first | apply Kd.R_alloc | apply Kd.R_drewN | apply Kd.R_drew)); exact Kd.R_mono HO_6.out (fun _ hk => hk.2.1)⟩, ⟨by (with_reducible repeat (first | apply Kd.R_alloc | apply Kd.R_drewN | apply Kd.R_drew)); exact Kd.R_mono HO_10.out (fun _ hk => hk.1)⟩, ⟨by (with_reducible repeat (first | apply Kd.R_alloc | apply Kd.R_drewN | apply Kd.R_drew)); exact Kd.R_mono HO_1000002.out (fun _ hk => trivial)⟩, ⟨viaK BK980⟩, ⟨viaK BK999⟩, ⟨viaB HB⟩⟩
         ·rw [if_neg c62] at H
          have c62b0 := decide_eq_false c62
          clear c62
          (first | rw [c62b0] | (simp only [i64_w, i32_w]; rw [c62b0]) | skip)
          replace H := Option.bind_eq_some_iff.mp H
          obtain ⟨t1022, A630, H⟩ := H
          replace H : (if t1022 = true then (laws_FnExactArrivalCounts.j1 kj15 l1 t990 t993 t1003 (t1006 != t993) a0_0 a0_1 l0_2) else (laws_FnExactArrivalCounts.j1 kj15 l1 t990 t993 t1003 true a0_0 a0_1 l0_2)) = some true := H
          have A63 := Aside0.mk A630
          clear A630
          by_cases c64 : t1022 = true
          ·subst c64
           have H1 : (laws_FnExactArrivalCounts.j1 kj15 l1 t990 t993 t1003 (t1006 != t993) a0_0 a0_1 l0_2) = some true := by rw [if_pos rfl] at H; exact H
           clear H
           have H := H1
           clear H1
           have H' := Aside0.mk H
           clear H
           obtain ⟨Ao65, co65, eo65⟩ := Kd.R_slice HO_10.out
           subst eo65
           obtain ⟨Ao66, co66, eo66⟩ := Kd.R_slice HO_6.out
           subst eo66
           go_wp2_with (first | (go_at_call 27; (with_reducible refine (laws_eqIntS.calls kj15 _ _ t1003 _ _ t990 true _ ?side1 ?side2 ?side3 ?side4 A63.out).mono ?_); (case side1 => repeat (first | exact (Kd.R_reads' HO_10.out).2.2 | (with_reducible refine Kd.C_alloc ?_ _) | (with_reducible refine Kd.C_drewN ?_ _) | (with_reducible refine Kd.C_drew ?_))); (case side2 => exact (Kd.R_reads' HO_10.out).2.1); (case side3 => repeat (first | exact (Kd.R_reads' HO_6.out).2.2 | (with_reducible refine Kd.C_alloc ?_ _) | (with_reducible refine Kd.C_drewN ?_ _) | (with_reducible refine Kd.C_drew ?_))); (case side4 => exact (Kd.R_reads' HO_6.out).2.1); rintro e w' ⟨rfl, ⟨nd, rfl⟩⟩))
           go_meet
           case rel => exact ⟨_, ((t1006 != t993)), (by first | rfl | (simp; done) | (simp [*]; done)), H', ⟨by have := HJ15.out; first | omega | exact Nat.le_refl _⟩, ⟨by (with_reducible repeat (first | apply Kd.R_alloc | apply Kd.R_drewN | apply Kd.R_drew)); exact Kd.R_mono HO_6.out (fun _ hk => hk.2.1)⟩, ⟨by (with_reducible repeat (first | apply Kd.R_alloc | apply Kd.R_drewN | apply Kd.R_drew)); exact Kd.R_mono HO_10.out (fun _ hk => hk.1)⟩, ⟨by (with_reducible repeat (first | apply Kd.R_alloc | apply Kd.R_drewN | apply Kd.R_drew)); exact Kd.R_mono HO_1000002.out (fun _ hk => trivial)⟩, ⟨viaK BK980⟩, ⟨viaK BK999⟩, ⟨viaB HB⟩⟩
          ·(rw [if_neg c64] at H; exact absurd H (laws_FnExactArrivalCounts.bad_j1 _ _ _ _ _ _ _ _))
        case rest =>
         clear HC51
         (try clear c42); (try clear c45); (try clear c48)
         (try clear hcz59_0); (try clear hcz59_1); (try clear hcz59_2); (try clear hfz59_0); (try clear hfz59_1); (try clear hfz59_2)
         obtain ⟨kq, x80_50, rfl, HA, HJ50, HO_6, HO_10, HO_1000002, BK980, BK999, HB⟩ := hcut
         have hl1000002_50 := (Kd.R_reads' HO_1000002.out).1
         rw [hl1000002_50] at HO_1000002
         (try simp only [hl1000002_50])
         (try simp only [hl1000002_50] at BK980)
         (try simp only [hl1000002_50] at BK999)
         (try simp only [hl1000002_50] at HO_6)
         (try simp only [hl1000002_50] at HO_10)
         cases kq with
         | zero => exact absurd HA.out (by simp [laws_FnExactArrivalCounts.j1])
         | succ kj50 =>
          have H := HA.out
          clear HA
          simp only [laws_FnExactArrivalCounts.j1] at H
          by_cases c69 : x80_50 = true
          ·(rw [if_pos c69] at H; exact absurd H (by decide))
          ·replace c69 := Bool.eq_false_iff.mpr c69
           subst c69
           have H1 : ((laws_markIntS.f kj50 t1003 1).bind fun bt1023 => ((laws_heldIntS.f kj50 bt1023.2 1).bind fun t1025 => (if t1025 < 0 then (some false) else (if t1025 = bt1023.1 then ((laws_toBoard.f kj50 a0_0 a0_1 l0_2).bind fun bt1026 => ((laws_toIntS.f kj50 l1).bind fun t1031 => ((impl_ArrivalCounts.f kj50 bt1026.1 bt1026.2.1 bt1026.2.2 t1031).bind fun bt1034 => ((laws_eqIntS.f kj50 bt1034.1 t990).bind fun t1038 => (if t1038 = true then (laws_FnExactArrivalCounts.j2 kj50 bt1023.2 bt1023.1 (bt1034.2 != t993)) else (laws_FnExactArrivalCounts.j2 kj50 bt1023.2 bt1023.1 true)))))) else (some false))))) = some true := by rw [if_neg (show ¬ (false = true) by decide)] at H; exact H
           clear H
           have H := H1
           clear H1
           replace H := Option.bind_eq_some_iff.mp H
           obtain ⟨⟨t1023, t1024⟩, A700, H⟩ := H
           replace H : ((laws_heldIntS.f kj50 t1024 1).bind fun t1025 => (if t1025 < 0 then (some false) else (if t1025 = t1023 then ((laws_toBoard.f kj50 a0_0 a0_1 l0_2).bind fun bt1026 => ((laws_toIntS.f kj50 l1).bind fun t1031 => ((impl_ArrivalCounts.f kj50 bt1026.1 bt1026.2.1 bt1026.2.2 t1031).bind fun bt1034 => ((laws_eqIntS.f kj50 bt1034.1 t990).bind fun t1038 => (if t1038 = true then (laws_FnExactArrivalCounts.j2 kj50 t1024 t1023 (bt1034.2 != t993)) else (laws_FnExactArrivalCounts.j2 kj50 t1024 t1023 true)))))) else (some false)))) = some true := H
           have A70 := Aside0.mk A700
           clear A700
           replace H := Option.bind_eq_some_iff.mp H
           obtain ⟨t1025, A710, H⟩ := H
           replace H : (if t1025 < 0 then (some false) else (if t1025 = t1023 then ((laws_toBoard.f kj50 a0_0 a0_1 l0_2).bind fun bt1026 => ((laws_toIntS.f kj50 l1).bind fun t1031 => ((impl_ArrivalCounts.f kj50 bt1026.1 bt1026.2.1 bt1026.2.2 t1031).bind fun bt1034 => ((laws_eqIntS.f kj50 bt1034.1 t990).bind fun t1038 => (if t1038 = true then (laws_FnExactArrivalCounts.j2 kj50 t1024 t1023 (bt1034.2 != t993)) else (laws_FnExactArrivalCounts.j2 kj50 t1024 t1023 true)))))) else (some false))) = some true := H
           have A71 := Aside0.mk A710
           clear A710
           by_cases c72 : t1025 < 0
           ·(rw [if_pos c72] at H; exact absurd H (by decide))
           ·rw [if_neg c72] at H
            have c72b0 := decide_eq_false c72
            (try simp only [hl1000002_50] at c72b0)
            clear c72
            by_cases c75 : t1025 = t1023
            ·rw [if_pos c75] at H
             have c75b0 := beq_iff_eq.mpr c75
             have c75b1 := bne_eq_false_iff_eq.mpr c75
             clear c75
             replace H := Option.bind_eq_some_iff.mp H
             obtain ⟨⟨t1026, t1027, t1028⟩, A760, H⟩ := H
             replace H : ((laws_toIntS.f kj50 l1).bind fun t1031 => ((impl_ArrivalCounts.f kj50 t1026 t1027 t1028 t1031).bind fun bt1034 => ((laws_eqIntS.f kj50 bt1034.1 t990).bind fun t1038 => (if t1038 = true then (laws_FnExactArrivalCounts.j2 kj50 t1024 t1023 (bt1034.2 != t993)) else (laws_FnExactArrivalCounts.j2 kj50 t1024 t1023 true))))) = some true := H
             have A76 := Aside0.mk A760
             clear A760
             replace H := Option.bind_eq_some_iff.mp H
             obtain ⟨t1031, A770, H⟩ := H
             replace H : ((impl_ArrivalCounts.f kj50 t1026 t1027 t1028 t1031).bind fun bt1034 => ((laws_eqIntS.f kj50 bt1034.1 t990).bind fun t1038 => (if t1038 = true then (laws_FnExactArrivalCounts.j2 kj50 t1024 t1023 (bt1034.2 != t993)) else (laws_FnExactArrivalCounts.j2 kj50 t1024 t1023 true)))) = some true := H
             have A77 := Aside0.mk A770
             clear A770
             replace H := Option.bind_eq_some_iff.mp H
             obtain ⟨⟨t1034, t1037⟩, A780, H⟩ := H
             replace H : ((laws_eqIntS.f kj50 t1034 t990).bind fun t1038 => (if t1038 = true then (laws_FnExactArrivalCounts.j2 kj50 t1024 t1023 (t1037 != t993)) else (laws_FnExactArrivalCounts.j2 kj50 t1024 t1023 true))) = some true := H
             have A78 := Aside0.mk A780
             clear A780
             have HC79 := Aside0.mk H
             clear H
             obtain ⟨Ao80, co80, eo80⟩ := Kd.R_slice HO_10.out
             subst eo80
             go_upto_region 31 with (first | ((with_reducible refine gate_callee (f := 28) rfl ?_); refine goesA (some 83) _ #[.slice Ao80 t1003.length co80, .int .i64 1] ?_ Try.func28; (with_reducible refine (laws_markIntS.calls kj50 (fun k_ => some k_ = (.slice Ao80 t1003.length co80 : Value).ownBlock) (.slice Ao80 t1003.length co80) t1003 1 t1023 t1024 w _ ?side1 ?side2 A70.out).mono ?_); (case side1 => repeat (first | (with_reducible first | exact HB.out | apply below_alloc | apply pw_below_drewN | apply below_drew1 | refine below_set ?_ GE980.out | refine below_set ?_ GE999.out) | exact HB.out)); (case side2 => exact Kd.R_tight rfl HO_10.out); rintro e w81 ⟨rfl, hy0, hb, hkp⟩; refine ⟨_, rfl, ?_⟩; replace HO_6 := Aside0.mk (Kd.R_mono (ok' := fun k_ => some k_ ≠ (.slice Ao80 t1003.length co80 : Value).ownBlock) (Kd.R_keptB (HO_6.out) hkp (fun k_ hk_ hs_ => (hk_) hs_)) (fun k_ hk_ => hk_.1)); replace HO_1000002 := Aside0.mk (Kd.R_mono (ok' := fun k_ => True) (Kd.R_keptB ((Kd.R_apart' HO_1000002.out (Kd.R_typed HO_10.out) (by decide))) hkp (fun k_ hk_ hs_ => (hk_.2) hs_)) (fun k_ hk_ => trivial)); replace BK980 := Aside0.mk (blk_kept (viaK BK980) hkp (fun hs_ => (fun e_ => (Kd.R_ne HO_10.out BK980.out (by decide)) e_) hs_)); replace BK999 := Aside0.mk (blk_kept (viaK BK999) hkp (fun hs_ => (fun e_ => (Kd.R_ne HO_10.out BK999.out (by decide)) e_) hs_)); replace HO_10 := Aside0.mk (Kd.R_reok rfl hy0 (fun k_ e_ => HO_10.out.1 k_ e_)); replace HB := Aside0.mk (hb); (try clear hb); (try clear hkp); (try clear hy0)) | ((with_reducible refine gate_callee (f := 29) rfl ?_); refine goesL_ (some 86) rfl rfl Try.func29 (by kernel_rfl) rfl #[.slice Ao80 t1024.length co80, .int .i64 1] rfl (by (try simp only [List.map_toArray, List.map_cons, List.map_nil]); first | done | (rw [show t1024.length = t1003.length from (Kd.R_reads' HO_10.out).1.symm] <;> rfl) | rfl | (simp only [List.length_drop, List.length_take]; rfl)) ?_; (with_reducible refine (laws_heldIntS.calls kj50 _ _ t1024 1 t1025 _ ?side1 ?side2 A71.out).mono ?_); (case side1 => repeat (first | exact (Kd.R_reads' HO_10.out).2.2 | (with_reducible refine Kd.C_alloc ?_ _) | (with_reducible refine Kd.C_drewN ?_ _) | (with_reducible refine Kd.C_drew ?_))); (case side2 => rw [show t1024.length = t1003.length from (Kd.R_reads' HO_10.out).1.symm]; exact (Kd.R_reads' HO_10.out).2.1); rintro e w' ⟨rfl, ⟨nd, rfl⟩⟩; refine ⟨_, rfl, ?_⟩; have hnb82 := NB980_999.out; have hnc82 := NB999_980.out; have hcz83_0 := bc0 BK980; have hcz83_1 := bc1 BK980; have hcz83_2 := bc2 BK980; have hfz83_0 := blk_frozen BK980.out 0; have hfz83_1 := blk_frozen BK980.out 1; have hfz83_2 := blk_frozen BK980.out 2) | ((with_reducible refine gate_callee (f := 15) rfl ?_); refine goesA (some 94) _ #[.agg #[.int .i64 a0_0, .int .i64 a0_1, .slice A0_2 l0_2.length c0_2]] ?_ Try.func15; (with_reducible refine (laws_toBoard.calls kj50 a0_0 a0_1 _ _ l0_2 t1026 t1027 t1028 _ ?side1 ?side2 A76.out).mono ?_); (case side1 => repeat (first | exact (Kd.C_below HR0_2.out (viaB HB)) | (with_reducible refine Kd.C_alloc ?_ _) | (with_reducible refine Kd.C_drewN ?_ _) | (with_reducible refine Kd.C_drew ?_))); (case side2 => exact HC0_2.out); rintro e w84 ⟨v1029, rfl, ho0, hb⟩; refine ⟨_, rfl, ?_⟩; have HO1030 := Aside0.mk (Kd.R_lower (Kd.R_new' ho0 (Kd.R_lt (viaR HO_1000002))) (below_size (viaB HB))); replace HO_6 := Aside0.mk (Kd.R_below (viaR HO_6) hb); replace HO_10 := Aside0.mk (Kd.R_below (viaR HO_10) hb); replace HO_1000002 := Aside0.mk (Kd.R_elder' (viaR HO_1000002) (Kd.R_base ho0) hb); replace BK980 := kB BK980 hb; replace BK999 := kB BK999 hb; replace HB := bB HB hb; (try clear hb); (try clear hb2); (try clear hk); (try clear hi); (try clear ho0)) | ((with_reducible refine gate_callee (f := 33) rfl ?_); refine goesA (some 96) _ #[.slice A1 l1.length c1] ?_ Try.func33; (with_reducible refine (laws_toIntS.calls kj50 _ _ l1 t1031 _ ?side1 ?side2 A77.out).mono ?_); (case side1 => repeat (first | exact (Kd.C_below HR1.out HB.out) | (with_reducible refine Kd.C_alloc ?_ _) | (with_reducible refine Kd.C_drewN ?_ _) | (with_reducible refine Kd.C_drew ?_))); (case side2 => exact HC1.out); rintro e w85 ⟨v1032, rfl, ho0, hb⟩; refine ⟨_, rfl, ?_⟩; have HO1033 := Aside0.mk (Kd.R_lower (Kd.R_new' (Kd.R_new' ho0 (Kd.R_lt (viaR HO_6))) (Kd.R_lt (viaR HO_10))) (below_size (viaB HB))); replace HO_6 := Aside0.mk (Kd.R_elder' (viaR HO_6) (Kd.R_base ho0) hb); replace HO_10 := Aside0.mk (Kd.R_elder' (viaR HO_10) (Kd.R_base ho0) hb); replace HO_1000002 := Aside0.mk (Kd.R_below (viaR HO_1000002) hb); replace HO1030 := Aside0.mk (Kd.R_below (viaR HO1030) hb); replace BK980 := kB BK980 hb; replace BK999 := kB BK999 hb; replace HB := bB HB hb; (try clear hb); (try clear hb2); (try clear hk); (try clear hi); (try clear ho0); obtain ⟨Ao86, co86, eo86⟩ := Kd.R_slice HO1030.out; subst eo86; obtain ⟨Ao87, co87, eo87⟩ := Kd.R_slice HO1033.out; subst eo87) | ((with_reducible refine gate_callee (f := 43) rfl ?_); refine goesA (some 97) _ #[.agg #[.int .i64 t1026, .int .i64 t1027, .slice Ao86 t1028.length co86], .slice Ao87 t1031.length co87] ?_ Try.func43; (with_reducible refine (impl_ArrivalCounts.calls kj50 t1026 t1027 _ _ t1028 _ _ t1031 t1034 t1037 _ ?side1 ?side2 ?side3 ?side4 A78.out).mono ?_); (case side1 => repeat (first | exact (Kd.R_reads' HO1030.out).2.2 | (with_reducible refine Kd.C_alloc ?_ _) | (with_reducible refine Kd.C_drewN ?_ _) | (with_reducible refine Kd.C_drew ?_))); (case side2 => exact (Kd.R_reads' HO1030.out).2.1); (case side3 => repeat (first | exact (Kd.R_reads' HO1033.out).2.2 | (with_reducible refine Kd.C_alloc ?_ _) | (with_reducible refine Kd.C_drewN ?_ _) | (with_reducible refine Kd.C_drew ?_))); (case side4 => exact (Kd.R_reads' HO1033.out).2.1); rintro e w88 ⟨v1035, rfl, ho0, hb⟩; refine ⟨_, rfl, ?_⟩; have HO1036 := Aside0.mk (Kd.R_lower (Kd.R_new' (Kd.R_new' (Kd.R_new' ho0 (Kd.R_lt (viaR HO_6))) (Kd.R_lt (viaR HO_10))) (Kd.R_lt (viaR HO1033))) (below_size (viaB HB))); replace HO_6 := Aside0.mk (Kd.R_elder' (viaR HO_6) (Kd.R_base ho0) hb); replace HO_10 := Aside0.mk (Kd.R_elder' (viaR HO_10) (Kd.R_base ho0) hb); replace HO_1000002 := Aside0.mk (Kd.R_below (viaR HO_1000002) hb); replace HO1030 := Aside0.mk (Kd.R_below (viaR HO1030) hb); replace HO1033 := Aside0.mk (Kd.R_elder' (viaR HO1033) (Kd.R_base ho0) hb); replace BK980 := kB BK980 hb; replace BK999 := kB BK999 hb; replace HB := bB HB hb; (try clear hb); (try clear hb2); (try clear hk); (try clear hi); (try clear ho0)))
             (try simp only [Act.put, q1, q2, q3])
             go_cut [108] (fun v108 wc => ∃ (kq : Nat) (x108_78 : Bool), v108 = .bool x108_78 ∧ Aside0 (laws_FnExactArrivalCounts.j2 kq t1024 t1023 x108_78 = some true) ∧ Aside0 (kq ≤ kj50) ∧ Aside0 (Kd.R (Kd.int .i64) 3 wc w.heap.size (fun _ => True) (.slice Ao80 t1003.length co80) t1024) ∧ Aside0 (Kd.R k89 89 wc w.heap.size (fun _ => True) (.slice Ao31 t1019.length co31) t1019) ∧ Aside0 (wc.heap[gb980]? = some (.cells #[.int .i64 a0_0, .int .i64 a0_1, (.slice A0_2 l0_2.length c0_2)] 24 (0, 0))) ∧ Aside0 (wc.heap[gb999]? = some (.cells #[.int .i64 t994, .int .i64 t995, (.slice Ao31 t1019.length co31)] 32 (0, 0))) ∧ Aside0 (Below w.heap.size w wc))
             case first =>
              have H := HC79.out
              clear HC79
              replace H := Option.bind_eq_some_iff.mp H
              obtain ⟨t1038, A890, H⟩ := H
              replace H : (if t1038 = true then (laws_FnExactArrivalCounts.j2 kj50 t1024 t1023 (t1037 != t993)) else (laws_FnExactArrivalCounts.j2 kj50 t1024 t1023 true)) = some true := H
              have A89 := Aside0.mk A890
              clear A890
              by_cases c90 : t1038 = true
              ·subst c90
               have H1 : (laws_FnExactArrivalCounts.j2 kj50 t1024 t1023 (t1037 != t993)) = some true := by rw [if_pos rfl] at H; exact H
               clear H
               have H := H1
               clear H1
               have H' := Aside0.mk H
               clear H
               obtain ⟨Ao91, co91, eo91⟩ := Kd.R_slice HO1036.out
               subst eo91
               obtain ⟨Ao92, co92, eo92⟩ := Kd.R_slice HO_6.out
               subst eo92
               go_wp2_with (first | ((with_reducible refine gate_callee (f := 27) rfl ?_); refine goesA (some 102) _ #[.slice Ao91 t1034.length co91, .slice Ao92 t990.length co92] ?_ Try.func27; (with_reducible refine (laws_eqIntS.calls kj50 _ _ t1034 _ _ t990 true _ ?side1 ?side2 ?side3 ?side4 A89.out).mono ?_); (case side1 => repeat (first | exact (Kd.R_reads' HO1036.out).2.2 | (with_reducible refine Kd.C_alloc ?_ _) | (with_reducible refine Kd.C_drewN ?_ _) | (with_reducible refine Kd.C_drew ?_))); (case side2 => exact (Kd.R_reads' HO1036.out).2.1); (case side3 => repeat (first | exact (Kd.R_reads' HO_6.out).2.2 | (with_reducible refine Kd.C_alloc ?_ _) | (with_reducible refine Kd.C_drewN ?_ _) | (with_reducible refine Kd.C_drew ?_))); (case side4 => exact (Kd.R_reads' HO_6.out).2.1); rintro e w' ⟨rfl, ⟨nd, rfl⟩⟩; refine ⟨_, rfl, ?_⟩))
               go_meet
               case rel => exact ⟨_, ((t1037 != t993)), (by first | rfl | (simp; done) | (simp [*]; done)), H', ⟨by have := HJ15.out; have := HJ50.out; first | omega | exact Nat.le_refl _⟩, ⟨by (try simp only [hl1000002_50]); (with_reducible repeat (first | apply Kd.R_alloc | apply Kd.R_drewN | apply Kd.R_drew)); exact Kd.R_mono HO_10.out (fun _ hk => trivial)⟩, ⟨by (try simp only [hl1000002_50]); (with_reducible repeat (first | apply Kd.R_alloc | apply Kd.R_drewN | apply Kd.R_drew)); exact Kd.R_mono HO_1000002.out (fun _ hk => trivial)⟩, ⟨by (try simp only [hl1000002_50]); (with_reducible repeat (first | refine blk_drewN ?_ _ | refine blk_drew ?_ | refine blk_alloc ?_ _)); exact BK980.out⟩, ⟨by (try simp only [hl1000002_50]); (with_reducible repeat (first | refine blk_drewN ?_ _ | refine blk_drew ?_ | refine blk_alloc ?_ _)); exact BK999.out⟩, ⟨viaB HB⟩⟩
              ·(rw [if_neg c90] at H; exact absurd H (laws_FnExactArrivalCounts.bad_j2 _ _ _))
             case rest =>
              clear HC79
              (try clear c69); (try clear c72b0); (try clear c75b0); (try clear c75b1)
              (try clear hcz83_0); (try clear hcz83_1); (try clear hcz83_2); (try clear hfz83_0); (try clear hfz83_1); (try clear hfz83_2)
              obtain ⟨kq, x108_78, rfl, HA, HJ78, HO_10, HO_1000002, BK980, BK999, HB⟩ := hcut
              have hl10_78 := (Kd.R_reads' HO_10.out).1
              rw [hl10_78] at HO_10
              (try simp only [hl10_78])
              (try simp only [hl10_78] at BK980)
              (try simp only [hl10_78] at BK999)
              (try simp only [hl10_78] at HO_1000002)
              cases kq with
              | zero => exact absurd HA.out (by simp [laws_FnExactArrivalCounts.j2])
              | succ kj78 =>
               have H := HA.out
               clear HA
               simp only [laws_FnExactArrivalCounts.j2] at H
               by_cases c95 : x108_78 = true
               ·(rw [if_pos c95] at H; exact absurd H (by decide))
               ·replace c95 := Bool.eq_false_iff.mpr c95
                subst c95
                have H1 : ((laws_heldIntS.f kj78 t1024 1).bind fun t1039 => (if t1039 < 0 then (some false) else (if t1039 = t1023 then (some true) else (some false)))) = some true := by rw [if_neg (show ¬ (false = true) by decide)] at H; exact H
                clear H
                have H := H1
                clear H1
                replace H := Option.bind_eq_some_iff.mp H
                obtain ⟨t1039, A960, H⟩ := H
                replace H : (if t1039 < 0 then (some false) else (if t1039 = t1023 then (some true) else (some false))) = some true := H
                have A96 := Aside0.mk A960
                clear A960
                by_cases c97 : t1039 < 0
                ·(rw [if_pos c97] at H; exact absurd H (by decide))
                ·rw [if_neg c97] at H
                 have c97b0 := decide_eq_false c97
                 (try simp only [hl1000002_50] at c97b0)
                 (try simp only [hl10_78] at c97b0)
                 clear c97
                 by_cases c98 : t1039 = t1023
                 ·rw [if_pos c98] at H
                  have c98b0 := beq_iff_eq.mpr c98
                  have c98b1 := bne_eq_false_iff_eq.mpr c98
                  clear c98
                  clear H
                  go_wp2_with (first | ((with_reducible refine gate_callee (f := 29) rfl ?_); refine goesA (some 111) _ #[.slice Ao80 t1024.length co80, .int .i64 1] ?_ Try.func29; (with_reducible refine (laws_heldIntS.calls kj78 _ _ t1024 1 t1039 _ ?side1 ?side2 A96.out).mono ?_); (case side1 => repeat (first | exact (Kd.R_reads' HO_10.out).2.2 | (with_reducible refine Kd.C_alloc ?_ _) | (with_reducible refine Kd.C_drewN ?_ _) | (with_reducible refine Kd.C_drew ?_))); (case side2 => exact (Kd.R_reads' HO_10.out).2.1); rintro e w' ⟨rfl, ⟨nd, rfl⟩⟩; refine ⟨_, rfl, ?_⟩))
                  go_ret
                  exact ⟨by first | rfl | (simp [errW_none, errW_some] <;> rfl) | (simp [*, errW_none, errW_some] <;> rfl), viaB HB⟩
                 ·(rw [if_neg c98] at H; exact absurd H (by decide))
            ·(rw [if_neg c75] at H; exact absurd H (by decide))
       ·(rw [if_neg c48] at H; exact absurd H (by decide))
      ·(rw [if_neg c45] at H; exact absurd H (by decide))

end Go.Proofs.Ytoklfgjemfojgaa.PAll
