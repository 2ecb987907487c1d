/- This text began as one that print.sh wrote for this seat (of the functions named below); it is this session's own: turned where Lean did not take the printed proof, where it was too long for a claim, or only in what it imports. -/
import Derived.Test.YtoklfgjemfojgaaG0
import Derived.Test.YtoklfgjemfojgaaG3
import Derived.Test.YtoklfgjemfojgaaG11
import Derived.Test.YtoklfgjemfojgaaG19
namespace Go.Proofs.Ytoklfgjemfojgaa.PAll
open Go.RowKit Go.Proofs.YtoklfgjemfojgaaW.PrintWords Go.Proofs.YtoklfgjemfojgaaW.PrintLast Go.Proofs.YtoklfgjemfojgaaW.PrintMore
attribute [local go_sem] max2_int min2_int max_two min_two max_three min_three max_four min_four   -- for this text's walks alone
set_option linter.unusedVariables false
set_option linter.unusedSimpArgs false

/-! ### laws_FnExactSameFalls: function 4 -/
def laws_FnExactSameFalls.j0 : Nat → Bool → Int → Int → List (S91) → Int → Int → List (S91) → Int → Int → List (S89) → Int → Int → List (S89) → Option (Bool)
 | 0, _, _, _, _, _, _, _, _, _, _, _, _, _ => none
 | k + 1, x47, x390000, x390001, x390002, x391000, x391001, x391002, x411000, x411001, x411002, x417000, x417001, x417002 => if x47 = true then (some false) else ((laws_toBoard.f k x390000 x390001 x390002).bind fun bt419 => ((laws_eqBoard.f k x411000 x411001 x411002 bt419.1 bt419.2.1 bt419.2.2).bind fun t424 => (if t424 = true then ((laws_toBoard.f k x391000 x391001 x391002).bind fun bt425 => ((laws_eqBoard.f k x417000 x417001 x417002 bt425.1 bt425.2.1 bt425.2.2).bind fun t430 => (if t430 = true then (some true) else (some false)))) else (some false))))
def laws_FnExactSameFalls.f (k : Nat) (a0_0 : Int) (a0_1 : Int) (l0_2 : List (S91)) (a1_0 : Int) (a1_1 : Int) (l1_2 : List (S91)) : Option (Bool) := (laws_szBoard.f a0_0 a0_1 l0_2 1048576).bind fun t391 => (if t391 < 0 then (some true) else ((laws_szBoard.f a1_0 a1_1 l1_2 t391).bind fun t392 => (if t392 < 0 then (some true) else ((laws_toBoard.f k a0_0 a0_1 l0_2).bind fun bt393 => ((laws_toBoard.f k a1_0 a1_1 l1_2).bind fun bt398 => ((spec_SameFalls.f k bt393.1 bt393.2.1 bt393.2.2 bt398.1 bt398.2.1 bt398.2.2).bind fun bt403 => ((laws_toBoard.f k a0_0 a0_1 l0_2).bind fun bt405 => ((laws_toBoard.f k a1_0 a1_1 l1_2).bind fun bt411 => ((impl_SameFalls.f k bt405.1 bt405.2.1 bt405.2.2 bt411.1 bt411.2.1 bt411.2.2).bind fun bt417 => (if (bt417.1 != bt403.1) = true then (laws_FnExactSameFalls.j0 k true a0_0 a0_1 l0_2 a1_0 a1_1 l1_2 bt405.1 bt405.2.1 bt405.2.2 bt411.1 bt411.2.1 bt411.2.2) else (laws_FnExactSameFalls.j0 k (bt417.2 != bt403.2) a0_0 a0_1 l0_2 a1_0 a1_1 l1_2 bt405.1 bt405.2.1 bt405.2.2 bt411.1 bt411.2.1 bt411.2.2)))))))))))
theorem laws_FnExactSameFalls.mono_l : ∀ k, (∀ y0 y1 y2 y3 y4 y5 y6 y7 y8 y9 y10 y11 y12, LeO (laws_FnExactSameFalls.j0 k y0 y1 y2 y3 y4 y5 y6 y7 y8 y9 y10 y11 y12) (laws_FnExactSameFalls.j0 (k + 1) y0 y1 y2 y3 y4 y5 y6 y7 y8 y9 y10 y11 y12))
 | 0 => fun _ _ _ _ _ _ _ _ _ _ _ _ _ r h => by simp [laws_FnExactSameFalls.j0] at h
 | k + 1 => by
  have ih0 := laws_FnExactSameFalls.mono_l k
  ·intro y0 y1 y2 y3 y4 y5 y6 y7 y8 y9 y10 y11 y12
   unfold laws_FnExactSameFalls.j0
   repeat' first | (with_reducible first | exact ih0 _ _ _ _ _ _ _ _ _ _ _ _ _ | exact impl_SameFalls.mono _ _ _ _ _ _ _ | exact laws_eqBoard.mono _ _ _ _ _ _ _ | exact laws_toBoard.mono _ _ _ _ | exact spec_SameFalls.mono _ _ _ _ _ _ _ | exact LeO.refl _ | exact LeO.none _ | refine LeO.ite ?_ ?_ | refine LeO.bind ?_ (fun _ => ?_)) | exact ih0 _ _ _ _ _ _ _ _ _ _ _ _ _ | exact impl_SameFalls.mono _ _ _ _ _ _ _ | exact laws_eqBoard.mono _ _ _ _ _ _ _ | exact laws_toBoard.mono _ _ _ _ | exact spec_SameFalls.mono _ _ _ _ _ _ _ | exact LeO.none _ | refine LeO.ite ?_ ?_ | refine LeO.bind ?_ (fun _ => ?_)
theorem laws_FnExactSameFalls.mono : ∀ a0 a1 a2 a3 a4 a5 k, LeO (laws_FnExactSameFalls.f k a0 a1 a2 a3 a4 a5) (laws_FnExactSameFalls.f (k + 1) a0 a1 a2 a3 a4 a5) := by
 intro a0 a1 a2 a3 a4 a5 k
 have ih0 := laws_FnExactSameFalls.mono_l k
 unfold laws_FnExactSameFalls.f
 repeat' first | (with_reducible first | exact ih0 _ _ _ _ _ _ _ _ _ _ _ _ _ | exact impl_SameFalls.mono _ _ _ _ _ _ _ | exact laws_eqBoard.mono _ _ _ _ _ _ _ | exact laws_toBoard.mono _ _ _ _ | exact spec_SameFalls.mono _ _ _ _ _ _ _ | exact LeO.refl _ | exact LeO.none _ | refine LeO.ite ?_ ?_ | refine LeO.bind ?_ (fun _ => ?_)) | exact ih0 _ _ _ _ _ _ _ _ _ _ _ _ _ | exact impl_SameFalls.mono _ _ _ _ _ _ _ | exact laws_eqBoard.mono _ _ _ _ _ _ _ | exact laws_toBoard.mono _ _ _ _ | exact spec_SameFalls.mono _ _ _ _ _ _ _ | exact LeO.none _ | refine LeO.ite ?_ ?_ | refine LeO.bind ?_ (fun _ => ?_)
def laws_FnExactSameFalls.T8 : Bool × List (List Nat × List Nat) := (true, [([], []), ([0], [0]), ([], []), ([2, 1], [2]), ([1, 3, 3], [1, 3]), ([4], [4]), ([5], [5]), ([5], [5]), ([6, 4, 0, 1, 2, 3, 4, 5, 6], [6]), ([7, 8, 0, 1, 2, 3, 4, 5, 6, 7, 8], [7])])
def laws_FnExactSameFalls.B8 : List Nat := [0, 1, 0, 7, 15, 31, 63, 63, 127, 511]
theorem laws_FnExactSameFalls.tab8 : rtab .any (opsOf Try.f4 8) = laws_FnExactSameFalls.T8 := by kernel_rfl
theorem laws_FnExactSameFalls.bits8 : waitsOk laws_FnExactSameFalls.T8.2 laws_FnExactSameFalls.B8 = true := by kernel_rfl
theorem laws_FnExactSameFalls.bad_j0 (k : Nat) (y1 : Int) (y2 : Int) (y3 : List (S91)) (y4 : Int) (y5 : Int) (y6 : List (S91)) (y7 : Int) (y8 : Int) (y9 : List (S89)) (y10 : Int) (y11 : Int) (y12 : List (S89)) : ¬ laws_FnExactSameFalls.j0 k true y1 y2 y3 y4 y5 y6 y7 y8 y9 y10 y11 y12 = some true := by
 cases k <;> simp [laws_FnExactSameFalls.j0]
set_option maxHeartbeats 8000000 in
set_option maxRecDepth 100000 in
theorem laws_FnExactSameFalls.calls (k : Nat) (a0_0 : Int) (a0_1 : Int) (A0_2 : Option Addr) (c0_2 : Nat) (l0_2 : List (S91)) (a1_0 : Int) (a1_1 : Int) (A1_2 : Option Addr) (c1_2 : Nat) (l1_2 : List (S91)) (w : World) (hr0_2 : Kd.C k91 w A0_2 l0_2.length l0_2) (hc0_2 : l0_2.length ≤ c0_2) (hr1_2 : Kd.C k91 w A1_2 l1_2.length l1_2) (hc1_2 : l1_2.length ≤ c1_2) (h : laws_FnExactSameFalls.f k a0_0 a0_1 l0_2 a1_0 a1_1 l1_2 = some true) :
  Calls Try.prog 4 #[.agg #[.int .i64 a0_0, .int .i64 a0_1, .slice A0_2 l0_2.length c0_2], .agg #[.int .i64 a1_0, .int .i64 a1_1, .slice A1_2 l1_2.length c1_2]] w fun e w' => e = .returned (.bool true) ∧ Below w.heap.size w w' := by
 have hu24 := Try.underlying24
 have hu32 := Try.underlying32
 have HR0_2 := Aside0.mk hr0_2
 have HC0_2 := Aside0.mk hc0_2
 clear hr0_2 hc0_2
 have HR1_2 := Aside0.mk hr1_2
 have HC1_2 := Aside0.mk hc1_2
 clear hr1_2 hc1_2
 have HB := Aside0.mk (Below.refl w.heap.size w)
 have H : ((laws_szBoard.f a0_0 a0_1 l0_2 1048576).bind fun t391 => (if t391 < 0 then (some true) else ((laws_szBoard.f a1_0 a1_1 l1_2 t391).bind fun t392 => (if t392 < 0 then (some true) else ((laws_toBoard.f k a0_0 a0_1 l0_2).bind fun bt393 => ((laws_toBoard.f k a1_0 a1_1 l1_2).bind fun bt398 => ((spec_SameFalls.f k bt393.1 bt393.2.1 bt393.2.2 bt398.1 bt398.2.1 bt398.2.2).bind fun bt403 => ((laws_toBoard.f k a0_0 a0_1 l0_2).bind fun bt405 => ((laws_toBoard.f k a1_0 a1_1 l1_2).bind fun bt411 => ((impl_SameFalls.f k bt405.1 bt405.2.1 bt405.2.2 bt411.1 bt411.2.1 bt411.2.2).bind fun bt417 => (if (bt417.1 != bt403.1) = true then (laws_FnExactSameFalls.j0 k true a0_0 a0_1 l0_2 a1_0 a1_1 l1_2 bt405.1 bt405.2.1 bt405.2.2 bt411.1 bt411.2.1 bt411.2.2) else (laws_FnExactSameFalls.j0 k (bt417.2 != bt403.2) a0_0 a0_1 l0_2 a1_0 a1_1 l1_2 bt405.1 bt405.2.1 bt405.2.2 bt411.1 bt411.2.1 bt411.2.2)))))))))))) = some true := h
 clear h
 replace H := Option.bind_eq_some_iff.mp H
 obtain ⟨t391, A30, H⟩ := H
 replace H : (if t391 < 0 then (some true) else ((laws_szBoard.f a1_0 a1_1 l1_2 t391).bind fun t392 => (if t392 < 0 then (some true) else ((laws_toBoard.f k a0_0 a0_1 l0_2).bind fun bt393 => ((laws_toBoard.f k a1_0 a1_1 l1_2).bind fun bt398 => ((spec_SameFalls.f k bt393.1 bt393.2.1 bt393.2.2 bt398.1 bt398.2.1 bt398.2.2).bind fun bt403 => ((laws_toBoard.f k a0_0 a0_1 l0_2).bind fun bt405 => ((laws_toBoard.f k a1_0 a1_1 l1_2).bind fun bt411 => ((impl_SameFalls.f k bt405.1 bt405.2.1 bt405.2.2 bt411.1 bt411.2.1 bt411.2.2).bind fun bt417 => (if (bt417.1 != bt403.1) = true then (laws_FnExactSameFalls.j0 k true a0_0 a0_1 l0_2 a1_0 a1_1 l1_2 bt405.1 bt405.2.1 bt405.2.2 bt411.1 bt411.2.1 bt411.2.2) else (laws_FnExactSameFalls.j0 k (bt417.2 != bt403.2) a0_0 a0_1 l0_2 a1_0 a1_1 l1_2 bt405.1 bt405.2.1 bt405.2.2 bt411.1 bt411.2.1 bt411.2.2))))))))))) = some true := H
 have A3 := Aside0.mk A30
 clear A30
 by_cases c4 : t391 < 0
 ·rw [if_pos c4] at H
  have c4b0 := decide_eq_true c4
  clear c4
  clear H
  go_enter Try.func4, Try.ntmps4
  go_wp2_with (first | ((with_reducible refine gate_dst (N := 2) rfl ?_); refine box_ev (N := 2) (cs := #[.int .i64 a0_0, .int .i64 a0_1, .slice A0_2 l0_2.length c0_2]) (t := 24) ?_; intro gb389 hg w5 hbox hb; have BK389 := Aside0.mk (hbox); have GW389 := gW (w := w) HB hg; have GE389 := gW (w := w) HB hg; replace HB := bB HB hb; clear hb hbox hg) | ((with_reducible refine gate_dst (N := 3) rfl ?_); refine box_ev (N := 3) (cs := #[.int .i64 a1_0, .int .i64 a1_1, .slice A1_2 l1_2.length c1_2]) (t := 24) ?_; intro gb390 hg w6 hbox hb; have BK390 := Aside0.mk (hbox); have GW390 := gW (w := w) HB hg; have GE390 := gW (w := w) HB hg; have NB389_390 := neL BK389 hg; have NB390_389 := neG BK389 hg; replace BK389 := kB BK389 hb; replace HB := bB HB hb; clear hb hbox hg; have hnb7 := NB389_390.out; have hnc7 := NB390_389.out; have hcz8_0 := bc0 BK389; have hcz8_1 := bc1 BK389; have hcz8_2 := bc2 BK389; have hfz8_0 := blk_frozen BK389.out 0; have hfz8_1 := blk_frozen BK389.out 1; have hfz8_2 := blk_frozen BK389.out 2) | ((with_reducible refine gate_callee (f := 13) rfl ?_); refine goesA (some 14) _ #[.agg #[.int .i64 a0_0, .int .i64 a0_1, .slice A0_2 l0_2.length c0_2], .int .i64 1048576] ?_ Try.func13; (with_reducible refine (laws_szBoard.calls a0_0 a0_1 _ _ l0_2 1048576 t391 _ ?side1 ?side2 A3.out).mono ?_); (case side1 => repeat (first | exact (Kd.C_below HR0_2.out HB.out) | (with_reducible refine Kd.C_alloc ?_ _) | (with_reducible refine Kd.C_drewN ?_ _) | (with_reducible refine Kd.C_drew ?_))); (case side2 => exact HC0_2.out); rintro e w9 ⟨rfl, hb⟩; refine ⟨_, rfl, ?_⟩; replace BK389 := kB BK389 hb; replace BK390 := kB BK390 hb; replace HB := bB HB hb; (try clear hb); (try clear hb2); (try clear hk); (try clear hi)))
  go_ret
  exact ⟨by first | rfl | (simp [errW_none, errW_some] <;> rfl) | (simp [*, errW_none, errW_some] <;> rfl), viaB HB⟩
 ·rw [if_neg c4] at H
  have c4b0 := decide_eq_false c4
  clear c4
  replace H := Option.bind_eq_some_iff.mp H
  obtain ⟨t392, A100, H⟩ := H
  replace H : (if t392 < 0 then (some true) else ((laws_toBoard.f k a0_0 a0_1 l0_2).bind fun bt393 => ((laws_toBoard.f k a1_0 a1_1 l1_2).bind fun bt398 => ((spec_SameFalls.f k bt393.1 bt393.2.1 bt393.2.2 bt398.1 bt398.2.1 bt398.2.2).bind fun bt403 => ((laws_toBoard.f k a0_0 a0_1 l0_2).bind fun bt405 => ((laws_toBoard.f k a1_0 a1_1 l1_2).bind fun bt411 => ((impl_SameFalls.f k bt405.1 bt405.2.1 bt405.2.2 bt411.1 bt411.2.1 bt411.2.2).bind fun bt417 => (if (bt417.1 != bt403.1) = true then (laws_FnExactSameFalls.j0 k true a0_0 a0_1 l0_2 a1_0 a1_1 l1_2 bt405.1 bt405.2.1 bt405.2.2 bt411.1 bt411.2.1 bt411.2.2) else (laws_FnExactSameFalls.j0 k (bt417.2 != bt403.2) a0_0 a0_1 l0_2 a1_0 a1_1 l1_2 bt405.1 bt405.2.1 bt405.2.2 bt411.1 bt411.2.1 bt411.2.2))))))))) = some true := H
  have A10 := Aside0.mk A100
  clear A100
  by_cases c11 : t392 < 0
  ·rw [if_pos c11] at H
   have c11b0 := decide_eq_true c11
   clear c11
   clear H
   go_enter Try.func4, Try.ntmps4
   go_wp2_with (first | ((with_reducible refine gate_dst (N := 2) rfl ?_); refine box_ev (N := 2) (cs := #[.int .i64 a0_0, .int .i64 a0_1, .slice A0_2 l0_2.length c0_2]) (t := 24) ?_; intro gb389 hg w12 hbox hb; have BK389 := Aside0.mk (hbox); have GW389 := gW (w := w) HB hg; have GE389 := gW (w := w) HB hg; replace HB := bB HB hb; clear hb hbox hg) | ((with_reducible refine gate_dst (N := 3) rfl ?_); refine box_ev (N := 3) (cs := #[.int .i64 a1_0, .int .i64 a1_1, .slice A1_2 l1_2.length c1_2]) (t := 24) ?_; intro gb390 hg w13 hbox hb; have BK390 := Aside0.mk (hbox); have GW390 := gW (w := w) HB hg; have GE390 := gW (w := w) HB hg; have NB389_390 := neL BK389 hg; have NB390_389 := neG BK389 hg; replace BK389 := kB BK389 hb; replace HB := bB HB hb; clear hb hbox hg; have hnb14 := NB389_390.out; have hnc14 := NB390_389.out; have hcz15_0 := bc0 BK389; have hcz15_1 := bc1 BK389; have hcz15_2 := bc2 BK389; have hfz15_0 := blk_frozen BK389.out 0; have hfz15_1 := blk_frozen BK389.out 1; have hfz15_2 := blk_frozen BK389.out 2) | ((with_reducible refine gate_callee (f := 13) rfl ?_); refine goesA (some 14) _ #[.agg #[.int .i64 a0_0, .int .i64 a0_1, .slice A0_2 l0_2.length c0_2], .int .i64 1048576] ?_ Try.func13; (with_reducible refine (laws_szBoard.calls a0_0 a0_1 _ _ l0_2 1048576 t391 _ ?side1 ?side2 A3.out).mono ?_); (case side1 => repeat (first | exact (Kd.C_below HR0_2.out HB.out) | (with_reducible refine Kd.C_alloc ?_ _) | (with_reducible refine Kd.C_drewN ?_ _) | (with_reducible refine Kd.C_drew ?_))); (case side2 => exact HC0_2.out); rintro e w16 ⟨rfl, hb⟩; refine ⟨_, rfl, ?_⟩; replace BK389 := kB BK389 hb; replace BK390 := kB BK390 hb; replace HB := bB HB hb; (try clear hb); (try clear hb2); (try clear hk); (try clear hi); have hcz17_0 := bc0 BK390; have hcz17_1 := bc1 BK390; have hcz17_2 := bc2 BK390; have hfz17_0 := blk_frozen BK390.out 0; have hfz17_1 := blk_frozen BK390.out 1; have hfz17_2 := blk_frozen BK390.out 2) | ((with_reducible refine gate_callee (f := 13) rfl ?_); refine goesA (some 19) _ #[.agg #[.int .i64 a1_0, .int .i64 a1_1, .slice A1_2 l1_2.length c1_2], .int .i64 t391] ?_ Try.func13; (with_reducible refine (laws_szBoard.calls a1_0 a1_1 _ _ l1_2 t391 t392 _ ?side1 ?side2 A10.out).mono ?_); (case side1 => repeat (first | exact (Kd.C_below HR1_2.out HB.out) | (with_reducible refine Kd.C_alloc ?_ _) | (with_reducible refine Kd.C_drewN ?_ _) | (with_reducible refine Kd.C_drew ?_))); (case side2 => exact HC1_2.out); rintro e w18 ⟨rfl, hb⟩; refine ⟨_, rfl, ?_⟩; replace BK389 := kB BK389 hb; replace BK390 := kB BK390 hb; replace HB := bB HB hb; (try clear hb); (try clear hb2); (try clear hk); (try clear hi)))
   go_ret
   exact ⟨by first | rfl | (simp [errW_none, errW_some] <;> rfl) | (simp [*, errW_none, errW_some] <;> rfl), viaB HB⟩
  ·rw [if_neg c11] at H
   have c11b0 := decide_eq_false c11
   clear c11
   replace H := Option.bind_eq_some_iff.mp H
   obtain ⟨⟨t393, t394, t395⟩, A190, H⟩ := H
   replace H : ((laws_toBoard.f k a1_0 a1_1 l1_2).bind fun bt398 => ((spec_SameFalls.f k t393 t394 t395 bt398.1 bt398.2.1 bt398.2.2).bind fun bt403 => ((laws_toBoard.f k a0_0 a0_1 l0_2).bind fun bt405 => ((laws_toBoard.f k a1_0 a1_1 l1_2).bind fun bt411 => ((impl_SameFalls.f k bt405.1 bt405.2.1 bt405.2.2 bt411.1 bt411.2.1 bt411.2.2).bind fun bt417 => (if (bt417.1 != bt403.1) = true then (laws_FnExactSameFalls.j0 k true a0_0 a0_1 l0_2 a1_0 a1_1 l1_2 bt405.1 bt405.2.1 bt405.2.2 bt411.1 bt411.2.1 bt411.2.2) else (laws_FnExactSameFalls.j0 k (bt417.2 != bt403.2) a0_0 a0_1 l0_2 a1_0 a1_1 l1_2 bt405.1 bt405.2.1 bt405.2.2 bt411.1 bt411.2.1 bt411.2.2))))))) = some true := H
   have A19 := Aside0.mk A190
   clear A190
   replace H := Option.bind_eq_some_iff.mp H
   obtain ⟨⟨t398, t399, t400⟩, A200, H⟩ := H
   replace H : ((spec_SameFalls.f k t393 t394 t395 t398 t399 t400).bind fun bt403 => ((laws_toBoard.f k a0_0 a0_1 l0_2).bind fun bt405 => ((laws_toBoard.f k a1_0 a1_1 l1_2).bind fun bt411 => ((impl_SameFalls.f k bt405.1 bt405.2.1 bt405.2.2 bt411.1 bt411.2.1 bt411.2.2).bind fun bt417 => (if (bt417.1 != bt403.1) = true then (laws_FnExactSameFalls.j0 k true a0_0 a0_1 l0_2 a1_0 a1_1 l1_2 bt405.1 bt405.2.1 bt405.2.2 bt411.1 bt411.2.1 bt411.2.2) else (laws_FnExactSameFalls.j0 k (bt417.2 != bt403.2) a0_0 a0_1 l0_2 a1_0 a1_1 l1_2 bt405.1 bt405.2.1 bt405.2.2 bt411.1 bt411.2.1 bt411.2.2)))))) = some true := H
   have A20 := Aside0.mk A200
   clear A200
   replace H := Option.bind_eq_some_iff.mp H
   obtain ⟨⟨t403, t404⟩, A210, H⟩ := H
   replace H : ((laws_toBoard.f k a0_0 a0_1 l0_2).bind fun bt405 => ((laws_toBoard.f k a1_0 a1_1 l1_2).bind fun bt411 => ((impl_SameFalls.f k bt405.1 bt405.2.1 bt405.2.2 bt411.1 bt411.2.1 bt411.2.2).bind fun bt417 => (if (bt417.1 != t403) = true then (laws_FnExactSameFalls.j0 k true a0_0 a0_1 l0_2 a1_0 a1_1 l1_2 bt405.1 bt405.2.1 bt405.2.2 bt411.1 bt411.2.1 bt411.2.2) else (laws_FnExactSameFalls.j0 k (bt417.2 != t404) a0_0 a0_1 l0_2 a1_0 a1_1 l1_2 bt405.1 bt405.2.1 bt405.2.2 bt411.1 bt411.2.1 bt411.2.2))))) = some true := H
   have A21 := Aside0.mk A210
   clear A210
   replace H := Option.bind_eq_some_iff.mp H
   obtain ⟨⟨t405, t406, t407⟩, A220, H⟩ := H
   replace H : ((laws_toBoard.f k a1_0 a1_1 l1_2).bind fun bt411 => ((impl_SameFalls.f k t405 t406 t407 bt411.1 bt411.2.1 bt411.2.2).bind fun bt417 => (if (bt417.1 != t403) = true then (laws_FnExactSameFalls.j0 k true a0_0 a0_1 l0_2 a1_0 a1_1 l1_2 t405 t406 t407 bt411.1 bt411.2.1 bt411.2.2) else (laws_FnExactSameFalls.j0 k (bt417.2 != t404) a0_0 a0_1 l0_2 a1_0 a1_1 l1_2 t405 t406 t407 bt411.1 bt411.2.1 bt411.2.2)))) = some true := H
   have A22 := Aside0.mk A220
   clear A220
   replace H := Option.bind_eq_some_iff.mp H
   obtain ⟨⟨t411, t412, t413⟩, A230, H⟩ := H
   replace H : ((impl_SameFalls.f k t405 t406 t407 t411 t412 t413).bind fun bt417 => (if (bt417.1 != t403) = true then (laws_FnExactSameFalls.j0 k true a0_0 a0_1 l0_2 a1_0 a1_1 l1_2 t405 t406 t407 t411 t412 t413) else (laws_FnExactSameFalls.j0 k (bt417.2 != t404) a0_0 a0_1 l0_2 a1_0 a1_1 l1_2 t405 t406 t407 t411 t412 t413))) = some true := H
   have A23 := Aside0.mk A230
   clear A230
   replace H := Option.bind_eq_some_iff.mp H
   obtain ⟨⟨t417, t418⟩, A240, H⟩ := H
   replace H : (if (t417 != t403) = true then (laws_FnExactSameFalls.j0 k true a0_0 a0_1 l0_2 a1_0 a1_1 l1_2 t405 t406 t407 t411 t412 t413) else (laws_FnExactSameFalls.j0 k (t418 != t404) a0_0 a0_1 l0_2 a1_0 a1_1 l1_2 t405 t406 t407 t411 t412 t413)) = some true := H
   have A24 := Aside0.mk A240
   clear A240
   have HC25 := Aside0.mk H
   clear H
   go_enter Try.func4, Try.ntmps4
   try go_wp2_with (first | ((with_reducible refine gate_dst (N := 2) rfl ?_); refine box_ev (N := 2) (cs := #[.int .i64 a0_0, .int .i64 a0_1, .slice A0_2 l0_2.length c0_2]) (t := 24) ?_; intro gb389 hg w26 hbox hb; have BK389 := Aside0.mk (hbox); have GW389 := gW (w := w) HB hg; have GE389 := gW (w := w) HB hg; replace HB := bB HB hb; clear hb hbox hg) | ((with_reducible refine gate_dst (N := 3) rfl ?_); refine box_ev (N := 3) (cs := #[.int .i64 a1_0, .int .i64 a1_1, .slice A1_2 l1_2.length c1_2]) (t := 24) ?_; intro gb390 hg w27 hbox hb; have BK390 := Aside0.mk (hbox); have GW390 := gW (w := w) HB hg; have GE390 := gW (w := w) HB hg; have NB389_390 := neL BK389 hg; have NB390_389 := neG BK389 hg; replace BK389 := kB BK389 hb; replace HB := bB HB hb; clear hb hbox hg; have hnb28 := NB389_390.out; have hnc28 := NB390_389.out; have hcz29_0 := bc0 BK389; have hcz29_1 := bc1 BK389; have hcz29_2 := bc2 BK389; have hfz29_0 := blk_frozen BK389.out 0; have hfz29_1 := blk_frozen BK389.out 1; have hfz29_2 := blk_frozen BK389.out 2) | ((with_reducible refine gate_callee (f := 13) rfl ?_); refine goesA (some 14) _ #[.agg #[.int .i64 a0_0, .int .i64 a0_1, .slice A0_2 l0_2.length c0_2], .int .i64 1048576] ?_ Try.func13; (with_reducible refine (laws_szBoard.calls a0_0 a0_1 _ _ l0_2 1048576 t391 _ ?side1 ?side2 A3.out).mono ?_); (case side1 => repeat (first | exact (Kd.C_below HR0_2.out HB.out) | (with_reducible refine Kd.C_alloc ?_ _) | (with_reducible refine Kd.C_drewN ?_ _) | (with_reducible refine Kd.C_drew ?_))); (case side2 => exact HC0_2.out); rintro e w30 ⟨rfl, hb⟩; refine ⟨_, rfl, ?_⟩; replace BK389 := kB BK389 hb; replace BK390 := kB BK390 hb; replace HB := bB HB hb; (try clear hb); (try clear hb2); (try clear hk); (try clear hi); have hcz31_0 := bc0 BK390; have hcz31_1 := bc1 BK390; have hcz31_2 := bc2 BK390; have hfz31_0 := blk_frozen BK390.out 0; have hfz31_1 := blk_frozen BK390.out 1; have hfz31_2 := blk_frozen BK390.out 2) | ((with_reducible refine gate_callee (f := 13) rfl ?_); refine goesA (some 19) _ #[.agg #[.int .i64 a1_0, .int .i64 a1_1, .slice A1_2 l1_2.length c1_2], .int .i64 t391] ?_ Try.func13; (with_reducible refine (laws_szBoard.calls a1_0 a1_1 _ _ l1_2 t391 t392 _ ?side1 ?side2 A10.out).mono ?_); (case side1 => repeat (first | exact (Kd.C_below HR1_2.out HB.out) | (with_reducible refine Kd.C_alloc ?_ _) | (with_reducible refine Kd.C_drewN ?_ _) | (with_reducible refine Kd.C_drew ?_))); (case side2 => exact HC1_2.out); rintro e w32 ⟨rfl, hb⟩; refine ⟨_, rfl, ?_⟩; replace BK389 := kB BK389 hb; replace BK390 := kB BK390 hb; replace HB := bB HB hb; (try clear hb); (try clear hb2); (try clear hk); (try clear hi)))
   replace BK389 := Aside0.mk (blk_drew BK389.out)
   replace BK390 := Aside0.mk (blk_drew BK390.out)
   replace HB := Aside0.mk (below_drew1 HB.out)
   refine start_ (n := 10) (S := fun w' => w'.cell? ⟨gb389, 0, none⟩ = some (.int .i64 a0_0) ∧ w'.cell? ⟨gb389, 1, none⟩ = some (.int .i64 a0_1) ∧ w'.cell? ⟨gb389, 2, none⟩ = some (.slice A0_2 l0_2.length c0_2) ∧ w'.cell? ⟨gb390, 0, none⟩ = some (.int .i64 a1_0) ∧ w'.cell? ⟨gb390, 1, none⟩ = some (.int .i64 a1_1) ∧ w'.cell? ⟨gb390, 2, none⟩ = some (.slice A1_2 l1_2.length c1_2)) (ds := []) #[false, false, false, false, false, false, false, false, false, false] (by kernel_rfl) rfl rfl ⟨(blk_cell BK389.out 0).trans rfl, (blk_cell BK389.out 1).trans rfl, (blk_cell BK389.out 2).trans rfl, (blk_cell BK390.out 0).trans rfl, (blk_cell BK390.out 1).trans rfl, (blk_cell BK390.out 2).trans rfl⟩ (fun hHeld => ?_); refine with_tabW laws_FnExactSameFalls.tab8 laws_FnExactSameFalls.bits8 (fun HT_ HW_ => ?_)
   generalize w32.drew = w33 at BK389 BK390 HB hHeld ⊢
   refine take_ (i := 0) (N := some 23) (v := ?_) (a' := ?_) #[true, false, false, false, false, false, false, false, false, false] rfl rfl (take_ofW HT_.out HW_.out (by kernel_rfl)) (fun _ _ _ h => h) (Or.inl ⟨by rfl, ?_⟩) hHeld ?_ ?_
   rotate_left
   ·rintro w' ⟨s0, s1, s2, s3, s4, s5⟩
    go_simp
    with_reducible rfl
   rotate_left
   ·simp only [Act.put, q1, q2, q3, i64_w, i32_w]
    rfl
   refine take_ (i := 2) (N := some 25) (v := ?_) (a' := ?_) #[true, false, true, false, false, false, false, false, false, false] rfl rfl (take_ofW HT_.out HW_.out (by kernel_rfl)) (fun _ _ _ h => h) (Or.inl ⟨by rfl, ?_⟩) hHeld ?_ ?_
   rotate_left
   ·rintro w' ⟨s0, s1, s2, s3, s4, s5⟩
    go_simp
    with_reducible rfl
   rotate_left
   ·simp only [Act.put, q1, q2, q3, i64_w, i32_w]
    rfl
   refine one_ (i := 1) (N := some 24) #[true, true, true, false, false, false, false, false, false, false] rfl rfl (one_of HT_.out (by kernel_rfl)) (by decide) (fun K hK => ?_)
   refine goes_ Try.func15 (by kernel_rfl) rfl #[.agg #[.int .i64 a0_0, .int .i64 a0_1, .slice A0_2 l0_2.length c0_2]] (by rfl) rfl rfl (by (try simp only [List.map_toArray, List.map_cons, List.map_nil]); first | done | rfl | (simp only [List.length_drop, List.length_take]; rfl)) ?_
   with_reducible refine (laws_toBoard.calls k a0_0 a0_1 _ _ l0_2 t393 t394 t395 _ ?side1 ?side2 A19.out).mono ?_
   (case side1 => repeat (first | exact (Kd.C_below HR0_2.out HB.out) | (with_reducible refine Kd.C_alloc ?_ _) | (with_reducible refine Kd.C_drewN ?_ _) | (with_reducible refine Kd.C_drew ?_)))
   (case side2 => exact HC0_2.out)
   rintro e w34 ⟨v396, rfl, ho0, hb⟩
   refine ⟨_, rfl, ?_⟩
   have HO397 := Aside0.mk (Kd.R_lower ho0 (below_size (viaB HB)))
   replace BK389 := kB BK389 hb
   replace BK390 := kB BK390 hb
   replace HB := bB HB hb
   (try clear hb); (try clear ho0)
   refine hK.out _ _ ⟨(blk_cell BK389.out 0).trans rfl, (blk_cell BK389.out 1).trans rfl, (blk_cell BK389.out 2).trans rfl, (blk_cell BK390.out 0).trans rfl, (blk_cell BK390.out 1).trans rfl, (blk_cell BK390.out 2).trans rfl⟩ (fun hHeld => ?_)
   clear hK K
   refine norm_ (a' := ?_) ?_ ?_
   rotate_left
   ·show Act.put _ (some 24) _ = _
    simp only [Act.put, q1, q2, q3, i64_w, i32_w]
    rfl
   refine one_ (i := 3) (N := some 26) #[true, true, true, true, false, false, false, false, false, false] rfl rfl (one_of HT_.out (by kernel_rfl)) (by decide) (fun K hK => ?_)
   refine goes_ Try.func15 (by kernel_rfl) rfl #[.agg #[.int .i64 a1_0, .int .i64 a1_1, .slice A1_2 l1_2.length c1_2]] (by rfl) rfl rfl (by (try simp only [List.map_toArray, List.map_cons, List.map_nil]); first | done | rfl | (simp only [List.length_drop, List.length_take]; rfl)) ?_
   with_reducible refine (laws_toBoard.calls k a1_0 a1_1 _ _ l1_2 t398 t399 t400 _ ?side1 ?side2 A20.out).mono ?_
   (case side1 => repeat (first | exact (Kd.C_below HR1_2.out HB.out) | (with_reducible refine Kd.C_alloc ?_ _) | (with_reducible refine Kd.C_drewN ?_ _) | (with_reducible refine Kd.C_drew ?_)))
   (case side2 => exact HC1_2.out)
   rintro e w35 ⟨v401, rfl, ho0, hb⟩
   refine ⟨_, rfl, ?_⟩
   have HO402 := Aside0.mk (Kd.R_lower (Kd.R_new' ho0 (Kd.R_lt (viaR HO397))) (below_size (viaB HB)))
   replace HO397 := Aside0.mk (Kd.R_elder' (viaR HO397) (Kd.R_base ho0) hb)
   replace BK389 := kB BK389 hb
   replace BK390 := kB BK390 hb
   replace HB := bB HB hb
   (try clear hb); (try clear ho0)
   obtain ⟨Ao36, co36, eo36⟩ := Kd.R_slice HO397.out
   (first | subst eo36 | (injection eo36 with f1_ f2_ f3_; have f4_ := f1_.symm; have f5_ := f3_.symm; clear f1_ f2_ f3_; subst f4_; subst f5_))
   obtain ⟨Ao37, co37, eo37⟩ := Kd.R_slice HO402.out
   (first | subst eo37 | (injection eo37 with f1_ f2_ f3_; have f4_ := f1_.symm; have f5_ := f3_.symm; clear f1_ f2_ f3_; subst f4_; subst f5_))
   refine hK.out _ _ ⟨(blk_cell BK389.out 0).trans rfl, (blk_cell BK389.out 1).trans rfl, (blk_cell BK389.out 2).trans rfl, (blk_cell BK390.out 0).trans rfl, (blk_cell BK390.out 1).trans rfl, (blk_cell BK390.out 2).trans rfl⟩ (fun hHeld => ?_)
   clear hK K
   refine norm_ (a' := ?_) ?_ ?_
   rotate_left
   ·show Act.put _ (some 26) _ = _
    simp only [Act.put, q1, q2, q3, i64_w, i32_w]
    rfl
   refine one_ (i := 4) (N := some 27) #[true, true, true, true, true, false, false, false, false, false] rfl rfl (one_of HT_.out (by kernel_rfl)) (by decide) (fun K hK => ?_)
   refine goes_ Try.func19 (by kernel_rfl) rfl #[.agg #[.int .i64 t393, .int .i64 t394, .slice Ao36 t395.length co36], .agg #[.int .i64 t398, .int .i64 t399, .slice Ao37 t400.length co37]] (by rfl) rfl rfl (by (try simp only [List.map_toArray, List.map_cons, List.map_nil]); first | done | rfl | (simp only [List.length_drop, List.length_take]; rfl)) ?_
   with_reducible refine (spec_SameFalls.calls k t393 t394 _ _ t395 t398 t399 _ _ t400 t403 t404 _ ?side1 ?side2 ?side3 ?side4 A21.out).mono ?_
   (case side1 => repeat (first | exact (Kd.R_reads' HO397.out).2.2 | (with_reducible refine Kd.C_alloc ?_ _) | (with_reducible refine Kd.C_drewN ?_ _) | (with_reducible refine Kd.C_drew ?_)))
   (case side2 => exact (Kd.R_reads' HO397.out).2.1)
   (case side3 => repeat (first | exact (Kd.R_reads' HO402.out).2.2 | (with_reducible refine Kd.C_alloc ?_ _) | (with_reducible refine Kd.C_drewN ?_ _) | (with_reducible refine Kd.C_drew ?_)))
   (case side4 => exact (Kd.R_reads' HO402.out).2.1)
   rintro e w38 ⟨rfl, hb⟩
   refine ⟨_, rfl, ?_⟩
   replace HO397 := Aside0.mk (Kd.R_below (viaR HO397) hb)
   replace HO402 := Aside0.mk (Kd.R_below (viaR HO402) hb)
   replace BK389 := kB BK389 hb
   replace BK390 := kB BK390 hb
   replace HB := bB HB hb
   (try clear hb)
   refine hK.out _ _ ⟨(blk_cell BK389.out 0).trans rfl, (blk_cell BK389.out 1).trans rfl, (blk_cell BK389.out 2).trans rfl, (blk_cell BK390.out 0).trans rfl, (blk_cell BK390.out 1).trans rfl, (blk_cell BK390.out 2).trans rfl⟩ (fun hHeld => ?_)
   clear hK K
   refine norm_ (a' := ?_) ?_ ?_
   rotate_left
   ·show Act.put _ (some 27) _ = _
    simp only [Act.put, q1, q2, q3, i64_w, i32_w]
    rfl
   refine pure_ (i := 5) (N := some 22) (v := ?_) (a' := ?_) #[true, true, true, true, true, true, false, false, false, false] rfl rfl (any_of HT_.out (by kernel_rfl)) (fun _ _ _ h => h) (Or.inl ⟨by rfl, ?_⟩) ?_ ?_
   rotate_left
   ·intro w'
    go_simp
    with_reducible rfl
   rotate_left
   ·simp only [Act.put, q1, q2, q3, i64_w, i32_w]
    rfl
   refine pure_ (i := 6) (N := some 28) (v := ?_) (a' := ?_) #[true, true, true, true, true, true, true, false, false, false] rfl rfl (any_of HT_.out (by kernel_rfl)) (fun _ _ _ h => h) (Or.inl ⟨by rfl, ?_⟩) ?_ ?_
   rotate_left
   ·intro w'
    go_simp
    with_reducible rfl
   rotate_left
   ·simp only [Act.put, q1, q2, q3, i64_w, i32_w]
    rfl
   refine pure_ (i := 7) (N := some 29) (v := ?_) (a' := ?_) #[true, true, true, true, true, true, true, true, false, false] rfl rfl (any_of HT_.out (by kernel_rfl)) (fun _ _ _ h => h) (Or.inl ⟨by rfl, ?_⟩) ?_ ?_
   rotate_left
   ·intro w'
    go_simp
    with_reducible rfl
   rotate_left
   ·simp only [Act.put, q1, q2, q3, i64_w, i32_w]
    rfl
   refine pure_ (i := 8) (N := some 6) (v := ?_) (a' := ?_) #[true, true, true, true, true, true, true, true, true, false] rfl rfl (any_of HT_.out (by kernel_rfl)) (fun _ _ _ h => h) (Or.inl ⟨by rfl, ?_⟩) ?_ ?_
   rotate_left
   ·intro w'
    go_simp
    with_reducible rfl
   rotate_left
   ·simp only [Act.put, q1, q2, q3, i64_w, i32_w]
    rfl
   refine pure_ (i := 9) (N := some 7) (v := ?_) (a' := ?_) #[true, true, true, true, true, true, true, true, true, true] rfl rfl (any_of HT_.out (by kernel_rfl)) (fun _ _ _ h => h) (Or.inl ⟨by rfl, ?_⟩) ?_ ?_
   rotate_left
   ·intro w'
    go_simp
    with_reducible rfl
   rotate_left
   ·simp only [Act.put, q1, q2, q3, i64_w, i32_w]
    rfl
   refine done_ (done_of HT_.out (by kernel_rfl)) ?_
   have hcz39_0 := bc0 BK389
   have hcz39_1 := bc1 BK389
   have hcz39_2 := bc2 BK389
   have hfz39_0 := blk_frozen BK389.out 0
   have hfz39_1 := blk_frozen BK389.out 1
   have hfz39_2 := blk_frozen BK389.out 2
   go_upto_region 12 with (first | ((with_reducible refine gate_callee (f := 15) rfl ?_); refine goesA (some 31) _ #[.agg #[.int .i64 a0_0, .int .i64 a0_1, .slice A0_2 l0_2.length c0_2]] ?_ Try.func15; (with_reducible refine (laws_toBoard.calls k a0_0 a0_1 _ _ l0_2 t405 t406 t407 _ ?side1 ?side2 A22.out).mono ?_); (case side1 => repeat (first | exact (Kd.C_below HR0_2.out HB.out) | (with_reducible refine Kd.C_alloc ?_ _) | (with_reducible refine Kd.C_drewN ?_ _) | (with_reducible refine Kd.C_drew ?_))); (case side2 => exact HC0_2.out); rintro e w40 ⟨v408, rfl, ho0, hb⟩; refine ⟨_, rfl, ?_⟩; have HO409 := Aside0.mk (Kd.R_lower (Kd.R_new' (Kd.R_new' ho0 (Kd.R_lt (viaR HO397))) (Kd.R_lt (viaR HO402))) (below_size (viaB HB))); replace HO397 := Aside0.mk (Kd.R_elder' (viaR HO397) (Kd.R_base ho0) hb); replace HO402 := Aside0.mk (Kd.R_elder' (viaR HO402) (Kd.R_base ho0) hb); replace BK389 := kB BK389 hb; replace BK390 := kB BK390 hb; replace HB := bB HB hb; (try clear hb); (try clear hb2); (try clear hk); (try clear hi); (try clear ho0)) | ((with_reducible refine gate_dst (N := 8) rfl ?_); refine box_ev (N := 8) (cs := #[.int .i64 0, .int .i64 0, .slice none 0 0]) (t := 32) ?_; intro gb410 hg w41 hbox hb; have BK410 := Aside0.mk (hbox); have GW410 := gW (w := w) HB hg; have GE410 := gW (w := w) HB hg; have NB389_410 := neL BK389 hg; have NB410_389 := neG BK389 hg; have NB390_410 := neL BK390 hg; have NB410_390 := neG BK390 hg; replace HO397 := Aside0.mk (Kd.R_below (viaR HO397) hb); replace HO402 := Aside0.mk (Kd.R_below (viaR HO402) hb); replace HO409 := Aside0.mk (Kd.R_below (viaR HO409) hb); replace BK389 := kB BK389 hb; replace BK390 := kB BK390 hb; replace HB := bB HB hb; clear hb hbox hg; have hnb42 := NB410_389.out; have hnc42 := NB389_410.out; have hnb43 := NB410_390.out; have hnc43 := NB390_410.out; have hcz44_0 := bc0 BK410; have hcz44_1 := bc1 BK410; have hcz44_2 := bc2 BK410; have hfz44_0 := blk_frozen BK410.out 0; have hfz44_1 := blk_frozen BK410.out 1; have hfz44_2 := blk_frozen BK410.out 2; obtain ⟨Ao45, co45, eo45⟩ := Kd.R_slice HO409.out; subst eo45; have hcz46_0 := bc0 BK390; have hcz46_1 := bc1 BK390; have hcz46_2 := bc2 BK390; have hfz46_0 := blk_frozen BK390.out 0; have hfz46_1 := blk_frozen BK390.out 1; have hfz46_2 := blk_frozen BK390.out 2) | ((with_reducible refine gate_callee (f := 15) rfl ?_); refine goesA (some 33) _ #[.agg #[.int .i64 a1_0, .int .i64 a1_1, .slice A1_2 l1_2.length c1_2]] ?_ Try.func15; (with_reducible refine (laws_toBoard.calls k a1_0 a1_1 _ _ l1_2 t411 t412 t413 _ ?side1 ?side2 A23.out).mono ?_); (case side1 => exact Kd.C_below HR1_2.out (viaB HB)); (case side2 => exact HC1_2.out); rintro e w47 ⟨v414, rfl, ho0, hb⟩; refine ⟨_, rfl, ?_⟩; have HO415 := Aside0.mk (Kd.R_lower (Kd.R_new' (Kd.R_new' (Kd.R_new' ho0 (Kd.R_lt (by (with_reducible repeat (first | apply Kd.R_alloc | apply Kd.R_drewN | apply Kd.R_drew)); exact (Kd.R_mono (Kd.R_far (p := ⟨gb410, 2, none⟩) (Kd.R_far (p := ⟨gb410, 1, none⟩) (Kd.R_far (p := ⟨gb410, 0, none⟩) (Kd.R_types HO397.out BK410.out (by decide)) (fun _ hk => hk.2) (.int .i64 t405)) (fun _ hk => hk.2) (.int .i64 t406)) (fun _ hk => hk.2) (.slice Ao45 t407.length co45)) (fun _ h_ => h_.1))))) (Kd.R_lt (by (with_reducible repeat (first | apply Kd.R_alloc | apply Kd.R_drewN | apply Kd.R_drew)); exact (Kd.R_mono (Kd.R_far (p := ⟨gb410, 2, none⟩) (Kd.R_far (p := ⟨gb410, 1, none⟩) (Kd.R_far (p := ⟨gb410, 0, none⟩) (Kd.R_types HO402.out BK410.out (by decide)) (fun _ hk => hk.2) (.int .i64 t405)) (fun _ hk => hk.2) (.int .i64 t406)) (fun _ hk => hk.2) (.slice Ao45 t407.length co45)) (fun _ h_ => h_.1))))) (Kd.R_lt (by (with_reducible repeat (first | apply Kd.R_alloc | apply Kd.R_drewN | apply Kd.R_drew)); exact (Kd.R_mono (Kd.R_far (p := ⟨gb410, 2, none⟩) (Kd.R_far (p := ⟨gb410, 1, none⟩) (Kd.R_far (p := ⟨gb410, 0, none⟩) (Kd.R_types HO409.out BK410.out (by decide)) (fun _ hk => hk.2) (.int .i64 t405)) (fun _ hk => hk.2) (.int .i64 t406)) (fun _ hk => hk.2) (.slice Ao45 t407.length co45)) (fun _ h_ => h_.1))))) (below_size (viaB HB))); replace HO397 := Aside0.mk (Kd.R_elder' (by (with_reducible repeat (first | apply Kd.R_alloc | apply Kd.R_drewN | apply Kd.R_drew)); exact (Kd.R_mono (Kd.R_far (p := ⟨gb410, 2, none⟩) (Kd.R_far (p := ⟨gb410, 1, none⟩) (Kd.R_far (p := ⟨gb410, 0, none⟩) (Kd.R_types HO397.out BK410.out (by decide)) (fun _ hk => hk.2) (.int .i64 t405)) (fun _ hk => hk.2) (.int .i64 t406)) (fun _ hk => hk.2) (.slice Ao45 t407.length co45)) (fun _ h_ => h_.1))) (Kd.R_base ho0) hb); replace HO402 := Aside0.mk (Kd.R_elder' (by (with_reducible repeat (first | apply Kd.R_alloc | apply Kd.R_drewN | apply Kd.R_drew)); exact (Kd.R_mono (Kd.R_far (p := ⟨gb410, 2, none⟩) (Kd.R_far (p := ⟨gb410, 1, none⟩) (Kd.R_far (p := ⟨gb410, 0, none⟩) (Kd.R_types HO402.out BK410.out (by decide)) (fun _ hk => hk.2) (.int .i64 t405)) (fun _ hk => hk.2) (.int .i64 t406)) (fun _ hk => hk.2) (.slice Ao45 t407.length co45)) (fun _ h_ => h_.1))) (Kd.R_base ho0) hb); replace HO409 := Aside0.mk (Kd.R_elder' (by (with_reducible repeat (first | apply Kd.R_alloc | apply Kd.R_drewN | apply Kd.R_drew)); exact (Kd.R_mono (Kd.R_far (p := ⟨gb410, 2, none⟩) (Kd.R_far (p := ⟨gb410, 1, none⟩) (Kd.R_far (p := ⟨gb410, 0, none⟩) (Kd.R_types HO409.out BK410.out (by decide)) (fun _ hk => hk.2) (.int .i64 t405)) (fun _ hk => hk.2) (.int .i64 t406)) (fun _ hk => hk.2) (.slice Ao45 t407.length co45)) (fun _ h_ => h_.1))) (Kd.R_base ho0) hb); replace BK389 := Aside0.mk (blk_below (g := gb389) (o := .cells #[.int .i64 a0_0, .int .i64 a0_1, .slice A0_2 l0_2.length c0_2] 24 (0, 0)) (by (with_reducible repeat (first | refine blk_drewN ?_ _ | refine blk_drew ?_ | refine blk_alloc ?_ _)); refine blk_far ?_ NB389_410.out _; (with_reducible repeat (first | refine blk_drewN ?_ _ | refine blk_drew ?_ | refine blk_alloc ?_ _)); refine blk_far ?_ NB389_410.out _; (with_reducible repeat (first | refine blk_drewN ?_ _ | refine blk_drew ?_ | refine blk_alloc ?_ _)); refine blk_far ?_ NB389_410.out _; (with_reducible repeat (first | refine blk_drewN ?_ _ | refine blk_drew ?_ | refine blk_alloc ?_ _)); exact BK389.out) hb); replace BK390 := Aside0.mk (blk_below (g := gb390) (o := .cells #[.int .i64 a1_0, .int .i64 a1_1, .slice A1_2 l1_2.length c1_2] 24 (0, 0)) (by (with_reducible repeat (first | refine blk_drewN ?_ _ | refine blk_drew ?_ | refine blk_alloc ?_ _)); refine blk_far ?_ NB390_410.out _; (with_reducible repeat (first | refine blk_drewN ?_ _ | refine blk_drew ?_ | refine blk_alloc ?_ _)); refine blk_far ?_ NB390_410.out _; (with_reducible repeat (first | refine blk_drewN ?_ _ | refine blk_drew ?_ | refine blk_alloc ?_ _)); refine blk_far ?_ NB390_410.out _; (with_reducible repeat (first | refine blk_drewN ?_ _ | refine blk_drew ?_ | refine blk_alloc ?_ _)); exact BK390.out) hb); replace BK410 := Aside0.mk (blk_below (g := gb410) (o := .cells #[.int .i64 t405, .int .i64 t406, .slice Ao45 t407.length co45] 32 (0, 0)) (by (with_reducible repeat (first | refine blk_drewN ?_ _ | refine blk_drew ?_ | refine blk_alloc ?_ _)); refine blk_put (cs := #[.int .i64 t405, .int .i64 t406, .slice none 0 0]) ?_ 2 _ rfl; (with_reducible repeat (first | refine blk_drewN ?_ _ | refine blk_drew ?_ | refine blk_alloc ?_ _)); refine blk_put (cs := #[.int .i64 t405, .int .i64 0, .slice none 0 0]) ?_ 1 _ rfl; (with_reducible repeat (first | refine blk_drewN ?_ _ | refine blk_drew ?_ | refine blk_alloc ?_ _)); refine blk_put (cs := #[.int .i64 0, .int .i64 0, .slice none 0 0]) ?_ 0 _ rfl; (with_reducible repeat (first | refine blk_drewN ?_ _ | refine blk_drew ?_ | refine blk_alloc ?_ _)); exact BK410.out) hb); replace HB := bB HB hb; (try clear hb); (try clear hb2); (try clear hk); (try clear hi); (try clear ho0)) | ((with_reducible refine gate_dst (N := 9) rfl ?_); refine box_ev (N := 9) (cs := #[.int .i64 0, .int .i64 0, .slice none 0 0]) (t := 32) ?_; intro gb416 hg w48 hbox hb; have BK416 := Aside0.mk (hbox); have GW416 := gW (w := w) HB hg; have GE416 := gW (w := w) HB hg; have NB389_416 := neL BK389 hg; have NB416_389 := neG BK389 hg; have NB390_416 := neL BK390 hg; have NB416_390 := neG BK390 hg; have NB410_416 := neL BK410 hg; have NB416_410 := neG BK410 hg; replace HO397 := Aside0.mk (Kd.R_below (viaR HO397) hb); replace HO402 := Aside0.mk (Kd.R_below (viaR HO402) hb); replace HO409 := Aside0.mk (Kd.R_below (viaR HO409) hb); replace HO415 := Aside0.mk (Kd.R_below (viaR HO415) hb); replace BK389 := kB BK389 hb; replace BK390 := kB BK390 hb; replace BK410 := kB BK410 hb; replace HB := bB HB hb; clear hb hbox hg; have hnb49 := NB416_389.out; have hnc49 := NB389_416.out; have hnb50 := NB416_390.out; have hnc50 := NB390_416.out; have hnb51 := NB416_410.out; have hnc51 := NB410_416.out; have hcz52_0 := bc0 BK416; have hcz52_1 := bc1 BK416; have hcz52_2 := bc2 BK416; have hfz52_0 := blk_frozen BK416.out 0; have hfz52_1 := blk_frozen BK416.out 1; have hfz52_2 := blk_frozen BK416.out 2; obtain ⟨Ao53, co53, eo53⟩ := Kd.R_slice HO415.out; subst eo53; have hcz54_0 := bc0 BK410; have hcz54_1 := bc1 BK410; have hcz54_2 := bc2 BK410; have hfz54_0 := blk_frozen BK410.out 0; have hfz54_1 := blk_frozen BK410.out 1; have hfz54_2 := blk_frozen BK410.out 2) | ((with_reducible refine gate_callee (f := 20) rfl ?_); refine goesA (some 37) _ #[.agg #[.int .i64 t405, .int .i64 t406, .slice Ao45 t407.length co45], .agg #[.int .i64 t411, .int .i64 t412, .slice Ao53 t413.length co53]] ?_ Try.func20; (with_reducible refine (impl_SameFalls.calls k t405 t406 _ _ t407 t411 t412 _ _ t413 t417 t418 _ ?side1 ?side2 ?side3 ?side4 A24.out).mono ?_); (case side1 => refine (Kd.R_reads' (e := 89) (base := w.heap.size) (ok := fun k_ => (((True ∧ some k_ ≠ (.slice Ao36 t395.length co36 : Value).ownBlock) ∧ some k_ ≠ (.slice Ao37 t400.length co37 : Value).ownBlock) ∧ some k_ ≠ (.slice Ao53 t413.length co53 : Value).ownBlock)) (n := t407.length) (c := co45) ?_).2.2; exact (by (with_reducible repeat (first | apply Kd.R_alloc | apply Kd.R_drewN | apply Kd.R_drew)); exact (Kd.R_mono (Kd.R_far (p := ⟨gb416, 2, none⟩) (Kd.R_far (p := ⟨gb416, 1, none⟩) (Kd.R_far (p := ⟨gb416, 0, none⟩) (Kd.R_types HO409.out BK416.out (by decide)) (fun _ hk => hk.2) (.int .i64 t411)) (fun _ hk => hk.2) (.int .i64 t412)) (fun _ hk => hk.2) (.slice Ao53 t413.length co53)) (fun _ h_ => h_.1)))); (case side2 => exact (Kd.R_reads' HO409.out).2.1); (case side3 => refine (Kd.R_reads' (e := 89) (base := w.heap.size) (ok := fun k_ => (((True ∧ some k_ ≠ (.slice Ao36 t395.length co36 : Value).ownBlock) ∧ some k_ ≠ (.slice Ao37 t400.length co37 : Value).ownBlock) ∧ some k_ ≠ (.slice Ao45 t407.length co45 : Value).ownBlock)) (n := t413.length) (c := co53) ?_).2.2; exact (by (with_reducible repeat (first | apply Kd.R_alloc | apply Kd.R_drewN | apply Kd.R_drew)); exact (Kd.R_mono (Kd.R_far (p := ⟨gb416, 2, none⟩) (Kd.R_far (p := ⟨gb416, 1, none⟩) (Kd.R_far (p := ⟨gb416, 0, none⟩) (Kd.R_types HO415.out BK416.out (by decide)) (fun _ hk => hk.2) (.int .i64 t411)) (fun _ hk => hk.2) (.int .i64 t412)) (fun _ hk => hk.2) (.slice Ao53 t413.length co53)) (fun _ h_ => h_.1)))); (case side4 => exact (Kd.R_reads' HO415.out).2.1); rintro e w55 ⟨rfl, hb⟩; refine ⟨_, rfl, ?_⟩; replace HO397 := Aside0.mk (Kd.R_below (by (with_reducible repeat (first | apply Kd.R_alloc | apply Kd.R_drewN | apply Kd.R_drew)); exact (Kd.R_mono (Kd.R_far (p := ⟨gb416, 2, none⟩) (Kd.R_far (p := ⟨gb416, 1, none⟩) (Kd.R_far (p := ⟨gb416, 0, none⟩) (Kd.R_types HO397.out BK416.out (by decide)) (fun _ hk => hk.2) (.int .i64 t411)) (fun _ hk => hk.2) (.int .i64 t412)) (fun _ hk => hk.2) (.slice Ao53 t413.length co53)) (fun _ h_ => h_.1))) hb); replace HO402 := Aside0.mk (Kd.R_below (by (with_reducible repeat (first | apply Kd.R_alloc | apply Kd.R_drewN | apply Kd.R_drew)); exact (Kd.R_mono (Kd.R_far (p := ⟨gb416, 2, none⟩) (Kd.R_far (p := ⟨gb416, 1, none⟩) (Kd.R_far (p := ⟨gb416, 0, none⟩) (Kd.R_types HO402.out BK416.out (by decide)) (fun _ hk => hk.2) (.int .i64 t411)) (fun _ hk => hk.2) (.int .i64 t412)) (fun _ hk => hk.2) (.slice Ao53 t413.length co53)) (fun _ h_ => h_.1))) hb); replace HO409 := Aside0.mk (Kd.R_below (by (with_reducible repeat (first | apply Kd.R_alloc | apply Kd.R_drewN | apply Kd.R_drew)); exact (Kd.R_mono (Kd.R_far (p := ⟨gb416, 2, none⟩) (Kd.R_far (p := ⟨gb416, 1, none⟩) (Kd.R_far (p := ⟨gb416, 0, none⟩) (Kd.R_types HO409.out BK416.out (by decide)) (fun _ hk => hk.2) (.int .i64 t411)) (fun _ hk => hk.2) (.int .i64 t412)) (fun _ hk => hk.2) (.slice Ao53 t413.length co53)) (fun _ h_ => h_.1))) hb); replace HO415 := Aside0.mk (Kd.R_below (by (with_reducible repeat (first | apply Kd.R_alloc | apply Kd.R_drewN | apply Kd.R_drew)); exact (Kd.R_mono (Kd.R_far (p := ⟨gb416, 2, none⟩) (Kd.R_far (p := ⟨gb416, 1, none⟩) (Kd.R_far (p := ⟨gb416, 0, none⟩) (Kd.R_types HO415.out BK416.out (by decide)) (fun _ hk => hk.2) (.int .i64 t411)) (fun _ hk => hk.2) (.int .i64 t412)) (fun _ hk => hk.2) (.slice Ao53 t413.length co53)) (fun _ h_ => h_.1))) hb); replace BK389 := Aside0.mk (blk_below (g := gb389) (o := .cells #[.int .i64 a0_0, .int .i64 a0_1, .slice A0_2 l0_2.length c0_2] 24 (0, 0)) (by (with_reducible repeat (first | refine blk_drewN ?_ _ | refine blk_drew ?_ | refine blk_alloc ?_ _)); refine blk_far ?_ NB389_416.out _; (with_reducible repeat (first | refine blk_drewN ?_ _ | refine blk_drew ?_ | refine blk_alloc ?_ _)); refine blk_far ?_ NB389_416.out _; (with_reducible repeat (first | refine blk_drewN ?_ _ | refine blk_drew ?_ | refine blk_alloc ?_ _)); refine blk_far ?_ NB389_416.out _; (with_reducible repeat (first | refine blk_drewN ?_ _ | refine blk_drew ?_ | refine blk_alloc ?_ _)); exact BK389.out) hb); replace BK390 := Aside0.mk (blk_below (g := gb390) (o := .cells #[.int .i64 a1_0, .int .i64 a1_1, .slice A1_2 l1_2.length c1_2] 24 (0, 0)) (by (with_reducible repeat (first | refine blk_drewN ?_ _ | refine blk_drew ?_ | refine blk_alloc ?_ _)); refine blk_far ?_ NB390_416.out _; (with_reducible repeat (first | refine blk_drewN ?_ _ | refine blk_drew ?_ | refine blk_alloc ?_ _)); refine blk_far ?_ NB390_416.out _; (with_reducible repeat (first | refine blk_drewN ?_ _ | refine blk_drew ?_ | refine blk_alloc ?_ _)); refine blk_far ?_ NB390_416.out _; (with_reducible repeat (first | refine blk_drewN ?_ _ | refine blk_drew ?_ | refine blk_alloc ?_ _)); exact BK390.out) hb); replace BK410 := Aside0.mk (blk_below (g := gb410) (o := .cells #[.int .i64 t405, .int .i64 t406, .slice Ao45 t407.length co45] 32 (0, 0)) (by (with_reducible repeat (first | refine blk_drewN ?_ _ | refine blk_drew ?_ | refine blk_alloc ?_ _)); refine blk_far ?_ NB410_416.out _; (with_reducible repeat (first | refine blk_drewN ?_ _ | refine blk_drew ?_ | refine blk_alloc ?_ _)); refine blk_far ?_ NB410_416.out _; (with_reducible repeat (first | refine blk_drewN ?_ _ | refine blk_drew ?_ | refine blk_alloc ?_ _)); refine blk_far ?_ NB410_416.out _; (with_reducible repeat (first | refine blk_drewN ?_ _ | refine blk_drew ?_ | refine blk_alloc ?_ _)); exact BK410.out) hb); replace BK416 := Aside0.mk (blk_below (g := gb416) (o := .cells #[.int .i64 t411, .int .i64 t412, .slice Ao53 t413.length co53] 32 (0, 0)) (by (with_reducible repeat (first | refine blk_drewN ?_ _ | refine blk_drew ?_ | refine blk_alloc ?_ _)); refine blk_put (cs := #[.int .i64 t411, .int .i64 t412, .slice none 0 0]) ?_ 2 _ rfl; (with_reducible repeat (first | refine blk_drewN ?_ _ | refine blk_drew ?_ | refine blk_alloc ?_ _)); refine blk_put (cs := #[.int .i64 t411, .int .i64 0, .slice none 0 0]) ?_ 1 _ rfl; (with_reducible repeat (first | refine blk_drewN ?_ _ | refine blk_drew ?_ | refine blk_alloc ?_ _)); refine blk_put (cs := #[.int .i64 0, .int .i64 0, .slice none 0 0]) ?_ 0 _ rfl; (with_reducible repeat (first | refine blk_drewN ?_ _ | refine blk_drew ?_ | refine blk_alloc ?_ _)); exact BK416.out) hb); replace HB := bB HB hb; (try clear hb); (try clear hb2); (try clear hk); (try clear hi)))
   (try simp only [Act.put, q1, q2, q3])
   go_cut [47] (fun v47 wc => ∃ (kq : Nat) (x47_24 : Bool), v47 = .bool x47_24 ∧ Aside0 (laws_FnExactSameFalls.j0 kq x47_24 a0_0 a0_1 l0_2 a1_0 a1_1 l1_2 t405 t406 t407 t411 t412 t413 = some true) ∧ Aside0 (kq ≤ k) ∧ Aside0 (Kd.R k89 89 wc w.heap.size (fun k_ => some k_ ≠ ((.slice Ao53 t413.length co53) : Value).ownBlock) (.slice Ao45 t407.length co45) t407) ∧ Aside0 (Kd.R k89 89 wc w.heap.size (fun k_ => some k_ ≠ ((.slice Ao45 t407.length co45) : Value).ownBlock) (.slice Ao53 t413.length co53) t413) ∧ Aside0 (wc.heap[gb389]? = some (.cells #[.int .i64 a0_0, .int .i64 a0_1, (.slice A0_2 l0_2.length c0_2)] 24 (0, 0))) ∧ Aside0 (wc.heap[gb390]? = some (.cells #[.int .i64 a1_0, .int .i64 a1_1, (.slice A1_2 l1_2.length c1_2)] 24 (0, 0))) ∧ Aside0 (wc.heap[gb410]? = some (.cells #[.int .i64 t405, .int .i64 t406, (.slice Ao45 t407.length co45)] 32 (0, 0))) ∧ Aside0 (wc.heap[gb416]? = some (.cells #[.int .i64 t411, .int .i64 t412, (.slice Ao53 t413.length co53)] 32 (0, 0))) ∧ Aside0 (Below w.heap.size w wc))
   case first =>
    have H := HC25.out
    clear HC25
    by_cases c56 : (t417 != t403) = true
    ·(rw [if_pos c56] at H; exact absurd H (laws_FnExactSameFalls.bad_j0 _ _ _ _ _ _ _ _ _ _ _ _ _))
    ·rw [if_neg c56] at H
     have c56b0 : (t417 != t403) = false := by simpa using c56
     (try (have c56b1 : decide (t417 = t403) = true := by simpa using c56))
     (try (have c56b2 : (t417 == t403) = true := by simpa using c56))
     clear c56
     (first | rw [c56b0] | (simp only [i64_w, i32_w]; rw [c56b0]) | skip)
     have H' := Aside0.mk H
     clear H
     go_wp2
     go_meet
     case rel => exact ⟨_, ((t418 != t404)), (by first | rfl | (simp; done) | (simp [*]; done)), H', ⟨by first | omega | exact Nat.le_refl _⟩, ⟨by (with_reducible repeat (first | apply Kd.R_alloc | apply Kd.R_drewN | apply Kd.R_drew)); exact Kd.R_mono HO409.out (fun _ hk => hk.2)⟩, ⟨by (with_reducible repeat (first | apply Kd.R_alloc | apply Kd.R_drewN | apply Kd.R_drew)); exact Kd.R_mono HO415.out (fun _ hk => hk.2)⟩, ⟨viaK BK389⟩, ⟨viaK BK390⟩, ⟨viaK BK410⟩, ⟨viaK BK416⟩, ⟨viaB HB⟩⟩
   case rest =>
    clear HC25
    (try clear c4b0); (try clear c11b0)
    (try clear hcz29_0); (try clear hcz29_1); (try clear hcz29_2); (try clear hcz31_0); (try clear hcz31_1); (try clear hcz31_2); (try clear hcz39_0); (try clear hcz39_1)
    (try clear hcz39_2); (try clear hcz44_0); (try clear hcz44_1); (try clear hcz44_2); (try clear hcz46_0); (try clear hcz46_1); (try clear hcz46_2); (try clear hcz52_0)
    (try clear hcz52_1); (try clear hcz52_2); (try clear hcz54_0); (try clear hcz54_1); (try clear hcz54_2); (try clear hfz29_0); (try clear hfz29_1); (try clear hfz29_2)
    (try clear hfz31_0); (try clear hfz31_1); (try clear hfz31_2); (try clear hfz39_0); (try clear hfz39_1); (try clear hfz39_2); (try clear hfz44_0); (try clear hfz44_1)
    (try clear hfz44_2); (try clear hfz46_0); (try clear hfz46_1); (try clear hfz46_2); (try clear hfz52_0); (try clear hfz52_1); (try clear hfz52_2); (try clear hfz54_0)
    (try clear hfz54_1); (try clear hfz54_2)
    obtain ⟨kq, x47_24, rfl, HA, HJ24, HO_411002, HO_417002, BK389, BK390, BK410, BK416, HB⟩ := hcut
    cases kq with
    | zero => exact absurd HA.out (by simp [laws_FnExactSameFalls.j0])
    | succ kj24 =>
     have H := HA.out
     clear HA
     simp only [laws_FnExactSameFalls.j0] at H
     by_cases c57 : x47_24 = true
     ·(rw [if_pos c57] at H; exact absurd H (by decide))
     ·replace c57 := Bool.eq_false_iff.mpr c57
      subst c57
      have H1 : ((laws_toBoard.f kj24 a0_0 a0_1 l0_2).bind fun bt419 => ((laws_eqBoard.f kj24 t405 t406 t407 bt419.1 bt419.2.1 bt419.2.2).bind fun t424 => (if t424 = true then ((laws_toBoard.f kj24 a1_0 a1_1 l1_2).bind fun bt425 => ((laws_eqBoard.f kj24 t411 t412 t413 bt425.1 bt425.2.1 bt425.2.2).bind fun t430 => (if t430 = true then (some true) else (some false)))) else (some false)))) = some true := by rw [if_neg (show ¬ (false = true) by decide)] at H; exact H
      clear H
      have H := H1
      clear H1
      replace H := Option.bind_eq_some_iff.mp H
      obtain ⟨⟨t419, t420, t421⟩, A580, H⟩ := H
      replace H : ((laws_eqBoard.f kj24 t405 t406 t407 t419 t420 t421).bind fun t424 => (if t424 = true then ((laws_toBoard.f kj24 a1_0 a1_1 l1_2).bind fun bt425 => ((laws_eqBoard.f kj24 t411 t412 t413 bt425.1 bt425.2.1 bt425.2.2).bind fun t430 => (if t430 = true then (some true) else (some false)))) else (some false))) = some true := H
      have A58 := Aside0.mk A580
      clear A580
      replace H := Option.bind_eq_some_iff.mp H
      obtain ⟨t424, A590, H⟩ := H
      replace H : (if t424 = true then ((laws_toBoard.f kj24 a1_0 a1_1 l1_2).bind fun bt425 => ((laws_eqBoard.f kj24 t411 t412 t413 bt425.1 bt425.2.1 bt425.2.2).bind fun t430 => (if t430 = true then (some true) else (some false)))) else (some false)) = some true := H
      have A59 := Aside0.mk A590
      clear A590
      by_cases c60 : t424 = true
      ·subst c60
       have H1 : ((laws_toBoard.f kj24 a1_0 a1_1 l1_2).bind fun bt425 => ((laws_eqBoard.f kj24 t411 t412 t413 bt425.1 bt425.2.1 bt425.2.2).bind fun t430 => (if t430 = true then (some true) else (some false)))) = some true := by rw [if_pos rfl] at H; exact H
       clear H
       have H := H1
       clear H1
       replace H := Option.bind_eq_some_iff.mp H
       obtain ⟨⟨t425, t426, t427⟩, A610, H⟩ := H
       replace H : ((laws_eqBoard.f kj24 t411 t412 t413 t425 t426 t427).bind fun t430 => (if t430 = true then (some true) else (some false))) = some true := H
       have A61 := Aside0.mk A610
       clear A610
       replace H := Option.bind_eq_some_iff.mp H
       obtain ⟨t430, A620, H⟩ := H
       replace H : (if t430 = true then (some true) else (some false)) = some true := H
       have A62 := Aside0.mk A620
       clear A620
       by_cases c63 : t430 = true
       ·subst c63
        have H1 : (some true) = some true := rfl
        clear H
        have H := H1
        clear H1
        clear H
        try go_wp2
        replace HO_411002 := Aside0.mk (Kd.R_drew HO_411002.out)
        replace HO_417002 := Aside0.mk (Kd.R_drew HO_417002.out)
        replace BK389 := Aside0.mk (blk_drew BK389.out)
        replace BK390 := Aside0.mk (blk_drew BK390.out)
        replace BK410 := Aside0.mk (blk_drew BK410.out)
        replace BK416 := Aside0.mk (blk_drew BK416.out)
        replace HB := Aside0.mk (below_drew1 HB.out)
        refine start_ (n := 5) (S := fun w' => w'.cell? ⟨gb410, 0, none⟩ = some (.int .i64 t405) ∧ w'.cell? ⟨gb410, 1, none⟩ = some (.int .i64 t406) ∧ w'.cell? ⟨gb410, 2, none⟩ = some (.slice Ao45 t407.length co45) ∧ w'.cell? ⟨gb389, 0, none⟩ = some (.int .i64 a0_0) ∧ w'.cell? ⟨gb389, 1, none⟩ = some (.int .i64 a0_1) ∧ w'.cell? ⟨gb389, 2, none⟩ = some (.slice A0_2 l0_2.length c0_2)) (ds := []) #[false, false, false, false, false] (by kernel_rfl) rfl rfl ⟨(blk_cell BK410.out 0).trans rfl, (blk_cell BK410.out 1).trans rfl, (blk_cell BK410.out 2).trans rfl, (blk_cell BK389.out 0).trans rfl, (blk_cell BK389.out 1).trans rfl, (blk_cell BK389.out 2).trans rfl⟩ (fun hHeld => ?_)
        generalize wc.drew = w64 at HO_411002 HO_417002 BK389 BK390 BK410 BK416 HB hHeld ⊢
        refine take_ (i := 0) (N := some 48) (v := ?_) (a' := ?_) #[true, false, false, false, false] rfl rfl (by kernel_rfl) (fun _ _ _ h => h) (Or.inl ⟨by rfl, ?_⟩) hHeld ?_ ?_
        rotate_left
        ·rintro w' ⟨s0, s1, s2, s3, s4, s5⟩
         go_simp
         with_reducible rfl
        rotate_left
        ·simp only [Act.put, q1, q2, q3, i64_w, i32_w]
         rfl
        refine take_ (i := 1) (N := some 49) (v := ?_) (a' := ?_) #[true, true, false, false, false] rfl rfl (by kernel_rfl) (fun _ _ _ h => h) (Or.inl ⟨by rfl, ?_⟩) hHeld ?_ ?_
        rotate_left
        ·rintro w' ⟨s0, s1, s2, s3, s4, s5⟩
         go_simp
         with_reducible rfl
        rotate_left
        ·simp only [Act.put, q1, q2, q3, i64_w, i32_w]
         rfl
        refine one_ (i := 2) (N := some 50) #[true, true, true, false, false] rfl rfl (by kernel_rfl) (by decide) (fun K hK => ?_)
        refine goes_ Try.func15 (by kernel_rfl) rfl #[.agg #[.int .i64 a0_0, .int .i64 a0_1, .slice A0_2 l0_2.length c0_2]] (by rfl) rfl rfl (by (try simp only [List.map_toArray, List.map_cons, List.map_nil]); first | done | rfl | (simp only [List.length_drop, List.length_take]; rfl)) ?_
        with_reducible refine (laws_toBoard.calls kj24 a0_0 a0_1 _ _ l0_2 t419 t420 t421 _ ?side1 ?side2 A58.out).mono ?_
        (case side1 => repeat (first | exact (Kd.C_below HR0_2.out HB.out) | (with_reducible refine Kd.C_alloc ?_ _) | (with_reducible refine Kd.C_drewN ?_ _) | (with_reducible refine Kd.C_drew ?_)))
        (case side2 => exact HC0_2.out)
        rintro e w65 ⟨v422, rfl, ho0, hb⟩
        refine ⟨_, rfl, ?_⟩
        have HO423 := Aside0.mk (Kd.R_lower (Kd.R_new' (Kd.R_new' ho0 (Kd.R_lt (viaR HO_411002))) (Kd.R_lt (viaR HO_417002))) (below_size (viaB HB)))
        replace HO_411002 := Aside0.mk (Kd.R_elder' (viaR HO_411002) (Kd.R_base ho0) hb)
        replace HO_417002 := Aside0.mk (Kd.R_elder' (viaR HO_417002) (Kd.R_base ho0) hb)
        replace BK389 := kB BK389 hb
        replace BK390 := kB BK390 hb
        replace BK410 := kB BK410 hb
        replace BK416 := kB BK416 hb
        replace HB := bB HB hb
        (try clear hb); (try clear ho0)
        obtain ⟨Ao66, co66, eo66⟩ := Kd.R_slice HO423.out
        (first | subst eo66 | (injection eo66 with f1_ f2_ f3_; have f4_ := f1_.symm; have f5_ := f3_.symm; clear f1_ f2_ f3_; subst f4_; subst f5_))
        refine hK.out _ _ ⟨(blk_cell BK410.out 0).trans rfl, (blk_cell BK410.out 1).trans rfl, (blk_cell BK410.out 2).trans rfl, (blk_cell BK389.out 0).trans rfl, (blk_cell BK389.out 1).trans rfl, (blk_cell BK389.out 2).trans rfl⟩ (fun hHeld => ?_)
        clear hK K
        refine norm_ (a' := ?_) ?_ ?_
        rotate_left
        ·show Act.put _ (some 50) _ = _
         simp only [Act.put, q1, q2, q3, i64_w, i32_w]
         rfl
        refine one_ (i := 3) (N := some 51) #[true, true, true, true, false] rfl rfl (by kernel_rfl) (by decide) (fun K hK => ?_)
        refine goes_ Try.func18 (by kernel_rfl) rfl #[.agg #[.int .i64 t405, .int .i64 t406, .slice Ao45 t407.length co45], .agg #[.int .i64 t419, .int .i64 t420, .slice Ao66 t421.length co66]] (by rfl) rfl rfl (by (try simp only [List.map_toArray, List.map_cons, List.map_nil]); first | done | rfl | (simp only [List.length_drop, List.length_take]; rfl)) ?_
        with_reducible refine (laws_eqBoard.calls kj24 t405 t406 _ _ t407 t419 t420 _ _ t421 true _ ?side1 ?side2 ?side3 ?side4 A59.out).mono ?_
        (case side1 => repeat (first | exact (Kd.R_reads' HO_411002.out).2.2 | (with_reducible refine Kd.C_alloc ?_ _) | (with_reducible refine Kd.C_drewN ?_ _) | (with_reducible refine Kd.C_drew ?_)))
        (case side2 => exact (Kd.R_reads' HO_411002.out).2.1)
        (case side3 => repeat (first | exact (Kd.R_reads' HO423.out).2.2 | (with_reducible refine Kd.C_alloc ?_ _) | (with_reducible refine Kd.C_drewN ?_ _) | (with_reducible refine Kd.C_drew ?_)))
        (case side4 => exact (Kd.R_reads' HO423.out).2.1)
        rintro e w67 ⟨rfl, hb⟩
        refine ⟨_, rfl, ?_⟩
        replace HO_411002 := Aside0.mk (Kd.R_below (viaR HO_411002) hb)
        replace HO_417002 := Aside0.mk (Kd.R_below (viaR HO_417002) hb)
        replace HO423 := Aside0.mk (Kd.R_below (viaR HO423) hb)
        replace BK389 := kB BK389 hb
        replace BK390 := kB BK390 hb
        replace BK410 := kB BK410 hb
        replace BK416 := kB BK416 hb
        replace HB := bB HB hb
        (try clear hb)
        refine hK.out _ _ ⟨(blk_cell BK410.out 0).trans rfl, (blk_cell BK410.out 1).trans rfl, (blk_cell BK410.out 2).trans rfl, (blk_cell BK389.out 0).trans rfl, (blk_cell BK389.out 1).trans rfl, (blk_cell BK389.out 2).trans rfl⟩ (fun hHeld => ?_)
        clear hK K
        refine norm_ (a' := ?_) ?_ ?_
        rotate_left
        ·show Act.put _ (some 51) _ = _
         simp only [Act.put, q1, q2, q3, i64_w, i32_w]
         rfl
        refine pure_ (i := 4) (N := some 52) (v := ?_) (a' := ?_) #[true, true, true, true, true] rfl rfl (by kernel_rfl) (fun _ _ _ h => h) (Or.inl ⟨by rfl, ?_⟩) ?_ ?_
        rotate_left
        ·intro w'
         go_simp
         with_reducible rfl
        rotate_left
        ·simp only [Act.put, q1, q2, q3, i64_w, i32_w]
         rfl
        refine done_ (by kernel_rfl) ?_
        try go_wp2
        replace HO_411002 := Aside0.mk (Kd.R_drew HO_411002.out)
        replace HO_417002 := Aside0.mk (Kd.R_drew HO_417002.out)
        replace HO423 := Aside0.mk (Kd.R_drew HO423.out)
        replace BK389 := Aside0.mk (blk_drew BK389.out)
        replace BK390 := Aside0.mk (blk_drew BK390.out)
        replace BK410 := Aside0.mk (blk_drew BK410.out)
        replace BK416 := Aside0.mk (blk_drew BK416.out)
        replace HB := Aside0.mk (below_drew1 HB.out)
        refine start_ (n := 5) (S := fun w' => w'.cell? ⟨gb416, 0, none⟩ = some (.int .i64 t411) ∧ w'.cell? ⟨gb416, 1, none⟩ = some (.int .i64 t412) ∧ w'.cell? ⟨gb416, 2, none⟩ = some (.slice Ao53 t413.length co53) ∧ w'.cell? ⟨gb390, 0, none⟩ = some (.int .i64 a1_0) ∧ w'.cell? ⟨gb390, 1, none⟩ = some (.int .i64 a1_1) ∧ w'.cell? ⟨gb390, 2, none⟩ = some (.slice A1_2 l1_2.length c1_2)) (ds := []) #[false, false, false, false, false] (by kernel_rfl) rfl rfl ⟨(blk_cell BK416.out 0).trans rfl, (blk_cell BK416.out 1).trans rfl, (blk_cell BK416.out 2).trans rfl, (blk_cell BK390.out 0).trans rfl, (blk_cell BK390.out 1).trans rfl, (blk_cell BK390.out 2).trans rfl⟩ (fun hHeld => ?_)
        generalize w67.drew = w68 at HO_411002 HO_417002 HO423 BK389 BK390 BK410 BK416 HB hHeld ⊢
        refine take_ (i := 0) (N := some 53) (v := ?_) (a' := ?_) #[true, false, false, false, false] rfl rfl (by kernel_rfl) (fun _ _ _ h => h) (Or.inl ⟨by rfl, ?_⟩) hHeld ?_ ?_
        rotate_left
        ·rintro w' ⟨s0, s1, s2, s3, s4, s5⟩
         go_simp
         with_reducible rfl
        rotate_left
        ·simp only [Act.put, q1, q2, q3, i64_w, i32_w]
         rfl
        refine take_ (i := 1) (N := some 54) (v := ?_) (a' := ?_) #[true, true, false, false, false] rfl rfl (by kernel_rfl) (fun _ _ _ h => h) (Or.inl ⟨by rfl, ?_⟩) hHeld ?_ ?_
        rotate_left
        ·rintro w' ⟨s0, s1, s2, s3, s4, s5⟩
         go_simp
         with_reducible rfl
        rotate_left
        ·simp only [Act.put, q1, q2, q3, i64_w, i32_w]
         rfl
        refine one_ (i := 2) (N := some 55) #[true, true, true, false, false] rfl rfl (by kernel_rfl) (by decide) (fun K hK => ?_)
        refine goes_ Try.func15 (by kernel_rfl) rfl #[.agg #[.int .i64 a1_0, .int .i64 a1_1, .slice A1_2 l1_2.length c1_2]] (by rfl) rfl rfl (by (try simp only [List.map_toArray, List.map_cons, List.map_nil]); first | done | rfl | (simp only [List.length_drop, List.length_take]; rfl)) ?_
        with_reducible refine (laws_toBoard.calls kj24 a1_0 a1_1 _ _ l1_2 t425 t426 t427 _ ?side1 ?side2 A61.out).mono ?_
        (case side1 => repeat (first | exact (Kd.C_below HR1_2.out HB.out) | (with_reducible refine Kd.C_alloc ?_ _) | (with_reducible refine Kd.C_drewN ?_ _) | (with_reducible refine Kd.C_drew ?_)))
        (case side2 => exact HC1_2.out)
        rintro e w69 ⟨v428, rfl, ho0, hb⟩
        refine ⟨_, rfl, ?_⟩
        have HO429 := Aside0.mk (Kd.R_lower (Kd.R_new' (Kd.R_new' (Kd.R_new' ho0 (Kd.R_lt (viaR HO_411002))) (Kd.R_lt (viaR HO_417002))) (Kd.R_lt (viaR HO423))) (below_size (viaB HB)))
        replace HO_411002 := Aside0.mk (Kd.R_elder' (viaR HO_411002) (Kd.R_base ho0) hb)
        replace HO_417002 := Aside0.mk (Kd.R_elder' (viaR HO_417002) (Kd.R_base ho0) hb)
        replace HO423 := Aside0.mk (Kd.R_elder' (viaR HO423) (Kd.R_base ho0) hb)
        replace BK389 := kB BK389 hb
        replace BK390 := kB BK390 hb
        replace BK410 := kB BK410 hb
        replace BK416 := kB BK416 hb
        replace HB := bB HB hb
        (try clear hb); (try clear ho0)
        obtain ⟨Ao70, co70, eo70⟩ := Kd.R_slice HO429.out
        (first | subst eo70 | (injection eo70 with f1_ f2_ f3_; have f4_ := f1_.symm; have f5_ := f3_.symm; clear f1_ f2_ f3_; subst f4_; subst f5_))
        refine hK.out _ _ ⟨(blk_cell BK416.out 0).trans rfl, (blk_cell BK416.out 1).trans rfl, (blk_cell BK416.out 2).trans rfl, (blk_cell BK390.out 0).trans rfl, (blk_cell BK390.out 1).trans rfl, (blk_cell BK390.out 2).trans rfl⟩ (fun hHeld => ?_)
        clear hK K
        refine norm_ (a' := ?_) ?_ ?_
        rotate_left
        ·show Act.put _ (some 55) _ = _
         simp only [Act.put, q1, q2, q3, i64_w, i32_w]
         rfl
        refine one_ (i := 3) (N := some 56) #[true, true, true, true, false] rfl rfl (by kernel_rfl) (by decide) (fun K hK => ?_)
        refine goes_ Try.func18 (by kernel_rfl) rfl #[.agg #[.int .i64 t411, .int .i64 t412, .slice Ao53 t413.length co53], .agg #[.int .i64 t425, .int .i64 t426, .slice Ao70 t427.length co70]] (by rfl) rfl rfl (by (try simp only [List.map_toArray, List.map_cons, List.map_nil]); first | done | rfl | (simp only [List.length_drop, List.length_take]; rfl)) ?_
        with_reducible refine (laws_eqBoard.calls kj24 t411 t412 _ _ t413 t425 t426 _ _ t427 true _ ?side1 ?side2 ?side3 ?side4 A62.out).mono ?_
        (case side1 => repeat (first | exact (Kd.R_reads' HO_417002.out).2.2 | (with_reducible refine Kd.C_alloc ?_ _) | (with_reducible refine Kd.C_drewN ?_ _) | (with_reducible refine Kd.C_drew ?_)))
        (case side2 => exact (Kd.R_reads' HO_417002.out).2.1)
        (case side3 => repeat (first | exact (Kd.R_reads' HO429.out).2.2 | (with_reducible refine Kd.C_alloc ?_ _) | (with_reducible refine Kd.C_drewN ?_ _) | (with_reducible refine Kd.C_drew ?_)))
        (case side4 => exact (Kd.R_reads' HO429.out).2.1)
        rintro e w71 ⟨rfl, hb⟩
        refine ⟨_, rfl, ?_⟩
        replace HO_411002 := Aside0.mk (Kd.R_below (viaR HO_411002) hb)
        replace HO_417002 := Aside0.mk (Kd.R_below (viaR HO_417002) hb)
        replace HO423 := Aside0.mk (Kd.R_below (viaR HO423) hb)
        replace HO429 := Aside0.mk (Kd.R_below (viaR HO429) hb)
        replace BK389 := kB BK389 hb
        replace BK390 := kB BK390 hb
        replace BK410 := kB BK410 hb
        replace BK416 := kB BK416 hb
        replace HB := bB HB hb
        (try clear hb)
        refine hK.out _ _ ⟨(blk_cell BK416.out 0).trans rfl, (blk_cell BK416.out 1).trans rfl, (blk_cell BK416.out 2).trans rfl, (blk_cell BK390.out 0).trans rfl, (blk_cell BK390.out 1).trans rfl, (blk_cell BK390.out 2).trans rfl⟩ (fun hHeld => ?_)
        clear hK K
        refine norm_ (a' := ?_) ?_ ?_
        rotate_left
        ·show Act.put _ (some 56) _ = _
         simp only [Act.put, q1, q2, q3, i64_w, i32_w]
         rfl
        refine pure_ (i := 4) (N := some 57) (v := ?_) (a' := ?_) #[true, true, true, true, true] rfl rfl (by kernel_rfl) (fun _ _ _ h => h) (Or.inl ⟨by rfl, ?_⟩) ?_ ?_
        rotate_left
        ·intro w'
         go_simp
         with_reducible rfl
        rotate_left
        ·simp only [Act.put, q1, q2, q3, i64_w, i32_w]
         rfl
        refine done_ (by kernel_rfl) ?_
        try go_wp2
        go_ret
        exact ⟨by first | rfl | (simp [errW_none, errW_some] <;> rfl) | (simp [*, errW_none, errW_some] <;> rfl), viaB HB⟩
       ·(rw [if_neg c63] at H; exact absurd H (by decide))
      ·(rw [if_neg c60] at H; exact absurd H (by decide))

end Go.Proofs.Ytoklfgjemfojgaa.PAll
