/- This text began as one that print.sh wrote for this claim (of the functions named below); it is this session's own: turned where Lean did not take the printed proof, where it was too long for a claim, or only in what it imports. -/
import Derived.Test.YtoklfgjemfojgaaHFnExactFallOfx0
import Derived.Test.YtoklfgjemfojgaaHFnExactFallOfx1
import Derived.Test.YtoklfgjemfojgaaHFnExactFallOfx8
import Derived.Test.YtoklfgjemfojgaaHFnExactFallOfx14
import Derived.Test.YtoklfgjemfojgaaHFnExactFallOfx15
namespace Go.Proofs.Ytoklfgjemfojgaa.PFnExactFallOf
open Go.RowKit Go.Proofs.YtoklfgjemfojgaaW.PrintWords Go.Proofs.YtoklfgjemfojgaaW.PrintLast Go.Proofs.YtoklfgjemfojgaaW.PrintMore
attribute [local go_sem] max2_int min2_int max_two min_two max_three min_three max_four min_four   -- for this text's walks alone
set_option linter.unusedVariables false
set_option linter.unusedSimpArgs false

/-! ### laws_FnExactFallOf: function 3 -/
def laws_FnExactFallOf.j0 : Nat → Bool → Int → Int → List (S91) → Int → Int → List (S89) → Option (Bool)
 | 0, _, _, _, _, _, _, _ => none
 | k + 1, x39, x370000, x370001, x370002, x387000, x387001, x387002 => if x39 = true then (some false) else ((laws_toBoard.f k x370000 x370001 x370002).bind fun bt393 => ((laws_eqBoard.f k x387000 x387001 x387002 bt393.1 bt393.2.1 bt393.2.2).bind fun t398 => (if t398 = true then (some true) else (some false))))
def laws_FnExactFallOf.f (k : Nat) (a0_0 : Int) (a0_1 : Int) (l0_2 : List (S91)) (a1 : Int) : Option (Bool) := (laws_szBoard.f a0_0 a0_1 l0_2 1048576).bind fun t370 => (if t370 < 0 then (some true) else ((laws_toBoard.f k a0_0 a0_1 l0_2).bind fun bt371 => ((spec_FallOf.f k bt371.1 bt371.2.1 bt371.2.2 a1).bind fun bt376 => ((laws_toBoard.f k a0_0 a0_1 l0_2).bind fun bt381 => ((impl_FallOf.f k bt381.1 bt381.2.1 bt381.2.2 a1).bind fun bt387 => ((laws_eqFall.f bt387.1 bt387.2.1 bt387.2.2.1 bt376.1 bt376.2.1 bt376.2.2.1).bind fun t392 => (if t392 = true then (laws_FnExactFallOf.j0 k (bt387.2.2.2 != bt376.2.2.2) a0_0 a0_1 l0_2 bt381.1 bt381.2.1 bt381.2.2) else (laws_FnExactFallOf.j0 k true a0_0 a0_1 l0_2 bt381.1 bt381.2.1 bt381.2.2))))))))
theorem laws_FnExactFallOf.mono_l : ∀ k, (∀ y0 y1 y2 y3 y4 y5 y6, LeO (laws_FnExactFallOf.j0 k y0 y1 y2 y3 y4 y5 y6) (laws_FnExactFallOf.j0 (k + 1) y0 y1 y2 y3 y4 y5 y6))
 | 0 => fun _ _ _ _ _ _ _ r h => by simp [laws_FnExactFallOf.j0] at h
 | k + 1 => by
  have ih0 := laws_FnExactFallOf.mono_l k
  ·intro y0 y1 y2 y3 y4 y5 y6
   unfold laws_FnExactFallOf.j0
   repeat' first
   | (with_reducible exact ih0 _ _ _ _ _ _ _)
   | (with_reducible exact impl_FallOf.mono _ _ _ _ _)
   | (with_reducible exact laws_eqBoard.mono _ _ _ _ _ _ _)
   | (with_reducible exact laws_toBoard.mono _ _ _ _)
   | (with_reducible exact spec_FallOf.mono _ _ _ _ _)
   | (with_reducible exact LeO.refl _)
   | (with_reducible exact LeO.none _)
   | (with_reducible refine LeO.ite ?_ ?_)
   | (with_reducible refine LeO.bind ?_ (fun _ => ?_))
   | exact ih0 _ _ _ _ _ _ _
   | exact impl_FallOf.mono _ _ _ _ _
   | exact laws_eqBoard.mono _ _ _ _ _ _ _
   | exact laws_toBoard.mono _ _ _ _
   | exact spec_FallOf.mono _ _ _ _ _
   | exact LeO.none _
   | refine LeO.ite ?_ ?_
   | refine LeO.bind ?_ (fun _ => ?_)
theorem laws_FnExactFallOf.mono : ∀ a0 a1 a2 a3 k, LeO (laws_FnExactFallOf.f k a0 a1 a2 a3) (laws_FnExactFallOf.f (k + 1) a0 a1 a2 a3) := by
 intro a0 a1 a2 a3 k
 have ih0 := laws_FnExactFallOf.mono_l k
 unfold laws_FnExactFallOf.f
 repeat' first
   | (with_reducible exact ih0 _ _ _ _ _ _ _)
   | (with_reducible exact impl_FallOf.mono _ _ _ _ _)
   | (with_reducible exact laws_eqBoard.mono _ _ _ _ _ _ _)
   | (with_reducible exact laws_toBoard.mono _ _ _ _)
   | (with_reducible exact spec_FallOf.mono _ _ _ _ _)
   | (with_reducible exact LeO.refl _)
   | (with_reducible exact LeO.none _)
   | (with_reducible refine LeO.ite ?_ ?_)
   | (with_reducible refine LeO.bind ?_ (fun _ => ?_))
   | exact ih0 _ _ _ _ _ _ _
   | exact impl_FallOf.mono _ _ _ _ _
   | exact laws_eqBoard.mono _ _ _ _ _ _ _
   | exact laws_toBoard.mono _ _ _ _
   | exact spec_FallOf.mono _ _ _ _ _
   | exact LeO.none _
   | refine LeO.ite ?_ ?_
   | refine LeO.bind ?_ (fun _ => ?_)
theorem laws_FnExactFallOf.bad_j0 (k : Nat) (y1 : Int) (y2 : Int) (y3 : List (S91)) (y4 : Int) (y5 : Int) (y6 : List (S89)) : ¬ laws_FnExactFallOf.j0 k true y1 y2 y3 y4 y5 y6 = some true := by
 cases k <;> simp [laws_FnExactFallOf.j0]
set_option maxHeartbeats 8000000 in
set_option maxRecDepth 100000 in
theorem laws_FnExactFallOf.calls (k : Nat) (a0_0 : Int) (a0_1 : Int) (A0_2 : Option Addr) (c0_2 : Nat) (l0_2 : List (S91)) (a1 : Int) (w : World) (hr0_2 : Kd.C k91 w A0_2 l0_2.length l0_2) (hc0_2 : l0_2.length ≤ c0_2) (h : laws_FnExactFallOf.f k a0_0 a0_1 l0_2 a1 = some true) :
  Calls Try.prog 3 #[.agg #[.int .i64 a0_0, .int .i64 a0_1, .slice A0_2 l0_2.length c0_2], .int .i64 a1] w fun e w' => e = .returned (.bool true) ∧ Below w.heap.size w w' := by
 have hu24 := Try.underlying24
 have hu27 := Try.underlying27
 have hu32 := Try.underlying32
 have HR0_2 := Aside0.mk hr0_2
 have HC0_2 := Aside0.mk hc0_2
 clear hr0_2 hc0_2
 have HB := Aside0.mk (Below.refl w.heap.size w)
 have H : ((laws_szBoard.f a0_0 a0_1 l0_2 1048576).bind fun t370 => (if t370 < 0 then (some true) else ((laws_toBoard.f k a0_0 a0_1 l0_2).bind fun bt371 => ((spec_FallOf.f k bt371.1 bt371.2.1 bt371.2.2 a1).bind fun bt376 => ((laws_toBoard.f k a0_0 a0_1 l0_2).bind fun bt381 => ((impl_FallOf.f k bt381.1 bt381.2.1 bt381.2.2 a1).bind fun bt387 => ((laws_eqFall.f bt387.1 bt387.2.1 bt387.2.2.1 bt376.1 bt376.2.1 bt376.2.2.1).bind fun t392 => (if t392 = true then (laws_FnExactFallOf.j0 k (bt387.2.2.2 != bt376.2.2.2) a0_0 a0_1 l0_2 bt381.1 bt381.2.1 bt381.2.2) else (laws_FnExactFallOf.j0 k true a0_0 a0_1 l0_2 bt381.1 bt381.2.1 bt381.2.2))))))))) = some true := h
 clear h
 replace H := Option.bind_eq_some_iff.mp H
 obtain ⟨t370, A30, H⟩ := H
 replace H : (if t370 < 0 then (some true) else ((laws_toBoard.f k a0_0 a0_1 l0_2).bind fun bt371 => ((spec_FallOf.f k bt371.1 bt371.2.1 bt371.2.2 a1).bind fun bt376 => ((laws_toBoard.f k a0_0 a0_1 l0_2).bind fun bt381 => ((impl_FallOf.f k bt381.1 bt381.2.1 bt381.2.2 a1).bind fun bt387 => ((laws_eqFall.f bt387.1 bt387.2.1 bt387.2.2.1 bt376.1 bt376.2.1 bt376.2.2.1).bind fun t392 => (if t392 = true then (laws_FnExactFallOf.j0 k (bt387.2.2.2 != bt376.2.2.2) a0_0 a0_1 l0_2 bt381.1 bt381.2.1 bt381.2.2) else (laws_FnExactFallOf.j0 k true a0_0 a0_1 l0_2 bt381.1 bt381.2.1 bt381.2.2)))))))) = some true := H
 have A3 := Aside0.mk A30
 clear A30
 by_cases c4 : t370 < 0
 ·rw [if_pos c4] at H
  have c4b0 := decide_eq_true c4
  clear c4
  clear H
  go_enter Try.func3, Try.ntmps3
  go_wp2_with (first | ((with_reducible refine gate_dst (N := 2) rfl ?_); refine box_ev (N := 2) (cs := #[.int .i64 a0_0, .int .i64 a0_1, .slice A0_2 l0_2.length c0_2]) (t := 24) ?_; intro gb369 hg w5 hbox hb; have BK369 := Aside0.mk (hbox); have GW369 := gW (w := w) HB hg; have GE369 := gW (w := w) HB hg; replace HB := bB HB hb; clear hb hbox hg; have hcz6_0 := bc0 BK369; have hcz6_1 := bc1 BK369; have hcz6_2 := bc2 BK369; have hfz6_0 := blk_frozen BK369.out 0; have hfz6_1 := blk_frozen BK369.out 1; have hfz6_2 := blk_frozen BK369.out 2) | ((with_reducible refine gate_callee (f := 13) rfl ?_); refine goesA (some 13) _ #[.agg #[.int .i64 a0_0, .int .i64 a0_1, .slice A0_2 l0_2.length c0_2], .int .i64 1048576] ?_ Try.func13; (with_reducible refine (laws_szBoard.calls a0_0 a0_1 _ _ l0_2 1048576 t370 _ ?side1 ?side2 A3.out).mono ?_); (case side1 => repeat (first | exact (Kd.C_below HR0_2.out HB.out) | (with_reducible refine Kd.C_alloc ?_ _) | (with_reducible refine Kd.C_drewN ?_ _) | (with_reducible refine Kd.C_drew ?_))); (case side2 => exact HC0_2.out); rintro e w7 ⟨rfl, hb⟩; refine ⟨_, rfl, ?_⟩; replace BK369 := kB BK369 hb; replace HB := bB HB hb; (try clear hb); (try clear hb2); (try clear hk); (try clear hi)))
  go_ret
  exact ⟨by first | rfl | (simp [errW_none, errW_some] <;> rfl) | (simp [*, errW_none, errW_some] <;> rfl), viaB HB⟩
 ·rw [if_neg c4] at H
  have c4b0 := decide_eq_false c4
  clear c4
  replace H := Option.bind_eq_some_iff.mp H
  obtain ⟨⟨t371, t372, t373⟩, A80, H⟩ := H
  replace H : ((spec_FallOf.f k t371 t372 t373 a1).bind fun bt376 => ((laws_toBoard.f k a0_0 a0_1 l0_2).bind fun bt381 => ((impl_FallOf.f k bt381.1 bt381.2.1 bt381.2.2 a1).bind fun bt387 => ((laws_eqFall.f bt387.1 bt387.2.1 bt387.2.2.1 bt376.1 bt376.2.1 bt376.2.2.1).bind fun t392 => (if t392 = true then (laws_FnExactFallOf.j0 k (bt387.2.2.2 != bt376.2.2.2) a0_0 a0_1 l0_2 bt381.1 bt381.2.1 bt381.2.2) else (laws_FnExactFallOf.j0 k true a0_0 a0_1 l0_2 bt381.1 bt381.2.1 bt381.2.2)))))) = some true := H
  have A8 := Aside0.mk A80
  clear A80
  replace H := Option.bind_eq_some_iff.mp H
  obtain ⟨⟨t376, t377, t378, t379⟩, A90, H⟩ := H
  replace H : ((laws_toBoard.f k a0_0 a0_1 l0_2).bind fun bt381 => ((impl_FallOf.f k bt381.1 bt381.2.1 bt381.2.2 a1).bind fun bt387 => ((laws_eqFall.f bt387.1 bt387.2.1 bt387.2.2.1 t376 t377 t378).bind fun t392 => (if t392 = true then (laws_FnExactFallOf.j0 k (bt387.2.2.2 != t379) a0_0 a0_1 l0_2 bt381.1 bt381.2.1 bt381.2.2) else (laws_FnExactFallOf.j0 k true a0_0 a0_1 l0_2 bt381.1 bt381.2.1 bt381.2.2))))) = some true := H
  have A9 := Aside0.mk A90
  clear A90
  replace H := Option.bind_eq_some_iff.mp H
  obtain ⟨⟨t381, t382, t383⟩, A100, H⟩ := H
  replace H : ((impl_FallOf.f k t381 t382 t383 a1).bind fun bt387 => ((laws_eqFall.f bt387.1 bt387.2.1 bt387.2.2.1 t376 t377 t378).bind fun t392 => (if t392 = true then (laws_FnExactFallOf.j0 k (bt387.2.2.2 != t379) a0_0 a0_1 l0_2 t381 t382 t383) else (laws_FnExactFallOf.j0 k true a0_0 a0_1 l0_2 t381 t382 t383)))) = some true := H
  have A10 := Aside0.mk A100
  clear A100
  replace H := Option.bind_eq_some_iff.mp H
  obtain ⟨⟨t387, t388, t389, t390⟩, A110, H⟩ := H
  replace H : ((laws_eqFall.f t387 t388 t389 t376 t377 t378).bind fun t392 => (if t392 = true then (laws_FnExactFallOf.j0 k (t390 != t379) a0_0 a0_1 l0_2 t381 t382 t383) else (laws_FnExactFallOf.j0 k true a0_0 a0_1 l0_2 t381 t382 t383))) = some true := H
  have A11 := Aside0.mk A110
  clear A110
  have HC12 := Aside0.mk H
  clear H
  go_enter Try.func3, Try.ntmps3
  go_upto_region 8 with (first | ((with_reducible refine gate_dst (N := 2) rfl ?_); refine box_ev (N := 2) (cs := #[.int .i64 a0_0, .int .i64 a0_1, .slice A0_2 l0_2.length c0_2]) (t := 24) ?_; intro gb369 hg w13 hbox hb; have BK369 := Aside0.mk (hbox); have GW369 := gW (w := w) HB hg; have GE369 := gW (w := w) HB hg; replace HB := bB HB hb; clear hb hbox hg; have hcz14_0 := bc0 BK369; have hcz14_1 := bc1 BK369; have hcz14_2 := bc2 BK369; have hfz14_0 := blk_frozen BK369.out 0; have hfz14_1 := blk_frozen BK369.out 1; have hfz14_2 := blk_frozen BK369.out 2) | ((with_reducible refine gate_callee (f := 13) rfl ?_); refine goesA (some 13) _ #[.agg #[.int .i64 a0_0, .int .i64 a0_1, .slice A0_2 l0_2.length c0_2], .int .i64 1048576] ?_ Try.func13; (with_reducible refine (laws_szBoard.calls a0_0 a0_1 _ _ l0_2 1048576 t370 _ ?side1 ?side2 A3.out).mono ?_); (case side1 => repeat (first | exact (Kd.C_below HR0_2.out HB.out) | (with_reducible refine Kd.C_alloc ?_ _) | (with_reducible refine Kd.C_drewN ?_ _) | (with_reducible refine Kd.C_drew ?_))); (case side2 => exact HC0_2.out); rintro e w15 ⟨rfl, hb⟩; refine ⟨_, rfl, ?_⟩; replace BK369 := kB BK369 hb; replace HB := bB HB hb; (try clear hb); (try clear hb2); (try clear hk); (try clear hi); have hcz16_0 := bc0 BK369; have hcz16_1 := bc1 BK369; have hcz16_2 := bc2 BK369; have hfz16_0 := blk_frozen BK369.out 0; have hfz16_1 := blk_frozen BK369.out 1; have hfz16_2 := blk_frozen BK369.out 2) | ((with_reducible refine gate_callee (f := 15) rfl ?_); refine goesA (some 18) _ #[.agg #[.int .i64 a0_0, .int .i64 a0_1, .slice A0_2 l0_2.length c0_2]] ?_ Try.func15; (with_reducible refine (laws_toBoard.calls k a0_0 a0_1 _ _ l0_2 t371 t372 t373 _ ?side1 ?side2 A8.out).mono ?_); (case side1 => repeat (first | exact (Kd.C_below HR0_2.out HB.out) | (with_reducible refine Kd.C_alloc ?_ _) | (with_reducible refine Kd.C_drewN ?_ _) | (with_reducible refine Kd.C_drew ?_))); (case side2 => exact HC0_2.out); rintro e w17 ⟨v374, rfl, ho0, hb⟩; refine ⟨_, rfl, ?_⟩; have HO375 := Aside0.mk (Kd.R_lower ho0 (below_size (viaB HB))); replace BK369 := kB BK369 hb; replace HB := bB HB hb; (try clear hb); (try clear hb2); (try clear hk); (try clear hi); (try clear ho0); obtain ⟨Ao18, co18, eo18⟩ := Kd.R_slice HO375.out; subst eo18) | ((with_reducible refine gate_callee (f := 14) rfl ?_); refine goesA (some 20) _ #[.agg #[.int .i64 t371, .int .i64 t372, .slice Ao18 t373.length co18], .int .i64 a1] ?_ Try.func14; (with_reducible refine (spec_FallOf.calls k t371 t372 _ _ t373 a1 t376 t377 t378 t379 _ ?side1 ?side2 A9.out).mono ?_); (case side1 => repeat (first | exact (Kd.R_reads' HO375.out).2.2 | (with_reducible refine Kd.C_alloc ?_ _) | (with_reducible refine Kd.C_drewN ?_ _) | (with_reducible refine Kd.C_drew ?_))); (case side2 => exact (Kd.R_reads' HO375.out).2.1); rintro e w19 ⟨rfl, hb⟩; refine ⟨_, rfl, ?_⟩; replace HO375 := Aside0.mk (Kd.R_below (viaR HO375) hb); replace BK369 := kB BK369 hb; replace HB := bB HB hb; (try clear hb); (try clear hb2); (try clear hk); (try clear hi)) | ((with_reducible refine gate_dst (N := 6) rfl ?_); refine box_ev (N := 6) (cs := #[.int .i64 0, .int .i64 0, .int .i64 0]) (t := 27) ?_; intro gb380 hg w20 hbox hb; have BK380 := Aside0.mk (hbox); have GW380 := gW (w := w) HB hg; have GE380 := gW (w := w) HB hg; have NB369_380 := neL BK369 hg; have NB380_369 := neG BK369 hg; replace HO375 := Aside0.mk (Kd.R_below (viaR HO375) hb); replace BK369 := kB BK369 hb; replace HB := bB HB hb; clear hb hbox hg; have hnb21 := NB380_369.out; have hnc21 := NB369_380.out; have hcz22_0 := bc0 BK380; have hcz22_1 := bc1 BK380; have hcz22_2 := bc2 BK380; have hfz22_0 := blk_frozen BK380.out 0; have hfz22_1 := blk_frozen BK380.out 1; have hfz22_2 := blk_frozen BK380.out 2; have hcz23_0 := bc0 BK369; have hcz23_1 := bc1 BK369; have hcz23_2 := bc2 BK369; have hfz23_0 := blk_frozen BK369.out 0; have hfz23_1 := blk_frozen BK369.out 1; have hfz23_2 := blk_frozen BK369.out 2) | ((with_reducible refine gate_callee (f := 15) rfl ?_); refine goesA (some 24) _ #[.agg #[.int .i64 a0_0, .int .i64 a0_1, .slice A0_2 l0_2.length c0_2]] ?_ Try.func15; (with_reducible refine (laws_toBoard.calls k a0_0 a0_1 _ _ l0_2 t381 t382 t383 _ ?side1 ?side2 A10.out).mono ?_); (case side1 => exact Kd.C_below HR0_2.out (viaB HB)); (case side2 => exact HC0_2.out); rintro e w24 ⟨v384, rfl, ho0, hb⟩; refine ⟨_, rfl, ?_⟩; have HO385 := Aside0.mk (Kd.R_lower (Kd.R_new' ho0 (Kd.R_lt (by (with_reducible repeat (first | apply Kd.R_alloc | apply Kd.R_drewN | apply Kd.R_drew)); exact (Kd.R_mono (Kd.R_far (p := ⟨gb380, 2, none⟩) (Kd.R_far (p := ⟨gb380, 1, none⟩) (Kd.R_far (p := ⟨gb380, 0, none⟩) (Kd.R_types HO375.out BK380.out (by decide)) (fun _ hk => hk.2) (.int .i64 t376)) (fun _ hk => hk.2) (.int .i64 t377)) (fun _ hk => hk.2) (.int .i64 t378)) (fun _ h_ => h_.1))))) (below_size (viaB HB))); replace HO375 := Aside0.mk (Kd.R_elder' (by (with_reducible repeat (first | apply Kd.R_alloc | apply Kd.R_drewN | apply Kd.R_drew)); exact (Kd.R_mono (Kd.R_far (p := ⟨gb380, 2, none⟩) (Kd.R_far (p := ⟨gb380, 1, none⟩) (Kd.R_far (p := ⟨gb380, 0, none⟩) (Kd.R_types HO375.out BK380.out (by decide)) (fun _ hk => hk.2) (.int .i64 t376)) (fun _ hk => hk.2) (.int .i64 t377)) (fun _ hk => hk.2) (.int .i64 t378)) (fun _ h_ => h_.1))) (Kd.R_base ho0) hb); replace BK369 := Aside0.mk (blk_below (g := gb369) (o := .cells #[.int .i64 a0_0, .int .i64 a0_1, .slice A0_2 l0_2.length c0_2] 24 (0, 0)) (by (with_reducible repeat (first | refine blk_drewN ?_ _ | refine blk_drew ?_ | refine blk_alloc ?_ _)); refine blk_far ?_ NB369_380.out _; (with_reducible repeat (first | refine blk_drewN ?_ _ | refine blk_drew ?_ | refine blk_alloc ?_ _)); refine blk_far ?_ NB369_380.out _; (with_reducible repeat (first | refine blk_drewN ?_ _ | refine blk_drew ?_ | refine blk_alloc ?_ _)); refine blk_far ?_ NB369_380.out _; (with_reducible repeat (first | refine blk_drewN ?_ _ | refine blk_drew ?_ | refine blk_alloc ?_ _)); exact BK369.out) hb); replace BK380 := Aside0.mk (blk_below (g := gb380) (o := .cells #[.int .i64 t376, .int .i64 t377, .int .i64 t378] 27 (0, 0)) (by (with_reducible repeat (first | refine blk_drewN ?_ _ | refine blk_drew ?_ | refine blk_alloc ?_ _)); refine blk_put (cs := #[.int .i64 t376, .int .i64 t377, .int .i64 0]) ?_ 2 _ rfl; (with_reducible repeat (first | refine blk_drewN ?_ _ | refine blk_drew ?_ | refine blk_alloc ?_ _)); refine blk_put (cs := #[.int .i64 t376, .int .i64 0, .int .i64 0]) ?_ 1 _ rfl; (with_reducible repeat (first | refine blk_drewN ?_ _ | refine blk_drew ?_ | refine blk_alloc ?_ _)); refine blk_put (cs := #[.int .i64 0, .int .i64 0, .int .i64 0]) ?_ 0 _ rfl; (with_reducible repeat (first | refine blk_drewN ?_ _ | refine blk_drew ?_ | refine blk_alloc ?_ _)); exact BK380.out) hb); replace HB := bB HB hb; (try clear hb); (try clear hb2); (try clear hk); (try clear hi); (try clear ho0)) | ((with_reducible refine gate_dst (N := 8) rfl ?_); refine box_ev (N := 8) (cs := #[.int .i64 0, .int .i64 0, .slice none 0 0]) (t := 32) ?_; intro gb386 hg w25 hbox hb; have BK386 := Aside0.mk (hbox); have GW386 := gW (w := w) HB hg; have GE386 := gW (w := w) HB hg; have NB369_386 := neL BK369 hg; have NB386_369 := neG BK369 hg; have NB380_386 := neL BK380 hg; have NB386_380 := neG BK380 hg; replace HO375 := Aside0.mk (Kd.R_below (viaR HO375) hb); replace HO385 := Aside0.mk (Kd.R_below (viaR HO385) hb); replace BK369 := kB BK369 hb; replace BK380 := kB BK380 hb; replace HB := bB HB hb; clear hb hbox hg; have hnb26 := NB386_369.out; have hnc26 := NB369_386.out; have hnb27 := NB386_380.out; have hnc27 := NB380_386.out; have hcz28_0 := bc0 BK386; have hcz28_1 := bc1 BK386; have hcz28_2 := bc2 BK386; have hfz28_0 := blk_frozen BK386.out 0; have hfz28_1 := blk_frozen BK386.out 1; have hfz28_2 := blk_frozen BK386.out 2; obtain ⟨Ao29, co29, eo29⟩ := Kd.R_slice HO385.out; subst eo29) | ((with_reducible refine gate_callee (f := 16) rfl ?_); refine goesA (some 28) _ #[.agg #[.int .i64 t381, .int .i64 t382, .slice Ao29 t383.length co29], .int .i64 a1] ?_ Try.func16; (with_reducible refine (impl_FallOf.calls k t381 t382 _ _ t383 a1 t387 t388 t389 t390 _ ?side1 ?side2 A11.out).mono ?_); (case side1 => refine (Kd.R_reads' (e := 89) (base := w.heap.size) (ok := fun k_ => (True ∧ some k_ ≠ (.slice Ao18 t373.length co18 : Value).ownBlock)) (n := t383.length) (c := co29) ?_).2.2; exact (by (with_reducible repeat (first | apply Kd.R_alloc | apply Kd.R_drewN | apply Kd.R_drew)); exact (Kd.R_mono (Kd.R_far (p := ⟨gb386, 2, none⟩) (Kd.R_far (p := ⟨gb386, 1, none⟩) (Kd.R_far (p := ⟨gb386, 0, none⟩) (Kd.R_types HO385.out BK386.out (by decide)) (fun _ hk => hk.2) (.int .i64 t381)) (fun _ hk => hk.2) (.int .i64 t382)) (fun _ hk => hk.2) (.slice Ao29 t383.length co29)) (fun _ h_ => h_.1)))); (case side2 => exact (Kd.R_reads' HO385.out).2.1); rintro e w30 ⟨rfl, hb⟩; refine ⟨_, rfl, ?_⟩; replace HO375 := Aside0.mk (Kd.R_below (by (with_reducible repeat (first | apply Kd.R_alloc | apply Kd.R_drewN | apply Kd.R_drew)); exact (Kd.R_mono (Kd.R_far (p := ⟨gb386, 2, none⟩) (Kd.R_far (p := ⟨gb386, 1, none⟩) (Kd.R_far (p := ⟨gb386, 0, none⟩) (Kd.R_types HO375.out BK386.out (by decide)) (fun _ hk => hk.2) (.int .i64 t381)) (fun _ hk => hk.2) (.int .i64 t382)) (fun _ hk => hk.2) (.slice Ao29 t383.length co29)) (fun _ h_ => h_.1))) hb); replace HO385 := Aside0.mk (Kd.R_below (by (with_reducible repeat (first | apply Kd.R_alloc | apply Kd.R_drewN | apply Kd.R_drew)); exact (Kd.R_mono (Kd.R_far (p := ⟨gb386, 2, none⟩) (Kd.R_far (p := ⟨gb386, 1, none⟩) (Kd.R_far (p := ⟨gb386, 0, none⟩) (Kd.R_types HO385.out BK386.out (by decide)) (fun _ hk => hk.2) (.int .i64 t381)) (fun _ hk => hk.2) (.int .i64 t382)) (fun _ hk => hk.2) (.slice Ao29 t383.length co29)) (fun _ h_ => h_.1))) hb); replace BK369 := Aside0.mk (blk_below (g := gb369) (o := .cells #[.int .i64 a0_0, .int .i64 a0_1, .slice A0_2 l0_2.length c0_2] 24 (0, 0)) (by (with_reducible repeat (first | refine blk_drewN ?_ _ | refine blk_drew ?_ | refine blk_alloc ?_ _)); refine blk_far ?_ NB369_386.out _; (with_reducible repeat (first | refine blk_drewN ?_ _ | refine blk_drew ?_ | refine blk_alloc ?_ _)); refine blk_far ?_ NB369_386.out _; (with_reducible repeat (first | refine blk_drewN ?_ _ | refine blk_drew ?_ | refine blk_alloc ?_ _)); refine blk_far ?_ NB369_386.out _; (with_reducible repeat (first | refine blk_drewN ?_ _ | refine blk_drew ?_ | refine blk_alloc ?_ _)); exact BK369.out) hb); replace BK380 := Aside0.mk (blk_below (g := gb380) (o := .cells #[.int .i64 t376, .int .i64 t377, .int .i64 t378] 27 (0, 0)) (by (with_reducible repeat (first | refine blk_drewN ?_ _ | refine blk_drew ?_ | refine blk_alloc ?_ _)); refine blk_far ?_ NB380_386.out _; (with_reducible repeat (first | refine blk_drewN ?_ _ | refine blk_drew ?_ | refine blk_alloc ?_ _)); refine blk_far ?_ NB380_386.out _; (with_reducible repeat (first | refine blk_drewN ?_ _ | refine blk_drew ?_ | refine blk_alloc ?_ _)); refine blk_far ?_ NB380_386.out _; (with_reducible repeat (first | refine blk_drewN ?_ _ | refine blk_drew ?_ | refine blk_alloc ?_ _)); exact BK380.out) hb); replace BK386 := Aside0.mk (blk_below (g := gb386) (o := .cells #[.int .i64 t381, .int .i64 t382, .slice Ao29 t383.length co29] 32 (0, 0)) (by (with_reducible repeat (first | refine blk_drewN ?_ _ | refine blk_drew ?_ | refine blk_alloc ?_ _)); refine blk_put (cs := #[.int .i64 t381, .int .i64 t382, .slice none 0 0]) ?_ 2 _ rfl; (with_reducible repeat (first | refine blk_drewN ?_ _ | refine blk_drew ?_ | refine blk_alloc ?_ _)); refine blk_put (cs := #[.int .i64 t381, .int .i64 0, .slice none 0 0]) ?_ 1 _ rfl; (with_reducible repeat (first | refine blk_drewN ?_ _ | refine blk_drew ?_ | refine blk_alloc ?_ _)); refine blk_put (cs := #[.int .i64 0, .int .i64 0, .slice none 0 0]) ?_ 0 _ rfl; (with_reducible repeat (first | refine blk_drewN ?_ _ | refine blk_drew ?_ | refine blk_alloc ?_ _)); exact BK386.out) hb); replace HB := bB HB hb; (try clear hb); (try clear hb2); (try clear hk); (try clear hi)) | ((with_reducible refine gate_dst (N := 9) rfl ?_); refine box_ev (N := 9) (cs := #[.int .i64 0, .int .i64 0, .int .i64 0]) (t := 27) ?_; intro gb391 hg w31 hbox hb; have BK391 := Aside0.mk (hbox); have GW391 := gW (w := w) HB hg; have GE391 := gW (w := w) HB hg; have NB369_391 := neL BK369 hg; have NB391_369 := neG BK369 hg; have NB380_391 := neL BK380 hg; have NB391_380 := neG BK380 hg; have NB386_391 := neL BK386 hg; have NB391_386 := neG BK386 hg; replace HO375 := Aside0.mk (Kd.R_below (viaR HO375) hb); replace HO385 := Aside0.mk (Kd.R_below (viaR HO385) hb); replace BK369 := kB BK369 hb; replace BK380 := kB BK380 hb; replace BK386 := kB BK386 hb; replace HB := bB HB hb; clear hb hbox hg; have hnb32 := NB391_369.out; have hnc32 := NB369_391.out; have hnb33 := NB391_380.out; have hnc33 := NB380_391.out; have hnb34 := NB391_386.out; have hnc34 := NB386_391.out; have hcz35_0 := bc0 BK391; have hcz35_1 := bc1 BK391; have hcz35_2 := bc2 BK391; have hfz35_0 := blk_frozen BK391.out 0; have hfz35_1 := blk_frozen BK391.out 1; have hfz35_2 := blk_frozen BK391.out 2))
  (try simp only [Act.put, q1, q2, q3])
  go_cut [39] (fun v39 wc => ∃ (kq : Nat) (x39_11 : Bool), v39 = .bool x39_11 ∧ Aside0 (laws_FnExactFallOf.j0 kq x39_11 a0_0 a0_1 l0_2 t381 t382 t383 = some true) ∧ Aside0 (kq ≤ k) ∧ Aside0 (Kd.R k89 89 wc w.heap.size (fun _ => True) (.slice Ao29 t383.length co29) t383) ∧ Aside0 (wc.heap[gb369]? = some (.cells #[.int .i64 a0_0, .int .i64 a0_1, (.slice A0_2 l0_2.length c0_2)] 24 (0, 0))) ∧ Aside0 (wc.heap[gb380]? = some (.cells #[.int .i64 t376, .int .i64 t377, .int .i64 t378] 27 (0, 0))) ∧ Aside0 (wc.heap[gb386]? = some (.cells #[.int .i64 t381, .int .i64 t382, (.slice Ao29 t383.length co29)] 32 (0, 0))) ∧ Aside0 (wc.heap[gb391]? = some (.cells #[.int .i64 t387, .int .i64 t388, .int .i64 t389] 27 (0, 0))) ∧ Aside0 (Below w.heap.size w wc))
  case first =>
   have H := HC12.out
   clear HC12
   replace H := Option.bind_eq_some_iff.mp H
   obtain ⟨t392, A360, H⟩ := H
   replace H : (if t392 = true then (laws_FnExactFallOf.j0 k (t390 != t379) a0_0 a0_1 l0_2 t381 t382 t383) else (laws_FnExactFallOf.j0 k true a0_0 a0_1 l0_2 t381 t382 t383)) = some true := H
   have A36 := Aside0.mk A360
   clear A360
   by_cases c37 : t392 = true
   ·subst c37
    have H1 : (laws_FnExactFallOf.j0 k (t390 != t379) a0_0 a0_1 l0_2 t381 t382 t383) = some true := by rw [if_pos rfl] at H; exact H
    clear H
    have H := H1
    clear H1
    have H' := Aside0.mk H
    clear H
    have hnb38 := NB391_369.out
    have hnc38 := NB369_391.out
    have hnb39 := NB391_380.out
    have hnc39 := NB380_391.out
    have hnb40 := NB391_386.out
    have hnc40 := NB386_391.out
    have hcz41_0 := bc0 BK391
    have hcz41_1 := bc1 BK391
    have hcz41_2 := bc2 BK391
    have hfz41_0 := blk_frozen BK391.out 0
    have hfz41_1 := blk_frozen BK391.out 1
    have hfz41_2 := blk_frozen BK391.out 2
    have hnb42 := NB380_369.out
    have hnc42 := NB369_380.out
    have hnb43 := NB380_386.out
    have hnc43 := NB386_380.out
    have hcz44_0 := bc0 BK380
    have hcz44_1 := bc1 BK380
    have hcz44_2 := bc2 BK380
    have hfz44_0 := blk_frozen BK380.out 0
    have hfz44_1 := blk_frozen BK380.out 1
    have hfz44_2 := blk_frozen BK380.out 2
    go_wp2_with (first | ((with_reducible refine gate_callee (f := 17) rfl ?_); refine goesA (some 33) _ #[.agg #[.int .i64 t387, .int .i64 t388, .int .i64 t389], .agg #[.int .i64 t376, .int .i64 t377, .int .i64 t378]] ?_ Try.func17; (with_reducible refine (laws_eqFall.calls t387 t388 t389 t376 t377 t378 true _ A36.out).mono ?_); rintro e w45 ⟨rfl, hb⟩; refine ⟨_, rfl, ?_⟩; replace HO375 := Aside0.mk (Kd.R_below (by (with_reducible repeat (first | apply Kd.R_alloc | apply Kd.R_drewN | apply Kd.R_drew)); exact (Kd.R_mono (Kd.R_far (p := ⟨gb391, 2, none⟩) (Kd.R_far (p := ⟨gb391, 1, none⟩) (Kd.R_far (p := ⟨gb391, 0, none⟩) (Kd.R_types HO375.out BK391.out (by decide)) (fun _ hk => hk.2) (.int .i64 t387)) (fun _ hk => hk.2) (.int .i64 t388)) (fun _ hk => hk.2) (.int .i64 t389)) (fun _ h_ => h_.1))) hb); replace HO385 := Aside0.mk (Kd.R_below (by (with_reducible repeat (first | apply Kd.R_alloc | apply Kd.R_drewN | apply Kd.R_drew)); exact (Kd.R_mono (Kd.R_far (p := ⟨gb391, 2, none⟩) (Kd.R_far (p := ⟨gb391, 1, none⟩) (Kd.R_far (p := ⟨gb391, 0, none⟩) (Kd.R_types HO385.out BK391.out (by decide)) (fun _ hk => hk.2) (.int .i64 t387)) (fun _ hk => hk.2) (.int .i64 t388)) (fun _ hk => hk.2) (.int .i64 t389)) (fun _ h_ => h_.1))) hb); replace BK369 := Aside0.mk (blk_below (g := gb369) (o := .cells #[.int .i64 a0_0, .int .i64 a0_1, .slice A0_2 l0_2.length c0_2] 24 (0, 0)) (by (with_reducible repeat (first | refine blk_drewN ?_ _ | refine blk_drew ?_ | refine blk_alloc ?_ _)); refine blk_far ?_ NB369_391.out _; (with_reducible repeat (first | refine blk_drewN ?_ _ | refine blk_drew ?_ | refine blk_alloc ?_ _)); refine blk_far ?_ NB369_391.out _; (with_reducible repeat (first | refine blk_drewN ?_ _ | refine blk_drew ?_ | refine blk_alloc ?_ _)); refine blk_far ?_ NB369_391.out _; (with_reducible repeat (first | refine blk_drewN ?_ _ | refine blk_drew ?_ | refine blk_alloc ?_ _)); exact BK369.out) hb); replace BK380 := Aside0.mk (blk_below (g := gb380) (o := .cells #[.int .i64 t376, .int .i64 t377, .int .i64 t378] 27 (0, 0)) (by (with_reducible repeat (first | refine blk_drewN ?_ _ | refine blk_drew ?_ | refine blk_alloc ?_ _)); refine blk_far ?_ NB380_391.out _; (with_reducible repeat (first | refine blk_drewN ?_ _ | refine blk_drew ?_ | refine blk_alloc ?_ _)); refine blk_far ?_ NB380_391.out _; (with_reducible repeat (first | refine blk_drewN ?_ _ | refine blk_drew ?_ | refine blk_alloc ?_ _)); refine blk_far ?_ NB380_391.out _; (with_reducible repeat (first | refine blk_drewN ?_ _ | refine blk_drew ?_ | refine blk_alloc ?_ _)); exact BK380.out) hb); replace BK386 := Aside0.mk (blk_below (g := gb386) (o := .cells #[.int .i64 t381, .int .i64 t382, .slice Ao29 t383.length co29] 32 (0, 0)) (by (with_reducible repeat (first | refine blk_drewN ?_ _ | refine blk_drew ?_ | refine blk_alloc ?_ _)); refine blk_far ?_ NB386_391.out _; (with_reducible repeat (first | refine blk_drewN ?_ _ | refine blk_drew ?_ | refine blk_alloc ?_ _)); refine blk_far ?_ NB386_391.out _; (with_reducible repeat (first | refine blk_drewN ?_ _ | refine blk_drew ?_ | refine blk_alloc ?_ _)); refine blk_far ?_ NB386_391.out _; (with_reducible repeat (first | refine blk_drewN ?_ _ | refine blk_drew ?_ | refine blk_alloc ?_ _)); exact BK386.out) hb); replace BK391 := Aside0.mk (blk_below (g := gb391) (o := .cells #[.int .i64 t387, .int .i64 t388, .int .i64 t389] 27 (0, 0)) (by (with_reducible repeat (first | refine blk_drewN ?_ _ | refine blk_drew ?_ | refine blk_alloc ?_ _)); refine blk_put (cs := #[.int .i64 t387, .int .i64 t388, .int .i64 0]) ?_ 2 _ rfl; (with_reducible repeat (first | refine blk_drewN ?_ _ | refine blk_drew ?_ | refine blk_alloc ?_ _)); refine blk_put (cs := #[.int .i64 t387, .int .i64 0, .int .i64 0]) ?_ 1 _ rfl; (with_reducible repeat (first | refine blk_drewN ?_ _ | refine blk_drew ?_ | refine blk_alloc ?_ _)); refine blk_put (cs := #[.int .i64 0, .int .i64 0, .int .i64 0]) ?_ 0 _ rfl; (with_reducible repeat (first | refine blk_drewN ?_ _ | refine blk_drew ?_ | refine blk_alloc ?_ _)); exact BK391.out) hb); replace HB := bB HB hb; (try clear hb); (try clear hb2); (try clear hk); (try clear hi)))
    go_meet
    case rel => exact ⟨_, ((t390 != t379)), (by first | rfl | (simp; done) | (simp [*]; done)), H', ⟨by first | omega | exact Nat.le_refl _⟩, ⟨by (with_reducible repeat (first | apply Kd.R_alloc | apply Kd.R_drewN | apply Kd.R_drew)); exact Kd.R_mono HO385.out (fun _ hk => trivial)⟩, ⟨viaK BK369⟩, ⟨viaK BK380⟩, ⟨viaK BK386⟩, ⟨viaK BK391⟩, ⟨viaB HB⟩⟩
   ·(rw [if_neg c37] at H; exact absurd H (laws_FnExactFallOf.bad_j0 _ _ _ _ _ _ _))
  case rest =>
   clear HC12
   (try clear c4); (try clear c4b0); (try clear c37)
   (try clear hcz14_0 hcz14_1 hcz14_2); (try clear hcz16_0 hcz16_1 hcz16_2); (try clear hcz22_0 hcz22_1 hcz22_2); (try clear hcz23_0 hcz23_1 hcz23_2); (try clear hcz28_0 hcz28_1 hcz28_2); (try clear hcz35_0 hcz35_1 hcz35_2); (try clear hcz41_0 hcz41_1 hcz41_2); (try clear hcz44_0 hcz44_1 hcz44_2); (try clear hcz6_0 hcz6_1 hcz6_2); (try clear hfz14_0 hfz14_1 hfz14_2); (try clear hfz16_0 hfz16_1 hfz16_2); (try clear hfz22_0 hfz22_1 hfz22_2); (try clear hfz23_0 hfz23_1 hfz23_2); (try clear hfz28_0 hfz28_1 hfz28_2); (try clear hfz35_0 hfz35_1 hfz35_2); (try clear hfz41_0 hfz41_1 hfz41_2); (try clear hfz44_0 hfz44_1 hfz44_2); (try clear hfz6_0 hfz6_1 hfz6_2)
   obtain ⟨kq, x39_11, rfl, HA, HJ11, HO_387002, BK369, BK380, BK386, BK391, HB⟩ := hcut
   cases kq with
   | zero => exact absurd HA.out (by simp [laws_FnExactFallOf.j0])
   | succ kj11 =>
    have H := HA.out
    clear HA
    simp only [laws_FnExactFallOf.j0] at H
    by_cases c54 : x39_11 = true
    ·(rw [if_pos c54] at H; exact absurd H (by decide))
    ·replace c54 := Bool.eq_false_iff.mpr c54
     subst c54
     have H1 : ((laws_toBoard.f kj11 a0_0 a0_1 l0_2).bind fun bt393 => ((laws_eqBoard.f kj11 t381 t382 t383 bt393.1 bt393.2.1 bt393.2.2).bind fun t398 => (if t398 = true then (some true) else (some false)))) = some true := by rw [if_neg (show ¬ (false = true) by decide)] at H; exact H
     clear H
     have H := H1
     clear H1
     replace H := Option.bind_eq_some_iff.mp H
     obtain ⟨⟨t393, t394, t395⟩, A550, H⟩ := H
     replace H : ((laws_eqBoard.f kj11 t381 t382 t383 t393 t394 t395).bind fun t398 => (if t398 = true then (some true) else (some false))) = some true := H
     have A55 := Aside0.mk A550
     clear A550
     replace H := Option.bind_eq_some_iff.mp H
     obtain ⟨t398, A560, H⟩ := H
     replace H : (if t398 = true then (some true) else (some false)) = some true := H
     have A56 := Aside0.mk A560
     clear A560
     by_cases c57 : t398 = true
     ·subst c57
      have H1 : (some true) = some true := rfl
      clear H
      have H := H1
      clear H1
      clear H
      try go_wp2
      replace HO_387002 := Aside0.mk (Kd.R_drew HO_387002.out)
      replace BK369 := Aside0.mk (blk_drew BK369.out)
      replace BK380 := Aside0.mk (blk_drew BK380.out)
      replace BK386 := Aside0.mk (blk_drew BK386.out)
      replace BK391 := Aside0.mk (blk_drew BK391.out)
      replace HB := Aside0.mk (below_drew1 HB.out)
      refine start_ (n := 5) (S := fun w' => w'.cell? ⟨gb386, 0, none⟩ = some (.int .i64 t381) ∧ w'.cell? ⟨gb386, 1, none⟩ = some (.int .i64 t382) ∧ w'.cell? ⟨gb386, 2, none⟩ = some (.slice Ao29 t383.length co29) ∧ w'.cell? ⟨gb369, 0, none⟩ = some (.int .i64 a0_0) ∧ w'.cell? ⟨gb369, 1, none⟩ = some (.int .i64 a0_1) ∧ w'.cell? ⟨gb369, 2, none⟩ = some (.slice A0_2 l0_2.length c0_2)) (ds := []) #[false, false, false, false, false] (by kernel_rfl) rfl rfl ⟨(blk_cell BK386.out 0).trans rfl, (blk_cell BK386.out 1).trans rfl, (blk_cell BK386.out 2).trans rfl, (blk_cell BK369.out 0).trans rfl, (blk_cell BK369.out 1).trans rfl, (blk_cell BK369.out 2).trans rfl⟩ (fun hHeld => ?_)
      generalize wc.drew = w58 at HO_387002 BK369 BK380 BK386 BK391 HB hHeld ⊢
      refine take_ (i := 0) (N := some 40) (v := ?_) (a' := ?_) #[true, false, false, false, false] rfl rfl (by kernel_rfl) (fun _ _ _ h => h) (Or.inl ⟨by rfl, ?_⟩) hHeld ?_ ?_
      rotate_left
      ·rintro w' ⟨s0, s1, s2, s3, s4, s5⟩
       go_simp
       with_reducible rfl
      rotate_left
      ·simp only [Act.put, q1, q2, q3, i64_w, i32_w]
       rfl
      refine take_ (i := 1) (N := some 41) (v := ?_) (a' := ?_) #[true, true, false, false, false] rfl rfl (by kernel_rfl) (fun _ _ _ h => h) (Or.inl ⟨by rfl, ?_⟩) hHeld ?_ ?_
      rotate_left
      ·rintro w' ⟨s0, s1, s2, s3, s4, s5⟩
       go_simp
       with_reducible rfl
      rotate_left
      ·simp only [Act.put, q1, q2, q3, i64_w, i32_w]
       rfl
      refine one_ (i := 2) (N := some 42) #[true, true, true, false, false] rfl rfl (by kernel_rfl) (by decide) (fun K hK => ?_)
      refine goes_ Try.func15 (by kernel_rfl) rfl #[.agg #[.int .i64 a0_0, .int .i64 a0_1, .slice A0_2 l0_2.length c0_2]] (by rfl) rfl rfl (by (try simp only [List.map_toArray, List.map_cons, List.map_nil]); first | done | rfl | (simp only [List.length_drop, List.length_take]; rfl)) ?_
      with_reducible refine (laws_toBoard.calls kj11 a0_0 a0_1 _ _ l0_2 t393 t394 t395 _ ?side1 ?side2 A55.out).mono ?_
      (case side1 => repeat (first | exact (Kd.C_below HR0_2.out HB.out) | (with_reducible refine Kd.C_alloc ?_ _) | (with_reducible refine Kd.C_drewN ?_ _) | (with_reducible refine Kd.C_drew ?_)))
      (case side2 => exact HC0_2.out)
      rintro e w59 ⟨v396, rfl, ho0, hb⟩
      refine ⟨_, rfl, ?_⟩
      have HO397 := Aside0.mk (Kd.R_lower (Kd.R_new' ho0 (Kd.R_lt (viaR HO_387002))) (below_size (viaB HB)))
      replace HO_387002 := Aside0.mk (Kd.R_elder' (viaR HO_387002) (Kd.R_base ho0) hb)
      replace BK369 := kB BK369 hb
      replace BK380 := kB BK380 hb
      replace BK386 := kB BK386 hb
      replace BK391 := kB BK391 hb
      replace HB := bB HB hb
      (try clear hb); (try clear hb2); (try clear hk); (try clear hi); (try clear ho0)
      obtain ⟨Ao60, co60, eo60⟩ := Kd.R_slice HO397.out
      (first | subst eo60 | (injection eo60 with f1_ f2_ f3_; have f4_ := f1_.symm; have f5_ := f3_.symm; clear f1_ f2_ f3_; subst f4_; subst f5_))
      refine hK.out _ _ ⟨(blk_cell BK386.out 0).trans rfl, (blk_cell BK386.out 1).trans rfl, (blk_cell BK386.out 2).trans rfl, (blk_cell BK369.out 0).trans rfl, (blk_cell BK369.out 1).trans rfl, (blk_cell BK369.out 2).trans rfl⟩ (fun hHeld => ?_)
      clear hK K
      refine norm_ (a' := ?_) ?_ ?_
      rotate_left
      ·show Act.put _ (some 42) _ = _
       simp only [Act.put, q1, q2, q3, i64_w, i32_w]
       rfl
      refine one_ (i := 3) (N := some 43) #[true, true, true, true, false] rfl rfl (by kernel_rfl) (by decide) (fun K hK => ?_)
      refine goes_ Try.func18 (by kernel_rfl) rfl #[.agg #[.int .i64 t381, .int .i64 t382, .slice Ao29 t383.length co29], .agg #[.int .i64 t393, .int .i64 t394, .slice Ao60 t395.length co60]] (by rfl) rfl rfl (by (try simp only [List.map_toArray, List.map_cons, List.map_nil]); first | done | rfl | (simp only [List.length_drop, List.length_take]; rfl)) ?_
      with_reducible refine (laws_eqBoard.calls kj11 t381 t382 _ _ t383 t393 t394 _ _ t395 true _ ?side1 ?side2 ?side3 ?side4 A56.out).mono ?_
      (case side1 => repeat (first | exact (Kd.R_reads' HO_387002.out).2.2 | (with_reducible refine Kd.C_alloc ?_ _) | (with_reducible refine Kd.C_drewN ?_ _) | (with_reducible refine Kd.C_drew ?_)))
      (case side2 => exact (Kd.R_reads' HO_387002.out).2.1)
      (case side3 => repeat (first | exact (Kd.R_reads' HO397.out).2.2 | (with_reducible refine Kd.C_alloc ?_ _) | (with_reducible refine Kd.C_drewN ?_ _) | (with_reducible refine Kd.C_drew ?_)))
      (case side4 => exact (Kd.R_reads' HO397.out).2.1)
      rintro e w61 ⟨rfl, hb⟩
      refine ⟨_, rfl, ?_⟩
      replace HO_387002 := Aside0.mk (Kd.R_below (viaR HO_387002) hb)
      replace HO397 := Aside0.mk (Kd.R_below (viaR HO397) hb)
      replace BK369 := kB BK369 hb
      replace BK380 := kB BK380 hb
      replace BK386 := kB BK386 hb
      replace BK391 := kB BK391 hb
      replace HB := bB HB hb
      (try clear hb); (try clear hb2); (try clear hk); (try clear hi)
      refine hK.out _ _ ⟨(blk_cell BK386.out 0).trans rfl, (blk_cell BK386.out 1).trans rfl, (blk_cell BK386.out 2).trans rfl, (blk_cell BK369.out 0).trans rfl, (blk_cell BK369.out 1).trans rfl, (blk_cell BK369.out 2).trans rfl⟩ (fun hHeld => ?_)
      clear hK K
      refine norm_ (a' := ?_) ?_ ?_
      rotate_left
      ·show Act.put _ (some 43) _ = _
       simp only [Act.put, q1, q2, q3, i64_w, i32_w]
       rfl
      refine pure_ (i := 4) (N := some 44) (v := ?_) (a' := ?_) #[true, true, true, true, true] rfl rfl (by kernel_rfl) (fun _ _ _ h => h) (Or.inl ⟨by rfl, ?_⟩) ?_ ?_
      rotate_left
      ·intro w'
       go_simp
       with_reducible rfl
      rotate_left
      ·simp only [Act.put, q1, q2, q3, i64_w, i32_w]
       rfl
      refine done_ (by kernel_rfl) ?_
      try go_wp2
      go_ret
      exact ⟨by first | rfl | (simp [errW_none, errW_some] <;> rfl) | (simp [*, errW_none, errW_some] <;> rfl), viaB HB⟩
     ·(rw [if_neg c57] at H; exact absurd H (by decide))
end Go.Proofs.Ytoklfgjemfojgaa.PFnExactFallOf
