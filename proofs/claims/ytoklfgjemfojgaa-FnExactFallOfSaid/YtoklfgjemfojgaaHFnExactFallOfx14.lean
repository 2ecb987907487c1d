/- This text began as one that print.sh wrote for this claim (of the functions named below); it is this session's own: turned where Lean did not take the printed proof, where it was too long for a claim, or only in what it imports. -/
import Derived.Test.YtoklfgjemfojgaaHFnExactFallOfx0
import Derived.Test.YtoklfgjemfojgaaHFnExactFallOfx8
import Derived.Test.YtoklfgjemfojgaaHFnExactFallOfx11
import Derived.Test.YtoklfgjemfojgaaHFnExactFallOfx13
namespace Go.Proofs.Ytoklfgjemfojgaa.PFnExactFallOf
open Go.RowKit Go.Proofs.YtoklfgjemfojgaaW.PrintWords Go.Proofs.YtoklfgjemfojgaaW.PrintLast Go.Proofs.YtoklfgjemfojgaaW.PrintMore
attribute [local go_sem] max2_int min2_int max_two min_two max_three min_three max_four min_four   -- for this text's walks alone
set_option linter.unusedVariables false
set_option linter.unusedSimpArgs false

/-! ### impl_FallOf: function 16 -/
def impl_FallOf.f (k : Nat) (a0_0 : Int) (a0_1 : Int) (l0_2 : List (S89)) (a1 : Int) : Option (Int × Int × Int × Bool) := (impl_validEntry.f k a0_0 a0_1 l0_2 a1).bind fun t342 => (if t342 = true then ((impl_copyBoard.f a0_0 a0_1 l0_2).bind fun bt343 => ((impl_groupNumbers.f k a0_0 a0_1 l0_2).bind fun t348 => ((impl_drop.f k bt343.1 bt343.2.1 bt343.2.2 t348 a1).bind fun bt351 => (some (bt351.1, bt351.2.1, bt351.2.2.1, true))))) else (some (0, 0, 0, false)))
theorem impl_FallOf.mono : ∀ a0 a1 a2 a3 k, LeO (impl_FallOf.f k a0 a1 a2 a3) (impl_FallOf.f (k + 1) a0 a1 a2 a3) := by
 intro a0 a1 a2 a3 k
 unfold impl_FallOf.f
 repeat' first
   | (with_reducible exact impl_drop.mono _ _ _ _ _ _)
   | (with_reducible exact impl_groupNumbers.mono _ _ _ _)
   | (with_reducible exact impl_validEntry.mono _ _ _ _ _)
   | (with_reducible exact LeO.refl _)
   | (with_reducible exact LeO.none _)
   | (with_reducible refine LeO.ite ?_ ?_)
   | (with_reducible refine LeO.bind ?_ (fun _ => ?_))
   | exact impl_drop.mono _ _ _ _ _ _
   | exact impl_groupNumbers.mono _ _ _ _
   | exact impl_validEntry.mono _ _ _ _ _
   | exact LeO.none _
   | refine LeO.ite ?_ ?_
   | refine LeO.bind ?_ (fun _ => ?_)
def impl_FallOf.T3 : Bool × List (List Nat × List Nat) := (true, [([], []), ([0], [0]), ([], []), ([2, 1], [2]), ([], []), ([1, 3, 4, 3], [1, 3, 4]), ([5], [5]), ([6], [6]), ([6], [6]), ([], []), ([9, 7, 5, 0, 1, 2, 3, 4, 5, 6, 7, 9], [7, 9]), ([8, 10, 0, 1, 2, 3, 4, 5, 6, 7, 8, 9, 10], [8])])
def impl_FallOf.B3 : List Nat := [0, 1, 0, 7, 0, 31, 63, 127, 127, 0, 767, 2047]
theorem impl_FallOf.tab3 : rtab .any (opsOf Try.f16 3) = impl_FallOf.T3 := by kernel_rfl
theorem impl_FallOf.bits3 : waitsOk impl_FallOf.T3.2 impl_FallOf.B3 = true := by kernel_rfl
set_option maxHeartbeats 8000000 in
set_option maxRecDepth 100000 in
theorem impl_FallOf.calls (k : Nat) (a0_0 : Int) (a0_1 : Int) (A0_2 : Option Addr) (c0_2 : Nat) (l0_2 : List (S89)) (a1 : Int) (r1 : Int) (r2 : Int) (r3 : Int) (r4 : Bool) (w : World) (hr0_2 : Kd.C k89 w A0_2 l0_2.length l0_2) (hc0_2 : l0_2.length ≤ c0_2) (h : impl_FallOf.f k a0_0 a0_1 l0_2 a1 = some (r1, r2, r3, r4)) :
  Calls Try.prog 16 #[.agg #[.int .i64 a0_0, .int .i64 a0_1, .slice A0_2 l0_2.length c0_2], .int .i64 a1] w fun e w' => e = .returned (.tuple #[.agg #[.int .i64 r1, .int .i64 r2, .int .i64 r3], .bool r4]) ∧ Below w.heap.size w w' := by
 have hu32 := Try.underlying32
 have hu27 := Try.underlying27
 have HR0_2 := Aside0.mk hr0_2
 have HC0_2 := Aside0.mk hc0_2
 clear hr0_2 hc0_2
 have HB := Aside0.mk (Below.refl w.heap.size w)
 have H : ((impl_validEntry.f k a0_0 a0_1 l0_2 a1).bind fun t342 => (if t342 = true then ((impl_copyBoard.f a0_0 a0_1 l0_2).bind fun bt343 => ((impl_groupNumbers.f k a0_0 a0_1 l0_2).bind fun t348 => ((impl_drop.f k bt343.1 bt343.2.1 bt343.2.2 t348 a1).bind fun bt351 => (some (bt351.1, bt351.2.1, bt351.2.2.1, true))))) else (some (0, 0, 0, false)))) = some (r1, r2, r3, r4) := h
 clear h
 replace H := Option.bind_eq_some_iff.mp H
 obtain ⟨t342, A30, H⟩ := H
 replace H : (if t342 = true then ((impl_copyBoard.f a0_0 a0_1 l0_2).bind fun bt343 => ((impl_groupNumbers.f k a0_0 a0_1 l0_2).bind fun t348 => ((impl_drop.f k bt343.1 bt343.2.1 bt343.2.2 t348 a1).bind fun bt351 => (some (bt351.1, bt351.2.1, bt351.2.2.1, true))))) else (some (0, 0, 0, false))) = some (r1, r2, r3, r4) := H
 have A3 := Aside0.mk A30
 clear A30
 by_cases c4 : t342 = true
 ·subst c4
  have H1 : ((impl_copyBoard.f a0_0 a0_1 l0_2).bind fun bt343 => ((impl_groupNumbers.f k a0_0 a0_1 l0_2).bind fun t348 => ((impl_drop.f k bt343.1 bt343.2.1 bt343.2.2 t348 a1).bind fun bt351 => (some (bt351.1, bt351.2.1, bt351.2.2.1, true))))) = some (r1, r2, r3, r4) := by rw [if_pos rfl] at H; exact H
  clear H
  have H := H1
  clear H1
  replace H := Option.bind_eq_some_iff.mp H
  obtain ⟨⟨t343, t344, t345⟩, A50, H⟩ := H
  replace H : ((impl_groupNumbers.f k a0_0 a0_1 l0_2).bind fun t348 => ((impl_drop.f k t343 t344 t345 t348 a1).bind fun bt351 => (some (bt351.1, bt351.2.1, bt351.2.2.1, true)))) = some (r1, r2, r3, r4) := H
  have A5 := Aside0.mk A50
  clear A50
  replace H := Option.bind_eq_some_iff.mp H
  obtain ⟨t348, A60, H⟩ := H
  replace H : ((impl_drop.f k t343 t344 t345 t348 a1).bind fun bt351 => (some (bt351.1, bt351.2.1, bt351.2.2.1, true))) = some (r1, r2, r3, r4) := H
  have A6 := Aside0.mk A60
  clear A60
  replace H := Option.bind_eq_some_iff.mp H
  obtain ⟨⟨t351, t352, t353, t354, t357⟩, A70, H⟩ := H
  replace H : (some (t351, t352, t353, true)) = some (r1, r2, r3, r4) := H
  have A7 := Aside0.mk A70
  clear A70
  simp only [Option.some.injEq, Prod.mk.injEq] at H
  obtain ⟨rfl, rfl, rfl, rfl⟩ := H
  go_enter Try.func16, Try.ntmps16
  try go_wp2_with (first | ((with_reducible refine gate_dst (N := 2) rfl ?_); refine box_ev (N := 2) (cs := #[.int .i64 a0_0, .int .i64 a0_1, .slice A0_2 l0_2.length c0_2]) (t := 32) ?_; intro gb340 hg w8 hbox hb; have BK340 := Aside0.mk (hbox); have GW340 := gW (w := w) HB hg; have GE340 := gW (w := w) HB hg; replace HB := bB HB hb; clear hb hbox hg) | ((with_reducible refine gate_dst (N := 4) rfl ?_); refine box_ev (N := 4) (cs := #[.int .i64 0, .int .i64 0, .int .i64 0]) (t := 27) ?_; intro gb341 hg w9 hbox hb; have BK341 := Aside0.mk (hbox); have GW341 := gW (w := w) HB hg; have GE341 := gW (w := w) HB hg; have NB340_341 := neL BK340 hg; have NB341_340 := neG BK340 hg; replace BK340 := kB BK340 hb; replace HB := bB HB hb; clear hb hbox hg; have hnb10 := NB340_341.out; have hnc10 := NB341_340.out; have hcz11_0 := bc0 BK340; have hcz11_1 := bc1 BK340; have hcz11_2 := bc2 BK340; have hfz11_0 := blk_frozen BK340.out 0; have hfz11_1 := blk_frozen BK340.out 1; have hfz11_2 := blk_frozen BK340.out 2) | ((with_reducible refine gate_callee (f := 53) rfl ?_); refine goesA (some 10) _ #[.agg #[.int .i64 a0_0, .int .i64 a0_1, .slice A0_2 l0_2.length c0_2], .int .i64 a1] ?_ Try.func53; (with_reducible refine (impl_validEntry.calls k a0_0 a0_1 _ _ l0_2 a1 true _ ?side1 ?side2 A3.out).mono ?_); (case side1 => repeat (first | exact (Kd.C_below HR0_2.out HB.out) | (with_reducible refine Kd.C_alloc ?_ _) | (with_reducible refine Kd.C_drewN ?_ _) | (with_reducible refine Kd.C_drew ?_))); (case side2 => exact HC0_2.out); rintro e w12 ⟨rfl, hb⟩; refine ⟨_, rfl, ?_⟩; replace BK340 := kB BK340 hb; replace BK341 := kB BK341 hb; replace HB := bB HB hb; (try clear hb); (try clear hb2); (try clear hk); (try clear hi)))
  replace BK340 := Aside0.mk (blk_drew BK340.out)
  replace BK341 := Aside0.mk (blk_drew BK341.out)
  replace HB := Aside0.mk (below_drew1 HB.out)
  refine start_ (n := 12) (S := fun w' => w'.cell? ⟨gb340, 0, none⟩ = some (.int .i64 a0_0) ∧ w'.cell? ⟨gb340, 1, none⟩ = some (.int .i64 a0_1) ∧ w'.cell? ⟨gb340, 2, none⟩ = some (.slice A0_2 l0_2.length c0_2)) (ds := []) #[false, false, false, false, false, false, false, false, false, false, false, false] (by kernel_rfl) rfl rfl ⟨(blk_cell BK340.out 0).trans rfl, (blk_cell BK340.out 1).trans rfl, (blk_cell BK340.out 2).trans rfl⟩ (fun hHeld => ?_); refine with_tabW impl_FallOf.tab3 impl_FallOf.bits3 (fun HT_ HW_ => ?_)
  generalize w12.drew = w13 at BK340 BK341 HB hHeld ⊢
  refine pure_ (i := 4) (N := some 18) (v := ?_) (a' := ?_) #[false, false, false, false, true, false, false, false, false, false, false, false] rfl rfl (any_of HT_.out (by kernel_rfl)) (fun _ _ _ h => h) (Or.inl ⟨by rfl, ?_⟩) ?_ ?_
  rotate_left
  ·intro w'
   go_simp
   with_reducible rfl
  rotate_left
  ·simp only [Act.put, q1, q2, q3, i64_w, i32_w]
   rfl
  refine take_ (i := 0) (N := some 14) (v := ?_) (a' := ?_) #[true, false, false, false, true, false, false, false, false, false, false, false] rfl rfl (take_ofW HT_.out HW_.out (by kernel_rfl)) (fun _ _ _ h => h) (Or.inl ⟨by rfl, ?_⟩) hHeld ?_ ?_
  rotate_left
  ·rintro w' ⟨s0, s1, s2⟩
   go_simp
   with_reducible rfl
  rotate_left
  ·simp only [Act.put, q1, q2, q3, i64_w, i32_w]
   rfl
  refine take_ (i := 2) (N := some 16) (v := ?_) (a' := ?_) #[true, false, true, false, true, false, false, false, false, false, false, false] rfl rfl (take_ofW HT_.out HW_.out (by kernel_rfl)) (fun _ _ _ h => h) (Or.inl ⟨by rfl, ?_⟩) hHeld ?_ ?_
  rotate_left
  ·rintro w' ⟨s0, s1, s2⟩
   go_simp
   with_reducible rfl
  rotate_left
  ·simp only [Act.put, q1, q2, q3, i64_w, i32_w]
   rfl
  refine join_ (σ := Value × Value × Value × Nat) 2 #[true, true, true, true, true, true, true, true, true, true, false, false] (fun s_ => [(15, .agg #[.int .i64 t343, .int .i64 t344, s_.1]), (17, s_.2.1), (19, .tuple #[.agg #[.int .i64 t351, .int .i64 t352, .int .i64 t353], s_.2.2.1]), (6, .pointer (some ⟨s_.2.2.2, 0, none⟩)), (13, .tuple #[.agg #[.int .i64 t351, .int .i64 t352, .int .i64 t353], s_.2.2.1]), (20, .agg #[.int .i64 t351, .int .i64 t352, .int .i64 t353]), (21, s_.2.2.1)]) (fun s_ w' => (w'.cell? ⟨gb340, 0, none⟩ = some (.int .i64 a0_0) ∧ w'.cell? ⟨gb340, 1, none⟩ = some (.int .i64 a0_1) ∧ w'.cell? ⟨gb340, 2, none⟩ = some (.slice A0_2 l0_2.length c0_2)) ∧ (Kd.R k89 89 w' w.heap.size (fun _ => True) s_.1 t357) ∧ (Kd.R (Kd.int .i64) 3 w' w.heap.size (fun k_ => some k_ ≠ (s_.2.2.1 : Value).ownBlock) s_.2.1 t348) ∧ (Kd.R (Kd.int .i64) 3 w' w.heap.size (fun k_ => some k_ ≠ (s_.2.1 : Value).ownBlock) s_.2.2.1 t354) ∧ (w'.heap[gb340]? = some (.cells #[.int .i64 a0_0, .int .i64 a0_1, .slice A0_2 l0_2.length c0_2] 32 (0, 0))) ∧ (w'.heap[gb341]? = some (.cells #[.int .i64 0, .int .i64 0, .int .i64 0] 27 (0, 0))) ∧ (w'.heap[s_.2.2.2]? = some (.cells #[.int .i64 0, .int .i64 0, .int .i64 0] 27 (0, 0))) ∧ (w.heap.size ≤ s_.2.2.2) ∧ (w.heap.size ≤ s_.2.2.2) ∧ (gb340 ≠ s_.2.2.2) ∧ (s_.2.2.2 ≠ gb340) ∧ (gb341 ≠ s_.2.2.2) ∧ (s_.2.2.2 ≠ gb341) ∧ (Below w.heap.size w w')) ?_ ?_
  rotate_left
  ·intro hCont
   refine two_ (i := 1) (j := 9) (Ni := some 15) (Nj := some 6) #[true, true, true, false, true, false, false, false, false, false, false, false] #[true, false, true, false, true, false, false, false, false, true, false, false] rfl rfl rfl rfl (two_of HT_.out (by kernel_rfl)) (by decide) (by decide) (fun K hK => ?_) (fun K hK => ?_)
   ·skip
    refine goes_ Try.func55 (by kernel_rfl) rfl #[.agg #[.int .i64 a0_0, .int .i64 a0_1, .slice A0_2 l0_2.length c0_2]] (by rfl) rfl rfl (by (try simp only [List.map_toArray, List.map_cons, List.map_nil]); first | done | rfl | (simp only [List.length_drop, List.length_take]; rfl)) ?_
    with_reducible refine (impl_copyBoard.calls a0_0 a0_1 _ _ l0_2 t343 t344 t345 _ ?side1 ?side2 A5.out).mono ?_
    (case side1 => repeat (first | exact (Kd.C_below HR0_2.out HB.out) | (with_reducible refine Kd.C_alloc ?_ _) | (with_reducible refine Kd.C_drewN ?_ _) | (with_reducible refine Kd.C_drew ?_)))
    (case side2 => exact HC0_2.out)
    rintro e w14 ⟨v346, rfl, ho0, hb⟩
    refine ⟨_, rfl, ?_⟩
    have HO347 := Aside0.mk (Kd.R_lower ho0 (below_size (viaB HB)))
    replace BK340 := kB BK340 hb
    replace BK341 := kB BK341 hb
    replace HB := bB HB hb
    (try clear hb); (try clear hb2); (try clear hk); (try clear hi); (try clear ho0)
    refine hK.out _ _ ⟨(blk_cell BK340.out 0).trans rfl, (blk_cell BK340.out 1).trans rfl, (blk_cell BK340.out 2).trans rfl⟩ (fun hHeld => ?_)
    clear hK K
    refine norm_ (a' := ?_) ?_ ?_
    rotate_left
    ·show Act.put _ (some 15) _ = _
     simp only [Act.put, q1, q2, q3, i64_w, i32_w]
     rfl
    refine two_ (i := 3) (j := 9) (Ni := some 17) (Nj := some 6) #[true, true, true, true, true, false, false, false, false, false, false, false] #[true, true, true, false, true, false, false, false, false, true, false, false] rfl rfl rfl rfl (two_of HT_.out (by kernel_rfl)) (by decide) (by decide) (fun K hK => ?_) (fun K hK => ?_)
    ·skip
     refine goes_ Try.func56 (by kernel_rfl) rfl #[.agg #[.int .i64 a0_0, .int .i64 a0_1, .slice A0_2 l0_2.length c0_2]] (by rfl) rfl rfl (by (try simp only [List.map_toArray, List.map_cons, List.map_nil]); first | done | rfl | (simp only [List.length_drop, List.length_take]; rfl)) ?_
     with_reducible refine (impl_groupNumbers.calls k a0_0 a0_1 _ _ l0_2 t348 _ ?side1 ?side2 A6.out).mono ?_
     (case side1 => repeat (first | exact (Kd.C_below HR0_2.out HB.out) | (with_reducible refine Kd.C_alloc ?_ _) | (with_reducible refine Kd.C_drewN ?_ _) | (with_reducible refine Kd.C_drew ?_)))
     (case side2 => exact HC0_2.out)
     rintro e w15 ⟨v349, rfl, ho0, hb⟩
     refine ⟨_, rfl, ?_⟩
     have HO350 := Aside0.mk (Kd.R_lower ho0 (below_size (viaB HB)))
     replace HO347 := Aside0.mk (Kd.R_below (viaR HO347) hb)
     replace BK340 := kB BK340 hb
     replace BK341 := kB BK341 hb
     replace HB := bB HB hb
     (try clear hb); (try clear hb2); (try clear hk); (try clear hi); (try clear ho0)
     obtain ⟨Ao16, co16, eo16⟩ := Kd.R_slice HO347.out
     (first | subst eo16 | (injection eo16 with f1_ f2_ f3_; have f4_ := f1_.symm; have f5_ := f3_.symm; clear f1_ f2_ f3_; subst f4_; subst f5_))
     obtain ⟨Ao17, co17, eo17⟩ := Kd.R_slice HO350.out
     (first | subst eo17 | (injection eo17 with f1_ f2_ f3_; have f4_ := f1_.symm; have f5_ := f3_.symm; clear f1_ f2_ f3_; subst f4_; subst f5_))
     refine hK.out _ _ ⟨(blk_cell BK340.out 0).trans rfl, (blk_cell BK340.out 1).trans rfl, (blk_cell BK340.out 2).trans rfl⟩ (fun hHeld => ?_)
     clear hK K
     refine norm_ (a' := ?_) ?_ ?_
     rotate_left
     ·show Act.put _ (some 17) _ = _
      simp only [Act.put, q1, q2, q3, i64_w, i32_w]
      rfl
     refine two_ (i := 5) (j := 9) (Ni := some 19) (Nj := some 6) #[true, true, true, true, true, true, false, false, false, false, false, false] #[true, true, true, true, true, false, false, false, false, true, false, false] rfl rfl rfl rfl (two_of HT_.out (by kernel_rfl)) (by decide) (by decide) (fun K hK => ?_) (fun K hK => ?_)
     ·skip
      refine goes_ Try.func54 (by kernel_rfl) rfl #[.agg #[.int .i64 t343, .int .i64 t344, .slice Ao16 t345.length co16], .slice Ao17 t348.length co17, .int .i64 a1] (by rfl) rfl rfl (by (try simp only [List.map_toArray, List.map_cons, List.map_nil]); first | done | rfl | (simp only [List.length_drop, List.length_take]; rfl)) ?_
      with_reducible refine (impl_drop.calls k t343 t344 (fun k_ => some k_ = (.slice Ao16 t345.length co16 : Value).ownBlock) (.slice Ao16 t345.length co16) t345 _ _ t348 a1 t351 t352 t353 t354 t357 w _ ?side1 ?side2 ?side3 ?side4 A7.out).mono ?_
      (case side1 => repeat (first | (with_reducible first | exact HB.out | apply below_alloc | apply pw_below_drewN | apply below_drew1 | refine below_set ?_ GE340.out | refine below_set ?_ GE341.out) | exact HB.out))
      (case side2 => exact Kd.R_tight rfl HO347.out)
      (case side3 => exact Kd.C_kept_own ((Kd.R_apart' HO350.out (Kd.R_typed HO347.out) (by decide))) (fun k_ hk_ hs_ => (hk_.2) hs_))
      (case side4 => exact (Kd.R_reads' HO350.out).2.1)
      rintro e w18 ⟨v355, rfl, ho0, hy0, hb, hkp⟩
      refine ⟨_, rfl, ?_⟩
      have HO356 := Aside0.mk (Kd.R_mono (ok' := fun k_ => some k_ ≠ (.slice Ao17 t348.length co17 : Value).ownBlock) ho0 (fun k_ hk_ => Or.elim hk_ (fun hs_ => fun e_ => ((((Kd.R_apart' HO350.out (Kd.R_typed HO347.out) (by decide))).1 k_ e_.symm).2) hs_) (fun hn_ => (Kd.fresh' (Kd.R_lt (viaR HO350)) k_ hn_))))
      replace BK340 := Aside0.mk (blk_kept (viaK BK340) hkp (fun hs_ => (fun e_ => (Kd.R_ne HO347.out BK340.out (by decide)) e_) hs_))
      replace BK341 := Aside0.mk (blk_kept (viaK BK341) hkp (fun hs_ => (fun e_ => (Kd.R_ne HO347.out BK341.out (by decide)) e_) hs_))
      replace HO350 := Aside0.mk (Kd.R_mono (ok' := fun k_ => some k_ ≠ (v355 : Value).ownBlock) (Kd.R_keptB ((Kd.R_apart' HO350.out (Kd.R_typed HO347.out) (by decide))) hkp (fun k_ hk_ hs_ => (hk_.2) hs_)) (fun k_ hk_ => fun e_ => Or.elim (ho0.1 k_ e_.symm) (fun hs_ => hk_.2.1 hs_) (fun hn_ => Nat.not_le.2 hk_.2.2 hn_)))
      replace HO347 := Aside0.mk (Kd.R_reok rfl hy0 (fun k_ e_ => HO347.out.1 k_ e_))
      replace HB := Aside0.mk (hb)
      (try clear hb); (try clear hkp); (try clear ho0); (try clear hy0)
      refine hK.out _ _ ⟨(blk_cell BK340.out 0).trans rfl, (blk_cell BK340.out 1).trans rfl, (blk_cell BK340.out 2).trans rfl⟩ (fun hHeld => ?_)
      clear hK K
      refine norm_ (a' := ?_) ?_ ?_
      rotate_left
      ·show Act.put _ (some 19) _ = _
       simp only [Act.put, q1, q2, q3, i64_w, i32_w]
       rfl
      refine pure_ (i := 6) (N := some 13) (v := ?_) (a' := ?_) #[true, true, true, true, true, true, true, false, false, false, false, false] rfl rfl (any_of HT_.out (by kernel_rfl)) (fun _ _ _ h => h) (Or.inl ⟨by rfl, ?_⟩) ?_ ?_
      rotate_left
      ·intro w'
       go_simp
       with_reducible rfl
      rotate_left
      ·simp only [Act.put, q1, q2, q3, i64_w, i32_w]
       rfl
      refine pure_ (i := 7) (N := some 20) (v := ?_) (a' := ?_) #[true, true, true, true, true, true, true, true, false, false, false, false] rfl rfl (any_of HT_.out (by kernel_rfl)) (fun _ _ _ h => h) (Or.inl ⟨by rfl, ?_⟩) ?_ ?_
      rotate_left
      ·intro w'
       go_simp
       with_reducible rfl
      rotate_left
      ·simp only [Act.put, q1, q2, q3, i64_w, i32_w]
       rfl
      refine pure_ (i := 8) (N := some 21) (v := ?_) (a' := ?_) #[true, true, true, true, true, true, true, true, true, false, false, false] rfl rfl (any_of HT_.out (by kernel_rfl)) (fun _ _ _ h => h) (Or.inl ⟨by rfl, ?_⟩) ?_ ?_
      rotate_left
      ·intro w'
       go_simp
       with_reducible rfl
      rotate_left
      ·simp only [Act.put, q1, q2, q3, i64_w, i32_w]
       rfl
      refine one_ (i := 9) (N := some 6) #[true, true, true, true, true, true, true, true, true, true, false, false] rfl rfl (one_of HT_.out (by kernel_rfl)) (by decide) (fun K hK => ?_)
      refine box_step ?hg (N := 6) ?hd (cs := #[.int .i64 0, .int .i64 0, .int .i64 0]) (t := 27) ?hr ?_; (case hd => rfl); (case hg => rfl); (case hr => first | (go_simp; done) | (go_simp; rfl))
      intro gb358 hg w19 hbox hb
      have BK358 := Aside0.mk (hbox)
      have GW358 := gW (w := w) HB hg
      have GE358 := gW (w := w) HB hg
      have NB340_358 := neL BK340 hg
      have NB358_340 := neG BK340 hg
      have NB341_358 := neL BK341 hg
      have NB358_341 := neG BK341 hg
      replace HO347 := Aside0.mk (Kd.R_below (viaR HO347) hb)
      replace HO350 := Aside0.mk (Kd.R_below (viaR HO350) hb)
      replace HO356 := Aside0.mk (Kd.R_below (viaR HO356) hb)
      replace BK340 := kB BK340 hb
      replace BK341 := kB BK341 hb
      replace HB := bB HB hb
      clear hb hbox hg
      refine hK.out _ _ ⟨(blk_cell BK340.out 0).trans rfl, (blk_cell BK340.out 1).trans rfl, (blk_cell BK340.out 2).trans rfl⟩ (fun hHeld => ?_)
      clear hK K
      refine norm_ (a' := ?_) ?_ ?_
      rotate_left
      ·show Act.put _ (some 6) _ = _
       simp only [Act.put, q1, q2, q3, i64_w, i32_w]
       rfl
      exact norm_ (by simp only [putAll, Act.put, q1, q2, q3]) (hCont (.slice Ao16 t345.length co16, .slice Ao17 t348.length co17, v355, gb358) _ ⟨hHeld, (viaR HO347), (viaR HO350), (viaR HO356), (viaK BK340), (viaK BK341), (viaK BK358), GW358.out, GE358.out, NB340_358.out, NB358_340.out, NB341_358.out, NB358_341.out, (viaB HB)⟩)
     ·skip
      refine box_step ?hg (N := 6) ?hd (cs := #[.int .i64 0, .int .i64 0, .int .i64 0]) (t := 27) ?hr ?_; (case hd => rfl); (case hg => rfl); (case hr => first | (go_simp; done) | (go_simp; rfl))
      intro gb358 hg w16 hbox hb
      have BK358 := Aside0.mk (hbox)
      have GW358 := gW (w := w) HB hg
      have GE358 := gW (w := w) HB hg
      have NB340_358 := neL BK340 hg
      have NB358_340 := neG BK340 hg
      have NB341_358 := neL BK341 hg
      have NB358_341 := neG BK341 hg
      replace HO347 := Aside0.mk (Kd.R_below (viaR HO347) hb)
      replace HO350 := Aside0.mk (Kd.R_below (viaR HO350) hb)
      replace BK340 := kB BK340 hb
      replace BK341 := kB BK341 hb
      replace HB := bB HB hb
      clear hb hbox hg
      obtain ⟨Ao17, co17, eo17⟩ := Kd.R_slice HO347.out
      (first | subst eo17 | (injection eo17 with f1_ f2_ f3_; have f4_ := f1_.symm; have f5_ := f3_.symm; clear f1_ f2_ f3_; subst f4_; subst f5_))
      obtain ⟨Ao18, co18, eo18⟩ := Kd.R_slice HO350.out
      (first | subst eo18 | (injection eo18 with f1_ f2_ f3_; have f4_ := f1_.symm; have f5_ := f3_.symm; clear f1_ f2_ f3_; subst f4_; subst f5_))
      refine hK.out _ _ ⟨(blk_cell BK340.out 0).trans rfl, (blk_cell BK340.out 1).trans rfl, (blk_cell BK340.out 2).trans rfl⟩ (fun hHeld => ?_)
      clear hK K
      refine norm_ (a' := ?_) ?_ ?_
      rotate_left
      ·show Act.put _ (some 6) _ = _
       simp only [Act.put, q1, q2, q3, i64_w, i32_w]
       rfl
      refine one_ (i := 5) (N := some 19) #[true, true, true, true, true, true, false, false, false, true, false, false] rfl rfl (one_of HT_.out (by kernel_rfl)) (by decide) (fun K hK => ?_)
      refine goes_ Try.func54 (by kernel_rfl) rfl #[.agg #[.int .i64 t343, .int .i64 t344, .slice Ao17 t345.length co17], .slice Ao18 t348.length co18, .int .i64 a1] (by rfl) rfl rfl (by (try simp only [List.map_toArray, List.map_cons, List.map_nil]); first | done | rfl | (simp only [List.length_drop, List.length_take]; rfl)) ?_
      with_reducible refine (impl_drop.calls k t343 t344 (fun k_ => some k_ = (.slice Ao17 t345.length co17 : Value).ownBlock) (.slice Ao17 t345.length co17) t345 _ _ t348 a1 t351 t352 t353 t354 t357 w _ ?side1 ?side2 ?side3 ?side4 A7.out).mono ?_
      (case side1 => repeat (first | (with_reducible first | exact HB.out | apply below_alloc | apply pw_below_drewN | apply below_drew1 | refine below_set ?_ GE340.out | refine below_set ?_ GE341.out | refine below_set ?_ GE358.out) | exact HB.out))
      (case side2 => exact Kd.R_tight rfl HO347.out)
      (case side3 => exact Kd.C_kept_own ((Kd.R_apart' HO350.out (Kd.R_typed HO347.out) (by decide))) (fun k_ hk_ hs_ => (hk_.2) hs_))
      (case side4 => exact (Kd.R_reads' HO350.out).2.1)
      rintro e w19 ⟨v355, rfl, ho0, hy0, hb, hkp⟩
      refine ⟨_, rfl, ?_⟩
      have HO356 := Aside0.mk (Kd.R_mono (ok' := fun k_ => some k_ ≠ (.slice Ao18 t348.length co18 : Value).ownBlock) ho0 (fun k_ hk_ => Or.elim hk_ (fun hs_ => fun e_ => ((((Kd.R_apart' HO350.out (Kd.R_typed HO347.out) (by decide))).1 k_ e_.symm).2) hs_) (fun hn_ => (Kd.fresh' (Kd.R_lt (viaR HO350)) k_ hn_))))
      replace BK340 := Aside0.mk (blk_kept (viaK BK340) hkp (fun hs_ => (fun e_ => (Kd.R_ne HO347.out BK340.out (by decide)) e_) hs_))
      replace BK341 := Aside0.mk (blk_kept (viaK BK341) hkp (fun hs_ => (fun e_ => (Kd.R_ne HO347.out BK341.out (by decide)) e_) hs_))
      replace HO350 := Aside0.mk (Kd.R_mono (ok' := fun k_ => some k_ ≠ (v355 : Value).ownBlock) (Kd.R_keptB ((Kd.R_apart' HO350.out (Kd.R_typed HO347.out) (by decide))) hkp (fun k_ hk_ hs_ => (hk_.2) hs_)) (fun k_ hk_ => fun e_ => Or.elim (ho0.1 k_ e_.symm) (fun hs_ => hk_.2.1 hs_) (fun hn_ => Nat.not_le.2 hk_.2.2 hn_)))
      replace BK358 := Aside0.mk (blk_kept (viaK BK358) hkp (fun hs_ => (fun e_ => (Kd.R_ne HO347.out BK358.out (by decide)) e_) hs_))
      replace HO347 := Aside0.mk (Kd.R_reok rfl hy0 (fun k_ e_ => HO347.out.1 k_ e_))
      replace HB := Aside0.mk (hb)
      (try clear hb); (try clear hkp); (try clear ho0); (try clear hy0)
      refine hK.out _ _ ⟨(blk_cell BK340.out 0).trans rfl, (blk_cell BK340.out 1).trans rfl, (blk_cell BK340.out 2).trans rfl⟩ (fun hHeld => ?_)
      clear hK K
      refine norm_ (a' := ?_) ?_ ?_
      rotate_left
      ·show Act.put _ (some 19) _ = _
       simp only [Act.put, q1, q2, q3, i64_w, i32_w]
       rfl
      refine pure_ (i := 6) (N := some 13) (v := ?_) (a' := ?_) #[true, true, true, true, true, true, true, false, false, true, false, false] rfl rfl (any_of HT_.out (by kernel_rfl)) (fun _ _ _ h => h) (Or.inl ⟨by rfl, ?_⟩) ?_ ?_
      rotate_left
      ·intro w'
       go_simp
       with_reducible rfl
      rotate_left
      ·simp only [Act.put, q1, q2, q3, i64_w, i32_w]
       rfl
      refine pure_ (i := 7) (N := some 20) (v := ?_) (a' := ?_) #[true, true, true, true, true, true, true, true, false, true, false, false] rfl rfl (any_of HT_.out (by kernel_rfl)) (fun _ _ _ h => h) (Or.inl ⟨by rfl, ?_⟩) ?_ ?_
      rotate_left
      ·intro w'
       go_simp
       with_reducible rfl
      rotate_left
      ·simp only [Act.put, q1, q2, q3, i64_w, i32_w]
       rfl
      refine pure_ (i := 8) (N := some 21) (v := ?_) (a' := ?_) #[true, true, true, true, true, true, true, true, true, true, false, false] rfl rfl (any_of HT_.out (by kernel_rfl)) (fun _ _ _ h => h) (Or.inl ⟨by rfl, ?_⟩) ?_ ?_
      rotate_left
      ·intro w'
       go_simp
       with_reducible rfl
      rotate_left
      ·simp only [Act.put, q1, q2, q3, i64_w, i32_w]
       rfl
      exact norm_ (by simp only [putAll, Act.put, q1, q2, q3]) (hCont (.slice Ao17 t345.length co17, .slice Ao18 t348.length co18, v355, gb358) _ ⟨hHeld, (viaR HO347), (viaR HO350), (viaR HO356), (viaK BK340), (viaK BK341), (viaK BK358), GW358.out, GE358.out, NB340_358.out, NB358_340.out, NB341_358.out, NB358_341.out, (viaB HB)⟩)
    ·skip
     refine box_step ?hg (N := 6) ?hd (cs := #[.int .i64 0, .int .i64 0, .int .i64 0]) (t := 27) ?hr ?_; (case hd => rfl); (case hg => rfl); (case hr => first | (go_simp; done) | (go_simp; rfl))
     intro gb358 hg w15 hbox hb
     have BK358 := Aside0.mk (hbox)
     have GW358 := gW (w := w) HB hg
     have GE358 := gW (w := w) HB hg
     have NB340_358 := neL BK340 hg
     have NB358_340 := neG BK340 hg
     have NB341_358 := neL BK341 hg
     have NB358_341 := neG BK341 hg
     replace HO347 := Aside0.mk (Kd.R_below (viaR HO347) hb)
     replace BK340 := kB BK340 hb
     replace BK341 := kB BK341 hb
     replace HB := bB HB hb
     clear hb hbox hg
     refine hK.out _ _ ⟨(blk_cell BK340.out 0).trans rfl, (blk_cell BK340.out 1).trans rfl, (blk_cell BK340.out 2).trans rfl⟩ (fun hHeld => ?_)
     clear hK K
     refine norm_ (a' := ?_) ?_ ?_
     rotate_left
     ·show Act.put _ (some 6) _ = _
      simp only [Act.put, q1, q2, q3, i64_w, i32_w]
      rfl
     refine one_ (i := 3) (N := some 17) #[true, true, true, true, true, false, false, false, false, true, false, false] rfl rfl (one_of HT_.out (by kernel_rfl)) (by decide) (fun K hK => ?_)
     refine goes_ Try.func56 (by kernel_rfl) rfl #[.agg #[.int .i64 a0_0, .int .i64 a0_1, .slice A0_2 l0_2.length c0_2]] (by rfl) rfl rfl (by (try simp only [List.map_toArray, List.map_cons, List.map_nil]); first | done | rfl | (simp only [List.length_drop, List.length_take]; rfl)) ?_
     with_reducible refine (impl_groupNumbers.calls k a0_0 a0_1 _ _ l0_2 t348 _ ?side1 ?side2 A6.out).mono ?_
     (case side1 => repeat (first | exact (Kd.C_below HR0_2.out HB.out) | (with_reducible refine Kd.C_alloc ?_ _) | (with_reducible refine Kd.C_drewN ?_ _) | (with_reducible refine Kd.C_drew ?_)))
     (case side2 => exact HC0_2.out)
     rintro e w16 ⟨v349, rfl, ho0, hb⟩
     refine ⟨_, rfl, ?_⟩
     have HO350 := Aside0.mk (Kd.R_lower ho0 (below_size (viaB HB)))
     replace HO347 := Aside0.mk (Kd.R_below (viaR HO347) hb)
     replace BK340 := kB BK340 hb
     replace BK341 := kB BK341 hb
     replace BK358 := kB BK358 hb
     replace HB := bB HB hb
     (try clear hb); (try clear hb2); (try clear hk); (try clear hi); (try clear ho0)
     obtain ⟨Ao17, co17, eo17⟩ := Kd.R_slice HO347.out
     (first | subst eo17 | (injection eo17 with f1_ f2_ f3_; have f4_ := f1_.symm; have f5_ := f3_.symm; clear f1_ f2_ f3_; subst f4_; subst f5_))
     obtain ⟨Ao18, co18, eo18⟩ := Kd.R_slice HO350.out
     (first | subst eo18 | (injection eo18 with f1_ f2_ f3_; have f4_ := f1_.symm; have f5_ := f3_.symm; clear f1_ f2_ f3_; subst f4_; subst f5_))
     refine hK.out _ _ ⟨(blk_cell BK340.out 0).trans rfl, (blk_cell BK340.out 1).trans rfl, (blk_cell BK340.out 2).trans rfl⟩ (fun hHeld => ?_)
     clear hK K
     refine norm_ (a' := ?_) ?_ ?_
     rotate_left
     ·show Act.put _ (some 17) _ = _
      simp only [Act.put, q1, q2, q3, i64_w, i32_w]
      rfl
     refine one_ (i := 5) (N := some 19) #[true, true, true, true, true, true, false, false, false, true, false, false] rfl rfl (one_of HT_.out (by kernel_rfl)) (by decide) (fun K hK => ?_)
     refine goes_ Try.func54 (by kernel_rfl) rfl #[.agg #[.int .i64 t343, .int .i64 t344, .slice Ao17 t345.length co17], .slice Ao18 t348.length co18, .int .i64 a1] (by rfl) rfl rfl (by (try simp only [List.map_toArray, List.map_cons, List.map_nil]); first | done | rfl | (simp only [List.length_drop, List.length_take]; rfl)) ?_
     with_reducible refine (impl_drop.calls k t343 t344 (fun k_ => some k_ = (.slice Ao17 t345.length co17 : Value).ownBlock) (.slice Ao17 t345.length co17) t345 _ _ t348 a1 t351 t352 t353 t354 t357 w _ ?side1 ?side2 ?side3 ?side4 A7.out).mono ?_
     (case side1 => repeat (first | (with_reducible first | exact HB.out | apply below_alloc | apply pw_below_drewN | apply below_drew1 | refine below_set ?_ GE340.out | refine below_set ?_ GE341.out | refine below_set ?_ GE358.out) | exact HB.out))
     (case side2 => exact Kd.R_tight rfl HO347.out)
     (case side3 => exact Kd.C_kept_own ((Kd.R_apart' HO350.out (Kd.R_typed HO347.out) (by decide))) (fun k_ hk_ hs_ => (hk_.2) hs_))
     (case side4 => exact (Kd.R_reads' HO350.out).2.1)
     rintro e w19 ⟨v355, rfl, ho0, hy0, hb, hkp⟩
     refine ⟨_, rfl, ?_⟩
     have HO356 := Aside0.mk (Kd.R_mono (ok' := fun k_ => some k_ ≠ (.slice Ao18 t348.length co18 : Value).ownBlock) ho0 (fun k_ hk_ => Or.elim hk_ (fun hs_ => fun e_ => ((((Kd.R_apart' HO350.out (Kd.R_typed HO347.out) (by decide))).1 k_ e_.symm).2) hs_) (fun hn_ => (Kd.fresh' (Kd.R_lt (viaR HO350)) k_ hn_))))
     replace BK340 := Aside0.mk (blk_kept (viaK BK340) hkp (fun hs_ => (fun e_ => (Kd.R_ne HO347.out BK340.out (by decide)) e_) hs_))
     replace BK341 := Aside0.mk (blk_kept (viaK BK341) hkp (fun hs_ => (fun e_ => (Kd.R_ne HO347.out BK341.out (by decide)) e_) hs_))
     replace BK358 := Aside0.mk (blk_kept (viaK BK358) hkp (fun hs_ => (fun e_ => (Kd.R_ne HO347.out BK358.out (by decide)) e_) hs_))
     replace HO350 := Aside0.mk (Kd.R_mono (ok' := fun k_ => some k_ ≠ (v355 : Value).ownBlock) (Kd.R_keptB ((Kd.R_apart' HO350.out (Kd.R_typed HO347.out) (by decide))) hkp (fun k_ hk_ hs_ => (hk_.2) hs_)) (fun k_ hk_ => fun e_ => Or.elim (ho0.1 k_ e_.symm) (fun hs_ => hk_.2.1 hs_) (fun hn_ => Nat.not_le.2 hk_.2.2 hn_)))
     replace HO347 := Aside0.mk (Kd.R_reok rfl hy0 (fun k_ e_ => HO347.out.1 k_ e_))
     replace HB := Aside0.mk (hb)
     (try clear hb); (try clear hkp); (try clear ho0); (try clear hy0)
     refine hK.out _ _ ⟨(blk_cell BK340.out 0).trans rfl, (blk_cell BK340.out 1).trans rfl, (blk_cell BK340.out 2).trans rfl⟩ (fun hHeld => ?_)
     clear hK K
     refine norm_ (a' := ?_) ?_ ?_
     rotate_left
     ·show Act.put _ (some 19) _ = _
      simp only [Act.put, q1, q2, q3, i64_w, i32_w]
      rfl
     refine pure_ (i := 6) (N := some 13) (v := ?_) (a' := ?_) #[true, true, true, true, true, true, true, false, false, true, false, false] rfl rfl (any_of HT_.out (by kernel_rfl)) (fun _ _ _ h => h) (Or.inl ⟨by rfl, ?_⟩) ?_ ?_
     rotate_left
     ·intro w'
      go_simp
      with_reducible rfl
     rotate_left
     ·simp only [Act.put, q1, q2, q3, i64_w, i32_w]
      rfl
     refine pure_ (i := 7) (N := some 20) (v := ?_) (a' := ?_) #[true, true, true, true, true, true, true, true, false, true, false, false] rfl rfl (any_of HT_.out (by kernel_rfl)) (fun _ _ _ h => h) (Or.inl ⟨by rfl, ?_⟩) ?_ ?_
     rotate_left
     ·intro w'
      go_simp
      with_reducible rfl
     rotate_left
     ·simp only [Act.put, q1, q2, q3, i64_w, i32_w]
      rfl
     refine pure_ (i := 8) (N := some 21) (v := ?_) (a' := ?_) #[true, true, true, true, true, true, true, true, true, true, false, false] rfl rfl (any_of HT_.out (by kernel_rfl)) (fun _ _ _ h => h) (Or.inl ⟨by rfl, ?_⟩) ?_ ?_
     rotate_left
     ·intro w'
      go_simp
      with_reducible rfl
     rotate_left
     ·simp only [Act.put, q1, q2, q3, i64_w, i32_w]
      rfl
     exact norm_ (by simp only [putAll, Act.put, q1, q2, q3]) (hCont (.slice Ao17 t345.length co17, .slice Ao18 t348.length co18, v355, gb358) _ ⟨hHeld, (viaR HO347), (viaR HO350), (viaR HO356), (viaK BK340), (viaK BK341), (viaK BK358), GW358.out, GE358.out, NB340_358.out, NB358_340.out, NB341_358.out, NB358_341.out, (viaB HB)⟩)
   ·skip
    refine box_step ?hg (N := 6) ?hd (cs := #[.int .i64 0, .int .i64 0, .int .i64 0]) (t := 27) ?hr ?_; (case hd => rfl); (case hg => rfl); (case hr => first | (go_simp; done) | (go_simp; rfl))
    intro gb358 hg w14 hbox hb
    have BK358 := Aside0.mk (hbox)
    have GW358 := gW (w := w) HB hg
    have GE358 := gW (w := w) HB hg
    have NB340_358 := neL BK340 hg
    have NB358_340 := neG BK340 hg
    have NB341_358 := neL BK341 hg
    have NB358_341 := neG BK341 hg
    replace BK340 := kB BK340 hb
    replace BK341 := kB BK341 hb
    replace HB := bB HB hb
    clear hb hbox hg
    refine hK.out _ _ ⟨(blk_cell BK340.out 0).trans rfl, (blk_cell BK340.out 1).trans rfl, (blk_cell BK340.out 2).trans rfl⟩ (fun hHeld => ?_)
    clear hK K
    refine norm_ (a' := ?_) ?_ ?_
    rotate_left
    ·show Act.put _ (some 6) _ = _
     simp only [Act.put, q1, q2, q3, i64_w, i32_w]
     rfl
    refine one_ (i := 1) (N := some 15) #[true, true, true, false, true, false, false, false, false, true, false, false] rfl rfl (one_of HT_.out (by kernel_rfl)) (by decide) (fun K hK => ?_)
    refine goes_ Try.func55 (by kernel_rfl) rfl #[.agg #[.int .i64 a0_0, .int .i64 a0_1, .slice A0_2 l0_2.length c0_2]] (by rfl) rfl rfl (by (try simp only [List.map_toArray, List.map_cons, List.map_nil]); first | done | rfl | (simp only [List.length_drop, List.length_take]; rfl)) ?_
    with_reducible refine (impl_copyBoard.calls a0_0 a0_1 _ _ l0_2 t343 t344 t345 _ ?side1 ?side2 A5.out).mono ?_
    (case side1 => repeat (first | exact (Kd.C_below HR0_2.out HB.out) | (with_reducible refine Kd.C_alloc ?_ _) | (with_reducible refine Kd.C_drewN ?_ _) | (with_reducible refine Kd.C_drew ?_)))
    (case side2 => exact HC0_2.out)
    rintro e w15 ⟨v346, rfl, ho0, hb⟩
    refine ⟨_, rfl, ?_⟩
    have HO347 := Aside0.mk (Kd.R_lower ho0 (below_size (viaB HB)))
    replace BK340 := kB BK340 hb
    replace BK341 := kB BK341 hb
    replace BK358 := kB BK358 hb
    replace HB := bB HB hb
    (try clear hb); (try clear hb2); (try clear hk); (try clear hi); (try clear ho0)
    refine hK.out _ _ ⟨(blk_cell BK340.out 0).trans rfl, (blk_cell BK340.out 1).trans rfl, (blk_cell BK340.out 2).trans rfl⟩ (fun hHeld => ?_)
    clear hK K
    refine norm_ (a' := ?_) ?_ ?_
    rotate_left
    ·show Act.put _ (some 15) _ = _
     simp only [Act.put, q1, q2, q3, i64_w, i32_w]
     rfl
    refine one_ (i := 3) (N := some 17) #[true, true, true, true, true, false, false, false, false, true, false, false] rfl rfl (one_of HT_.out (by kernel_rfl)) (by decide) (fun K hK => ?_)
    refine goes_ Try.func56 (by kernel_rfl) rfl #[.agg #[.int .i64 a0_0, .int .i64 a0_1, .slice A0_2 l0_2.length c0_2]] (by rfl) rfl rfl (by (try simp only [List.map_toArray, List.map_cons, List.map_nil]); first | done | rfl | (simp only [List.length_drop, List.length_take]; rfl)) ?_
    with_reducible refine (impl_groupNumbers.calls k a0_0 a0_1 _ _ l0_2 t348 _ ?side1 ?side2 A6.out).mono ?_
    (case side1 => repeat (first | exact (Kd.C_below HR0_2.out HB.out) | (with_reducible refine Kd.C_alloc ?_ _) | (with_reducible refine Kd.C_drewN ?_ _) | (with_reducible refine Kd.C_drew ?_)))
    (case side2 => exact HC0_2.out)
    rintro e w16 ⟨v349, rfl, ho0, hb⟩
    refine ⟨_, rfl, ?_⟩
    have HO350 := Aside0.mk (Kd.R_lower ho0 (below_size (viaB HB)))
    replace HO347 := Aside0.mk (Kd.R_below (viaR HO347) hb)
    replace BK340 := kB BK340 hb
    replace BK341 := kB BK341 hb
    replace BK358 := kB BK358 hb
    replace HB := bB HB hb
    (try clear hb); (try clear hb2); (try clear hk); (try clear hi); (try clear ho0)
    obtain ⟨Ao17, co17, eo17⟩ := Kd.R_slice HO347.out
    (first | subst eo17 | (injection eo17 with f1_ f2_ f3_; have f4_ := f1_.symm; have f5_ := f3_.symm; clear f1_ f2_ f3_; subst f4_; subst f5_))
    obtain ⟨Ao18, co18, eo18⟩ := Kd.R_slice HO350.out
    (first | subst eo18 | (injection eo18 with f1_ f2_ f3_; have f4_ := f1_.symm; have f5_ := f3_.symm; clear f1_ f2_ f3_; subst f4_; subst f5_))
    refine hK.out _ _ ⟨(blk_cell BK340.out 0).trans rfl, (blk_cell BK340.out 1).trans rfl, (blk_cell BK340.out 2).trans rfl⟩ (fun hHeld => ?_)
    clear hK K
    refine norm_ (a' := ?_) ?_ ?_
    rotate_left
    ·show Act.put _ (some 17) _ = _
     simp only [Act.put, q1, q2, q3, i64_w, i32_w]
     rfl
    refine one_ (i := 5) (N := some 19) #[true, true, true, true, true, true, false, false, false, true, false, false] rfl rfl (one_of HT_.out (by kernel_rfl)) (by decide) (fun K hK => ?_)
    refine goes_ Try.func54 (by kernel_rfl) rfl #[.agg #[.int .i64 t343, .int .i64 t344, .slice Ao17 t345.length co17], .slice Ao18 t348.length co18, .int .i64 a1] (by rfl) rfl rfl (by (try simp only [List.map_toArray, List.map_cons, List.map_nil]); first | done | rfl | (simp only [List.length_drop, List.length_take]; rfl)) ?_
    with_reducible refine (impl_drop.calls k t343 t344 (fun k_ => some k_ = (.slice Ao17 t345.length co17 : Value).ownBlock) (.slice Ao17 t345.length co17) t345 _ _ t348 a1 t351 t352 t353 t354 t357 w _ ?side1 ?side2 ?side3 ?side4 A7.out).mono ?_
    (case side1 => repeat (first | (with_reducible first | exact HB.out | apply below_alloc | apply pw_below_drewN | apply below_drew1 | refine below_set ?_ GE340.out | refine below_set ?_ GE341.out | refine below_set ?_ GE358.out) | exact HB.out))
    (case side2 => exact Kd.R_tight rfl HO347.out)
    (case side3 => exact Kd.C_kept_own ((Kd.R_apart' HO350.out (Kd.R_typed HO347.out) (by decide))) (fun k_ hk_ hs_ => (hk_.2) hs_))
    (case side4 => exact (Kd.R_reads' HO350.out).2.1)
    rintro e w19 ⟨v355, rfl, ho0, hy0, hb, hkp⟩
    refine ⟨_, rfl, ?_⟩
    have HO356 := Aside0.mk (Kd.R_mono (ok' := fun k_ => some k_ ≠ (.slice Ao18 t348.length co18 : Value).ownBlock) ho0 (fun k_ hk_ => Or.elim hk_ (fun hs_ => fun e_ => ((((Kd.R_apart' HO350.out (Kd.R_typed HO347.out) (by decide))).1 k_ e_.symm).2) hs_) (fun hn_ => (Kd.fresh' (Kd.R_lt (viaR HO350)) k_ hn_))))
    replace BK340 := Aside0.mk (blk_kept (viaK BK340) hkp (fun hs_ => (fun e_ => (Kd.R_ne HO347.out BK340.out (by decide)) e_) hs_))
    replace BK341 := Aside0.mk (blk_kept (viaK BK341) hkp (fun hs_ => (fun e_ => (Kd.R_ne HO347.out BK341.out (by decide)) e_) hs_))
    replace BK358 := Aside0.mk (blk_kept (viaK BK358) hkp (fun hs_ => (fun e_ => (Kd.R_ne HO347.out BK358.out (by decide)) e_) hs_))
    replace HO350 := Aside0.mk (Kd.R_mono (ok' := fun k_ => some k_ ≠ (v355 : Value).ownBlock) (Kd.R_keptB ((Kd.R_apart' HO350.out (Kd.R_typed HO347.out) (by decide))) hkp (fun k_ hk_ hs_ => (hk_.2) hs_)) (fun k_ hk_ => fun e_ => Or.elim (ho0.1 k_ e_.symm) (fun hs_ => hk_.2.1 hs_) (fun hn_ => Nat.not_le.2 hk_.2.2 hn_)))
    replace HO347 := Aside0.mk (Kd.R_reok rfl hy0 (fun k_ e_ => HO347.out.1 k_ e_))
    replace HB := Aside0.mk (hb)
    (try clear hb); (try clear hkp); (try clear ho0); (try clear hy0)
    refine hK.out _ _ ⟨(blk_cell BK340.out 0).trans rfl, (blk_cell BK340.out 1).trans rfl, (blk_cell BK340.out 2).trans rfl⟩ (fun hHeld => ?_)
    clear hK K
    refine norm_ (a' := ?_) ?_ ?_
    rotate_left
    ·show Act.put _ (some 19) _ = _
     simp only [Act.put, q1, q2, q3, i64_w, i32_w]
     rfl
    refine pure_ (i := 6) (N := some 13) (v := ?_) (a' := ?_) #[true, true, true, true, true, true, true, false, false, true, false, false] rfl rfl (any_of HT_.out (by kernel_rfl)) (fun _ _ _ h => h) (Or.inl ⟨by rfl, ?_⟩) ?_ ?_
    rotate_left
    ·intro w'
     go_simp
     with_reducible rfl
    rotate_left
    ·simp only [Act.put, q1, q2, q3, i64_w, i32_w]
     rfl
    refine pure_ (i := 7) (N := some 20) (v := ?_) (a' := ?_) #[true, true, true, true, true, true, true, true, false, true, false, false] rfl rfl (any_of HT_.out (by kernel_rfl)) (fun _ _ _ h => h) (Or.inl ⟨by rfl, ?_⟩) ?_ ?_
    rotate_left
    ·intro w'
     go_simp
     with_reducible rfl
    rotate_left
    ·simp only [Act.put, q1, q2, q3, i64_w, i32_w]
     rfl
    refine pure_ (i := 8) (N := some 21) (v := ?_) (a' := ?_) #[true, true, true, true, true, true, true, true, true, true, false, false] rfl rfl (any_of HT_.out (by kernel_rfl)) (fun _ _ _ h => h) (Or.inl ⟨by rfl, ?_⟩) ?_ ?_
    rotate_left
    ·intro w'
     go_simp
     with_reducible rfl
    rotate_left
    ·simp only [Act.put, q1, q2, q3, i64_w, i32_w]
     rfl
    exact norm_ (by simp only [putAll, Act.put, q1, q2, q3]) (hCont (.slice Ao17 t345.length co17, .slice Ao18 t348.length co18, v355, gb358) _ ⟨hHeld, (viaR HO347), (viaR HO350), (viaR HO356), (viaK BK340), (viaK BK341), (viaK BK358), GW358.out, GE358.out, NB340_358.out, NB358_340.out, NB341_358.out, NB358_341.out, (viaB HB)⟩)
  rintro ⟨v346, v349, v355, gb358⟩ w20 ⟨hS_, h0_, h1_, h2_, h3_, h4_, h5_, h6_, h7_, h8_, h9_, h10_, h11_, h12_⟩
  have HO347 : Aside0 (Kd.R k89 89 w20 w.heap.size (fun _ => True) v346 t357) := ⟨h0_⟩
  have HO350 : Aside0 (Kd.R (Kd.int .i64) 3 w20 w.heap.size (fun k_ => some k_ ≠ (v355 : Value).ownBlock) v349 t348) := ⟨h1_⟩
  have HO356 : Aside0 (Kd.R (Kd.int .i64) 3 w20 w.heap.size (fun k_ => some k_ ≠ (v349 : Value).ownBlock) v355 t354) := ⟨h2_⟩
  have BK358 : Aside0 (w20.heap[gb358]? = some (.cells #[.int .i64 0, .int .i64 0, .int .i64 0] 27 (0, 0))) := ⟨h5_⟩
  have GW358 : Aside0 (w.heap.size ≤ gb358) := ⟨h6_⟩
  have GE358 : Aside0 (w.heap.size ≤ gb358) := ⟨h7_⟩
  have NB340_358 : Aside0 (gb340 ≠ gb358) := ⟨h8_⟩
  have NB358_340 : Aside0 (gb358 ≠ gb340) := ⟨h9_⟩
  have NB341_358 : Aside0 (gb341 ≠ gb358) := ⟨h10_⟩
  have NB358_341 : Aside0 (gb358 ≠ gb341) := ⟨h11_⟩
  replace BK340 : Aside0 (w20.heap[gb340]? = some (.cells #[.int .i64 a0_0, .int .i64 a0_1, .slice A0_2 l0_2.length c0_2] 32 (0, 0))) := ⟨h3_⟩
  replace BK341 : Aside0 (w20.heap[gb341]? = some (.cells #[.int .i64 0, .int .i64 0, .int .i64 0] 27 (0, 0))) := ⟨h4_⟩
  replace HB : Aside0 (Below w.heap.size w w20) := ⟨h12_⟩
  clear h0_ h1_ h2_ h3_ h4_ h5_ h6_ h7_ h8_ h9_ h10_ h11_ h12_
  have hHeld : w20.cell? ⟨gb340, 0, none⟩ = some (.int .i64 a0_0) ∧ w20.cell? ⟨gb340, 1, none⟩ = some (.int .i64 a0_1) ∧ w20.cell? ⟨gb340, 2, none⟩ = some (.slice A0_2 l0_2.length c0_2) := hS_
  refine norm_ (a' := ?_) ?_ ?_
  rotate_left
  ·simp only [putAll, Act.put, q1, q2, q3]
   rfl
  refine one_ (i := 10) (N := none) #[true, true, true, true, true, true, true, true, true, true, true, false] rfl rfl (one_of HT_.out (by kernel_rfl)) (by decide) (fun K hK => ?_)
  have hs21 : w20.cell? ⟨gb358, 0, none⟩ = some (.int .i64 0) := (blk_cell BK358.out 0).trans rfl
  have hfs21 := blk_frozen BK358.out 0
  have hns21_0 := NB340_358.out
  have hns21_1 := NB341_358.out
  have hms21_0 := NB358_340.out
  have hms21_1 := NB358_341.out
  have hs22 : w20.cell? ⟨gb358, 1, none⟩ = some (.int .i64 0) := (blk_cell BK358.out 1).trans rfl
  have hfs22 := blk_frozen BK358.out 1
  have hns22_0 := NB340_358.out
  have hns22_1 := NB341_358.out
  have hms22_0 := NB358_340.out
  have hms22_1 := NB358_341.out
  have hs23 : w20.cell? ⟨gb358, 2, none⟩ = some (.int .i64 0) := (blk_cell BK358.out 2).trans rfl
  have hfs23 := blk_frozen BK358.out 2
  have hns23_0 := NB340_358.out
  have hns23_1 := NB341_358.out
  have hms23_0 := NB358_340.out
  have hms23_1 := NB358_341.out
  refine skip_ (w1 := ?_) (by rfl) rfl ?_ ?_
  rotate_left
  ·go_simp
   rfl
  refine hK.out _ _ ⟨((cell_far (p := ⟨gb358, _, none⟩) NB340_358.out _).trans (((cell_far (p := ⟨gb358, _, none⟩) NB340_358.out _).trans (((cell_far (p := ⟨gb358, _, none⟩) NB340_358.out _).trans (hHeld.1)))))), ((cell_far (p := ⟨gb358, _, none⟩) NB340_358.out _).trans (((cell_far (p := ⟨gb358, _, none⟩) NB340_358.out _).trans (((cell_far (p := ⟨gb358, _, none⟩) NB340_358.out _).trans (hHeld.2.1)))))), ((cell_far (p := ⟨gb358, _, none⟩) NB340_358.out _).trans (((cell_far (p := ⟨gb358, _, none⟩) NB340_358.out _).trans (((cell_far (p := ⟨gb358, _, none⟩) NB340_358.out _).trans (hHeld.2.2))))))⟩ (fun hHeld => ?_)
  clear hK K
  refine pure_ (i := 11) (N := some 7) (v := ?_) (a' := ?_) #[true, true, true, true, true, true, true, true, true, true, true, true] rfl rfl (any_of HT_.out (by kernel_rfl)) (fun _ _ _ h => h) (Or.inl ⟨by rfl, ?_⟩) ?_ ?_
  rotate_left
  ·intro w'
   go_simp
   with_reducible rfl
  rotate_left
  ·simp only [Act.put, q1, q2, q3, i64_w, i32_w]
   rfl
  refine done_ (done_of HT_.out (by kernel_rfl)) ?_
  have hnb24 := NB358_340.out
  have hnc24 := NB340_358.out
  have hnb25 := NB358_341.out
  have hnc25 := NB341_358.out
  have hcz26_0 := bc0 BK358
  have hcz26_1 := bc1 BK358
  have hcz26_2 := bc2 BK358
  have hfz26_0 := blk_frozen BK358.out 0
  have hfz26_1 := blk_frozen BK358.out 1
  have hfz26_2 := blk_frozen BK358.out 2
  have hcz27_0 := bc0 BK341
  have hcz27_1 := bc1 BK341
  have hcz27_2 := bc2 BK341
  have hfz27_0 := blk_frozen BK341.out 0
  have hfz27_1 := blk_frozen BK341.out 1
  have hfz27_2 := blk_frozen BK341.out 2
  try go_wp2
  refine bodyPost_ret (results_ct rfl _ _ gb341 27 #[.int .i64 t351, .int .i64 t352, .int .i64 t353] (0, 0) _ rfl (by (with_reducible repeat (first | refine blk_drewN ?_ _ | refine blk_drew ?_ | refine blk_alloc ?_ _)); refine blk_put (cs := #[.int .i64 t351, .int .i64 t352, .int .i64 0]) ?_ 2 _ rfl; (with_reducible repeat (first | refine blk_drewN ?_ _ | refine blk_drew ?_ | refine blk_alloc ?_ _)); refine blk_put (cs := #[.int .i64 t351, .int .i64 0, .int .i64 0]) ?_ 1 _ rfl; (with_reducible repeat (first | refine blk_drewN ?_ _ | refine blk_drew ?_ | refine blk_alloc ?_ _)); refine blk_put (cs := #[.int .i64 0, .int .i64 0, .int .i64 0]) ?_ 0 _ rfl; (with_reducible repeat (first | refine blk_drewN ?_ _ | refine blk_drew ?_ | refine blk_alloc ?_ _)); refine blk_far ?_ NB341_358.out _; (with_reducible repeat (first | refine blk_drewN ?_ _ | refine blk_drew ?_ | refine blk_alloc ?_ _)); refine blk_far ?_ NB341_358.out _; (with_reducible repeat (first | refine blk_drewN ?_ _ | refine blk_drew ?_ | refine blk_alloc ?_ _)); refine blk_far ?_ NB341_358.out _; (with_reducible repeat (first | refine blk_drewN ?_ _ | refine blk_drew ?_ | refine blk_alloc ?_ _)); exact BK341.out) Try.underlying27 rfl (by kernel_rfl)) rfl ?_
  exact ⟨by first | rfl | (simp [errW_none, errW_some] <;> rfl) | (simp [*, errW_none, errW_some] <;> rfl), viaB HB⟩
 ·replace c4 := Bool.eq_false_iff.mpr c4
  subst c4
  have H1 : (some (0, 0, 0, false)) = some (r1, r2, r3, r4) := by rw [if_neg (show ¬ (false = true) by decide)] at H; exact H
  clear H
  have H := H1
  clear H1
  simp only [Option.some.injEq, Prod.mk.injEq] at H
  obtain ⟨rfl, rfl, rfl, rfl⟩ := H
  go_enter Try.func16, Try.ntmps16
  go_wp2_with (first | ((with_reducible refine gate_dst (N := 2) rfl ?_); refine box_ev (N := 2) (cs := #[.int .i64 a0_0, .int .i64 a0_1, .slice A0_2 l0_2.length c0_2]) (t := 32) ?_; intro gb340 hg w28 hbox hb; have BK340 := Aside0.mk (hbox); have GW340 := gW (w := w) HB hg; have GE340 := gW (w := w) HB hg; replace HB := bB HB hb; clear hb hbox hg) | ((with_reducible refine gate_dst (N := 4) rfl ?_); refine box_ev (N := 4) (cs := #[.int .i64 0, .int .i64 0, .int .i64 0]) (t := 27) ?_; intro gb341 hg w29 hbox hb; have BK341 := Aside0.mk (hbox); have GW341 := gW (w := w) HB hg; have GE341 := gW (w := w) HB hg; have NB340_341 := neL BK340 hg; have NB341_340 := neG BK340 hg; replace BK340 := kB BK340 hb; replace HB := bB HB hb; clear hb hbox hg; have hnb30 := NB340_341.out; have hnc30 := NB341_340.out; have hcz31_0 := bc0 BK340; have hcz31_1 := bc1 BK340; have hcz31_2 := bc2 BK340; have hfz31_0 := blk_frozen BK340.out 0; have hfz31_1 := blk_frozen BK340.out 1; have hfz31_2 := blk_frozen BK340.out 2) | ((with_reducible refine gate_callee (f := 53) rfl ?_); refine goesA (some 10) _ #[.agg #[.int .i64 a0_0, .int .i64 a0_1, .slice A0_2 l0_2.length c0_2], .int .i64 a1] ?_ Try.func53; (with_reducible refine (impl_validEntry.calls k a0_0 a0_1 _ _ l0_2 a1 false _ ?side1 ?side2 A3.out).mono ?_); (case side1 => repeat (first | exact (Kd.C_below HR0_2.out HB.out) | (with_reducible refine Kd.C_alloc ?_ _) | (with_reducible refine Kd.C_drewN ?_ _) | (with_reducible refine Kd.C_drew ?_))); (case side2 => exact HC0_2.out); rintro e w32 ⟨rfl, hb⟩; refine ⟨_, rfl, ?_⟩; replace BK340 := kB BK340 hb; replace BK341 := kB BK341 hb; replace HB := bB HB hb; (try clear hb); (try clear hb2); (try clear hk); (try clear hi); have hcz33_0 := bc0 BK341; have hcz33_1 := bc1 BK341; have hcz33_2 := bc2 BK341; have hfz33_0 := blk_frozen BK341.out 0; have hfz33_1 := blk_frozen BK341.out 1; have hfz33_2 := blk_frozen BK341.out 2))
  refine bodyPost_ret (results_ct rfl _ _ gb341 27 #[.int .i64 0, .int .i64 0, .int .i64 0] (0, 0) _ rfl (by (with_reducible repeat (first | refine blk_drewN ?_ _ | refine blk_drew ?_ | refine blk_alloc ?_ _)); refine blk_put (cs := #[.int .i64 0, .int .i64 0, .int .i64 0]) ?_ 2 _ rfl; (with_reducible repeat (first | refine blk_drewN ?_ _ | refine blk_drew ?_ | refine blk_alloc ?_ _)); refine blk_put (cs := #[.int .i64 0, .int .i64 0, .int .i64 0]) ?_ 1 _ rfl; (with_reducible repeat (first | refine blk_drewN ?_ _ | refine blk_drew ?_ | refine blk_alloc ?_ _)); refine blk_put (cs := #[.int .i64 0, .int .i64 0, .int .i64 0]) ?_ 0 _ rfl; (with_reducible repeat (first | refine blk_drewN ?_ _ | refine blk_drew ?_ | refine blk_alloc ?_ _)); exact BK341.out) Try.underlying27 rfl (by kernel_rfl)) rfl ?_
  exact ⟨by first | rfl | (simp [errW_none, errW_some] <;> rfl) | (simp [*, errW_none, errW_some] <;> rfl), viaB HB⟩

/-! ### laws_eqFall: function 17 -/
def laws_eqFall.f (a0_0 : Int) (a0_1 : Int) (a0_2 : Int) (a1_0 : Int) (a1_1 : Int) (a1_2 : Int) : Option (Bool) := if a0_0 = a1_0 then (if a0_1 = a1_1 then (if a0_2 = a1_2 then (some true) else (some false)) else (some false)) else (some false)
set_option maxHeartbeats 8000000 in
set_option maxRecDepth 100000 in
theorem laws_eqFall.calls (a0_0 : Int) (a0_1 : Int) (a0_2 : Int) (a1_0 : Int) (a1_1 : Int) (a1_2 : Int) (r : Bool) (w : World) (h : laws_eqFall.f a0_0 a0_1 a0_2 a1_0 a1_1 a1_2 = some r) :
  Calls Try.prog 17 #[.agg #[.int .i64 a0_0, .int .i64 a0_1, .int .i64 a0_2], .agg #[.int .i64 a1_0, .int .i64 a1_1, .int .i64 a1_2]] w fun e w' => e = .returned (.bool r) ∧ Below w.heap.size w w' := by
 have hu27 := Try.underlying27
 have HB := Aside0.mk (Below.refl w.heap.size w)
 have H : (if a0_0 = a1_0 then (if a0_1 = a1_1 then (if a0_2 = a1_2 then (some true) else (some false)) else (some false)) else (some false)) = some r := h
 clear h
 by_cases c3 : a0_0 = a1_0
 ·rw [if_pos c3] at H
  have c3b0 := beq_iff_eq.mpr c3
  have c3b1 := bne_eq_false_iff_eq.mpr c3
  clear c3
  by_cases c4 : a0_1 = a1_1
  ·rw [if_pos c4] at H
   have c4b0 := beq_iff_eq.mpr c4
   have c4b1 := bne_eq_false_iff_eq.mpr c4
   clear c4
   by_cases c5 : a0_2 = a1_2
   ·rw [if_pos c5] at H
    have c5b0 := beq_iff_eq.mpr c5
    have c5b1 := bne_eq_false_iff_eq.mpr c5
    clear c5
    obtain rfl := Option.some.inj H
    go_enter Try.func17, Try.ntmps17
    go_wp2_with (first | ((with_reducible refine gate_dst (N := 2) rfl ?_); refine box_ev (N := 2) (cs := #[.int .i64 a0_0, .int .i64 a0_1, .int .i64 a0_2]) (t := 27) ?_; intro gb359 hg w6 hbox hb; have BK359 := Aside0.mk (hbox); have GW359 := gW (w := w) HB hg; have GE359 := gW (w := w) HB hg; replace HB := bB HB hb; clear hb hbox hg) | ((with_reducible refine gate_dst (N := 3) rfl ?_); refine box_ev (N := 3) (cs := #[.int .i64 a1_0, .int .i64 a1_1, .int .i64 a1_2]) (t := 27) ?_; intro gb360 hg w7 hbox hb; have BK360 := Aside0.mk (hbox); have GW360 := gW (w := w) HB hg; have GE360 := gW (w := w) HB hg; have NB359_360 := neL BK359 hg; have NB360_359 := neG BK359 hg; replace BK359 := kB BK359 hb; replace HB := bB HB hb; clear hb hbox hg; have hnb8 := NB359_360.out; have hnc8 := NB360_359.out; have hcz9_0 := bc0 BK359; have hcz9_1 := bc1 BK359; have hcz9_2 := bc2 BK359; have hfz9_0 := blk_frozen BK359.out 0; have hfz9_1 := blk_frozen BK359.out 1; have hfz9_2 := blk_frozen BK359.out 2; have hcz10_0 := bc0 BK360; have hcz10_1 := bc1 BK360; have hcz10_2 := bc2 BK360; have hfz10_0 := blk_frozen BK360.out 0; have hfz10_1 := blk_frozen BK360.out 1; have hfz10_2 := blk_frozen BK360.out 2))
    go_ret
    exact ⟨by first | rfl | (simp [errW_none, errW_some] <;> rfl) | (simp [*, errW_none, errW_some] <;> rfl), viaB HB⟩
   ·rw [if_neg c5] at H
    have c5b0 := beq_eq_false_iff_ne.mpr c5
    have c5b1 := bne_iff_ne.mpr c5
    obtain rfl := Option.some.inj H
    go_enter Try.func17, Try.ntmps17
    go_wp2_with (first | ((with_reducible refine gate_dst (N := 2) rfl ?_); refine box_ev (N := 2) (cs := #[.int .i64 a0_0, .int .i64 a0_1, .int .i64 a0_2]) (t := 27) ?_; intro gb359 hg w11 hbox hb; have BK359 := Aside0.mk (hbox); have GW359 := gW (w := w) HB hg; have GE359 := gW (w := w) HB hg; replace HB := bB HB hb; clear hb hbox hg) | ((with_reducible refine gate_dst (N := 3) rfl ?_); refine box_ev (N := 3) (cs := #[.int .i64 a1_0, .int .i64 a1_1, .int .i64 a1_2]) (t := 27) ?_; intro gb360 hg w12 hbox hb; have BK360 := Aside0.mk (hbox); have GW360 := gW (w := w) HB hg; have GE360 := gW (w := w) HB hg; have NB359_360 := neL BK359 hg; have NB360_359 := neG BK359 hg; replace BK359 := kB BK359 hb; replace HB := bB HB hb; clear hb hbox hg; have hnb13 := NB359_360.out; have hnc13 := NB360_359.out; have hcz14_0 := bc0 BK359; have hcz14_1 := bc1 BK359; have hcz14_2 := bc2 BK359; have hfz14_0 := blk_frozen BK359.out 0; have hfz14_1 := blk_frozen BK359.out 1; have hfz14_2 := blk_frozen BK359.out 2; have hcz15_0 := bc0 BK360; have hcz15_1 := bc1 BK360; have hcz15_2 := bc2 BK360; have hfz15_0 := blk_frozen BK360.out 0; have hfz15_1 := blk_frozen BK360.out 1; have hfz15_2 := blk_frozen BK360.out 2))
    go_ret
    exact ⟨by first | rfl | (simp [errW_none, errW_some] <;> rfl) | (simp [*, errW_none, errW_some] <;> rfl), viaB HB⟩
  ·rw [if_neg c4] at H
   have c4b0 := beq_eq_false_iff_ne.mpr c4
   have c4b1 := bne_iff_ne.mpr c4
   obtain rfl := Option.some.inj H
   go_enter Try.func17, Try.ntmps17
   go_wp2_with (first | ((with_reducible refine gate_dst (N := 2) rfl ?_); refine box_ev (N := 2) (cs := #[.int .i64 a0_0, .int .i64 a0_1, .int .i64 a0_2]) (t := 27) ?_; intro gb359 hg w16 hbox hb; have BK359 := Aside0.mk (hbox); have GW359 := gW (w := w) HB hg; have GE359 := gW (w := w) HB hg; replace HB := bB HB hb; clear hb hbox hg) | ((with_reducible refine gate_dst (N := 3) rfl ?_); refine box_ev (N := 3) (cs := #[.int .i64 a1_0, .int .i64 a1_1, .int .i64 a1_2]) (t := 27) ?_; intro gb360 hg w17 hbox hb; have BK360 := Aside0.mk (hbox); have GW360 := gW (w := w) HB hg; have GE360 := gW (w := w) HB hg; have NB359_360 := neL BK359 hg; have NB360_359 := neG BK359 hg; replace BK359 := kB BK359 hb; replace HB := bB HB hb; clear hb hbox hg; have hnb18 := NB359_360.out; have hnc18 := NB360_359.out; have hcz19_0 := bc0 BK359; have hcz19_1 := bc1 BK359; have hcz19_2 := bc2 BK359; have hfz19_0 := blk_frozen BK359.out 0; have hfz19_1 := blk_frozen BK359.out 1; have hfz19_2 := blk_frozen BK359.out 2; have hcz20_0 := bc0 BK360; have hcz20_1 := bc1 BK360; have hcz20_2 := bc2 BK360; have hfz20_0 := blk_frozen BK360.out 0; have hfz20_1 := blk_frozen BK360.out 1; have hfz20_2 := blk_frozen BK360.out 2))
   go_ret
   exact ⟨by first | rfl | (simp [errW_none, errW_some] <;> rfl) | (simp [*, errW_none, errW_some] <;> rfl), viaB HB⟩
 ·rw [if_neg c3] at H
  have c3b0 := beq_eq_false_iff_ne.mpr c3
  have c3b1 := bne_iff_ne.mpr c3
  obtain rfl := Option.some.inj H
  go_enter Try.func17, Try.ntmps17
  go_wp2_with (first | ((with_reducible refine gate_dst (N := 2) rfl ?_); refine box_ev (N := 2) (cs := #[.int .i64 a0_0, .int .i64 a0_1, .int .i64 a0_2]) (t := 27) ?_; intro gb359 hg w21 hbox hb; have BK359 := Aside0.mk (hbox); have GW359 := gW (w := w) HB hg; have GE359 := gW (w := w) HB hg; replace HB := bB HB hb; clear hb hbox hg) | ((with_reducible refine gate_dst (N := 3) rfl ?_); refine box_ev (N := 3) (cs := #[.int .i64 a1_0, .int .i64 a1_1, .int .i64 a1_2]) (t := 27) ?_; intro gb360 hg w22 hbox hb; have BK360 := Aside0.mk (hbox); have GW360 := gW (w := w) HB hg; have GE360 := gW (w := w) HB hg; have NB359_360 := neL BK359 hg; have NB360_359 := neG BK359 hg; replace BK359 := kB BK359 hb; replace HB := bB HB hb; clear hb hbox hg; have hnb23 := NB359_360.out; have hnc23 := NB360_359.out; have hcz24_0 := bc0 BK359; have hcz24_1 := bc1 BK359; have hcz24_2 := bc2 BK359; have hfz24_0 := blk_frozen BK359.out 0; have hfz24_1 := blk_frozen BK359.out 1; have hfz24_2 := blk_frozen BK359.out 2; have hcz25_0 := bc0 BK360; have hcz25_1 := bc1 BK360; have hcz25_2 := bc2 BK360; have hfz25_0 := blk_frozen BK360.out 0; have hfz25_1 := blk_frozen BK360.out 1; have hfz25_2 := blk_frozen BK360.out 2))
  go_ret
  exact ⟨by first | rfl | (simp [errW_none, errW_some] <;> rfl) | (simp [*, errW_none, errW_some] <;> rfl), viaB HB⟩

end Go.Proofs.Ytoklfgjemfojgaa.PFnExactFallOf
