/- This text began as one that print.sh wrote for this seat (of the functions named below); it is this session's own: turned where Lean did not take the printed proof, where it was too long for a claim, or only in what it imports. -/
import Derived.Test.YtoklfgjemfojgaaG0
import Derived.Test.YtoklfgjemfojgaaG13
import Derived.Test.YtoklfgjemfojgaaG15
import Derived.Test.YtoklfgjemfojgaaG16
import Derived.Test.YtoklfgjemfojgaaG17
namespace Go.Proofs.Ytoklfgjemfojgaa.PAll
open Go.RowKit Go.Proofs.YtoklfgjemfojgaaW.PrintWords Go.Proofs.YtoklfgjemfojgaaW.PrintLast Go.Proofs.YtoklfgjemfojgaaW.PrintMore
attribute [local go_sem] max2_int min2_int max_two min_two max_three min_three max_four min_four   -- for this text's walks alone
set_option linter.unusedVariables false
set_option linter.unusedSimpArgs false

/-! ### impl_FallOf: function 16 -/
def impl_FallOf.f (k : Nat) (a0_0 : Int) (a0_1 : Int) (l0_2 : List (S89)) (a1 : Int) : Option (Int × Int × Int × Bool) := (impl_validEntry.f k a0_0 a0_1 l0_2 a1).bind fun t358 => (if t358 = true then ((impl_copyBoard.f a0_0 a0_1 l0_2).bind fun bt359 => ((impl_groupNumbers.f k a0_0 a0_1 l0_2).bind fun t364 => ((impl_drop.f k bt359.1 bt359.2.1 bt359.2.2 t364 a1).bind fun bt367 => (some (bt367.1, bt367.2.1, bt367.2.2.1, true))))) else (some (0, 0, 0, false)))
theorem impl_FallOf.mono : ∀ a0 a1 a2 a3 k, LeO (impl_FallOf.f k a0 a1 a2 a3) (impl_FallOf.f (k + 1) a0 a1 a2 a3) := by
 intro a0 a1 a2 a3 k
 unfold impl_FallOf.f
 repeat' first | (with_reducible first | exact impl_drop.mono _ _ _ _ _ _ | exact impl_groupNumbers.mono _ _ _ _ | exact impl_validEntry.mono _ _ _ _ _ | exact LeO.refl _ | exact LeO.none _ | refine LeO.ite ?_ ?_ | refine LeO.bind ?_ (fun _ => ?_)) | exact impl_drop.mono _ _ _ _ _ _ | exact impl_groupNumbers.mono _ _ _ _ | exact impl_validEntry.mono _ _ _ _ _ | exact LeO.none _ | refine LeO.ite ?_ ?_ | refine LeO.bind ?_ (fun _ => ?_)
def impl_FallOf.T3 : Bool × List (List Nat × List Nat) := (true, [([], []), ([0], [0]), ([], []), ([2, 1], [2]), ([], []), ([1, 3, 4, 3], [1, 3, 4]), ([5], [5]), ([6], [6]), ([6], [6]), ([], []), ([9, 7, 5, 0, 1, 2, 3, 4, 5, 6, 7, 9], [7, 9]), ([8, 10, 0, 1, 2, 3, 4, 5, 6, 7, 8, 9, 10], [8])])
def impl_FallOf.B3 : List Nat := [0, 1, 0, 7, 0, 31, 63, 127, 127, 0, 767, 2047]
theorem impl_FallOf.tab3 : rtab .any (opsOf Try.f16 3) = impl_FallOf.T3 := by kernel_rfl
theorem impl_FallOf.bits3 : waitsOk impl_FallOf.T3.2 impl_FallOf.B3 = true := by kernel_rfl
set_option maxHeartbeats 8000000 in
set_option maxRecDepth 100000 in
theorem impl_FallOf.calls (k : Nat) (a0_0 : Int) (a0_1 : Int) (A0_2 : Option Addr) (c0_2 : Nat) (l0_2 : List (S89)) (a1 : Int) (r1 : Int) (r2 : Int) (r3 : Int) (r4 : Bool) (w : World) (hr0_2 : Kd.C k89 w A0_2 l0_2.length l0_2) (hc0_2 : l0_2.length ≤ c0_2) (h : impl_FallOf.f k a0_0 a0_1 l0_2 a1 = some (r1, r2, r3, r4)) :
  Calls Try.prog 16 #[.agg #[.int .i64 a0_0, .int .i64 a0_1, .slice A0_2 l0_2.length c0_2], .int .i64 a1] w fun e w' => e = .returned (.tuple #[.agg #[.int .i64 r1, .int .i64 r2, .int .i64 r3], .bool r4]) ∧ Below w.heap.size w w' := by
 have hu32 := Try.underlying32
 have hu27 := Try.underlying27
 have HR0_2 := Aside0.mk hr0_2
 have HC0_2 := Aside0.mk hc0_2
 clear hr0_2 hc0_2
 have HB := Aside0.mk (Below.refl w.heap.size w)
 have H : ((impl_validEntry.f k a0_0 a0_1 l0_2 a1).bind fun t358 => (if t358 = true then ((impl_copyBoard.f a0_0 a0_1 l0_2).bind fun bt359 => ((impl_groupNumbers.f k a0_0 a0_1 l0_2).bind fun t364 => ((impl_drop.f k bt359.1 bt359.2.1 bt359.2.2 t364 a1).bind fun bt367 => (some (bt367.1, bt367.2.1, bt367.2.2.1, true))))) else (some (0, 0, 0, false)))) = some (r1, r2, r3, r4) := h
 clear h
 replace H := Option.bind_eq_some_iff.mp H
 obtain ⟨t358, A30, H⟩ := H
 replace H : (if t358 = true then ((impl_copyBoard.f a0_0 a0_1 l0_2).bind fun bt359 => ((impl_groupNumbers.f k a0_0 a0_1 l0_2).bind fun t364 => ((impl_drop.f k bt359.1 bt359.2.1 bt359.2.2 t364 a1).bind fun bt367 => (some (bt367.1, bt367.2.1, bt367.2.2.1, true))))) else (some (0, 0, 0, false))) = some (r1, r2, r3, r4) := H
 have A3 := Aside0.mk A30
 clear A30
 by_cases c4 : t358 = true
 ·subst c4
  have H1 : ((impl_copyBoard.f a0_0 a0_1 l0_2).bind fun bt359 => ((impl_groupNumbers.f k a0_0 a0_1 l0_2).bind fun t364 => ((impl_drop.f k bt359.1 bt359.2.1 bt359.2.2 t364 a1).bind fun bt367 => (some (bt367.1, bt367.2.1, bt367.2.2.1, true))))) = some (r1, r2, r3, r4) := by rw [if_pos rfl] at H; exact H
  clear H
  have H := H1
  clear H1
  replace H := Option.bind_eq_some_iff.mp H
  obtain ⟨⟨t359, t360, t361⟩, A50, H⟩ := H
  replace H : ((impl_groupNumbers.f k a0_0 a0_1 l0_2).bind fun t364 => ((impl_drop.f k t359 t360 t361 t364 a1).bind fun bt367 => (some (bt367.1, bt367.2.1, bt367.2.2.1, true)))) = some (r1, r2, r3, r4) := H
  have A5 := Aside0.mk A50
  clear A50
  replace H := Option.bind_eq_some_iff.mp H
  obtain ⟨t364, A60, H⟩ := H
  replace H : ((impl_drop.f k t359 t360 t361 t364 a1).bind fun bt367 => (some (bt367.1, bt367.2.1, bt367.2.2.1, true))) = some (r1, r2, r3, r4) := H
  have A6 := Aside0.mk A60
  clear A60
  replace H := Option.bind_eq_some_iff.mp H
  obtain ⟨⟨t367, t368, t369, t370, t373⟩, A70, H⟩ := H
  replace H : (some (t367, t368, t369, true)) = some (r1, r2, r3, r4) := H
  have A7 := Aside0.mk A70
  clear A70
  simp only [Option.some.injEq, Prod.mk.injEq] at H
  obtain ⟨rfl, rfl, rfl, rfl⟩ := H
  go_enter Try.func16, Try.ntmps16
  try go_wp2_with (first | ((with_reducible refine gate_dst (N := 2) rfl ?_); refine box_ev (N := 2) (cs := #[.int .i64 a0_0, .int .i64 a0_1, .slice A0_2 l0_2.length c0_2]) (t := 32) ?_; intro gb356 hg w8 hbox hb; have BK356 := Aside0.mk (hbox); have GW356 := gW (w := w) HB hg; have GE356 := gW (w := w) HB hg; replace HB := bB HB hb; clear hb hbox hg) | ((with_reducible refine gate_dst (N := 4) rfl ?_); refine box_ev (N := 4) (cs := #[.int .i64 0, .int .i64 0, .int .i64 0]) (t := 27) ?_; intro gb357 hg w9 hbox hb; have BK357 := Aside0.mk (hbox); have GW357 := gW (w := w) HB hg; have GE357 := gW (w := w) HB hg; have NB356_357 := neL BK356 hg; have NB357_356 := neG BK356 hg; replace BK356 := kB BK356 hb; replace HB := bB HB hb; clear hb hbox hg; have hnb10 := NB356_357.out; have hnc10 := NB357_356.out; have hcz11_0 := bc0 BK356; have hcz11_1 := bc1 BK356; have hcz11_2 := bc2 BK356; have hfz11_0 := blk_frozen BK356.out 0; have hfz11_1 := blk_frozen BK356.out 1; have hfz11_2 := blk_frozen BK356.out 2) | ((with_reducible refine gate_callee (f := 53) rfl ?_); refine goesA (some 10) _ #[.agg #[.int .i64 a0_0, .int .i64 a0_1, .slice A0_2 l0_2.length c0_2], .int .i64 a1] ?_ Try.func53; (with_reducible refine (impl_validEntry.calls k a0_0 a0_1 _ _ l0_2 a1 true _ ?side1 ?side2 A3.out).mono ?_); (case side1 => repeat (first | exact (Kd.C_below HR0_2.out HB.out) | (with_reducible refine Kd.C_alloc ?_ _) | (with_reducible refine Kd.C_drewN ?_ _) | (with_reducible refine Kd.C_drew ?_))); (case side2 => exact HC0_2.out); rintro e w12 ⟨rfl, hb⟩; refine ⟨_, rfl, ?_⟩; replace BK356 := kB BK356 hb; replace BK357 := kB BK357 hb; replace HB := bB HB hb; (try clear hb); (try clear hb2); (try clear hk); (try clear hi)))
  replace BK356 := Aside0.mk (blk_drew BK356.out)
  replace BK357 := Aside0.mk (blk_drew BK357.out)
  replace HB := Aside0.mk (below_drew1 HB.out)
  refine start_ (n := 12) (S := fun w' => w'.cell? ⟨gb356, 0, none⟩ = some (.int .i64 a0_0) ∧ w'.cell? ⟨gb356, 1, none⟩ = some (.int .i64 a0_1) ∧ w'.cell? ⟨gb356, 2, none⟩ = some (.slice A0_2 l0_2.length c0_2)) (ds := []) #[false, false, false, false, false, false, false, false, false, false, false, false] (by kernel_rfl) rfl rfl ⟨(blk_cell BK356.out 0).trans rfl, (blk_cell BK356.out 1).trans rfl, (blk_cell BK356.out 2).trans rfl⟩ (fun hHeld => ?_); refine with_tabW impl_FallOf.tab3 impl_FallOf.bits3 (fun HT_ HW_ => ?_)
  generalize w12.drew = w13 at BK356 BK357 HB hHeld ⊢
  refine pure_ (i := 4) (N := some 18) (v := ?_) (a' := ?_) #[false, false, false, false, true, false, false, false, false, false, false, false] rfl rfl (any_of HT_.out (by kernel_rfl)) (fun _ _ _ h => h) (Or.inl ⟨by rfl, ?_⟩) ?_ ?_
  rotate_left
  ·intro w'
   go_simp
   with_reducible rfl
  rotate_left
  ·simp only [Act.put, q1, q2, q3, i64_w, i32_w]
   rfl
  refine take_ (i := 0) (N := some 14) (v := ?_) (a' := ?_) #[true, false, false, false, true, false, false, false, false, false, false, false] rfl rfl (take_ofW HT_.out HW_.out (by kernel_rfl)) (fun _ _ _ h => h) (Or.inl ⟨by rfl, ?_⟩) hHeld ?_ ?_
  rotate_left
  ·rintro w' ⟨s0, s1, s2⟩
   go_simp
   with_reducible rfl
  rotate_left
  ·simp only [Act.put, q1, q2, q3, i64_w, i32_w]
   rfl
  refine take_ (i := 2) (N := some 16) (v := ?_) (a' := ?_) #[true, false, true, false, true, false, false, false, false, false, false, false] rfl rfl (take_ofW HT_.out HW_.out (by kernel_rfl)) (fun _ _ _ h => h) (Or.inl ⟨by rfl, ?_⟩) hHeld ?_ ?_
  rotate_left
  ·rintro w' ⟨s0, s1, s2⟩
   go_simp
   with_reducible rfl
  rotate_left
  ·simp only [Act.put, q1, q2, q3, i64_w, i32_w]
   rfl
  refine join_ (σ := Value × Value × Value × Nat) 2 #[true, true, true, true, true, true, true, true, true, true, false, false] (fun s_ => [(15, .agg #[.int .i64 t359, .int .i64 t360, s_.1]), (17, s_.2.1), (19, .tuple #[.agg #[.int .i64 t367, .int .i64 t368, .int .i64 t369], s_.2.2.1]), (6, .pointer (some ⟨s_.2.2.2, 0, none⟩)), (13, .tuple #[.agg #[.int .i64 t367, .int .i64 t368, .int .i64 t369], s_.2.2.1]), (20, .agg #[.int .i64 t367, .int .i64 t368, .int .i64 t369]), (21, s_.2.2.1)]) (fun s_ w' => (w'.cell? ⟨gb356, 0, none⟩ = some (.int .i64 a0_0) ∧ w'.cell? ⟨gb356, 1, none⟩ = some (.int .i64 a0_1) ∧ w'.cell? ⟨gb356, 2, none⟩ = some (.slice A0_2 l0_2.length c0_2)) ∧ (Kd.R k89 89 w' w.heap.size (fun _ => True) s_.1 t373) ∧ (Kd.R (Kd.int .i64) 3 w' w.heap.size (fun k_ => some k_ ≠ (s_.2.2.1 : Value).ownBlock) s_.2.1 t364) ∧ (Kd.R (Kd.int .i64) 3 w' w.heap.size (fun k_ => some k_ ≠ (s_.2.1 : Value).ownBlock) s_.2.2.1 t370) ∧ (w'.heap[gb356]? = some (.cells #[.int .i64 a0_0, .int .i64 a0_1, .slice A0_2 l0_2.length c0_2] 32 (0, 0))) ∧ (w'.heap[gb357]? = some (.cells #[.int .i64 0, .int .i64 0, .int .i64 0] 27 (0, 0))) ∧ (w'.heap[s_.2.2.2]? = some (.cells #[.int .i64 0, .int .i64 0, .int .i64 0] 27 (0, 0))) ∧ (w.heap.size ≤ s_.2.2.2) ∧ (w.heap.size ≤ s_.2.2.2) ∧ (gb356 ≠ s_.2.2.2) ∧ (s_.2.2.2 ≠ gb356) ∧ (gb357 ≠ s_.2.2.2) ∧ (s_.2.2.2 ≠ gb357) ∧ (Below w.heap.size w w')) ?_ ?_
  rotate_left
  ·intro hCont
   refine two_ (i := 1) (j := 9) (Ni := some 15) (Nj := some 6) #[true, true, true, false, true, false, false, false, false, false, false, false] #[true, false, true, false, true, false, false, false, false, true, false, false] rfl rfl rfl rfl (two_of HT_.out (by kernel_rfl)) (by decide) (by decide) (fun K hK => ?_) (fun K hK => ?_)
   ·skip
    refine goes_ Try.func55 (by kernel_rfl) rfl #[.agg #[.int .i64 a0_0, .int .i64 a0_1, .slice A0_2 l0_2.length c0_2]] (by rfl) rfl rfl (by (try simp only [List.map_toArray, List.map_cons, List.map_nil]); first | done | rfl | (simp only [List.length_drop, List.length_take]; rfl)) ?_
    with_reducible refine (impl_copyBoard.calls a0_0 a0_1 _ _ l0_2 t359 t360 t361 _ ?side1 ?side2 A5.out).mono ?_
    (case side1 => repeat (first | exact (Kd.C_below HR0_2.out HB.out) | (with_reducible refine Kd.C_alloc ?_ _) | (with_reducible refine Kd.C_drewN ?_ _) | (with_reducible refine Kd.C_drew ?_)))
    (case side2 => exact HC0_2.out)
    rintro e w14 ⟨v362, rfl, ho0, hb⟩
    refine ⟨_, rfl, ?_⟩
    have HO363 := Aside0.mk (Kd.R_lower ho0 (below_size (viaB HB)))
    replace BK356 := kB BK356 hb
    replace BK357 := kB BK357 hb
    replace HB := bB HB hb
    (try clear hb); (try clear ho0)
    refine hK.out _ _ ⟨(blk_cell BK356.out 0).trans rfl, (blk_cell BK356.out 1).trans rfl, (blk_cell BK356.out 2).trans rfl⟩ (fun hHeld => ?_)
    clear hK K
    refine norm_ (a' := ?_) ?_ ?_
    rotate_left
    ·show Act.put _ (some 15) _ = _
     simp only [Act.put, q1, q2, q3, i64_w, i32_w]
     rfl
    refine two_ (i := 3) (j := 9) (Ni := some 17) (Nj := some 6) #[true, true, true, true, true, false, false, false, false, false, false, false] #[true, true, true, false, true, false, false, false, false, true, false, false] rfl rfl rfl rfl (two_of HT_.out (by kernel_rfl)) (by decide) (by decide) (fun K hK => ?_) (fun K hK => ?_)
    ·skip
     refine goes_ Try.func56 (by kernel_rfl) rfl #[.agg #[.int .i64 a0_0, .int .i64 a0_1, .slice A0_2 l0_2.length c0_2]] (by rfl) rfl rfl (by (try simp only [List.map_toArray, List.map_cons, List.map_nil]); first | done | rfl | (simp only [List.length_drop, List.length_take]; rfl)) ?_
     with_reducible refine (impl_groupNumbers.calls k a0_0 a0_1 _ _ l0_2 t364 _ ?side1 ?side2 A6.out).mono ?_
     (case side1 => repeat (first | exact (Kd.C_below HR0_2.out HB.out) | (with_reducible refine Kd.C_alloc ?_ _) | (with_reducible refine Kd.C_drewN ?_ _) | (with_reducible refine Kd.C_drew ?_)))
     (case side2 => exact HC0_2.out)
     rintro e w15 ⟨v365, rfl, ho0, hb⟩
     refine ⟨_, rfl, ?_⟩
     have HO366 := Aside0.mk (Kd.R_lower ho0 (below_size (viaB HB)))
     replace HO363 := Aside0.mk (Kd.R_below (viaR HO363) hb)
     replace BK356 := kB BK356 hb
     replace BK357 := kB BK357 hb
     replace HB := bB HB hb
     (try clear hb); (try clear ho0)
     obtain ⟨Ao16, co16, eo16⟩ := Kd.R_slice HO363.out
     (first | subst eo16 | (injection eo16 with f1_ f2_ f3_; have f4_ := f1_.symm; have f5_ := f3_.symm; clear f1_ f2_ f3_; subst f4_; subst f5_))
     obtain ⟨Ao17, co17, eo17⟩ := Kd.R_slice HO366.out
     (first | subst eo17 | (injection eo17 with f1_ f2_ f3_; have f4_ := f1_.symm; have f5_ := f3_.symm; clear f1_ f2_ f3_; subst f4_; subst f5_))
     refine hK.out _ _ ⟨(blk_cell BK356.out 0).trans rfl, (blk_cell BK356.out 1).trans rfl, (blk_cell BK356.out 2).trans rfl⟩ (fun hHeld => ?_)
     clear hK K
     refine norm_ (a' := ?_) ?_ ?_
     rotate_left
     ·show Act.put _ (some 17) _ = _
      simp only [Act.put, q1, q2, q3, i64_w, i32_w]
      rfl
     refine two_ (i := 5) (j := 9) (Ni := some 19) (Nj := some 6) #[true, true, true, true, true, true, false, false, false, false, false, false] #[true, true, true, true, true, false, false, false, false, true, false, false] rfl rfl rfl rfl (two_of HT_.out (by kernel_rfl)) (by decide) (by decide) (fun K hK => ?_) (fun K hK => ?_)
     ·skip
      refine goes_ Try.func54 (by kernel_rfl) rfl #[.agg #[.int .i64 t359, .int .i64 t360, .slice Ao16 t361.length co16], .slice Ao17 t364.length co17, .int .i64 a1] (by rfl) rfl rfl (by (try simp only [List.map_toArray, List.map_cons, List.map_nil]); first | done | rfl | (simp only [List.length_drop, List.length_take]; rfl)) ?_
      with_reducible refine (impl_drop.calls k t359 t360 (fun k_ => some k_ = (.slice Ao16 t361.length co16 : Value).ownBlock) (.slice Ao16 t361.length co16) t361 _ _ t364 a1 t367 t368 t369 t370 t373 w _ ?side1 ?side2 ?side3 ?side4 A7.out).mono ?_
      (case side1 => repeat (first | (with_reducible first | exact HB.out | apply below_alloc | apply pw_below_drewN | apply below_drew1 | refine below_set ?_ GE356.out | refine below_set ?_ GE357.out) | exact HB.out))
      (case side2 => exact Kd.R_tight rfl HO363.out)
      (case side3 => exact Kd.C_kept_own ((Kd.R_apart' HO366.out (Kd.R_typed HO363.out) (by decide))) (fun k_ hk_ hs_ => (hk_.2) hs_))
      (case side4 => exact (Kd.R_reads' HO366.out).2.1)
      rintro e w18 ⟨v371, rfl, ho0, hy0, hb, hkp⟩
      refine ⟨_, rfl, ?_⟩
      have HO372 := Aside0.mk (Kd.R_mono (ok' := fun k_ => some k_ ≠ (.slice Ao17 t364.length co17 : Value).ownBlock) ho0 (fun k_ hk_ => Or.elim hk_ (fun hs_ => fun e_ => ((((Kd.R_apart' HO366.out (Kd.R_typed HO363.out) (by decide))).1 k_ e_.symm).2) hs_) (fun hn_ => (Kd.fresh' (Kd.R_lt (viaR HO366)) k_ hn_))))
      replace BK356 := Aside0.mk (blk_kept (viaK BK356) hkp (fun hs_ => (fun e_ => (Kd.R_ne HO363.out BK356.out (by decide)) e_) hs_))
      replace BK357 := Aside0.mk (blk_kept (viaK BK357) hkp (fun hs_ => (fun e_ => (Kd.R_ne HO363.out BK357.out (by decide)) e_) hs_))
      replace HO366 := Aside0.mk (Kd.R_mono (ok' := fun k_ => some k_ ≠ (v371 : Value).ownBlock) (Kd.R_keptB ((Kd.R_apart' HO366.out (Kd.R_typed HO363.out) (by decide))) hkp (fun k_ hk_ hs_ => (hk_.2) hs_)) (fun k_ hk_ => fun e_ => Or.elim (ho0.1 k_ e_.symm) (fun hs_ => hk_.2.1 hs_) (fun hn_ => Nat.not_le.2 hk_.2.2 hn_)))
      replace HO363 := Aside0.mk (Kd.R_reok rfl hy0 (fun k_ e_ => HO363.out.1 k_ e_))
      replace HB := Aside0.mk (hb)
      (try clear hb); (try clear hkp); (try clear ho0); (try clear hy0)
      refine hK.out _ _ ⟨(blk_cell BK356.out 0).trans rfl, (blk_cell BK356.out 1).trans rfl, (blk_cell BK356.out 2).trans rfl⟩ (fun hHeld => ?_)
      clear hK K
      refine norm_ (a' := ?_) ?_ ?_
      rotate_left
      ·show Act.put _ (some 19) _ = _
       simp only [Act.put, q1, q2, q3, i64_w, i32_w]
       rfl
      refine pure_ (i := 6) (N := some 13) (v := ?_) (a' := ?_) #[true, true, true, true, true, true, true, false, false, false, false, false] rfl rfl (any_of HT_.out (by kernel_rfl)) (fun _ _ _ h => h) (Or.inl ⟨by rfl, ?_⟩) ?_ ?_
      rotate_left
      ·intro w'
       go_simp
       with_reducible rfl
      rotate_left
      ·simp only [Act.put, q1, q2, q3, i64_w, i32_w]
       rfl
      refine pure_ (i := 7) (N := some 20) (v := ?_) (a' := ?_) #[true, true, true, true, true, true, true, true, false, false, false, false] rfl rfl (any_of HT_.out (by kernel_rfl)) (fun _ _ _ h => h) (Or.inl ⟨by rfl, ?_⟩) ?_ ?_
      rotate_left
      ·intro w'
       go_simp
       with_reducible rfl
      rotate_left
      ·simp only [Act.put, q1, q2, q3, i64_w, i32_w]
       rfl
      refine pure_ (i := 8) (N := some 21) (v := ?_) (a' := ?_) #[true, true, true, true, true, true, true, true, true, false, false, false] rfl rfl (any_of HT_.out (by kernel_rfl)) (fun _ _ _ h => h) (Or.inl ⟨by rfl, ?_⟩) ?_ ?_
      rotate_left
      ·intro w'
       go_simp
       with_reducible rfl
      rotate_left
      ·simp only [Act.put, q1, q2, q3, i64_w, i32_w]
       rfl
      refine one_ (i := 9) (N := some 6) #[true, true, true, true, true, true, true, true, true, true, false, false] rfl rfl (one_of HT_.out (by kernel_rfl)) (by decide) (fun K hK => ?_)
      refine box_step ?hg (N := 6) ?hd (cs := #[.int .i64 0, .int .i64 0, .int .i64 0]) (t := 27) ?hr ?_; (case hd => rfl); (case hg => rfl); (case hr => first | (go_simp; done) | (go_simp; rfl))
      intro gb374 hg w19 hbox hb
      have BK374 := Aside0.mk (hbox)
      have GW374 := gW (w := w) HB hg
      have GE374 := gW (w := w) HB hg
      have NB356_374 := neL BK356 hg
      have NB374_356 := neG BK356 hg
      have NB357_374 := neL BK357 hg
      have NB374_357 := neG BK357 hg
      replace HO363 := Aside0.mk (Kd.R_below (viaR HO363) hb)
      replace HO366 := Aside0.mk (Kd.R_below (viaR HO366) hb)
      replace HO372 := Aside0.mk (Kd.R_below (viaR HO372) hb)
      replace BK356 := kB BK356 hb
      replace BK357 := kB BK357 hb
      replace HB := bB HB hb
      clear hb hbox hg
      refine hK.out _ _ ⟨(blk_cell BK356.out 0).trans rfl, (blk_cell BK356.out 1).trans rfl, (blk_cell BK356.out 2).trans rfl⟩ (fun hHeld => ?_)
      clear hK K
      refine norm_ (a' := ?_) ?_ ?_
      rotate_left
      ·show Act.put _ (some 6) _ = _
       simp only [Act.put, q1, q2, q3, i64_w, i32_w]
       rfl
      exact norm_ (by simp only [putAll, Act.put, q1, q2, q3]) (hCont (.slice Ao16 t361.length co16, .slice Ao17 t364.length co17, v371, gb374) _ ⟨hHeld, (viaR HO363), (viaR HO366), (viaR HO372), (viaK BK356), (viaK BK357), (viaK BK374), GW374.out, GE374.out, NB356_374.out, NB374_356.out, NB357_374.out, NB374_357.out, (viaB HB)⟩)
     ·skip
      refine box_step ?hg (N := 6) ?hd (cs := #[.int .i64 0, .int .i64 0, .int .i64 0]) (t := 27) ?hr ?_; (case hd => rfl); (case hg => rfl); (case hr => first | (go_simp; done) | (go_simp; rfl))
      intro gb374 hg w16 hbox hb
      have BK374 := Aside0.mk (hbox)
      have GW374 := gW (w := w) HB hg
      have GE374 := gW (w := w) HB hg
      have NB356_374 := neL BK356 hg
      have NB374_356 := neG BK356 hg
      have NB357_374 := neL BK357 hg
      have NB374_357 := neG BK357 hg
      replace HO363 := Aside0.mk (Kd.R_below (viaR HO363) hb)
      replace HO366 := Aside0.mk (Kd.R_below (viaR HO366) hb)
      replace BK356 := kB BK356 hb
      replace BK357 := kB BK357 hb
      replace HB := bB HB hb
      clear hb hbox hg
      obtain ⟨Ao17, co17, eo17⟩ := Kd.R_slice HO363.out
      (first | subst eo17 | (injection eo17 with f1_ f2_ f3_; have f4_ := f1_.symm; have f5_ := f3_.symm; clear f1_ f2_ f3_; subst f4_; subst f5_))
      obtain ⟨Ao18, co18, eo18⟩ := Kd.R_slice HO366.out
      (first | subst eo18 | (injection eo18 with f1_ f2_ f3_; have f4_ := f1_.symm; have f5_ := f3_.symm; clear f1_ f2_ f3_; subst f4_; subst f5_))
      refine hK.out _ _ ⟨(blk_cell BK356.out 0).trans rfl, (blk_cell BK356.out 1).trans rfl, (blk_cell BK356.out 2).trans rfl⟩ (fun hHeld => ?_)
      clear hK K
      refine norm_ (a' := ?_) ?_ ?_
      rotate_left
      ·show Act.put _ (some 6) _ = _
       simp only [Act.put, q1, q2, q3, i64_w, i32_w]
       rfl
      refine one_ (i := 5) (N := some 19) #[true, true, true, true, true, true, false, false, false, true, false, false] rfl rfl (one_of HT_.out (by kernel_rfl)) (by decide) (fun K hK => ?_)
      refine goes_ Try.func54 (by kernel_rfl) rfl #[.agg #[.int .i64 t359, .int .i64 t360, .slice Ao17 t361.length co17], .slice Ao18 t364.length co18, .int .i64 a1] (by rfl) rfl rfl (by (try simp only [List.map_toArray, List.map_cons, List.map_nil]); first | done | rfl | (simp only [List.length_drop, List.length_take]; rfl)) ?_
      with_reducible refine (impl_drop.calls k t359 t360 (fun k_ => some k_ = (.slice Ao17 t361.length co17 : Value).ownBlock) (.slice Ao17 t361.length co17) t361 _ _ t364 a1 t367 t368 t369 t370 t373 w _ ?side1 ?side2 ?side3 ?side4 A7.out).mono ?_
      (case side1 => repeat (first | (with_reducible first | exact HB.out | apply below_alloc | apply pw_below_drewN | apply below_drew1 | refine below_set ?_ GE356.out | refine below_set ?_ GE357.out | refine below_set ?_ GE374.out) | exact HB.out))
      (case side2 => exact Kd.R_tight rfl HO363.out)
      (case side3 => exact Kd.C_kept_own ((Kd.R_apart' HO366.out (Kd.R_typed HO363.out) (by decide))) (fun k_ hk_ hs_ => (hk_.2) hs_))
      (case side4 => exact (Kd.R_reads' HO366.out).2.1)
      rintro e w19 ⟨v371, rfl, ho0, hy0, hb, hkp⟩
      refine ⟨_, rfl, ?_⟩
      have HO372 := Aside0.mk (Kd.R_mono (ok' := fun k_ => some k_ ≠ (.slice Ao18 t364.length co18 : Value).ownBlock) ho0 (fun k_ hk_ => Or.elim hk_ (fun hs_ => fun e_ => ((((Kd.R_apart' HO366.out (Kd.R_typed HO363.out) (by decide))).1 k_ e_.symm).2) hs_) (fun hn_ => (Kd.fresh' (Kd.R_lt (viaR HO366)) k_ hn_))))
      replace BK356 := Aside0.mk (blk_kept (viaK BK356) hkp (fun hs_ => (fun e_ => (Kd.R_ne HO363.out BK356.out (by decide)) e_) hs_))
      replace BK357 := Aside0.mk (blk_kept (viaK BK357) hkp (fun hs_ => (fun e_ => (Kd.R_ne HO363.out BK357.out (by decide)) e_) hs_))
      replace HO366 := Aside0.mk (Kd.R_mono (ok' := fun k_ => some k_ ≠ (v371 : Value).ownBlock) (Kd.R_keptB ((Kd.R_apart' HO366.out (Kd.R_typed HO363.out) (by decide))) hkp (fun k_ hk_ hs_ => (hk_.2) hs_)) (fun k_ hk_ => fun e_ => Or.elim (ho0.1 k_ e_.symm) (fun hs_ => hk_.2.1 hs_) (fun hn_ => Nat.not_le.2 hk_.2.2 hn_)))
      replace BK374 := Aside0.mk (blk_kept (viaK BK374) hkp (fun hs_ => (fun e_ => (Kd.R_ne HO363.out BK374.out (by decide)) e_) hs_))
      replace HO363 := Aside0.mk (Kd.R_reok rfl hy0 (fun k_ e_ => HO363.out.1 k_ e_))
      replace HB := Aside0.mk (hb)
      (try clear hb); (try clear hkp); (try clear ho0); (try clear hy0)
      refine hK.out _ _ ⟨(blk_cell BK356.out 0).trans rfl, (blk_cell BK356.out 1).trans rfl, (blk_cell BK356.out 2).trans rfl⟩ (fun hHeld => ?_)
      clear hK K
      refine norm_ (a' := ?_) ?_ ?_
      rotate_left
      ·show Act.put _ (some 19) _ = _
       simp only [Act.put, q1, q2, q3, i64_w, i32_w]
       rfl
      refine pure_ (i := 6) (N := some 13) (v := ?_) (a' := ?_) #[true, true, true, true, true, true, true, false, false, true, false, false] rfl rfl (any_of HT_.out (by kernel_rfl)) (fun _ _ _ h => h) (Or.inl ⟨by rfl, ?_⟩) ?_ ?_
      rotate_left
      ·intro w'
       go_simp
       with_reducible rfl
      rotate_left
      ·simp only [Act.put, q1, q2, q3, i64_w, i32_w]
       rfl
      refine pure_ (i := 7) (N := some 20) (v := ?_) (a' := ?_) #[true, true, true, true, true, true, true, true, false, true, false, false] rfl rfl (any_of HT_.out (by kernel_rfl)) (fun _ _ _ h => h) (Or.inl ⟨by rfl, ?_⟩) ?_ ?_
      rotate_left
      ·intro w'
       go_simp
       with_reducible rfl
      rotate_left
      ·simp only [Act.put, q1, q2, q3, i64_w, i32_w]
       rfl
      refine pure_ (i := 8) (N := some 21) (v := ?_) (a' := ?_) #[true, true, true, true, true, true, true, true, true, true, false, false] rfl rfl (any_of HT_.out (by kernel_rfl)) (fun _ _ _ h => h) (Or.inl ⟨by rfl, ?_⟩) ?_ ?_
      rotate_left
      ·intro w'
       go_simp
       with_reducible rfl
      rotate_left
      ·simp only [Act.put, q1, q2, q3, i64_w, i32_w]
       rfl
      exact norm_ (by simp only [putAll, Act.put, q1, q2, q3]) (hCont (.slice Ao17 t361.length co17, .slice Ao18 t364.length co18, v371, gb374) _ ⟨hHeld, (viaR HO363), (viaR HO366), (viaR HO372), (viaK BK356), (viaK BK357), (viaK BK374), GW374.out, GE374.out, NB356_374.out, NB374_356.out, NB357_374.out, NB374_357.out, (viaB HB)⟩)
    ·skip
     refine box_step ?hg (N := 6) ?hd (cs := #[.int .i64 0, .int .i64 0, .int .i64 0]) (t := 27) ?hr ?_; (case hd => rfl); (case hg => rfl); (case hr => first | (go_simp; done) | (go_simp; rfl))
     intro gb374 hg w15 hbox hb
     have BK374 := Aside0.mk (hbox)
     have GW374 := gW (w := w) HB hg
     have GE374 := gW (w := w) HB hg
     have NB356_374 := neL BK356 hg
     have NB374_356 := neG BK356 hg
     have NB357_374 := neL BK357 hg
     have NB374_357 := neG BK357 hg
     replace HO363 := Aside0.mk (Kd.R_below (viaR HO363) hb)
     replace BK356 := kB BK356 hb
     replace BK357 := kB BK357 hb
     replace HB := bB HB hb
     clear hb hbox hg
     refine hK.out _ _ ⟨(blk_cell BK356.out 0).trans rfl, (blk_cell BK356.out 1).trans rfl, (blk_cell BK356.out 2).trans rfl⟩ (fun hHeld => ?_)
     clear hK K
     refine norm_ (a' := ?_) ?_ ?_
     rotate_left
     ·show Act.put _ (some 6) _ = _
      simp only [Act.put, q1, q2, q3, i64_w, i32_w]
      rfl
     refine one_ (i := 3) (N := some 17) #[true, true, true, true, true, false, false, false, false, true, false, false] rfl rfl (one_of HT_.out (by kernel_rfl)) (by decide) (fun K hK => ?_)
     refine goes_ Try.func56 (by kernel_rfl) rfl #[.agg #[.int .i64 a0_0, .int .i64 a0_1, .slice A0_2 l0_2.length c0_2]] (by rfl) rfl rfl (by (try simp only [List.map_toArray, List.map_cons, List.map_nil]); first | done | rfl | (simp only [List.length_drop, List.length_take]; rfl)) ?_
     with_reducible refine (impl_groupNumbers.calls k a0_0 a0_1 _ _ l0_2 t364 _ ?side1 ?side2 A6.out).mono ?_
     (case side1 => repeat (first | exact (Kd.C_below HR0_2.out HB.out) | (with_reducible refine Kd.C_alloc ?_ _) | (with_reducible refine Kd.C_drewN ?_ _) | (with_reducible refine Kd.C_drew ?_)))
     (case side2 => exact HC0_2.out)
     rintro e w16 ⟨v365, rfl, ho0, hb⟩
     refine ⟨_, rfl, ?_⟩
     have HO366 := Aside0.mk (Kd.R_lower ho0 (below_size (viaB HB)))
     replace HO363 := Aside0.mk (Kd.R_below (viaR HO363) hb)
     replace BK356 := kB BK356 hb
     replace BK357 := kB BK357 hb
     replace BK374 := kB BK374 hb
     replace HB := bB HB hb
     (try clear hb); (try clear ho0)
     obtain ⟨Ao17, co17, eo17⟩ := Kd.R_slice HO363.out
     (first | subst eo17 | (injection eo17 with f1_ f2_ f3_; have f4_ := f1_.symm; have f5_ := f3_.symm; clear f1_ f2_ f3_; subst f4_; subst f5_))
     obtain ⟨Ao18, co18, eo18⟩ := Kd.R_slice HO366.out
     (first | subst eo18 | (injection eo18 with f1_ f2_ f3_; have f4_ := f1_.symm; have f5_ := f3_.symm; clear f1_ f2_ f3_; subst f4_; subst f5_))
     refine hK.out _ _ ⟨(blk_cell BK356.out 0).trans rfl, (blk_cell BK356.out 1).trans rfl, (blk_cell BK356.out 2).trans rfl⟩ (fun hHeld => ?_)
     clear hK K
     refine norm_ (a' := ?_) ?_ ?_
     rotate_left
     ·show Act.put _ (some 17) _ = _
      simp only [Act.put, q1, q2, q3, i64_w, i32_w]
      rfl
     refine one_ (i := 5) (N := some 19) #[true, true, true, true, true, true, false, false, false, true, false, false] rfl rfl (one_of HT_.out (by kernel_rfl)) (by decide) (fun K hK => ?_)
     refine goes_ Try.func54 (by kernel_rfl) rfl #[.agg #[.int .i64 t359, .int .i64 t360, .slice Ao17 t361.length co17], .slice Ao18 t364.length co18, .int .i64 a1] (by rfl) rfl rfl (by (try simp only [List.map_toArray, List.map_cons, List.map_nil]); first | done | rfl | (simp only [List.length_drop, List.length_take]; rfl)) ?_
     with_reducible refine (impl_drop.calls k t359 t360 (fun k_ => some k_ = (.slice Ao17 t361.length co17 : Value).ownBlock) (.slice Ao17 t361.length co17) t361 _ _ t364 a1 t367 t368 t369 t370 t373 w _ ?side1 ?side2 ?side3 ?side4 A7.out).mono ?_
     (case side1 => repeat (first | (with_reducible first | exact HB.out | apply below_alloc | apply pw_below_drewN | apply below_drew1 | refine below_set ?_ GE356.out | refine below_set ?_ GE357.out | refine below_set ?_ GE374.out) | exact HB.out))
     (case side2 => exact Kd.R_tight rfl HO363.out)
     (case side3 => exact Kd.C_kept_own ((Kd.R_apart' HO366.out (Kd.R_typed HO363.out) (by decide))) (fun k_ hk_ hs_ => (hk_.2) hs_))
     (case side4 => exact (Kd.R_reads' HO366.out).2.1)
     rintro e w19 ⟨v371, rfl, ho0, hy0, hb, hkp⟩
     refine ⟨_, rfl, ?_⟩
     have HO372 := Aside0.mk (Kd.R_mono (ok' := fun k_ => some k_ ≠ (.slice Ao18 t364.length co18 : Value).ownBlock) ho0 (fun k_ hk_ => Or.elim hk_ (fun hs_ => fun e_ => ((((Kd.R_apart' HO366.out (Kd.R_typed HO363.out) (by decide))).1 k_ e_.symm).2) hs_) (fun hn_ => (Kd.fresh' (Kd.R_lt (viaR HO366)) k_ hn_))))
     replace BK356 := Aside0.mk (blk_kept (viaK BK356) hkp (fun hs_ => (fun e_ => (Kd.R_ne HO363.out BK356.out (by decide)) e_) hs_))
     replace BK357 := Aside0.mk (blk_kept (viaK BK357) hkp (fun hs_ => (fun e_ => (Kd.R_ne HO363.out BK357.out (by decide)) e_) hs_))
     replace BK374 := Aside0.mk (blk_kept (viaK BK374) hkp (fun hs_ => (fun e_ => (Kd.R_ne HO363.out BK374.out (by decide)) e_) hs_))
     replace HO366 := Aside0.mk (Kd.R_mono (ok' := fun k_ => some k_ ≠ (v371 : Value).ownBlock) (Kd.R_keptB ((Kd.R_apart' HO366.out (Kd.R_typed HO363.out) (by decide))) hkp (fun k_ hk_ hs_ => (hk_.2) hs_)) (fun k_ hk_ => fun e_ => Or.elim (ho0.1 k_ e_.symm) (fun hs_ => hk_.2.1 hs_) (fun hn_ => Nat.not_le.2 hk_.2.2 hn_)))
     replace HO363 := Aside0.mk (Kd.R_reok rfl hy0 (fun k_ e_ => HO363.out.1 k_ e_))
     replace HB := Aside0.mk (hb)
     (try clear hb); (try clear hkp); (try clear ho0); (try clear hy0)
     refine hK.out _ _ ⟨(blk_cell BK356.out 0).trans rfl, (blk_cell BK356.out 1).trans rfl, (blk_cell BK356.out 2).trans rfl⟩ (fun hHeld => ?_)
     clear hK K
     refine norm_ (a' := ?_) ?_ ?_
     rotate_left
     ·show Act.put _ (some 19) _ = _
      simp only [Act.put, q1, q2, q3, i64_w, i32_w]
      rfl
     refine pure_ (i := 6) (N := some 13) (v := ?_) (a' := ?_) #[true, true, true, true, true, true, true, false, false, true, false, false] rfl rfl (any_of HT_.out (by kernel_rfl)) (fun _ _ _ h => h) (Or.inl ⟨by rfl, ?_⟩) ?_ ?_
     rotate_left
     ·intro w'
      go_simp
      with_reducible rfl
     rotate_left
     ·simp only [Act.put, q1, q2, q3, i64_w, i32_w]
      rfl
     refine pure_ (i := 7) (N := some 20) (v := ?_) (a' := ?_) #[true, true, true, true, true, true, true, true, false, true, false, false] rfl rfl (any_of HT_.out (by kernel_rfl)) (fun _ _ _ h => h) (Or.inl ⟨by rfl, ?_⟩) ?_ ?_
     rotate_left
     ·intro w'
      go_simp
      with_reducible rfl
     rotate_left
     ·simp only [Act.put, q1, q2, q3, i64_w, i32_w]
      rfl
     refine pure_ (i := 8) (N := some 21) (v := ?_) (a' := ?_) #[true, true, true, true, true, true, true, true, true, true, false, false] rfl rfl (any_of HT_.out (by kernel_rfl)) (fun _ _ _ h => h) (Or.inl ⟨by rfl, ?_⟩) ?_ ?_
     rotate_left
     ·intro w'
      go_simp
      with_reducible rfl
     rotate_left
     ·simp only [Act.put, q1, q2, q3, i64_w, i32_w]
      rfl
     exact norm_ (by simp only [putAll, Act.put, q1, q2, q3]) (hCont (.slice Ao17 t361.length co17, .slice Ao18 t364.length co18, v371, gb374) _ ⟨hHeld, (viaR HO363), (viaR HO366), (viaR HO372), (viaK BK356), (viaK BK357), (viaK BK374), GW374.out, GE374.out, NB356_374.out, NB374_356.out, NB357_374.out, NB374_357.out, (viaB HB)⟩)
   ·skip
    refine box_step ?hg (N := 6) ?hd (cs := #[.int .i64 0, .int .i64 0, .int .i64 0]) (t := 27) ?hr ?_; (case hd => rfl); (case hg => rfl); (case hr => first | (go_simp; done) | (go_simp; rfl))
    intro gb374 hg w14 hbox hb
    have BK374 := Aside0.mk (hbox)
    have GW374 := gW (w := w) HB hg
    have GE374 := gW (w := w) HB hg
    have NB356_374 := neL BK356 hg
    have NB374_356 := neG BK356 hg
    have NB357_374 := neL BK357 hg
    have NB374_357 := neG BK357 hg
    replace BK356 := kB BK356 hb
    replace BK357 := kB BK357 hb
    replace HB := bB HB hb
    clear hb hbox hg
    refine hK.out _ _ ⟨(blk_cell BK356.out 0).trans rfl, (blk_cell BK356.out 1).trans rfl, (blk_cell BK356.out 2).trans rfl⟩ (fun hHeld => ?_)
    clear hK K
    refine norm_ (a' := ?_) ?_ ?_
    rotate_left
    ·show Act.put _ (some 6) _ = _
     simp only [Act.put, q1, q2, q3, i64_w, i32_w]
     rfl
    refine one_ (i := 1) (N := some 15) #[true, true, true, false, true, false, false, false, false, true, false, false] rfl rfl (one_of HT_.out (by kernel_rfl)) (by decide) (fun K hK => ?_)
    refine goes_ Try.func55 (by kernel_rfl) rfl #[.agg #[.int .i64 a0_0, .int .i64 a0_1, .slice A0_2 l0_2.length c0_2]] (by rfl) rfl rfl (by (try simp only [List.map_toArray, List.map_cons, List.map_nil]); first | done | rfl | (simp only [List.length_drop, List.length_take]; rfl)) ?_
    with_reducible refine (impl_copyBoard.calls a0_0 a0_1 _ _ l0_2 t359 t360 t361 _ ?side1 ?side2 A5.out).mono ?_
    (case side1 => repeat (first | exact (Kd.C_below HR0_2.out HB.out) | (with_reducible refine Kd.C_alloc ?_ _) | (with_reducible refine Kd.C_drewN ?_ _) | (with_reducible refine Kd.C_drew ?_)))
    (case side2 => exact HC0_2.out)
    rintro e w15 ⟨v362, rfl, ho0, hb⟩
    refine ⟨_, rfl, ?_⟩
    have HO363 := Aside0.mk (Kd.R_lower ho0 (below_size (viaB HB)))
    replace BK356 := kB BK356 hb
    replace BK357 := kB BK357 hb
    replace BK374 := kB BK374 hb
    replace HB := bB HB hb
    (try clear hb); (try clear ho0)
    refine hK.out _ _ ⟨(blk_cell BK356.out 0).trans rfl, (blk_cell BK356.out 1).trans rfl, (blk_cell BK356.out 2).trans rfl⟩ (fun hHeld => ?_)
    clear hK K
    refine norm_ (a' := ?_) ?_ ?_
    rotate_left
    ·show Act.put _ (some 15) _ = _
     simp only [Act.put, q1, q2, q3, i64_w, i32_w]
     rfl
    refine one_ (i := 3) (N := some 17) #[true, true, true, true, true, false, false, false, false, true, false, false] rfl rfl (one_of HT_.out (by kernel_rfl)) (by decide) (fun K hK => ?_)
    refine goes_ Try.func56 (by kernel_rfl) rfl #[.agg #[.int .i64 a0_0, .int .i64 a0_1, .slice A0_2 l0_2.length c0_2]] (by rfl) rfl rfl (by (try simp only [List.map_toArray, List.map_cons, List.map_nil]); first | done | rfl | (simp only [List.length_drop, List.length_take]; rfl)) ?_
    with_reducible refine (impl_groupNumbers.calls k a0_0 a0_1 _ _ l0_2 t364 _ ?side1 ?side2 A6.out).mono ?_
    (case side1 => repeat (first | exact (Kd.C_below HR0_2.out HB.out) | (with_reducible refine Kd.C_alloc ?_ _) | (with_reducible refine Kd.C_drewN ?_ _) | (with_reducible refine Kd.C_drew ?_)))
    (case side2 => exact HC0_2.out)
    rintro e w16 ⟨v365, rfl, ho0, hb⟩
    refine ⟨_, rfl, ?_⟩
    have HO366 := Aside0.mk (Kd.R_lower ho0 (below_size (viaB HB)))
    replace HO363 := Aside0.mk (Kd.R_below (viaR HO363) hb)
    replace BK356 := kB BK356 hb
    replace BK357 := kB BK357 hb
    replace BK374 := kB BK374 hb
    replace HB := bB HB hb
    (try clear hb); (try clear ho0)
    obtain ⟨Ao17, co17, eo17⟩ := Kd.R_slice HO363.out
    (first | subst eo17 | (injection eo17 with f1_ f2_ f3_; have f4_ := f1_.symm; have f5_ := f3_.symm; clear f1_ f2_ f3_; subst f4_; subst f5_))
    obtain ⟨Ao18, co18, eo18⟩ := Kd.R_slice HO366.out
    (first | subst eo18 | (injection eo18 with f1_ f2_ f3_; have f4_ := f1_.symm; have f5_ := f3_.symm; clear f1_ f2_ f3_; subst f4_; subst f5_))
    refine hK.out _ _ ⟨(blk_cell BK356.out 0).trans rfl, (blk_cell BK356.out 1).trans rfl, (blk_cell BK356.out 2).trans rfl⟩ (fun hHeld => ?_)
    clear hK K
    refine norm_ (a' := ?_) ?_ ?_
    rotate_left
    ·show Act.put _ (some 17) _ = _
     simp only [Act.put, q1, q2, q3, i64_w, i32_w]
     rfl
    refine one_ (i := 5) (N := some 19) #[true, true, true, true, true, true, false, false, false, true, false, false] rfl rfl (one_of HT_.out (by kernel_rfl)) (by decide) (fun K hK => ?_)
    refine goes_ Try.func54 (by kernel_rfl) rfl #[.agg #[.int .i64 t359, .int .i64 t360, .slice Ao17 t361.length co17], .slice Ao18 t364.length co18, .int .i64 a1] (by rfl) rfl rfl (by (try simp only [List.map_toArray, List.map_cons, List.map_nil]); first | done | rfl | (simp only [List.length_drop, List.length_take]; rfl)) ?_
    with_reducible refine (impl_drop.calls k t359 t360 (fun k_ => some k_ = (.slice Ao17 t361.length co17 : Value).ownBlock) (.slice Ao17 t361.length co17) t361 _ _ t364 a1 t367 t368 t369 t370 t373 w _ ?side1 ?side2 ?side3 ?side4 A7.out).mono ?_
    (case side1 => repeat (first | (with_reducible first | exact HB.out | apply below_alloc | apply pw_below_drewN | apply below_drew1 | refine below_set ?_ GE356.out | refine below_set ?_ GE357.out | refine below_set ?_ GE374.out) | exact HB.out))
    (case side2 => exact Kd.R_tight rfl HO363.out)
    (case side3 => exact Kd.C_kept_own ((Kd.R_apart' HO366.out (Kd.R_typed HO363.out) (by decide))) (fun k_ hk_ hs_ => (hk_.2) hs_))
    (case side4 => exact (Kd.R_reads' HO366.out).2.1)
    rintro e w19 ⟨v371, rfl, ho0, hy0, hb, hkp⟩
    refine ⟨_, rfl, ?_⟩
    have HO372 := Aside0.mk (Kd.R_mono (ok' := fun k_ => some k_ ≠ (.slice Ao18 t364.length co18 : Value).ownBlock) ho0 (fun k_ hk_ => Or.elim hk_ (fun hs_ => fun e_ => ((((Kd.R_apart' HO366.out (Kd.R_typed HO363.out) (by decide))).1 k_ e_.symm).2) hs_) (fun hn_ => (Kd.fresh' (Kd.R_lt (viaR HO366)) k_ hn_))))
    replace BK356 := Aside0.mk (blk_kept (viaK BK356) hkp (fun hs_ => (fun e_ => (Kd.R_ne HO363.out BK356.out (by decide)) e_) hs_))
    replace BK357 := Aside0.mk (blk_kept (viaK BK357) hkp (fun hs_ => (fun e_ => (Kd.R_ne HO363.out BK357.out (by decide)) e_) hs_))
    replace BK374 := Aside0.mk (blk_kept (viaK BK374) hkp (fun hs_ => (fun e_ => (Kd.R_ne HO363.out BK374.out (by decide)) e_) hs_))
    replace HO366 := Aside0.mk (Kd.R_mono (ok' := fun k_ => some k_ ≠ (v371 : Value).ownBlock) (Kd.R_keptB ((Kd.R_apart' HO366.out (Kd.R_typed HO363.out) (by decide))) hkp (fun k_ hk_ hs_ => (hk_.2) hs_)) (fun k_ hk_ => fun e_ => Or.elim (ho0.1 k_ e_.symm) (fun hs_ => hk_.2.1 hs_) (fun hn_ => Nat.not_le.2 hk_.2.2 hn_)))
    replace HO363 := Aside0.mk (Kd.R_reok rfl hy0 (fun k_ e_ => HO363.out.1 k_ e_))
    replace HB := Aside0.mk (hb)
    (try clear hb); (try clear hkp); (try clear ho0); (try clear hy0)
    refine hK.out _ _ ⟨(blk_cell BK356.out 0).trans rfl, (blk_cell BK356.out 1).trans rfl, (blk_cell BK356.out 2).trans rfl⟩ (fun hHeld => ?_)
    clear hK K
    refine norm_ (a' := ?_) ?_ ?_
    rotate_left
    ·show Act.put _ (some 19) _ = _
     simp only [Act.put, q1, q2, q3, i64_w, i32_w]
     rfl
    refine pure_ (i := 6) (N := some 13) (v := ?_) (a' := ?_) #[true, true, true, true, true, true, true, false, false, true, false, false] rfl rfl (any_of HT_.out (by kernel_rfl)) (fun _ _ _ h => h) (Or.inl ⟨by rfl, ?_⟩) ?_ ?_
    rotate_left
    ·intro w'
     go_simp
     with_reducible rfl
    rotate_left
    ·simp only [Act.put, q1, q2, q3, i64_w, i32_w]
     rfl
    refine pure_ (i := 7) (N := some 20) (v := ?_) (a' := ?_) #[true, true, true, true, true, true, true, true, false, true, false, false] rfl rfl (any_of HT_.out (by kernel_rfl)) (fun _ _ _ h => h) (Or.inl ⟨by rfl, ?_⟩) ?_ ?_
    rotate_left
    ·intro w'
     go_simp
     with_reducible rfl
    rotate_left
    ·simp only [Act.put, q1, q2, q3, i64_w, i32_w]
     rfl
    refine pure_ (i := 8) (N := some 21) (v := ?_) (a' := ?_) #[true, true, true, true, true, true, true, true, true, true, false, false] rfl rfl (any_of HT_.out (by kernel_rfl)) (fun _ _ _ h => h) (Or.inl ⟨by rfl, ?_⟩) ?_ ?_
    rotate_left
    ·intro w'
     go_simp
     with_reducible rfl
    rotate_left
    ·simp only [Act.put, q1, q2, q3, i64_w, i32_w]
     rfl
    exact norm_ (by simp only [putAll, Act.put, q1, q2, q3]) (hCont (.slice Ao17 t361.length co17, .slice Ao18 t364.length co18, v371, gb374) _ ⟨hHeld, (viaR HO363), (viaR HO366), (viaR HO372), (viaK BK356), (viaK BK357), (viaK BK374), GW374.out, GE374.out, NB356_374.out, NB374_356.out, NB357_374.out, NB374_357.out, (viaB HB)⟩)
  rintro ⟨v362, v365, v371, gb374⟩ w20 ⟨hS_, h0_, h1_, h2_, h3_, h4_, h5_, h6_, h7_, h8_, h9_, h10_, h11_, h12_⟩
  have HO363 : Aside0 (Kd.R k89 89 w20 w.heap.size (fun _ => True) v362 t373) := ⟨h0_⟩
  have HO366 : Aside0 (Kd.R (Kd.int .i64) 3 w20 w.heap.size (fun k_ => some k_ ≠ (v371 : Value).ownBlock) v365 t364) := ⟨h1_⟩
  have HO372 : Aside0 (Kd.R (Kd.int .i64) 3 w20 w.heap.size (fun k_ => some k_ ≠ (v365 : Value).ownBlock) v371 t370) := ⟨h2_⟩
  have BK374 : Aside0 (w20.heap[gb374]? = some (.cells #[.int .i64 0, .int .i64 0, .int .i64 0] 27 (0, 0))) := ⟨h5_⟩
  have GW374 : Aside0 (w.heap.size ≤ gb374) := ⟨h6_⟩
  have GE374 : Aside0 (w.heap.size ≤ gb374) := ⟨h7_⟩
  have NB356_374 : Aside0 (gb356 ≠ gb374) := ⟨h8_⟩
  have NB374_356 : Aside0 (gb374 ≠ gb356) := ⟨h9_⟩
  have NB357_374 : Aside0 (gb357 ≠ gb374) := ⟨h10_⟩
  have NB374_357 : Aside0 (gb374 ≠ gb357) := ⟨h11_⟩
  replace BK356 : Aside0 (w20.heap[gb356]? = some (.cells #[.int .i64 a0_0, .int .i64 a0_1, .slice A0_2 l0_2.length c0_2] 32 (0, 0))) := ⟨h3_⟩
  replace BK357 : Aside0 (w20.heap[gb357]? = some (.cells #[.int .i64 0, .int .i64 0, .int .i64 0] 27 (0, 0))) := ⟨h4_⟩
  replace HB : Aside0 (Below w.heap.size w w20) := ⟨h12_⟩
  clear h0_ h1_ h2_ h3_ h4_ h5_ h6_ h7_ h8_ h9_ h10_ h11_ h12_
  have hHeld : w20.cell? ⟨gb356, 0, none⟩ = some (.int .i64 a0_0) ∧ w20.cell? ⟨gb356, 1, none⟩ = some (.int .i64 a0_1) ∧ w20.cell? ⟨gb356, 2, none⟩ = some (.slice A0_2 l0_2.length c0_2) := hS_
  refine norm_ (a' := ?_) ?_ ?_
  rotate_left
  ·simp only [putAll, Act.put, q1, q2, q3]
   rfl
  refine one_ (i := 10) (N := none) #[true, true, true, true, true, true, true, true, true, true, true, false] rfl rfl (one_of HT_.out (by kernel_rfl)) (by decide) (fun K hK => ?_)
  have hs21 : w20.cell? ⟨gb374, 0, none⟩ = some (.int .i64 0) := (blk_cell BK374.out 0).trans rfl
  have hfs21 := blk_frozen BK374.out 0
  have hns21_0 := NB356_374.out
  have hns21_1 := NB357_374.out
  have hms21_0 := NB374_356.out
  have hms21_1 := NB374_357.out
  have hs22 : w20.cell? ⟨gb374, 1, none⟩ = some (.int .i64 0) := (blk_cell BK374.out 1).trans rfl
  have hfs22 := blk_frozen BK374.out 1
  have hns22_0 := NB356_374.out
  have hns22_1 := NB357_374.out
  have hms22_0 := NB374_356.out
  have hms22_1 := NB374_357.out
  have hs23 : w20.cell? ⟨gb374, 2, none⟩ = some (.int .i64 0) := (blk_cell BK374.out 2).trans rfl
  have hfs23 := blk_frozen BK374.out 2
  have hns23_0 := NB356_374.out
  have hns23_1 := NB357_374.out
  have hms23_0 := NB374_356.out
  have hms23_1 := NB374_357.out
  refine skip_ (w1 := ?_) (by rfl) rfl ?_ ?_
  rotate_left
  ·go_simp
   rfl
  refine hK.out _ _ ⟨((cell_far (p := ⟨gb374, _, none⟩) NB356_374.out _).trans (((cell_far (p := ⟨gb374, _, none⟩) NB356_374.out _).trans (((cell_far (p := ⟨gb374, _, none⟩) NB356_374.out _).trans (hHeld.1)))))), ((cell_far (p := ⟨gb374, _, none⟩) NB356_374.out _).trans (((cell_far (p := ⟨gb374, _, none⟩) NB356_374.out _).trans (((cell_far (p := ⟨gb374, _, none⟩) NB356_374.out _).trans (hHeld.2.1)))))), ((cell_far (p := ⟨gb374, _, none⟩) NB356_374.out _).trans (((cell_far (p := ⟨gb374, _, none⟩) NB356_374.out _).trans (((cell_far (p := ⟨gb374, _, none⟩) NB356_374.out _).trans (hHeld.2.2))))))⟩ (fun hHeld => ?_)
  clear hK K
  refine pure_ (i := 11) (N := some 7) (v := ?_) (a' := ?_) #[true, true, true, true, true, true, true, true, true, true, true, true] rfl rfl (any_of HT_.out (by kernel_rfl)) (fun _ _ _ h => h) (Or.inl ⟨by rfl, ?_⟩) ?_ ?_
  rotate_left
  ·intro w'
   go_simp
   with_reducible rfl
  rotate_left
  ·simp only [Act.put, q1, q2, q3, i64_w, i32_w]
   rfl
  refine done_ (done_of HT_.out (by kernel_rfl)) ?_
  have hnb24 := NB374_356.out
  have hnc24 := NB356_374.out
  have hnb25 := NB374_357.out
  have hnc25 := NB357_374.out
  have hcz26_0 := bc0 BK374
  have hcz26_1 := bc1 BK374
  have hcz26_2 := bc2 BK374
  have hfz26_0 := blk_frozen BK374.out 0
  have hfz26_1 := blk_frozen BK374.out 1
  have hfz26_2 := blk_frozen BK374.out 2
  have hcz27_0 := bc0 BK357
  have hcz27_1 := bc1 BK357
  have hcz27_2 := bc2 BK357
  have hfz27_0 := blk_frozen BK357.out 0
  have hfz27_1 := blk_frozen BK357.out 1
  have hfz27_2 := blk_frozen BK357.out 2
  try go_wp2
  refine bodyPost_ret (results_ct rfl _ _ gb357 27 #[.int .i64 t367, .int .i64 t368, .int .i64 t369] (0, 0) _ rfl (by (with_reducible repeat (first | refine blk_drewN ?_ _ | refine blk_drew ?_ | refine blk_alloc ?_ _)); refine blk_put (cs := #[.int .i64 t367, .int .i64 t368, .int .i64 0]) ?_ 2 _ rfl; (with_reducible repeat (first | refine blk_drewN ?_ _ | refine blk_drew ?_ | refine blk_alloc ?_ _)); refine blk_put (cs := #[.int .i64 t367, .int .i64 0, .int .i64 0]) ?_ 1 _ rfl; (with_reducible repeat (first | refine blk_drewN ?_ _ | refine blk_drew ?_ | refine blk_alloc ?_ _)); refine blk_put (cs := #[.int .i64 0, .int .i64 0, .int .i64 0]) ?_ 0 _ rfl; (with_reducible repeat (first | refine blk_drewN ?_ _ | refine blk_drew ?_ | refine blk_alloc ?_ _)); refine blk_far ?_ NB357_374.out _; (with_reducible repeat (first | refine blk_drewN ?_ _ | refine blk_drew ?_ | refine blk_alloc ?_ _)); refine blk_far ?_ NB357_374.out _; (with_reducible repeat (first | refine blk_drewN ?_ _ | refine blk_drew ?_ | refine blk_alloc ?_ _)); refine blk_far ?_ NB357_374.out _; (with_reducible repeat (first | refine blk_drewN ?_ _ | refine blk_drew ?_ | refine blk_alloc ?_ _)); exact BK357.out) Try.underlying27 rfl (by kernel_rfl)) rfl ?_
  exact ⟨by first | rfl | (simp [errW_none, errW_some] <;> rfl) | (simp [*, errW_none, errW_some] <;> rfl), viaB HB⟩
 ·replace c4 := Bool.eq_false_iff.mpr c4
  subst c4
  have H1 : (some (0, 0, 0, false)) = some (r1, r2, r3, r4) := by rw [if_neg (show ¬ (false = true) by decide)] at H; exact H
  clear H
  have H := H1
  clear H1
  simp only [Option.some.injEq, Prod.mk.injEq] at H
  obtain ⟨rfl, rfl, rfl, rfl⟩ := H
  go_enter Try.func16, Try.ntmps16
  go_wp2_with (first | ((with_reducible refine gate_dst (N := 2) rfl ?_); refine box_ev (N := 2) (cs := #[.int .i64 a0_0, .int .i64 a0_1, .slice A0_2 l0_2.length c0_2]) (t := 32) ?_; intro gb356 hg w28 hbox hb; have BK356 := Aside0.mk (hbox); have GW356 := gW (w := w) HB hg; have GE356 := gW (w := w) HB hg; replace HB := bB HB hb; clear hb hbox hg) | ((with_reducible refine gate_dst (N := 4) rfl ?_); refine box_ev (N := 4) (cs := #[.int .i64 0, .int .i64 0, .int .i64 0]) (t := 27) ?_; intro gb357 hg w29 hbox hb; have BK357 := Aside0.mk (hbox); have GW357 := gW (w := w) HB hg; have GE357 := gW (w := w) HB hg; have NB356_357 := neL BK356 hg; have NB357_356 := neG BK356 hg; replace BK356 := kB BK356 hb; replace HB := bB HB hb; clear hb hbox hg; have hnb30 := NB356_357.out; have hnc30 := NB357_356.out; have hcz31_0 := bc0 BK356; have hcz31_1 := bc1 BK356; have hcz31_2 := bc2 BK356; have hfz31_0 := blk_frozen BK356.out 0; have hfz31_1 := blk_frozen BK356.out 1; have hfz31_2 := blk_frozen BK356.out 2) | ((with_reducible refine gate_callee (f := 53) rfl ?_); refine goesA (some 10) _ #[.agg #[.int .i64 a0_0, .int .i64 a0_1, .slice A0_2 l0_2.length c0_2], .int .i64 a1] ?_ Try.func53; (with_reducible refine (impl_validEntry.calls k a0_0 a0_1 _ _ l0_2 a1 false _ ?side1 ?side2 A3.out).mono ?_); (case side1 => repeat (first | exact (Kd.C_below HR0_2.out HB.out) | (with_reducible refine Kd.C_alloc ?_ _) | (with_reducible refine Kd.C_drewN ?_ _) | (with_reducible refine Kd.C_drew ?_))); (case side2 => exact HC0_2.out); rintro e w32 ⟨rfl, hb⟩; refine ⟨_, rfl, ?_⟩; replace BK356 := kB BK356 hb; replace BK357 := kB BK357 hb; replace HB := bB HB hb; (try clear hb); (try clear hb2); (try clear hk); (try clear hi); have hcz33_0 := bc0 BK357; have hcz33_1 := bc1 BK357; have hcz33_2 := bc2 BK357; have hfz33_0 := blk_frozen BK357.out 0; have hfz33_1 := blk_frozen BK357.out 1; have hfz33_2 := blk_frozen BK357.out 2))
  refine bodyPost_ret (results_ct rfl _ _ gb357 27 #[.int .i64 0, .int .i64 0, .int .i64 0] (0, 0) _ rfl (by (with_reducible repeat (first | refine blk_drewN ?_ _ | refine blk_drew ?_ | refine blk_alloc ?_ _)); refine blk_put (cs := #[.int .i64 0, .int .i64 0, .int .i64 0]) ?_ 2 _ rfl; (with_reducible repeat (first | refine blk_drewN ?_ _ | refine blk_drew ?_ | refine blk_alloc ?_ _)); refine blk_put (cs := #[.int .i64 0, .int .i64 0, .int .i64 0]) ?_ 1 _ rfl; (with_reducible repeat (first | refine blk_drewN ?_ _ | refine blk_drew ?_ | refine blk_alloc ?_ _)); refine blk_put (cs := #[.int .i64 0, .int .i64 0, .int .i64 0]) ?_ 0 _ rfl; (with_reducible repeat (first | refine blk_drewN ?_ _ | refine blk_drew ?_ | refine blk_alloc ?_ _)); exact BK357.out) Try.underlying27 rfl (by kernel_rfl)) rfl ?_
  exact ⟨by first | rfl | (simp [errW_none, errW_some] <;> rfl) | (simp [*, errW_none, errW_some] <;> rfl), viaB HB⟩

end Go.Proofs.Ytoklfgjemfojgaa.PAll
