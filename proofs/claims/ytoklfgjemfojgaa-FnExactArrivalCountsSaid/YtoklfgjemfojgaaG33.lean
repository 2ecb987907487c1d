/- This text began as one that print.sh wrote for this seat (of the functions named below); it is this session's own: turned where Lean did not take the printed proof, where it was too long for a claim, or only in what it imports. -/
import Derived.Test.YtoklfgjemfojgaaG0
import Derived.Test.YtoklfgjemfojgaaG5
import Derived.Test.YtoklfgjemfojgaaG6
import Derived.Test.YtoklfgjemfojgaaG8
namespace Go.Proofs.Ytoklfgjemfojgaa.PAll
open Go.RowKit Go.Proofs.YtoklfgjemfojgaaW.PrintWords Go.Proofs.YtoklfgjemfojgaaW.PrintLast Go.Proofs.YtoklfgjemfojgaaW.PrintMore
attribute [local go_sem] max2_int min2_int max_two min_two max_three min_three max_four min_four   -- for this text's walks alone
set_option linter.unusedVariables false
set_option linter.unusedSimpArgs false

/-! ### spec_flAll: function 66 -/
def spec_flAll.l0 : Nat → List Int → List (S27) → List Int → Int → Int → Int → Int → List (S89) → Option ((List (S27)) × Int × Int × (List (S89)))
 | 0, _, _, _, _, _, _, _, _ => none
 | k + 1, x7, x8, x18, x19, x20, x673000, x673001, x673002 => if x20 < x19 then (if 0 ≤ x20 then (if x20 < (x18.length : Int) then ((spec_flGo.f k x673000 x673001 x673002 x7 (rd x18 x20)).bind fun bt674 => (if x8.length < 5864062014805 then (spec_flAll.l0 k x7 (x8 ++ [(⟨bt674.1, bt674.2.1, bt674.2.2.1⟩ : S27)]) x18 x19 (wrap64 (x20 + 1)) bt674.2.2.2.1 bt674.2.2.2.2.1 bt674.2.2.2.2.2.1) else (none))) else (none)) else (none)) else (some (x8, x673000, x673001, x673002))
def spec_flAll.f (k : Nat) (a0_0 : Int) (a0_1 : Int) (l0_2 : List (S89)) (l1 : List Int) : Option ((List (S27)) × Int × Int × (List (S89))) := (spec_boOwn.f a0_0 a0_1 l0_2).bind fun bt664 => ((spec_ggGroups.f k a0_0 a0_1 l0_2).bind fun t669 => (spec_flAll.l0 k t669 ([] : List (S27)) l1 (l1.length : Int) 0 bt664.1 bt664.2.1 bt664.2.2))
theorem spec_flAll.mono_l : ∀ k, (∀ y0 y1 y2 y3 y4 y5 y6 y7, LeO (spec_flAll.l0 k y0 y1 y2 y3 y4 y5 y6 y7) (spec_flAll.l0 (k + 1) y0 y1 y2 y3 y4 y5 y6 y7))
 | 0 => fun _ _ _ _ _ _ _ _ r h => by simp [spec_flAll.l0] at h
 | k + 1 => by
  have ih0 := spec_flAll.mono_l k
  ·intro y0 y1 y2 y3 y4 y5 y6 y7
   unfold spec_flAll.l0
   repeat' first | (with_reducible first | exact ih0 _ _ _ _ _ _ _ _ | exact spec_flGo.mono _ _ _ _ _ _ | exact spec_ggGroups.mono _ _ _ _ | exact LeO.refl _ | exact LeO.none _ | refine LeO.ite ?_ ?_ | refine LeO.bind ?_ (fun _ => ?_)) | exact ih0 _ _ _ _ _ _ _ _ | exact spec_flGo.mono _ _ _ _ _ _ | exact spec_ggGroups.mono _ _ _ _ | exact LeO.none _ | refine LeO.ite ?_ ?_ | refine LeO.bind ?_ (fun _ => ?_)
theorem spec_flAll.mono : ∀ a0 a1 a2 a3 k, LeO (spec_flAll.f k a0 a1 a2 a3) (spec_flAll.f (k + 1) a0 a1 a2 a3) := by
 intro a0 a1 a2 a3 k
 have ih0 := spec_flAll.mono_l k
 unfold spec_flAll.f
 repeat' first | (with_reducible first | exact ih0 _ _ _ _ _ _ _ _ | exact spec_flGo.mono _ _ _ _ _ _ | exact spec_ggGroups.mono _ _ _ _ | exact LeO.refl _ | exact LeO.none _ | refine LeO.ite ?_ ?_ | refine LeO.bind ?_ (fun _ => ?_)) | exact ih0 _ _ _ _ _ _ _ _ | exact spec_flGo.mono _ _ _ _ _ _ | exact spec_ggGroups.mono _ _ _ _ | exact LeO.none _ | refine LeO.ite ?_ ?_ | refine LeO.bind ?_ (fun _ => ?_)
set_option maxHeartbeats 8000000 in
set_option maxRecDepth 100000 in
theorem spec_flAll.calls (k : Nat) (a0_0 : Int) (a0_1 : Int) (A0_2 : Option Addr) (c0_2 : Nat) (l0_2 : List (S89)) (A1 : Option Addr) (c1 : Nat) (l1 : List Int) (r1 : List (S27)) (r2 : Int) (r3 : Int) (r4 : List (S89)) (w : World) (hr0_2 : Kd.C k89 w A0_2 l0_2.length l0_2) (hc0_2 : l0_2.length ≤ c0_2) (hr1 : Kd.C (Kd.int .i64) w A1 l1.length l1) (hc1 : l1.length ≤ c1) (h : spec_flAll.f k a0_0 a0_1 l0_2 l1 = some (r1, r2, r3, r4)) :
  Calls Try.prog 66 #[.agg #[.int .i64 a0_0, .int .i64 a0_1, .slice A0_2 l0_2.length c0_2], .slice A1 l1.length c1] w fun e w' => ∃ v0_ v3_ : Value, e = .returned (.tuple #[v0_, .agg #[.int .i64 r2, .int .i64 r3, v3_]]) ∧ Kd.R k27 27 w' w.heap.size (fun _ => True) v0_ r1 ∧ Kd.R k89 89 w' w.heap.size (fun _ => True) v3_ r4 ∧ Below w.heap.size w w' := by
 have hu32 := Try.underlying32
 have hu27 := Try.underlying27
 have HR0_2 := Aside0.mk hr0_2
 have HC0_2 := Aside0.mk hc0_2
 clear hr0_2 hc0_2
 have HR1 := Aside0.mk hr1
 have HC1 := Aside0.mk hc1
 clear hr1 hc1
 have HB := Aside0.mk (Below.refl w.heap.size w)
 have H : ((spec_boOwn.f a0_0 a0_1 l0_2).bind fun bt664 => ((spec_ggGroups.f k a0_0 a0_1 l0_2).bind fun t669 => (spec_flAll.l0 k t669 ([] : List (S27)) l1 (l1.length : Int) 0 bt664.1 bt664.2.1 bt664.2.2))) = some (r1, r2, r3, r4) := h
 clear h
 replace H := Option.bind_eq_some_iff.mp H
 obtain ⟨⟨t664, t665, t666⟩, A30, H⟩ := H
 replace H : ((spec_ggGroups.f k a0_0 a0_1 l0_2).bind fun t669 => (spec_flAll.l0 k t669 ([] : List (S27)) l1 (l1.length : Int) 0 t664 t665 t666)) = some (r1, r2, r3, r4) := H
 have A3 := Aside0.mk A30
 clear A30
 replace H := Option.bind_eq_some_iff.mp H
 obtain ⟨t669, A40, H⟩ := H
 replace H : (spec_flAll.l0 k t669 ([] : List (S27)) l1 (l1.length : Int) 0 t664 t665 t666) = some (r1, r2, r3, r4) := H
 have A4 := Aside0.mk A40
 clear A40
 have H' := Aside0.mk H
 clear H
 go_enter Try.func66, Try.ntmps66
 try go_wp2_with (first | ((with_reducible refine gate_dst (N := 2) rfl ?_); refine box_ev (N := 2) (cs := #[.int .i64 a0_0, .int .i64 a0_1, .slice A0_2 l0_2.length c0_2]) (t := 32) ?_; intro gb662 hg w5 hbox hb; have BK662 := Aside0.mk (hbox); have GW662 := gW (w := w) HB hg; have GE662 := gW (w := w) HB hg; replace HB := bB HB hb; clear hb hbox hg) | ((with_reducible refine gate_dst (N := 5) rfl ?_); refine box_ev (N := 5) (cs := #[.int .i64 0, .int .i64 0, .slice none 0 0]) (t := 32) ?_; intro gb663 hg w6 hbox hb; have BK663 := Aside0.mk (hbox); have GW663 := gW (w := w) HB hg; have GE663 := gW (w := w) HB hg; have NB662_663 := neL BK662 hg; have NB663_662 := neG BK662 hg; replace BK662 := kB BK662 hb; replace HB := bB HB hb; clear hb hbox hg))
 replace BK662 := Aside0.mk (blk_drew BK662.out)
 replace BK663 := Aside0.mk (blk_drew BK663.out)
 replace HB := Aside0.mk (below_drew1 HB.out)
 refine start_ (n := 7) (S := fun w' => w'.cell? ⟨gb662, 0, none⟩ = some (.int .i64 a0_0) ∧ w'.cell? ⟨gb662, 1, none⟩ = some (.int .i64 a0_1) ∧ w'.cell? ⟨gb662, 2, none⟩ = some (.slice A0_2 l0_2.length c0_2)) (ds := []) #[false, false, false, false, false, false, false] (by kernel_rfl) rfl rfl ⟨(blk_cell BK662.out 0).trans rfl, (blk_cell BK662.out 1).trans rfl, (blk_cell BK662.out 2).trans rfl⟩ (fun hHeld => ?_)
 generalize w6.drew = w7 at BK662 BK663 HB hHeld ⊢
 refine take_ (i := 0) (N := some 14) (v := ?_) (a' := ?_) #[true, false, false, false, false, false, false] rfl rfl (by kernel_rfl) (fun _ _ _ h => h) (Or.inl ⟨by rfl, ?_⟩) hHeld ?_ ?_
 rotate_left
 ·rintro w' ⟨s0, s1, s2⟩
  go_simp
  with_reducible rfl
 rotate_left
 ·simp only [Act.put, q1, q2, q3, i64_w, i32_w]
  rfl
 refine take_ (i := 2) (N := some 16) (v := ?_) (a' := ?_) #[true, false, true, false, false, false, false] rfl rfl (by kernel_rfl) (fun _ _ _ h => h) (Or.inl ⟨by rfl, ?_⟩) hHeld ?_ ?_
 rotate_left
 ·rintro w' ⟨s0, s1, s2⟩
  go_simp
  with_reducible rfl
 rotate_left
 ·simp only [Act.put, q1, q2, q3, i64_w, i32_w]
  rfl
 refine join_ (σ := Value × Value × Nat) 2 #[true, true, true, true, true, false, false] (fun s_ => [(15, .agg #[.int .i64 t664, .int .i64 t665, s_.1]), (17, s_.2.1), (6, .pointer (some ⟨s_.2.2, 0, none⟩))]) (fun s_ w' => (w'.cell? ⟨gb662, 0, none⟩ = some (.int .i64 a0_0) ∧ w'.cell? ⟨gb662, 1, none⟩ = some (.int .i64 a0_1) ∧ w'.cell? ⟨gb662, 2, none⟩ = some (.slice A0_2 l0_2.length c0_2)) ∧ (Kd.R k89 89 w' w.heap.size (fun _ => True) s_.1 t666) ∧ (Kd.R (Kd.int .i64) 3 w' w.heap.size (fun _ => True) s_.2.1 t669) ∧ (w'.heap[gb662]? = some (.cells #[.int .i64 a0_0, .int .i64 a0_1, .slice A0_2 l0_2.length c0_2] 32 (0, 0))) ∧ (w'.heap[gb663]? = some (.cells #[.int .i64 0, .int .i64 0, .slice none 0 0] 32 (0, 0))) ∧ (w'.heap[s_.2.2]? = some (.cells #[.int .i64 0, .int .i64 0, .slice none 0 0] 32 (0, 0))) ∧ (w.heap.size ≤ s_.2.2) ∧ (w.heap.size ≤ s_.2.2) ∧ (gb662 ≠ s_.2.2) ∧ (s_.2.2 ≠ gb662) ∧ (gb663 ≠ s_.2.2) ∧ (s_.2.2 ≠ gb663) ∧ (Below w.heap.size w w')) ?_ ?_
 rotate_left
 ·intro hCont
  refine two_ (i := 1) (j := 4) (Ni := some 15) (Nj := some 6) #[true, true, true, false, false, false, false] #[true, false, true, false, true, false, false] rfl rfl rfl rfl (by kernel_rfl) (by decide) (by decide) (fun K hK => ?_) (fun K hK => ?_)
  ·skip
   refine goes_ Try.func82 (by kernel_rfl) rfl #[.agg #[.int .i64 a0_0, .int .i64 a0_1, .slice A0_2 l0_2.length c0_2]] (by rfl) rfl rfl (by (try simp only [List.map_toArray, List.map_cons, List.map_nil]); first | done | rfl | (simp only [List.length_drop, List.length_take]; rfl)) ?_
   with_reducible refine (spec_boOwn.calls a0_0 a0_1 _ _ l0_2 t664 t665 t666 _ ?side1 ?side2 A3.out).mono ?_
   (case side1 => repeat (first | exact (Kd.C_below HR0_2.out HB.out) | (with_reducible refine Kd.C_alloc ?_ _) | (with_reducible refine Kd.C_drewN ?_ _) | (with_reducible refine Kd.C_drew ?_)))
   (case side2 => exact HC0_2.out)
   rintro e w8 ⟨v667, rfl, ho0, hb⟩
   refine ⟨_, rfl, ?_⟩
   have HO668 := Aside0.mk (Kd.R_lower ho0 (below_size (viaB HB)))
   replace BK662 := kB BK662 hb
   replace BK663 := kB BK663 hb
   replace HB := bB HB hb
   (try clear hb); (try clear ho0)
   refine hK.out _ _ ⟨(blk_cell BK662.out 0).trans rfl, (blk_cell BK662.out 1).trans rfl, (blk_cell BK662.out 2).trans rfl⟩ (fun hHeld => ?_)
   clear hK K
   refine norm_ (a' := ?_) ?_ ?_
   rotate_left
   ·show Act.put _ (some 15) _ = _
    simp only [Act.put, q1, q2, q3, i64_w, i32_w]
    rfl
   refine two_ (i := 3) (j := 4) (Ni := some 17) (Nj := some 6) #[true, true, true, true, false, false, false] #[true, true, true, false, true, false, false] rfl rfl rfl rfl (by kernel_rfl) (by decide) (by decide) (fun K hK => ?_) (fun K hK => ?_)
   ·skip
    refine goes_ Try.func62 (by kernel_rfl) rfl #[.agg #[.int .i64 a0_0, .int .i64 a0_1, .slice A0_2 l0_2.length c0_2]] (by rfl) rfl rfl (by (try simp only [List.map_toArray, List.map_cons, List.map_nil]); first | done | rfl | (simp only [List.length_drop, List.length_take]; rfl)) ?_
    with_reducible refine (spec_ggGroups.calls k a0_0 a0_1 _ _ l0_2 t669 _ ?side1 ?side2 A4.out).mono ?_
    (case side1 => repeat (first | exact (Kd.C_below HR0_2.out HB.out) | (with_reducible refine Kd.C_alloc ?_ _) | (with_reducible refine Kd.C_drewN ?_ _) | (with_reducible refine Kd.C_drew ?_)))
    (case side2 => exact HC0_2.out)
    rintro e w9 ⟨v670, rfl, ho0, hb⟩
    refine ⟨_, rfl, ?_⟩
    have HO671 := Aside0.mk (Kd.R_lower ho0 (below_size (viaB HB)))
    replace HO668 := Aside0.mk (Kd.R_below (viaR HO668) hb)
    replace BK662 := kB BK662 hb
    replace BK663 := kB BK663 hb
    replace HB := bB HB hb
    (try clear hb); (try clear ho0)
    refine hK.out _ _ ⟨(blk_cell BK662.out 0).trans rfl, (blk_cell BK662.out 1).trans rfl, (blk_cell BK662.out 2).trans rfl⟩ (fun hHeld => ?_)
    clear hK K
    refine norm_ (a' := ?_) ?_ ?_
    rotate_left
    ·show Act.put _ (some 17) _ = _
     simp only [Act.put, q1, q2, q3, i64_w, i32_w]
     rfl
    refine one_ (i := 4) (N := some 6) #[true, true, true, true, true, false, false] rfl rfl (by kernel_rfl) (by decide) (fun K hK => ?_)
    refine box_step ?hg (N := 6) ?hd (cs := #[.int .i64 0, .int .i64 0, .slice none 0 0]) (t := 32) ?hr ?_; (case hd => rfl); (case hg => rfl); (case hr => first | (go_simp; done) | (go_simp; rfl))
    intro gb672 hg w10 hbox hb
    have BK672 := Aside0.mk (hbox)
    have GW672 := gW (w := w) HB hg
    have GE672 := gW (w := w) HB hg
    have NB662_672 := neL BK662 hg
    have NB672_662 := neG BK662 hg
    have NB663_672 := neL BK663 hg
    have NB672_663 := neG BK663 hg
    replace HO668 := Aside0.mk (Kd.R_below (viaR HO668) hb)
    replace HO671 := Aside0.mk (Kd.R_below (viaR HO671) hb)
    replace BK662 := kB BK662 hb
    replace BK663 := kB BK663 hb
    replace HB := bB HB hb
    clear hb hbox hg
    refine hK.out _ _ ⟨(blk_cell BK662.out 0).trans rfl, (blk_cell BK662.out 1).trans rfl, (blk_cell BK662.out 2).trans rfl⟩ (fun hHeld => ?_)
    clear hK K
    refine norm_ (a' := ?_) ?_ ?_
    rotate_left
    ·show Act.put _ (some 6) _ = _
     simp only [Act.put, q1, q2, q3, i64_w, i32_w]
     rfl
    exact norm_ (by simp only [putAll, Act.put, q1, q2, q3]) (hCont (v667, v670, gb672) _ ⟨hHeld, (viaR HO668), (viaR HO671), (viaK BK662), (viaK BK663), (viaK BK672), GW672.out, GE672.out, NB662_672.out, NB672_662.out, NB663_672.out, NB672_663.out, (viaB HB)⟩)
   ·skip
    refine box_step ?hg (N := 6) ?hd (cs := #[.int .i64 0, .int .i64 0, .slice none 0 0]) (t := 32) ?hr ?_; (case hd => rfl); (case hg => rfl); (case hr => first | (go_simp; done) | (go_simp; rfl))
    intro gb672 hg w9 hbox hb
    have BK672 := Aside0.mk (hbox)
    have GW672 := gW (w := w) HB hg
    have GE672 := gW (w := w) HB hg
    have NB662_672 := neL BK662 hg
    have NB672_662 := neG BK662 hg
    have NB663_672 := neL BK663 hg
    have NB672_663 := neG BK663 hg
    replace HO668 := Aside0.mk (Kd.R_below (viaR HO668) hb)
    replace BK662 := kB BK662 hb
    replace BK663 := kB BK663 hb
    replace HB := bB HB hb
    clear hb hbox hg
    refine hK.out _ _ ⟨(blk_cell BK662.out 0).trans rfl, (blk_cell BK662.out 1).trans rfl, (blk_cell BK662.out 2).trans rfl⟩ (fun hHeld => ?_)
    clear hK K
    refine norm_ (a' := ?_) ?_ ?_
    rotate_left
    ·show Act.put _ (some 6) _ = _
     simp only [Act.put, q1, q2, q3, i64_w, i32_w]
     rfl
    refine one_ (i := 3) (N := some 17) #[true, true, true, true, true, false, false] rfl rfl (by kernel_rfl) (by decide) (fun K hK => ?_)
    refine goes_ Try.func62 (by kernel_rfl) rfl #[.agg #[.int .i64 a0_0, .int .i64 a0_1, .slice A0_2 l0_2.length c0_2]] (by rfl) rfl rfl (by (try simp only [List.map_toArray, List.map_cons, List.map_nil]); first | done | rfl | (simp only [List.length_drop, List.length_take]; rfl)) ?_
    with_reducible refine (spec_ggGroups.calls k a0_0 a0_1 _ _ l0_2 t669 _ ?side1 ?side2 A4.out).mono ?_
    (case side1 => repeat (first | exact (Kd.C_below HR0_2.out HB.out) | (with_reducible refine Kd.C_alloc ?_ _) | (with_reducible refine Kd.C_drewN ?_ _) | (with_reducible refine Kd.C_drew ?_)))
    (case side2 => exact HC0_2.out)
    rintro e w10 ⟨v670, rfl, ho0, hb⟩
    refine ⟨_, rfl, ?_⟩
    have HO671 := Aside0.mk (Kd.R_lower ho0 (below_size (viaB HB)))
    replace HO668 := Aside0.mk (Kd.R_below (viaR HO668) hb)
    replace BK662 := kB BK662 hb
    replace BK663 := kB BK663 hb
    replace BK672 := kB BK672 hb
    replace HB := bB HB hb
    (try clear hb); (try clear ho0)
    refine hK.out _ _ ⟨(blk_cell BK662.out 0).trans rfl, (blk_cell BK662.out 1).trans rfl, (blk_cell BK662.out 2).trans rfl⟩ (fun hHeld => ?_)
    clear hK K
    refine norm_ (a' := ?_) ?_ ?_
    rotate_left
    ·show Act.put _ (some 17) _ = _
     simp only [Act.put, q1, q2, q3, i64_w, i32_w]
     rfl
    exact norm_ (by simp only [putAll, Act.put, q1, q2, q3]) (hCont (v667, v670, gb672) _ ⟨hHeld, (viaR HO668), (viaR HO671), (viaK BK662), (viaK BK663), (viaK BK672), GW672.out, GE672.out, NB662_672.out, NB672_662.out, NB663_672.out, NB672_663.out, (viaB HB)⟩)
  ·skip
   refine box_step ?hg (N := 6) ?hd (cs := #[.int .i64 0, .int .i64 0, .slice none 0 0]) (t := 32) ?hr ?_; (case hd => rfl); (case hg => rfl); (case hr => first | (go_simp; done) | (go_simp; rfl))
   intro gb672 hg w8 hbox hb
   have BK672 := Aside0.mk (hbox)
   have GW672 := gW (w := w) HB hg
   have GE672 := gW (w := w) HB hg
   have NB662_672 := neL BK662 hg
   have NB672_662 := neG BK662 hg
   have NB663_672 := neL BK663 hg
   have NB672_663 := neG BK663 hg
   replace BK662 := kB BK662 hb
   replace BK663 := kB BK663 hb
   replace HB := bB HB hb
   clear hb hbox hg
   refine hK.out _ _ ⟨(blk_cell BK662.out 0).trans rfl, (blk_cell BK662.out 1).trans rfl, (blk_cell BK662.out 2).trans rfl⟩ (fun hHeld => ?_)
   clear hK K
   refine norm_ (a' := ?_) ?_ ?_
   rotate_left
   ·show Act.put _ (some 6) _ = _
    simp only [Act.put, q1, q2, q3, i64_w, i32_w]
    rfl
   refine one_ (i := 1) (N := some 15) #[true, true, true, false, true, false, false] rfl rfl (by kernel_rfl) (by decide) (fun K hK => ?_)
   refine goes_ Try.func82 (by kernel_rfl) rfl #[.agg #[.int .i64 a0_0, .int .i64 a0_1, .slice A0_2 l0_2.length c0_2]] (by rfl) rfl rfl (by (try simp only [List.map_toArray, List.map_cons, List.map_nil]); first | done | rfl | (simp only [List.length_drop, List.length_take]; rfl)) ?_
   with_reducible refine (spec_boOwn.calls a0_0 a0_1 _ _ l0_2 t664 t665 t666 _ ?side1 ?side2 A3.out).mono ?_
   (case side1 => repeat (first | exact (Kd.C_below HR0_2.out HB.out) | (with_reducible refine Kd.C_alloc ?_ _) | (with_reducible refine Kd.C_drewN ?_ _) | (with_reducible refine Kd.C_drew ?_)))
   (case side2 => exact HC0_2.out)
   rintro e w9 ⟨v667, rfl, ho0, hb⟩
   refine ⟨_, rfl, ?_⟩
   have HO668 := Aside0.mk (Kd.R_lower ho0 (below_size (viaB HB)))
   replace BK662 := kB BK662 hb
   replace BK663 := kB BK663 hb
   replace BK672 := kB BK672 hb
   replace HB := bB HB hb
   (try clear hb); (try clear ho0)
   refine hK.out _ _ ⟨(blk_cell BK662.out 0).trans rfl, (blk_cell BK662.out 1).trans rfl, (blk_cell BK662.out 2).trans rfl⟩ (fun hHeld => ?_)
   clear hK K
   refine norm_ (a' := ?_) ?_ ?_
   rotate_left
   ·show Act.put _ (some 15) _ = _
    simp only [Act.put, q1, q2, q3, i64_w, i32_w]
    rfl
   refine one_ (i := 3) (N := some 17) #[true, true, true, true, true, false, false] rfl rfl (by kernel_rfl) (by decide) (fun K hK => ?_)
   refine goes_ Try.func62 (by kernel_rfl) rfl #[.agg #[.int .i64 a0_0, .int .i64 a0_1, .slice A0_2 l0_2.length c0_2]] (by rfl) rfl rfl (by (try simp only [List.map_toArray, List.map_cons, List.map_nil]); first | done | rfl | (simp only [List.length_drop, List.length_take]; rfl)) ?_
   with_reducible refine (spec_ggGroups.calls k a0_0 a0_1 _ _ l0_2 t669 _ ?side1 ?side2 A4.out).mono ?_
   (case side1 => repeat (first | exact (Kd.C_below HR0_2.out HB.out) | (with_reducible refine Kd.C_alloc ?_ _) | (with_reducible refine Kd.C_drewN ?_ _) | (with_reducible refine Kd.C_drew ?_)))
   (case side2 => exact HC0_2.out)
   rintro e w10 ⟨v670, rfl, ho0, hb⟩
   refine ⟨_, rfl, ?_⟩
   have HO671 := Aside0.mk (Kd.R_lower ho0 (below_size (viaB HB)))
   replace HO668 := Aside0.mk (Kd.R_below (viaR HO668) hb)
   replace BK662 := kB BK662 hb
   replace BK663 := kB BK663 hb
   replace BK672 := kB BK672 hb
   replace HB := bB HB hb
   (try clear hb); (try clear ho0)
   refine hK.out _ _ ⟨(blk_cell BK662.out 0).trans rfl, (blk_cell BK662.out 1).trans rfl, (blk_cell BK662.out 2).trans rfl⟩ (fun hHeld => ?_)
   clear hK K
   refine norm_ (a' := ?_) ?_ ?_
   rotate_left
   ·show Act.put _ (some 17) _ = _
    simp only [Act.put, q1, q2, q3, i64_w, i32_w]
    rfl
   exact norm_ (by simp only [putAll, Act.put, q1, q2, q3]) (hCont (v667, v670, gb672) _ ⟨hHeld, (viaR HO668), (viaR HO671), (viaK BK662), (viaK BK663), (viaK BK672), GW672.out, GE672.out, NB662_672.out, NB672_662.out, NB663_672.out, NB672_663.out, (viaB HB)⟩)
 rintro ⟨v667, v670, gb672⟩ w11 ⟨hS_, h0_, h1_, h2_, h3_, h4_, h5_, h6_, h7_, h8_, h9_, h10_, h11_⟩
 have HO668 : Aside0 (Kd.R k89 89 w11 w.heap.size (fun _ => True) v667 t666) := ⟨h0_⟩
 have HO671 : Aside0 (Kd.R (Kd.int .i64) 3 w11 w.heap.size (fun _ => True) v670 t669) := ⟨h1_⟩
 have BK672 : Aside0 (w11.heap[gb672]? = some (.cells #[.int .i64 0, .int .i64 0, .slice none 0 0] 32 (0, 0))) := ⟨h4_⟩
 have GW672 : Aside0 (w.heap.size ≤ gb672) := ⟨h5_⟩
 have GE672 : Aside0 (w.heap.size ≤ gb672) := ⟨h6_⟩
 have NB662_672 : Aside0 (gb662 ≠ gb672) := ⟨h7_⟩
 have NB672_662 : Aside0 (gb672 ≠ gb662) := ⟨h8_⟩
 have NB663_672 : Aside0 (gb663 ≠ gb672) := ⟨h9_⟩
 have NB672_663 : Aside0 (gb672 ≠ gb663) := ⟨h10_⟩
 replace BK662 : Aside0 (w11.heap[gb662]? = some (.cells #[.int .i64 a0_0, .int .i64 a0_1, .slice A0_2 l0_2.length c0_2] 32 (0, 0))) := ⟨h2_⟩
 replace BK663 : Aside0 (w11.heap[gb663]? = some (.cells #[.int .i64 0, .int .i64 0, .slice none 0 0] 32 (0, 0))) := ⟨h3_⟩
 replace HB : Aside0 (Below w.heap.size w w11) := ⟨h11_⟩
 clear h0_ h1_ h2_ h3_ h4_ h5_ h6_ h7_ h8_ h9_ h10_ h11_
 have hHeld : w11.cell? ⟨gb662, 0, none⟩ = some (.int .i64 a0_0) ∧ w11.cell? ⟨gb662, 1, none⟩ = some (.int .i64 a0_1) ∧ w11.cell? ⟨gb662, 2, none⟩ = some (.slice A0_2 l0_2.length c0_2) := hS_
 obtain ⟨Ao14, co14, eo14⟩ := Kd.R_slice HO668.out
 (first | subst eo14 | (injection eo14 with f1_ f2_ f3_; have f4_ := f1_.symm; have f5_ := f3_.symm; clear f1_ f2_ f3_; subst f4_; subst f5_))
 refine norm_ (a' := ?_) ?_ ?_
 rotate_left
 ·simp only [putAll, Act.put, q1, q2, q3]
  rfl
 refine one_ (i := 5) (N := none) #[true, true, true, true, true, true, false] rfl rfl (by kernel_rfl) (by decide) (fun K hK => ?_)
 have hs12 : w11.cell? ⟨gb672, 0, none⟩ = some (.int .i64 0) := (blk_cell BK672.out 0).trans rfl
 have hfs12 := blk_frozen BK672.out 0
 have hns12_0 := NB662_672.out
 have hns12_1 := NB663_672.out
 have hms12_0 := NB672_662.out
 have hms12_1 := NB672_663.out
 have hs13 : w11.cell? ⟨gb672, 1, none⟩ = some (.int .i64 0) := (blk_cell BK672.out 1).trans rfl
 have hfs13 := blk_frozen BK672.out 1
 have hns13_0 := NB662_672.out
 have hns13_1 := NB663_672.out
 have hms13_0 := NB672_662.out
 have hms13_1 := NB672_663.out
 have hs15 : w11.cell? ⟨gb672, 2, none⟩ = some (.slice none 0 0) := (blk_cell BK672.out 2).trans rfl
 have hfs15 := blk_frozen BK672.out 2
 have hns15_0 := NB662_672.out
 have hns15_1 := NB663_672.out
 have hms15_0 := NB672_662.out
 have hms15_1 := NB672_663.out
 refine skip_ (w1 := ?_) (by rfl) rfl ?_ ?_
 rotate_left
 ·go_simp
  rfl
 refine hK.out _ _ ⟨((cell_far (p := ⟨gb672, _, none⟩) NB662_672.out _).trans (((cell_far (p := ⟨gb672, _, none⟩) NB662_672.out _).trans (((cell_far (p := ⟨gb672, _, none⟩) NB662_672.out _).trans (hHeld.1)))))), ((cell_far (p := ⟨gb672, _, none⟩) NB662_672.out _).trans (((cell_far (p := ⟨gb672, _, none⟩) NB662_672.out _).trans (((cell_far (p := ⟨gb672, _, none⟩) NB662_672.out _).trans (hHeld.2.1)))))), ((cell_far (p := ⟨gb672, _, none⟩) NB662_672.out _).trans (((cell_far (p := ⟨gb672, _, none⟩) NB662_672.out _).trans (((cell_far (p := ⟨gb672, _, none⟩) NB662_672.out _).trans (hHeld.2.2))))))⟩ (fun hHeld => ?_)
 clear hK K
 refine pure_ (i := 6) (N := some 7) (v := ?_) (a' := ?_) #[true, true, true, true, true, true, true] rfl rfl (by kernel_rfl) (fun _ _ _ h => h) (Or.inl ⟨by rfl, ?_⟩) ?_ ?_
 rotate_left
 ·intro w'
  go_simp
  with_reducible rfl
 rotate_left
 ·simp only [Act.put, q1, q2, q3, i64_w, i32_w]
  rfl
 refine done_ (by kernel_rfl) ?_
 try go_wp2
 go_loopg [8, 20] k (fun kq v8 v20 w' => ∃ (x8_1 : List (S27)) (x20_1 : Int) (x673000_1 : Int) (x673001_1 : Int) (x673002_1 : List (S89)) (u673002 : Value), v20 = .int .i64 x20_1 ∧ Aside0 (spec_flAll.l0 kq t669 x8_1 l1 (l1.length : Int) x20_1 x673000_1 x673001_1 x673002_1 = some (r1, r2, r3, r4)) ∧ Aside0 (kq ≤ k) ∧ Aside0 (Kd.R (Kd.int .i64) 3 w' w.heap.size (fun _ => True) v670 t669) ∧ Aside0 (Kd.R k27 27 w' w.heap.size (fun _ => True) v8 x8_1) ∧ Aside0 (Kd.R k89 89 w' w.heap.size (fun _ => True) u673002 x673002_1) ∧ Aside0 (w'.heap[gb662]? = some (.cells #[.int .i64 a0_0, .int .i64 a0_1, (.slice A0_2 l0_2.length c0_2)] 32 (0, 0))) ∧ Aside0 (w'.heap[gb663]? = some (.cells #[.int .i64 0, .int .i64 0, (.slice none 0 0)] 32 (0, 0))) ∧ Aside0 (w'.heap[gb672]? = some (.cells #[.int .i64 x673000_1, .int .i64 x673001_1, u673002] 32 (0, 0))) ∧ Aside0 (Below w.heap.size w w'))
 case atStart => exact ⟨(([] : List (S27))), (0), (t664), (t665), (t666), (.slice Ao14 t666.length co14), (by first | rfl | (simp; done) | (simp [*]; done)), H', ⟨Nat.le_refl _⟩, ⟨by (with_reducible repeat (first | apply Kd.R_alloc | apply Kd.R_drewN | apply Kd.R_drew)); exact Kd.R_mono (Kd.R_far (p := ⟨gb672, 2, none⟩) (Kd.R_far (p := ⟨gb672, 1, none⟩) (Kd.R_far (p := ⟨gb672, 0, none⟩) (Kd.R_types HO671.out BK672.out (by decide)) (fun _ hk => hk.2) (.int .i64 t664)) (fun _ hk => hk.2) (.int .i64 t665)) (fun _ hk => hk.2) (.slice Ao14 t666.length co14)) (fun _ hk => trivial)⟩, ⟨by first | exact Kd.R_nil _ _ _ _ _ | exact Kd.N_nil _ _ _ _ _ | exact Kd.V_nil _ _ _ _ _ | exact Kd.Q_nil _ _ _ _ _ | exact Kd.S_nil _ _ _ _ _⟩, ⟨by (with_reducible repeat (first | apply Kd.R_alloc | apply Kd.R_drewN | apply Kd.R_drew)); exact Kd.R_mono (Kd.R_far (p := ⟨gb672, 2, none⟩) (Kd.R_far (p := ⟨gb672, 1, none⟩) (Kd.R_far (p := ⟨gb672, 0, none⟩) (Kd.R_types HO668.out BK672.out (by decide)) (fun _ hk => hk.2) (.int .i64 t664)) (fun _ hk => hk.2) (.int .i64 t665)) (fun _ hk => hk.2) (.slice Ao14 t666.length co14)) (fun _ hk => trivial)⟩, ⟨by (with_reducible repeat (first | refine blk_drewN ?_ _ | refine blk_drew ?_ | refine blk_alloc ?_ _)); refine blk_far ?_ NB662_672.out _; (with_reducible repeat (first | refine blk_drewN ?_ _ | refine blk_drew ?_ | refine blk_alloc ?_ _)); refine blk_far ?_ NB662_672.out _; (with_reducible repeat (first | refine blk_drewN ?_ _ | refine blk_drew ?_ | refine blk_alloc ?_ _)); refine blk_far ?_ NB662_672.out _; (with_reducible repeat (first | refine blk_drewN ?_ _ | refine blk_drew ?_ | refine blk_alloc ?_ _)); exact BK662.out⟩, ⟨by (with_reducible repeat (first | refine blk_drewN ?_ _ | refine blk_drew ?_ | refine blk_alloc ?_ _)); refine blk_far ?_ NB663_672.out _; (with_reducible repeat (first | refine blk_drewN ?_ _ | refine blk_drew ?_ | refine blk_alloc ?_ _)); refine blk_far ?_ NB663_672.out _; (with_reducible repeat (first | refine blk_drewN ?_ _ | refine blk_drew ?_ | refine blk_alloc ?_ _)); refine blk_far ?_ NB663_672.out _; (with_reducible repeat (first | refine blk_drewN ?_ _ | refine blk_drew ?_ | refine blk_alloc ?_ _)); exact BK663.out⟩, ⟨by (with_reducible repeat (first | refine blk_drewN ?_ _ | refine blk_drew ?_ | refine blk_alloc ?_ _)); refine blk_put (cs := #[.int .i64 t664, .int .i64 t665, .slice none 0 0]) ?_ 2 _ rfl; (with_reducible repeat (first | refine blk_drewN ?_ _ | refine blk_drew ?_ | refine blk_alloc ?_ _)); refine blk_put (cs := #[.int .i64 t664, .int .i64 0, .slice none 0 0]) ?_ 1 _ rfl; (with_reducible repeat (first | refine blk_drewN ?_ _ | refine blk_drew ?_ | refine blk_alloc ?_ _)); refine blk_put (cs := #[.int .i64 0, .int .i64 0, .slice none 0 0]) ?_ 0 _ rfl; (with_reducible repeat (first | refine blk_drewN ?_ _ | refine blk_drew ?_ | refine blk_alloc ?_ _)); exact BK672.out⟩, ⟨viaB HB⟩⟩
 case round =>
  clear H'
  obtain ⟨x8_1, x20_1, x673000_1, x673001_1, x673002_1, u673002, rfl, HA, HK1, HO_7, HO_8, HO_673002, BK662, BK663, BK672, HB⟩ := hrel
  cases gk with
  | zero => exact absurd HA.out (by simp [spec_flAll.l0])
  | succ k1 =>
   have H := HA.out
   clear HA
   simp only [spec_flAll.l0] at H
   by_cases c16 : x20_1 < (l1.length : Int)
   ·rw [if_pos c16] at H
    have c16b0 := decide_eq_true c16
    clear c16
    by_cases c17 : 0 ≤ x20_1
    ·rw [if_pos c17] at H
     have c17b0 := decide_eq_true c17
     clear c17
     by_cases c18 : x20_1 < (l1.length : Int)
     ·rw [if_pos c18] at H
      have c18b0 := decide_eq_true c18
      clear c18
      replace H := Option.bind_eq_some_iff.mp H
      obtain ⟨⟨t674, t675, t676, t677, t678, t679, t682⟩, A190, H⟩ := H
      replace H : (if x8_1.length < 5864062014805 then (spec_flAll.l0 k1 t669 (x8_1 ++ [(⟨t674, t675, t676⟩ : S27)]) l1 (l1.length : Int) (wrap64 (x20_1 + 1)) t677 t678 t679) else (none)) = some (r1, r2, r3, r4) := H
      have A19 := Aside0.mk A190
      clear A190
      by_cases c20 : x8_1.length < 5864062014805
      ·rw [if_pos c20] at H
       have LMc20 := Aside0.mk c20
       clear c20
       obtain ⟨y687, hy687⟩ : ∃ y_ : List (S27), y_ = (x8_1 ++ [(⟨t674, t675, t676⟩ : S27)]) := ⟨_, rfl⟩
       replace H : (spec_flAll.l0 k1 t669 y687 l1 (l1.length : Int) (wrap64 (x20_1 + 1)) t677 t678 t679) = some (r1, r2, r3, r4) := by first | (rw [hy687]; with_reducible exact H) | (have H2_ := (Option.bind_some _ _).symm.trans H; rw [hy687]; with_reducible exact H2_) | (have H2_ := (Option.bind_some _ _).symm.trans H; with_reducible exact H2_) | with_reducible exact H | (rw [hy687]; exact H) | exact H
       have Ny687 := Aside0.mk hy687
       clear hy687
       have H' := Aside0.mk H
       clear H
       have p673 : 0 ≤ (x20_1 : Int) := ofD
       have q673 : x20_1 < (l1.length : Int) := ofD
       obtain ⟨ad673, e673, hx673_0⟩ := Kd.at_int HR1.out x20_1 p673 q673
       cases e673
       replace hx673_0 := (HB.out.cell (World.block_lt_of_cell? w _ hx673_0)).trans hx673_0
       replace p673 := eq_true p673
       replace q673 := eq_true q673
       have hnb21 := NB672_662.out
       have hnc21 := NB662_672.out
       have hnb22 := NB672_663.out
       have hnc22 := NB663_672.out
       have hcz23_0 := bc0 BK672
       have hcz23_1 := bc1 BK672
       have hcz23_2 := bc2 BK672
       have hfz23_0 := blk_frozen BK672.out 0
       have hfz23_1 := blk_frozen BK672.out 1
       have hfz23_2 := blk_frozen BK672.out 2
       obtain ⟨Ao24, co24, eo24⟩ := Kd.R_slice HO_673002.out
       subst eo24
       obtain ⟨Ao25, co25, eo25⟩ := Kd.R_slice HO_7.out
       subst eo25
       go_wp2_with (first | ((with_reducible refine gate_callee (f := 63) rfl ?_); refine goesA (some 28) _ #[.agg #[.int .i64 x673000_1, .int .i64 x673001_1, .slice Ao24 x673002_1.length co24], .slice Ao25 t669.length co25, .int .i64 (rd l1 x20_1)] ?_ Try.func63; (with_reducible refine (spec_flGo.calls k1 x673000_1 x673001_1 _ _ x673002_1 _ _ t669 (rd l1 x20_1) t674 t675 t676 t677 t678 t679 t682 _ ?side1 ?side2 ?side3 ?side4 A19.out).mono ?_); (case side1 => repeat (first | exact (Kd.R_reads' HO_673002.out).2.2 | (with_reducible refine Kd.C_alloc ?_ _) | (with_reducible refine Kd.C_drewN ?_ _) | (with_reducible refine Kd.C_drew ?_))); (case side2 => exact (Kd.R_reads' HO_673002.out).2.1); (case side3 => repeat (first | exact (Kd.R_reads' HO_7.out).2.2 | (with_reducible refine Kd.C_alloc ?_ _) | (with_reducible refine Kd.C_drewN ?_ _) | (with_reducible refine Kd.C_drew ?_))); (case side4 => exact (Kd.R_reads' HO_7.out).2.1); rintro e w26 ⟨v680, v683, rfl, ho0, ho1, hb⟩; refine ⟨_, rfl, ?_⟩; have HO681 := Aside0.mk (Kd.R_lower (Kd.R_new' ho0 (Kd.R_lt (viaR HO_673002))) (below_size (viaB HB))); have HO684 := Aside0.mk (Kd.S_lower (Kd.S_new' ho1 (Kd.R_lt (viaR HO_7))) (below_size (viaB HB))); replace HO_7 := Aside0.mk (Kd.R_below (viaR HO_7) hb); replace HO_8 := Aside0.mk (Kd.R_below (viaR HO_8) hb); replace HO_673002 := Aside0.mk (Kd.R_elder' (viaR HO_673002) (Kd.R_base ho0) hb); replace BK662 := kB BK662 hb; replace BK663 := kB BK663 hb; replace BK672 := kB BK672 hb; replace HB := bB HB hb; (try clear hb); (try clear hb2); (try clear hk); (try clear hi); (try clear ho0); (try clear ho1)) | ((with_reducible refine gate_dst (N := 11) rfl ?_); refine box_ev (N := 11) (cs := #[.int .i64 0, .int .i64 0, .int .i64 0]) (t := 27) ?_; intro gb685 hg w27 hbox hb; have BK685 := Aside0.mk (hbox); have GW685 := gW (w := w) HB hg; have GE685 := gW (w := w) HB hg; have NB662_685 := neL BK662 hg; have NB685_662 := neG BK662 hg; have NB663_685 := neL BK663 hg; have NB685_663 := neG BK663 hg; have NB672_685 := neL BK672 hg; have NB685_672 := neG BK672 hg; replace HO_7 := Aside0.mk (Kd.R_below (viaR HO_7) hb); replace HO_8 := Aside0.mk (Kd.R_below (Kd.R_elderB (viaR HO_8) gb685 (Nat.le_of_eq hg.symm)) hb); replace HO_673002 := Aside0.mk (Kd.R_below (viaR HO_673002) hb); replace HO681 := Aside0.mk (Kd.R_below (viaR HO681) hb); replace HO684 := Aside0.mk (Kd.S_below (viaS HO684) hb); replace BK662 := kB BK662 hb; replace BK663 := kB BK663 hb; replace BK672 := kB BK672 hb; replace HB := bB HB hb; clear hb hbox hg) | ((with_reducible refine gate_dst (N := 12) rfl ?_); refine box_ev (N := 12) (cs := #[.int .i64 0, .int .i64 0, .slice none 0 0]) (t := 32) ?_; intro gb686 hg w28 hbox hb; have BK686 := Aside0.mk (hbox); have GW686 := gW (w := w) HB hg; have GE686 := gW (w := w) HB hg; have NB662_686 := neL BK662 hg; have NB686_662 := neG BK662 hg; have NB663_686 := neL BK663 hg; have NB686_663 := neG BK663 hg; have NB672_686 := neL BK672 hg; have NB686_672 := neG BK672 hg; have NB685_686 := neL BK685 hg; have NB686_685 := neG BK685 hg; replace HO_7 := Aside0.mk (Kd.R_below (viaR HO_7) hb); replace HO_8 := Aside0.mk (Kd.R_below (viaR HO_8) hb); replace HO_673002 := Aside0.mk (Kd.R_below (viaR HO_673002) hb); replace HO681 := Aside0.mk (Kd.R_below (viaR HO681) hb); replace HO684 := Aside0.mk (Kd.S_below (viaS HO684) hb); replace BK662 := kB BK662 hb; replace BK663 := kB BK663 hb; replace BK672 := kB BK672 hb; replace BK685 := kB BK685 hb; replace HB := bB HB hb; clear hb hbox hg; have hnb29 := NB685_662.out; have hnc29 := NB662_685.out; have hnb30 := NB685_663.out; have hnc30 := NB663_685.out; have hnb31 := NB685_672.out; have hnc31 := NB672_685.out; have hnb32 := NB685_686.out; have hnc32 := NB686_685.out; have hcz33_0 := bc0 BK685; have hcz33_1 := bc1 BK685; have hcz33_2 := bc2 BK685; have hfz33_0 := blk_frozen BK685.out 0; have hfz33_1 := blk_frozen BK685.out 1; have hfz33_2 := blk_frozen BK685.out 2; have hnb34 := NB686_662.out; have hnc34 := NB662_686.out; have hnb35 := NB686_663.out; have hnc35 := NB663_686.out; have hnb36 := NB686_672.out; have hnc36 := NB672_686.out; have hcz37_0 := bc0 BK686; have hcz37_1 := bc1 BK686; have hcz37_2 := bc2 BK686; have hfz37_0 := blk_frozen BK686.out 0; have hfz37_1 := blk_frozen BK686.out 1; have hfz37_2 := blk_frozen BK686.out 2; obtain ⟨Ao38, co38, eo38⟩ := Kd.R_slice HO681.out; subst eo38) | ((with_reducible refine gate_builtin (b := .append) (xs := #[.tmp 32, .tmp 34]) rfl ?_); at_builtin; refine Kd.R_append k27 (w0 := w) w.heap.size rfl (.tmp 32) (.tmp 34) 61 27 (.agg #[(.int .i64 0), (.int .i64 0), (.int .i64 0)]) 24 rfl Try.underlying61 info27 rfl (by decide) (by omega) u8 x8_1 (⟨t674, t675, t676⟩ : S27) [.int .i64 t674, .int .i64 t675, .int .i64 t676] (fun k_ => k_ ≠ gb685) (fun _ => False) rfl (by first | (go_simp; done) | (go_simp; rfl)) ?aP (fun _ hk => hk.elim) ?aF ?aO ?aB ?aS ?aL ?_; (case aP => exact k27_mkM _ _ _ (⟨t674, t675, t676⟩ : S27)); (case aB => exact (viaB HB)); (case aF => exact (fun k_ hk => Kd.freshB (g := gb685) (o := .cells #[.int .i64 t674, .int .i64 t675, .int .i64 t676] 27 (0, 0)) (by (with_reducible repeat (first | refine blk_drewN ?_ _ | refine blk_drew ?_ | refine blk_alloc ?_ _)); refine blk_far ?_ NB685_686.out _; (with_reducible repeat (first | refine blk_drewN ?_ _ | refine blk_drew ?_ | refine blk_alloc ?_ _)); refine blk_far ?_ NB685_686.out _; (with_reducible repeat (first | refine blk_drewN ?_ _ | refine blk_drew ?_ | refine blk_alloc ?_ _)); refine blk_far ?_ NB685_686.out _; (with_reducible repeat (first | refine blk_drewN ?_ _ | refine blk_drew ?_ | refine blk_alloc ?_ _)); refine blk_put (cs := #[.int .i64 t674, .int .i64 t675, .int .i64 0]) ?_ 2 _ rfl; (with_reducible repeat (first | refine blk_drewN ?_ _ | refine blk_drew ?_ | refine blk_alloc ?_ _)); refine blk_put (cs := #[.int .i64 t674, .int .i64 0, .int .i64 0]) ?_ 1 _ rfl; (with_reducible repeat (first | refine blk_drewN ?_ _ | refine blk_drew ?_ | refine blk_alloc ?_ _)); refine blk_put (cs := #[.int .i64 0, .int .i64 0, .int .i64 0]) ?_ 0 _ rfl; (with_reducible repeat (first | refine blk_drewN ?_ _ | refine blk_drew ?_ | refine blk_alloc ?_ _)); exact BK685.out) k_ hk)); (case aO => exact (by (with_reducible repeat (first | apply Kd.R_alloc | apply Kd.R_drewN | apply Kd.R_drew)); exact Kd.R_mono (Kd.R_far (p := ⟨gb686, 2, none⟩) (Kd.R_far (p := ⟨gb686, 1, none⟩) (Kd.R_far (p := ⟨gb686, 0, none⟩) (Kd.R_far (p := ⟨gb685, 2, none⟩) (Kd.R_far (p := ⟨gb685, 1, none⟩) (Kd.R_far (p := ⟨gb685, 0, none⟩) (Kd.R_types (Kd.R_mono HO_8.out (fun k_ hk => (⟨hk, hk.2⟩ : _ ∧ k_ ≠ gb685))) BK686.out (by decide)) (fun _ hk => hk.1.2) (.int .i64 t674)) (fun _ hk => hk.1.2) (.int .i64 t675)) (fun _ hk => hk.1.2) (.int .i64 t676)) (fun _ hk => hk.2) (.int .i64 t677)) (fun _ hk => hk.2) (.int .i64 t678)) (fun _ hk => hk.2) (.slice Ao38 t679.length co38)) (fun _ hk => hk.1.1.2))); (case aS => exact (below_size (viaB HB))); (case aL => have := LMc20.out; omega); intro v688 w39 ho hb hg hat; rw [← Ny687.out] at ho; have HO689 := Aside0.mk (ho); replace HO_7 := Aside0.mk (Kd.R_over' (by (with_reducible repeat (first | apply Kd.R_alloc | apply Kd.R_drewN | apply Kd.R_drew)); exact (Kd.R_mono (Kd.R_mono (Kd.R_far (p := ⟨gb686, 2, none⟩) (Kd.R_far (p := ⟨gb686, 1, none⟩) (Kd.R_far (p := ⟨gb686, 0, none⟩) (Kd.R_far (p := ⟨gb685, 2, none⟩) (Kd.R_far (p := ⟨gb685, 1, none⟩) (Kd.R_far (p := ⟨gb685, 0, none⟩) (Kd.R_types (Kd.R_types HO_7.out BK685.out (by decide)) BK686.out (by decide)) (fun _ hk => hk.1.2) (.int .i64 t674)) (fun _ hk => hk.1.2) (.int .i64 t675)) (fun _ hk => hk.1.2) (.int .i64 t676)) (fun _ hk => hk.2) (.int .i64 t677)) (fun _ hk => hk.2) (.int .i64 t678)) (fun _ hk => hk.2) (.slice Ao38 t679.length co38)) (fun _ h_ => h_.1)) (fun _ h_ => h_.1))) (Kd.R_typed (by (with_reducible repeat (first | apply Kd.R_alloc | apply Kd.R_drewN | apply Kd.R_drew)); exact (Kd.R_mono (Kd.R_mono (Kd.R_far (p := ⟨gb686, 2, none⟩) (Kd.R_far (p := ⟨gb686, 1, none⟩) (Kd.R_far (p := ⟨gb686, 0, none⟩) (Kd.R_far (p := ⟨gb685, 2, none⟩) (Kd.R_far (p := ⟨gb685, 1, none⟩) (Kd.R_far (p := ⟨gb685, 0, none⟩) (Kd.R_types (Kd.R_mono HO_8.out (fun k_ hk => (⟨hk, hk.2⟩ : _ ∧ k_ ≠ gb685))) BK686.out (by decide)) (fun _ hk => hk.1.2) (.int .i64 t674)) (fun _ hk => hk.1.2) (.int .i64 t675)) (fun _ hk => hk.1.2) (.int .i64 t676)) (fun _ hk => hk.2) (.int .i64 t677)) (fun _ hk => hk.2) (.int .i64 t678)) (fun _ hk => hk.2) (.slice Ao38 t679.length co38)) (fun _ h_ => h_.1)) (fun _ h_ => h_.1)))) (by decide) hg); replace HO_673002 := Aside0.mk (Kd.R_over' (by (with_reducible repeat (first | apply Kd.R_alloc | apply Kd.R_drewN | apply Kd.R_drew)); exact (Kd.R_mono (Kd.R_mono (Kd.R_far (p := ⟨gb686, 2, none⟩) (Kd.R_far (p := ⟨gb686, 1, none⟩) (Kd.R_far (p := ⟨gb686, 0, none⟩) (Kd.R_far (p := ⟨gb685, 2, none⟩) (Kd.R_far (p := ⟨gb685, 1, none⟩) (Kd.R_far (p := ⟨gb685, 0, none⟩) (Kd.R_types (Kd.R_types HO_673002.out BK685.out (by decide)) BK686.out (by decide)) (fun _ hk => hk.1.2) (.int .i64 t674)) (fun _ hk => hk.1.2) (.int .i64 t675)) (fun _ hk => hk.1.2) (.int .i64 t676)) (fun _ hk => hk.2) (.int .i64 t677)) (fun _ hk => hk.2) (.int .i64 t678)) (fun _ hk => hk.2) (.slice Ao38 t679.length co38)) (fun _ h_ => h_.1)) (fun _ h_ => h_.1))) (Kd.R_typed (by (with_reducible repeat (first | apply Kd.R_alloc | apply Kd.R_drewN | apply Kd.R_drew)); exact (Kd.R_mono (Kd.R_mono (Kd.R_far (p := ⟨gb686, 2, none⟩) (Kd.R_far (p := ⟨gb686, 1, none⟩) (Kd.R_far (p := ⟨gb686, 0, none⟩) (Kd.R_far (p := ⟨gb685, 2, none⟩) (Kd.R_far (p := ⟨gb685, 1, none⟩) (Kd.R_far (p := ⟨gb685, 0, none⟩) (Kd.R_types (Kd.R_mono HO_8.out (fun k_ hk => (⟨hk, hk.2⟩ : _ ∧ k_ ≠ gb685))) BK686.out (by decide)) (fun _ hk => hk.1.2) (.int .i64 t674)) (fun _ hk => hk.1.2) (.int .i64 t675)) (fun _ hk => hk.1.2) (.int .i64 t676)) (fun _ hk => hk.2) (.int .i64 t677)) (fun _ hk => hk.2) (.int .i64 t678)) (fun _ hk => hk.2) (.slice Ao38 t679.length co38)) (fun _ h_ => h_.1)) (fun _ h_ => h_.1)))) (by decide) hg); replace BK662 := Aside0.mk (blk_grown (g := gb662) (o := .cells #[.int .i64 a0_0, .int .i64 a0_1, .slice A0_2 l0_2.length c0_2] 32 (0, 0)) (by (with_reducible repeat (first | refine blk_drewN ?_ _ | refine blk_drew ?_ | refine blk_alloc ?_ _)); refine blk_far ?_ NB662_686.out _; (with_reducible repeat (first | refine blk_drewN ?_ _ | refine blk_drew ?_ | refine blk_alloc ?_ _)); refine blk_far ?_ NB662_686.out _; (with_reducible repeat (first | refine blk_drewN ?_ _ | refine blk_drew ?_ | refine blk_alloc ?_ _)); refine blk_far ?_ NB662_686.out _; (with_reducible repeat (first | refine blk_drewN ?_ _ | refine blk_drew ?_ | refine blk_alloc ?_ _)); refine blk_far ?_ NB662_685.out _; (with_reducible repeat (first | refine blk_drewN ?_ _ | refine blk_drew ?_ | refine blk_alloc ?_ _)); refine blk_far ?_ NB662_685.out _; (with_reducible repeat (first | refine blk_drewN ?_ _ | refine blk_drew ?_ | refine blk_alloc ?_ _)); refine blk_far ?_ NB662_685.out _; (with_reducible repeat (first | refine blk_drewN ?_ _ | refine blk_drew ?_ | refine blk_alloc ?_ _)); exact BK662.out) hg (Kd.R_ne HO_8.out BK662.out (by decide))); replace BK663 := Aside0.mk (blk_grown (g := gb663) (o := .cells #[.int .i64 0, .int .i64 0, .slice none 0 0] 32 (0, 0)) (by (with_reducible repeat (first | refine blk_drewN ?_ _ | refine blk_drew ?_ | refine blk_alloc ?_ _)); refine blk_far ?_ NB663_686.out _; (with_reducible repeat (first | refine blk_drewN ?_ _ | refine blk_drew ?_ | refine blk_alloc ?_ _)); refine blk_far ?_ NB663_686.out _; (with_reducible repeat (first | refine blk_drewN ?_ _ | refine blk_drew ?_ | refine blk_alloc ?_ _)); refine blk_far ?_ NB663_686.out _; (with_reducible repeat (first | refine blk_drewN ?_ _ | refine blk_drew ?_ | refine blk_alloc ?_ _)); refine blk_far ?_ NB663_685.out _; (with_reducible repeat (first | refine blk_drewN ?_ _ | refine blk_drew ?_ | refine blk_alloc ?_ _)); refine blk_far ?_ NB663_685.out _; (with_reducible repeat (first | refine blk_drewN ?_ _ | refine blk_drew ?_ | refine blk_alloc ?_ _)); refine blk_far ?_ NB663_685.out _; (with_reducible repeat (first | refine blk_drewN ?_ _ | refine blk_drew ?_ | refine blk_alloc ?_ _)); exact BK663.out) hg (Kd.R_ne HO_8.out BK663.out (by decide))); replace BK672 := Aside0.mk (blk_grown (g := gb672) (o := .cells #[.int .i64 x673000_1, .int .i64 x673001_1, .slice Ao24 x673002_1.length co24] 32 (0, 0)) (by (with_reducible repeat (first | refine blk_drewN ?_ _ | refine blk_drew ?_ | refine blk_alloc ?_ _)); refine blk_far ?_ NB672_686.out _; (with_reducible repeat (first | refine blk_drewN ?_ _ | refine blk_drew ?_ | refine blk_alloc ?_ _)); refine blk_far ?_ NB672_686.out _; (with_reducible repeat (first | refine blk_drewN ?_ _ | refine blk_drew ?_ | refine blk_alloc ?_ _)); refine blk_far ?_ NB672_686.out _; (with_reducible repeat (first | refine blk_drewN ?_ _ | refine blk_drew ?_ | refine blk_alloc ?_ _)); refine blk_far ?_ NB672_685.out _; (with_reducible repeat (first | refine blk_drewN ?_ _ | refine blk_drew ?_ | refine blk_alloc ?_ _)); refine blk_far ?_ NB672_685.out _; (with_reducible repeat (first | refine blk_drewN ?_ _ | refine blk_drew ?_ | refine blk_alloc ?_ _)); refine blk_far ?_ NB672_685.out _; (with_reducible repeat (first | refine blk_drewN ?_ _ | refine blk_drew ?_ | refine blk_alloc ?_ _)); exact BK672.out) hg (Kd.R_ne HO_8.out BK672.out (by decide))); replace HO681 := Aside0.mk (Kd.R_over' (by (with_reducible repeat (first | apply Kd.R_alloc | apply Kd.R_drewN | apply Kd.R_drew)); exact (Kd.R_mono (Kd.R_mono (Kd.R_far (p := ⟨gb686, 2, none⟩) (Kd.R_far (p := ⟨gb686, 1, none⟩) (Kd.R_far (p := ⟨gb686, 0, none⟩) (Kd.R_far (p := ⟨gb685, 2, none⟩) (Kd.R_far (p := ⟨gb685, 1, none⟩) (Kd.R_far (p := ⟨gb685, 0, none⟩) (Kd.R_types (Kd.R_types HO681.out BK685.out (by decide)) BK686.out (by decide)) (fun _ hk => hk.1.2) (.int .i64 t674)) (fun _ hk => hk.1.2) (.int .i64 t675)) (fun _ hk => hk.1.2) (.int .i64 t676)) (fun _ hk => hk.2) (.int .i64 t677)) (fun _ hk => hk.2) (.int .i64 t678)) (fun _ hk => hk.2) (.slice Ao38 t679.length co38)) (fun _ h_ => h_.1)) (fun _ h_ => h_.1))) (Kd.R_typed (by (with_reducible repeat (first | apply Kd.R_alloc | apply Kd.R_drewN | apply Kd.R_drew)); exact (Kd.R_mono (Kd.R_mono (Kd.R_far (p := ⟨gb686, 2, none⟩) (Kd.R_far (p := ⟨gb686, 1, none⟩) (Kd.R_far (p := ⟨gb686, 0, none⟩) (Kd.R_far (p := ⟨gb685, 2, none⟩) (Kd.R_far (p := ⟨gb685, 1, none⟩) (Kd.R_far (p := ⟨gb685, 0, none⟩) (Kd.R_types (Kd.R_mono HO_8.out (fun k_ hk => (⟨hk, hk.2⟩ : _ ∧ k_ ≠ gb685))) BK686.out (by decide)) (fun _ hk => hk.1.2) (.int .i64 t674)) (fun _ hk => hk.1.2) (.int .i64 t675)) (fun _ hk => hk.1.2) (.int .i64 t676)) (fun _ hk => hk.2) (.int .i64 t677)) (fun _ hk => hk.2) (.int .i64 t678)) (fun _ hk => hk.2) (.slice Ao38 t679.length co38)) (fun _ h_ => h_.1)) (fun _ h_ => h_.1)))) (by decide) hg); replace HO684 := Aside0.mk (Kd.S_over' (by (with_reducible repeat (first | apply Kd.S_alloc | apply Kd.S_drewN | apply Kd.S_drew)); exact (Kd.S_mono (Kd.S_mono (Kd.S_far (p := ⟨gb686, 2, none⟩) (Kd.S_far (p := ⟨gb686, 1, none⟩) (Kd.S_far (p := ⟨gb686, 0, none⟩) (Kd.S_far (p := ⟨gb685, 2, none⟩) (Kd.S_far (p := ⟨gb685, 1, none⟩) (Kd.S_far (p := ⟨gb685, 0, none⟩) (Kd.S_types (Kd.S_types HO684.out BK685.out (by decide)) BK686.out (by decide)) (fun _ hk => hk.1.2) (.int .i64 t674)) (fun _ hk => hk.1.2) (.int .i64 t675)) (fun _ hk => hk.1.2) (.int .i64 t676)) (fun _ hk => hk.2) (.int .i64 t677)) (fun _ hk => hk.2) (.int .i64 t678)) (fun _ hk => hk.2) (.slice Ao38 t679.length co38)) (fun _ h_ => h_.1)) (fun _ h_ => h_.1))) (Kd.R_typed (by (with_reducible repeat (first | apply Kd.R_alloc | apply Kd.R_drewN | apply Kd.R_drew)); exact (Kd.R_mono (Kd.R_mono (Kd.R_far (p := ⟨gb686, 2, none⟩) (Kd.R_far (p := ⟨gb686, 1, none⟩) (Kd.R_far (p := ⟨gb686, 0, none⟩) (Kd.R_far (p := ⟨gb685, 2, none⟩) (Kd.R_far (p := ⟨gb685, 1, none⟩) (Kd.R_far (p := ⟨gb685, 0, none⟩) (Kd.R_types (Kd.R_mono HO_8.out (fun k_ hk => (⟨hk, hk.2⟩ : _ ∧ k_ ≠ gb685))) BK686.out (by decide)) (fun _ hk => hk.1.2) (.int .i64 t674)) (fun _ hk => hk.1.2) (.int .i64 t675)) (fun _ hk => hk.1.2) (.int .i64 t676)) (fun _ hk => hk.2) (.int .i64 t677)) (fun _ hk => hk.2) (.int .i64 t678)) (fun _ hk => hk.2) (.slice Ao38 t679.length co38)) (fun _ h_ => h_.1)) (fun _ h_ => h_.1)))) (by decide) hg); replace BK685 := Aside0.mk (blk_grown (g := gb685) (o := .cells #[.int .i64 t674, .int .i64 t675, .int .i64 t676] 27 (0, 0)) (by (with_reducible repeat (first | refine blk_drewN ?_ _ | refine blk_drew ?_ | refine blk_alloc ?_ _)); refine blk_far ?_ NB685_686.out _; (with_reducible repeat (first | refine blk_drewN ?_ _ | refine blk_drew ?_ | refine blk_alloc ?_ _)); refine blk_far ?_ NB685_686.out _; (with_reducible repeat (first | refine blk_drewN ?_ _ | refine blk_drew ?_ | refine blk_alloc ?_ _)); refine blk_far ?_ NB685_686.out _; (with_reducible repeat (first | refine blk_drewN ?_ _ | refine blk_drew ?_ | refine blk_alloc ?_ _)); refine blk_put (cs := #[.int .i64 t674, .int .i64 t675, .int .i64 0]) ?_ 2 _ rfl; (with_reducible repeat (first | refine blk_drewN ?_ _ | refine blk_drew ?_ | refine blk_alloc ?_ _)); refine blk_put (cs := #[.int .i64 t674, .int .i64 0, .int .i64 0]) ?_ 1 _ rfl; (with_reducible repeat (first | refine blk_drewN ?_ _ | refine blk_drew ?_ | refine blk_alloc ?_ _)); refine blk_put (cs := #[.int .i64 0, .int .i64 0, .int .i64 0]) ?_ 0 _ rfl; (with_reducible repeat (first | refine blk_drewN ?_ _ | refine blk_drew ?_ | refine blk_alloc ?_ _)); exact BK685.out) hg (Kd.R_away HO_8.out (fun _ hk => hk.2))); replace BK686 := Aside0.mk (blk_grown (g := gb686) (o := .cells #[.int .i64 t677, .int .i64 t678, .slice Ao38 t679.length co38] 32 (0, 0)) (by (with_reducible repeat (first | refine blk_drewN ?_ _ | refine blk_drew ?_ | refine blk_alloc ?_ _)); refine blk_put (cs := #[.int .i64 t677, .int .i64 t678, .slice none 0 0]) ?_ 2 _ rfl; (with_reducible repeat (first | refine blk_drewN ?_ _ | refine blk_drew ?_ | refine blk_alloc ?_ _)); refine blk_put (cs := #[.int .i64 t677, .int .i64 0, .slice none 0 0]) ?_ 1 _ rfl; (with_reducible repeat (first | refine blk_drewN ?_ _ | refine blk_drew ?_ | refine blk_alloc ?_ _)); refine blk_put (cs := #[.int .i64 0, .int .i64 0, .slice none 0 0]) ?_ 0 _ rfl; (with_reducible repeat (first | refine blk_drewN ?_ _ | refine blk_drew ?_ | refine blk_alloc ?_ _)); refine blk_far ?_ NB686_685.out _; (with_reducible repeat (first | refine blk_drewN ?_ _ | refine blk_drew ?_ | refine blk_alloc ?_ _)); refine blk_far ?_ NB686_685.out _; (with_reducible repeat (first | refine blk_drewN ?_ _ | refine blk_drew ?_ | refine blk_alloc ?_ _)); refine blk_far ?_ NB686_685.out _; (with_reducible repeat (first | refine blk_drewN ?_ _ | refine blk_drew ?_ | refine blk_alloc ?_ _)); exact BK686.out) hg (Kd.R_ne HO_8.out BK686.out (by decide))); replace HB := Aside0.mk (hb); clear HO_8; clear ho hb hg hat; have hcz40_0 := bc0 BK686; have hcz40_1 := bc1 BK686; have hcz40_2 := bc2 BK686; have hfz40_0 := blk_frozen BK686.out 0; have hfz40_1 := blk_frozen BK686.out 1; have hfz40_2 := blk_frozen BK686.out 2; have hcz41_0 := bc0 BK672; have hcz41_1 := bc1 BK672; have hcz41_2 := bc2 BK672; have hfz41_0 := blk_frozen BK672.out 0; have hfz41_1 := blk_frozen BK672.out 1; have hfz41_2 := blk_frozen BK672.out 2))
       go_roundg k1
       case measure => have := HK1.out; omega
       case rel => exact ⟨(y687), (wrap64 (x20_1 + 1)), (t677), (t678), (t679), (.slice Ao38 t679.length co38), (by first | rfl | (simp; done) | (simp [*]; done)), H', ⟨by have := HK1.out; omega⟩, ⟨by (with_reducible repeat (first | apply Kd.R_alloc | apply Kd.R_drewN | apply Kd.R_drew)); exact Kd.R_mono (Kd.R_far (p := ⟨gb672, 2, none⟩) (Kd.R_far (p := ⟨gb672, 1, none⟩) (Kd.R_far (p := ⟨gb672, 0, none⟩) (Kd.R_types HO_7.out BK672.out (by decide)) (fun _ hk => hk.2) (.int .i64 t677)) (fun _ hk => hk.2) (.int .i64 t678)) (fun _ hk => hk.2) (.slice Ao38 t679.length co38)) (fun _ hk => trivial)⟩, ⟨by (with_reducible repeat (first | apply Kd.R_alloc | apply Kd.R_drewN | apply Kd.R_drew)); exact Kd.R_mono (Kd.R_far (p := ⟨gb672, 2, none⟩) (Kd.R_far (p := ⟨gb672, 1, none⟩) (Kd.R_far (p := ⟨gb672, 0, none⟩) (Kd.R_types HO689.out BK672.out (by decide)) (fun _ hk => hk.2) (.int .i64 t677)) (fun _ hk => hk.2) (.int .i64 t678)) (fun _ hk => hk.2) (.slice Ao38 t679.length co38)) (fun _ hk => trivial)⟩, ⟨by (with_reducible repeat (first | apply Kd.R_alloc | apply Kd.R_drewN | apply Kd.R_drew)); exact Kd.R_mono (Kd.R_far (p := ⟨gb672, 2, none⟩) (Kd.R_far (p := ⟨gb672, 1, none⟩) (Kd.R_far (p := ⟨gb672, 0, none⟩) (Kd.R_types HO681.out BK672.out (by decide)) (fun _ hk => hk.2) (.int .i64 t677)) (fun _ hk => hk.2) (.int .i64 t678)) (fun _ hk => hk.2) (.slice Ao38 t679.length co38)) (fun _ hk => trivial)⟩, ⟨by (with_reducible repeat (first | refine blk_drewN ?_ _ | refine blk_drew ?_ | refine blk_alloc ?_ _)); refine blk_far ?_ NB662_672.out _; (with_reducible repeat (first | refine blk_drewN ?_ _ | refine blk_drew ?_ | refine blk_alloc ?_ _)); refine blk_far ?_ NB662_672.out _; (with_reducible repeat (first | refine blk_drewN ?_ _ | refine blk_drew ?_ | refine blk_alloc ?_ _)); refine blk_far ?_ NB662_672.out _; (with_reducible repeat (first | refine blk_drewN ?_ _ | refine blk_drew ?_ | refine blk_alloc ?_ _)); exact BK662.out⟩, ⟨by (with_reducible repeat (first | refine blk_drewN ?_ _ | refine blk_drew ?_ | refine blk_alloc ?_ _)); refine blk_far ?_ NB663_672.out _; (with_reducible repeat (first | refine blk_drewN ?_ _ | refine blk_drew ?_ | refine blk_alloc ?_ _)); refine blk_far ?_ NB663_672.out _; (with_reducible repeat (first | refine blk_drewN ?_ _ | refine blk_drew ?_ | refine blk_alloc ?_ _)); refine blk_far ?_ NB663_672.out _; (with_reducible repeat (first | refine blk_drewN ?_ _ | refine blk_drew ?_ | refine blk_alloc ?_ _)); exact BK663.out⟩, ⟨by (with_reducible repeat (first | refine blk_drewN ?_ _ | refine blk_drew ?_ | refine blk_alloc ?_ _)); refine blk_put (cs := #[.int .i64 t677, .int .i64 t678, .slice Ao24 x673002_1.length co24]) ?_ 2 _ rfl; (with_reducible repeat (first | refine blk_drewN ?_ _ | refine blk_drew ?_ | refine blk_alloc ?_ _)); refine blk_put (cs := #[.int .i64 t677, .int .i64 x673001_1, .slice Ao24 x673002_1.length co24]) ?_ 1 _ rfl; (with_reducible repeat (first | refine blk_drewN ?_ _ | refine blk_drew ?_ | refine blk_alloc ?_ _)); refine blk_put (cs := #[.int .i64 x673000_1, .int .i64 x673001_1, .slice Ao24 x673002_1.length co24]) ?_ 0 _ rfl; (with_reducible repeat (first | refine blk_drewN ?_ _ | refine blk_drew ?_ | refine blk_alloc ?_ _)); exact BK672.out⟩, ⟨viaB HB⟩⟩
      ·rw [if_neg c20] at H
       exact absurd H (by simp)
     ·rw [if_neg c18] at H
      exact absurd H (by simp)
    ·rw [if_neg c17] at H
     exact absurd H (by simp)
   ·rw [if_neg c16] at H
    have c16b0 := decide_eq_false c16
    clear c16
    simp only [Option.some.injEq, Prod.mk.injEq] at H
    obtain ⟨rfl, rfl, rfl, rfl⟩ := H
    try go_wp2
    replace HO_7 := Aside0.mk (Kd.R_drew HO_7.out)
    replace HO_8 := Aside0.mk (Kd.R_drew HO_8.out)
    replace HO_673002 := Aside0.mk (Kd.R_drew HO_673002.out)
    replace BK662 := Aside0.mk (blk_drew BK662.out)
    replace BK663 := Aside0.mk (blk_drew BK663.out)
    replace BK672 := Aside0.mk (blk_drew BK672.out)
    replace HB := Aside0.mk (below_drew1 HB.out)
    obtain ⟨Ao45, co45, eo45⟩ := Kd.R_slice HO_673002.out
    (first | subst eo45 | (injection eo45 with f1_ f2_ f3_; have f4_ := f1_.symm; have f5_ := f3_.symm; clear f1_ f2_ f3_; subst f4_; subst f5_))
    refine start_ (n := 4) (S := fun w' => w'.cell? ⟨gb672, 0, none⟩ = some (.int .i64 x673000_1) ∧ w'.cell? ⟨gb672, 1, none⟩ = some (.int .i64 x673001_1) ∧ w'.cell? ⟨gb672, 2, none⟩ = some (.slice Ao45 x673002_1.length co45)) (ds := []) #[false, false, false, false] (by kernel_rfl) rfl rfl ⟨(blk_cell BK672.out 0).trans rfl, (blk_cell BK672.out 1).trans rfl, (blk_cell BK672.out 2).trans rfl⟩ (fun hHeld => ?_)
    generalize wr.drew = w42 at HO_7 HO_8 HO_673002 BK662 BK663 BK672 HB hHeld ⊢
    refine pure_ (i := 0) (N := some 38) (v := ?_) (a' := ?_) #[true, false, false, false] rfl rfl (by kernel_rfl) (fun _ _ _ h => h) (Or.inl ⟨by rfl, ?_⟩) ?_ ?_
    rotate_left
    ·intro w'
     go_simp
     with_reducible rfl
    rotate_left
    ·simp only [Act.put, q1, q2, q3, i64_w, i32_w]
     rfl
    refine pure_ (i := 2) (N := some 4) (v := ?_) (a' := ?_) #[true, false, true, false] rfl rfl (by kernel_rfl) (fun _ _ _ h => h) (Or.inl ⟨by rfl, ?_⟩) ?_ ?_
    rotate_left
    ·intro w'
     go_simp
     with_reducible rfl
    rotate_left
    ·simp only [Act.put, q1, q2, q3, i64_w, i32_w]
     rfl
    refine take_ (i := 1) (N := some 39) (v := ?_) (a' := ?_) #[true, true, true, false] rfl rfl (by kernel_rfl) (fun _ _ _ h => h) (Or.inl ⟨by rfl, ?_⟩) hHeld ?_ ?_
    rotate_left
    ·rintro w' ⟨s0, s1, s2⟩
     go_simp
     with_reducible rfl
    rotate_left
    ·simp only [Act.put, q1, q2, q3, i64_w, i32_w]
     rfl
    refine one_ (i := 3) (N := none) #[true, true, true, true] rfl rfl (by kernel_rfl) (by decide) (fun K hK => ?_)
    have hs43 : w42.cell? ⟨gb663, 0, none⟩ = some (.int .i64 0) := (blk_cell BK663.out 0).trans rfl
    have hfs43 := blk_frozen BK663.out 0
    have hns43_0 := NB662_663.out
    have hns43_2 := NB672_663.out
    have hms43_0 := NB663_662.out
    have hms43_2 := NB663_672.out
    have hs44 : w42.cell? ⟨gb663, 1, none⟩ = some (.int .i64 0) := (blk_cell BK663.out 1).trans rfl
    have hfs44 := blk_frozen BK663.out 1
    have hns44_0 := NB662_663.out
    have hns44_2 := NB672_663.out
    have hms44_0 := NB663_662.out
    have hms44_2 := NB663_672.out
    have hs46 : w42.cell? ⟨gb663, 2, none⟩ = some (.slice none 0 0) := (blk_cell BK663.out 2).trans rfl
    have hfs46 := blk_frozen BK663.out 2
    have hns46_0 := NB662_663.out
    have hns46_2 := NB672_663.out
    have hms46_0 := NB663_662.out
    have hms46_2 := NB663_672.out
    refine skip_ (w1 := ?_) (by rfl) rfl ?_ ?_
    rotate_left
    ·go_simp
     rfl
    refine hK.out _ _ ⟨((cell_far (p := ⟨gb663, _, none⟩) NB672_663.out _).trans (((cell_far (p := ⟨gb663, _, none⟩) NB672_663.out _).trans (((cell_far (p := ⟨gb663, _, none⟩) NB672_663.out _).trans (hHeld.1)))))), ((cell_far (p := ⟨gb663, _, none⟩) NB672_663.out _).trans (((cell_far (p := ⟨gb663, _, none⟩) NB672_663.out _).trans (((cell_far (p := ⟨gb663, _, none⟩) NB672_663.out _).trans (hHeld.2.1)))))), ((cell_far (p := ⟨gb663, _, none⟩) NB672_663.out _).trans (((cell_far (p := ⟨gb663, _, none⟩) NB672_663.out _).trans (((cell_far (p := ⟨gb663, _, none⟩) NB672_663.out _).trans (hHeld.2.2))))))⟩ (fun hHeld => ?_)
    clear hK K
    refine done_ (by kernel_rfl) ?_
    try go_wp2
    refine bodyPost_ret (results_tc rfl _ _ gb663 32 #[.int .i64 x673000_1, .int .i64 x673001_1, .slice Ao45 x673002_1.length co45] (0, 0) _ rfl (by (with_reducible repeat (first | refine blk_drewN ?_ _ | refine blk_drew ?_ | refine blk_alloc ?_ _)); refine blk_put (cs := #[.int .i64 x673000_1, .int .i64 x673001_1, .slice none 0 0]) ?_ 2 _ rfl; (with_reducible repeat (first | refine blk_drewN ?_ _ | refine blk_drew ?_ | refine blk_alloc ?_ _)); refine blk_put (cs := #[.int .i64 x673000_1, .int .i64 0, .slice none 0 0]) ?_ 1 _ rfl; (with_reducible repeat (first | refine blk_drewN ?_ _ | refine blk_drew ?_ | refine blk_alloc ?_ _)); refine blk_put (cs := #[.int .i64 0, .int .i64 0, .slice none 0 0]) ?_ 0 _ rfl; (with_reducible repeat (first | refine blk_drewN ?_ _ | refine blk_drew ?_ | refine blk_alloc ?_ _)); exact BK663.out) Try.underlying32 rfl (by kernel_rfl)) rfl ?_
    exact ⟨_, _, by first | rfl | (simp [errW_none, errW_some] <;> rfl) | (simp [*, errW_none, errW_some] <;> rfl), by (with_reducible repeat (first | apply Kd.R_alloc | apply Kd.R_drewN | apply Kd.R_drew)); exact Kd.R_mono (Kd.R_far (p := ⟨gb663, 2, none⟩) (Kd.R_far (p := ⟨gb663, 1, none⟩) (Kd.R_far (p := ⟨gb663, 0, none⟩) (Kd.R_types HO_8.out BK663.out (by decide)) (fun _ hk => hk.2) (.int .i64 x673000_1)) (fun _ hk => hk.2) (.int .i64 x673001_1)) (fun _ hk => hk.2) (.slice Ao45 x673002_1.length co45)) (fun _ hk => trivial), by (with_reducible repeat (first | apply Kd.R_alloc | apply Kd.R_drewN | apply Kd.R_drew)); exact Kd.R_mono (Kd.R_far (p := ⟨gb663, 2, none⟩) (Kd.R_far (p := ⟨gb663, 1, none⟩) (Kd.R_far (p := ⟨gb663, 0, none⟩) (Kd.R_types HO_673002.out BK663.out (by decide)) (fun _ hk => hk.2) (.int .i64 x673000_1)) (fun _ hk => hk.2) (.int .i64 x673001_1)) (fun _ hk => hk.2) (.slice Ao45 x673002_1.length co45)) (fun _ hk => trivial), viaB HB⟩

end Go.Proofs.Ytoklfgjemfojgaa.PAll
