/- This text began as one that print.sh wrote for this claim (of the functions named below); it is this session's own: turned where Lean did not take the printed proof, where it was too long for a claim, or only in what it imports. -/
import Derived.Test.YtoklfgjemfojgaaHFnExactBoardAfterx0
import Derived.Test.YtoklfgjemfojgaaHFnExactBoardAfterx4
namespace Go.Proofs.Ytoklfgjemfojgaa.PFnExactBoardAfter
open Go.RowKit Go.Proofs.YtoklfgjemfojgaaW.PrintWords Go.Proofs.YtoklfgjemfojgaaW.PrintLast Go.Proofs.YtoklfgjemfojgaaW.PrintMore
attribute [local go_sem] max2_int min2_int max_two min_two max_three min_three max_four min_four   -- for this text's walks alone
set_option linter.unusedVariables false
set_option linter.unusedSimpArgs false

/-! ### spec_flPass: function 85 -/
def spec_flPass.l0 : Nat → List Int → Int → Int → Int → Int → Int → List (S89) → Option ((List (S89)))
 | 0, _, _, _, _, _, _, _ => none
 | k + 1, x1, x2, x28, x29, x197000, x197001, x197002 => if x29 < x28 then (if 0 ≤ x29 then (if x29 < (x197002.length : Int) then (if ((rd_T89 x197002 x29).f0) = 6 then (if x29 < (x1.length : Int) then (if 0 ≤ x2 then (if x2 < (x1.length : Int) then (if (rd x1 x29) = (rd x1 x2) then ((spec_paTurn.f ((rd_T89 x197002 x29).f0) ((rd_T89 x197002 x29).f1)).bind fun bt206 => (spec_flPass.l0 k x1 x2 x28 (wrap64 (x29 + 1)) x197000 x197001 (x197002.set (x29 : Int).toNat (⟨bt206.1, bt206.2⟩ : S89)))) else (spec_flPass.l0 k x1 x2 x28 (wrap64 (x29 + 1)) x197000 x197001 x197002)) else (none)) else (none)) else (none)) else (spec_flPass.l0 k x1 x2 x28 (wrap64 (x29 + 1)) x197000 x197001 x197002)) else (none)) else (none)) else (some x197002)
def spec_flPass.f (k : Nat) (a0_0 : Int) (a0_1 : Int) (l0_2 : List (S89)) (l1 : List Int) (a2 : Int) : Option ((List (S89))) := if 0 ≤ a2 then (if a2 < (l0_2.length : Int) then (if ((rd_T89 l0_2 a2).f0) = 3 then ((spec_paTurn.f ((rd_T89 l0_2 a2).f0) ((rd_T89 l0_2 a2).f1)).bind fun bt199 => (some (l0_2.set (a2 : Int).toNat (⟨bt199.1, bt199.2⟩ : S89)))) else (if ((rd_T89 l0_2 a2).f0) = 6 then (spec_flPass.l0 k l1 a2 (l0_2.length : Int) 0 a0_0 a0_1 l0_2) else (some l0_2))) else (none)) else (none)
theorem spec_flPass.mono_l : ∀ k, (∀ y0 y1 y2 y3 y4 y5 y6, LeO (spec_flPass.l0 k y0 y1 y2 y3 y4 y5 y6) (spec_flPass.l0 (k + 1) y0 y1 y2 y3 y4 y5 y6))
 | 0 => fun _ _ _ _ _ _ _ r h => by simp [spec_flPass.l0] at h
 | k + 1 => by
  have ih0 := spec_flPass.mono_l k
  ·intro y0 y1 y2 y3 y4 y5 y6
   unfold spec_flPass.l0
   repeat' first
   | (with_reducible exact ih0 _ _ _ _ _ _ _)
   | (with_reducible exact LeO.refl _)
   | (with_reducible exact LeO.none _)
   | (with_reducible refine LeO.ite ?_ ?_)
   | (with_reducible refine LeO.bind ?_ (fun _ => ?_))
   | exact ih0 _ _ _ _ _ _ _
   | exact LeO.none _
   | refine LeO.ite ?_ ?_
   | refine LeO.bind ?_ (fun _ => ?_)
theorem spec_flPass.mono : ∀ a0 a1 a2 a3 a4 k, LeO (spec_flPass.f k a0 a1 a2 a3 a4) (spec_flPass.f (k + 1) a0 a1 a2 a3 a4) := by
 intro a0 a1 a2 a3 a4 k
 have ih0 := spec_flPass.mono_l k
 unfold spec_flPass.f
 repeat' first
   | (with_reducible exact ih0 _ _ _ _ _ _ _)
   | (with_reducible exact LeO.refl _)
   | (with_reducible exact LeO.none _)
   | (with_reducible refine LeO.ite ?_ ?_)
   | (with_reducible refine LeO.bind ?_ (fun _ => ?_))
   | exact ih0 _ _ _ _ _ _ _
   | exact LeO.none _
   | refine LeO.ite ?_ ?_
   | refine LeO.bind ?_ (fun _ => ?_)
def spec_flPass.T9 : Bool × List (List Nat × List Nat) := (true, [([], []), ([0], [0]), ([1], [1]), ([2], [2]), ([3], [3]), ([3], [3]), ([4, 5, 3], [3, 4, 5]), ([6, 3], [3, 6]), ([3], [3]), ([3], [3]), ([8, 9, 3], [3, 8, 9]), ([10, 3], [3, 10]), ([7, 11, 3], [3, 7, 11]), ([3, 12], [3, 12])])
def spec_flPass.B9 : List Nat := [0, 1, 3, 7, 15, 15, 63, 127, 15, 15, 783, 1807, 4095, 8191]
theorem spec_flPass.tab9 : rtab .any (opsOf Try.f85 9) = spec_flPass.T9 := by kernel_rfl
theorem spec_flPass.bits9 : waitsOk spec_flPass.T9.2 spec_flPass.B9 = true := by kernel_rfl
set_option maxHeartbeats 8000000 in
set_option maxRecDepth 100000 in
theorem spec_flPass.calls (k : Nat) (a0_0 : Int) (a0_1 : Int) (P0_2_ : Nat → Prop) (u9000_ : Value) (l0_2 : List (S89)) (A1 : Option Addr) (c1 : Nat) (l1 : List Int) (a2 : Int) (r : List (S89)) (w0 w : World) (hB : Below w0.heap.size w0 w) (ho0_2 : Kd.R k89 89 w w0.heap.size P0_2_ u9000_ l0_2) (hr1 : ∀ W_, Kept w W_ (fun k_ => P0_2_ k_) → Kd.C (Kd.int .i64) W_ A1 l1.length l1) (hc1 : l1.length ≤ c1) (h : spec_flPass.f k a0_0 a0_1 l0_2 l1 a2 = some r) :
  Calls Try.prog 85 #[.agg #[.int .i64 a0_0, .int .i64 a0_1, u9000_], .slice A1 l1.length c1, .int .i64 a2] w fun e w' => e = .returned (.tuple #[]) ∧ Kd.R k89 89 w' w0.heap.size (fun k_ => (P0_2_ k_ ∨ w.heap.size ≤ k_)) u9000_ r ∧ Below w0.heap.size w0 w' ∧ Kept w w' (fun k_ => P0_2_ k_) := by
 have hu32 := Try.underlying32
 have hu89 := Try.underlying89
 have HO0_2 := Aside0.mk (show Kd.R k89 89 w w0.heap.size (fun k_ => (P0_2_ k_ ∨ w.heap.size ≤ k_)) u9000_ l0_2 from Kd.R_mono ho0_2 (fun k_ hk => (.inl hk)))
 have HR1 := Aside0.mk hr1
 have HC1 := Aside0.mk hc1
 clear hr1 hc1
 have HK := Aside0.mk (Kept.refl w (fun k_ => P0_2_ k_))
 have HW0 := Aside0.mk hB.size
 have HB := Aside0.mk hB
 clear hB
 have H : (if 0 ≤ a2 then (if a2 < (l0_2.length : Int) then (if ((rd_T89 l0_2 a2).f0) = 3 then ((spec_paTurn.f ((rd_T89 l0_2 a2).f0) ((rd_T89 l0_2 a2).f1)).bind fun bt199 => (some (l0_2.set (a2 : Int).toNat (⟨bt199.1, bt199.2⟩ : S89)))) else (if ((rd_T89 l0_2 a2).f0) = 6 then (spec_flPass.l0 k l1 a2 (l0_2.length : Int) 0 a0_0 a0_1 l0_2) else (some l0_2))) else (none)) else (none)) = some r := h
 clear h
 by_cases c4 : 0 ≤ a2
 ·rw [if_pos c4] at H
  have c4b0 := decide_eq_true c4
  clear c4
  by_cases c5 : a2 < (l0_2.length : Int)
  ·rw [if_pos c5] at H
   have c5b0 := decide_eq_true c5
   clear c5
   by_cases c6 : ((rd_T89 l0_2 a2).f0) = 3
   ·rw [if_pos c6] at H
    have c6b0 := beq_iff_eq.mpr c6
    have c6b1 := bne_eq_false_iff_eq.mpr c6
    clear c6
    replace H := Option.bind_eq_some_iff.mp H
    obtain ⟨⟨t199, t200⟩, A70, H⟩ := H
    replace H : (some (l0_2.set (a2 : Int).toNat (⟨t199, t200⟩ : S89))) = some r := H
    have A7 := Aside0.mk A70
    clear A70
    obtain ⟨y201, hy201⟩ : ∃ y_ : List (S89), y_ = (l0_2.set (a2 : Int).toNat (⟨t199, t200⟩ : S89)) := ⟨_, rfl⟩
    replace H : (some y201) = some r := by first | (rw [hy201]; with_reducible exact H) | (have H2_ := (Option.bind_some _ _).symm.trans H; rw [hy201]; with_reducible exact H2_) | (have H2_ := (Option.bind_some _ _).symm.trans H; with_reducible exact H2_) | with_reducible exact H | (rw [hy201]; exact H) | exact H
    have Ny201 := Aside0.mk hy201
    clear hy201
    obtain rfl := Option.some.inj H
    obtain ⟨Ao9, co9, eo9⟩ := Kd.R_slice HO0_2.out
    subst eo9
    go_enter Try.func85, Try.ntmps85
    try go_wp2_with (first | ((with_reducible refine gate_dst (N := 3) rfl ?_); refine box_ev (N := 3) (cs := #[.int .i64 a0_0, .int .i64 a0_1, .slice Ao9 l0_2.length co9]) (t := 32) ?_; intro gb196 hg w10 hbox hb; have BK196 := Aside0.mk (hbox); have GW196 := Aside0.mk ((by rw [hg]; exact (by first | exact HK.out.1 | exact (show Kept w _ (fun k_ => P0_2_ k_) from viaT HK).1) : w.heap.size ≤ gb196)); have GE196 := gW (w := w0) HB hg; replace HO0_2 := Aside0.mk (Kd.R_below (viaR HO0_2) hb); replace HK := Aside0.mk (Kept.below (S := (fun k_ => P0_2_ k_)) (viaT HK) hb); replace HB := bB HB hb; clear hb hbox hg; have hcz11_0 := bc0 BK196; have hcz11_1 := bc1 BK196; have hcz11_2 := bc2 BK196; have hfz11_0 := blk_frozen BK196.out 0; have hfz11_1 := blk_frozen BK196.out 1; have hfz11_2 := blk_frozen BK196.out 2; have p197 : 0 ≤ (a2 : Int) := ofD; have q197 : a2 < (l0_2.length : Int) := ofD; obtain ⟨ad197, e197, hx197_0, hx197_1⟩ := at_T89 (Kd.R_reads' HO0_2.out).2.2 a2 p197 q197; cases e197; replace p197 := eq_true p197; replace q197 := eq_true q197) | ((with_reducible refine gate_dst (N := 6) rfl ?_); refine box_ev (N := 6) (cs := #[.int .i64 0, .int .i64 0]) (t := 89) ?_; intro gb198 hg w12 hbox hb; have BK198 := Aside0.mk (hbox); have GW198 := Aside0.mk ((by rw [hg]; exact (by first | exact HK.out.1 | exact (show Kept w _ (fun k_ => P0_2_ k_) from viaT HK).1) : w.heap.size ≤ gb198)); have GE198 := gW (w := w0) HB hg; have NB196_198 := neL BK196 hg; have NB198_196 := neG BK196 hg; replace HO0_2 := Aside0.mk (Kd.R_below (Kd.R_elderB (viaR HO0_2) gb198 (Nat.le_of_eq hg.symm)) hb); replace BK196 := kB BK196 hb; replace HK := Aside0.mk (Kept.below (S := (fun k_ => P0_2_ k_)) (viaT HK) hb); replace HB := bB HB hb; clear hb hbox hg; have hnb13 := NB198_196.out; have hnc13 := NB196_198.out; have hcz14_0 := bc0 BK198; have hcz14_1 := bc1 BK198; have hfz14_0 := blk_frozen BK198.out 0; have hfz14_1 := blk_frozen BK198.out 1))
    have n0_ : Aside0 (Kd.R k89 89 ((w12.setCell ⟨gb198, 0, none⟩ (.int .i64 ((rd_T89 l0_2 a2).f0))).setCell ⟨gb198, 1, none⟩ (.int .i64 ((rd_T89 l0_2 a2).f1))) w0.heap.size (fun k_ => (P0_2_ k_ ∨ w.heap.size ≤ k_) ∧ k_ ≠ gb198) (.slice (some ad197) l0_2.length co9) l0_2) := ⟨by (with_reducible repeat (first | apply Kd.R_alloc | apply Kd.R_drewN | apply Kd.R_drew)); exact Kd.R_mono (Kd.R_far (p := ⟨gb198, 1, none⟩) (Kd.R_far (p := ⟨gb198, 0, none⟩) (Kd.R_mono HO0_2.out (fun k_ hk => (⟨hk, hk.2⟩ : _ ∧ k_ ≠ gb198))) (fun _ hk => hk.2) (.int .i64 ((rd_T89 l0_2 a2).f0))) (fun _ hk => hk.2) (.int .i64 ((rd_T89 l0_2 a2).f1))) (fun _ hk => ⟨hk.1.1, hk.1.2⟩)⟩
    have n1_ : Aside0 (((w12.setCell ⟨gb198, 0, none⟩ (.int .i64 ((rd_T89 l0_2 a2).f0))).setCell ⟨gb198, 1, none⟩ (.int .i64 ((rd_T89 l0_2 a2).f1))).heap[gb196]? = some (.cells #[.int .i64 a0_0, .int .i64 a0_1, .slice (some ad197) l0_2.length co9] 32 (0, 0))) := ⟨by (with_reducible repeat (first | refine blk_drewN ?_ _ | refine blk_drew ?_ | refine blk_alloc ?_ _)); refine blk_far ?_ NB196_198.out _; (with_reducible repeat (first | refine blk_drewN ?_ _ | refine blk_drew ?_ | refine blk_alloc ?_ _)); refine blk_far ?_ NB196_198.out _; (with_reducible repeat (first | refine blk_drewN ?_ _ | refine blk_drew ?_ | refine blk_alloc ?_ _)); exact BK196.out⟩
    have n2_ : Aside0 (((w12.setCell ⟨gb198, 0, none⟩ (.int .i64 ((rd_T89 l0_2 a2).f0))).setCell ⟨gb198, 1, none⟩ (.int .i64 ((rd_T89 l0_2 a2).f1))).heap[gb198]? = some (.cells #[.int .i64 ((rd_T89 l0_2 a2).f0), .int .i64 ((rd_T89 l0_2 a2).f1)] 89 (0, 0))) := ⟨by (with_reducible repeat (first | refine blk_drewN ?_ _ | refine blk_drew ?_ | refine blk_alloc ?_ _)); refine blk_put (cs := #[.int .i64 ((rd_T89 l0_2 a2).f0), .int .i64 0]) ?_ 1 _ rfl; (with_reducible repeat (first | refine blk_drewN ?_ _ | refine blk_drew ?_ | refine blk_alloc ?_ _)); refine blk_put (cs := #[.int .i64 0, .int .i64 0]) ?_ 0 _ rfl; (with_reducible repeat (first | refine blk_drewN ?_ _ | refine blk_drew ?_ | refine blk_alloc ?_ _)); exact BK198.out⟩
    have n3_ : Aside0 (Kept w ((w12.setCell ⟨gb198, 0, none⟩ (.int .i64 ((rd_T89 l0_2 a2).f0))).setCell ⟨gb198, 1, none⟩ (.int .i64 ((rd_T89 l0_2 a2).f1))) (fun k_ => P0_2_ k_)) := ⟨viaT HK⟩
    have n4_ : Aside0 (Below w0.heap.size w0 ((w12.setCell ⟨gb198, 0, none⟩ (.int .i64 ((rd_T89 l0_2 a2).f0))).setCell ⟨gb198, 1, none⟩ (.int .i64 ((rd_T89 l0_2 a2).f1)))) := ⟨viaB HB⟩
    (try clear HO0_2); (try clear BK196); (try clear BK198); (try clear HK); (try clear HB)
    generalize ((w12.setCell ⟨gb198, 0, none⟩ (.int .i64 ((rd_T89 l0_2 a2).f0))).setCell ⟨gb198, 1, none⟩ (.int .i64 ((rd_T89 l0_2 a2).f1))) = w15 at n0_ n1_ n2_ n3_ n4_ ⊢
    have HO0_2 := n0_
    have BK196 := n1_
    have BK198 := n2_
    have HK := n3_
    have HB := n4_
    clear n0_ n1_ n2_ n3_ n4_
    replace HO0_2 := Aside0.mk (Kd.R_drew HO0_2.out)
    replace BK196 := Aside0.mk (blk_drew BK196.out)
    replace BK198 := Aside0.mk (blk_drew BK198.out)
    replace HK := Aside0.mk (Kept.drew HK.out)
    replace HB := Aside0.mk (below_drew1 HB.out)
    refine start_ (n := 7) (S := fun w' => w'.cell? ⟨gb196, 0, none⟩ = some (.int .i64 a0_0) ∧ w'.cell? ⟨gb196, 1, none⟩ = some (.int .i64 a0_1) ∧ w'.cell? ⟨gb196, 2, none⟩ = some (.slice (some ad197) l0_2.length co9) ∧ w'.cell? ⟨gb198, 0, none⟩ = some (.int .i64 ((rd_T89 l0_2 a2).f0)) ∧ w'.cell? ⟨gb198, 1, none⟩ = some (.int .i64 ((rd_T89 l0_2 a2).f1))) (ds := [6]) #[false, false, false, false, false, false, false] (by kernel_rfl) rfl rfl ⟨(blk_cell BK196.out 0).trans rfl, (blk_cell BK196.out 1).trans rfl, (blk_cell BK196.out 2).trans rfl, (blk_cell BK198.out 0).trans rfl, (blk_cell BK198.out 1).trans rfl⟩ (fun hHeld => ?_)
    generalize w15.drew = w16 at HO0_2 BK196 BK198 HK HB hHeld ⊢
    refine pure_ (i := 0) (N := some 18) (v := ?_) (a' := ?_) #[true, false, false, false, false, false, false] rfl rfl (by kernel_rfl) (fun _ _ _ h => h) (Or.inl ⟨by rfl, ?_⟩) ?_ ?_
    rotate_left
    ·intro w'
     go_simp
     with_reducible rfl
    rotate_left
    ·simp only [Act.put, q1, q2, q3, i64_w, i32_w]
     rfl
    refine pure_ (i := 2) (N := some 20) (v := ?_) (a' := ?_) #[true, false, true, false, false, false, false] rfl rfl (by kernel_rfl) (fun _ _ _ h => h) (Or.inl ⟨by rfl, ?_⟩) ?_ ?_
    rotate_left
    ·intro w'
     go_simp
     with_reducible rfl
    rotate_left
    ·simp only [Act.put, q1, q2, q3, i64_w, i32_w]
     rfl
    refine take_ (i := 1) (N := some 19) (v := ?_) (a' := ?_) #[true, true, true, false, false, false, false] rfl rfl (by kernel_rfl) (fun _ _ _ h => h) (Or.inl ⟨by rfl, ?_⟩) hHeld ?_ ?_
    rotate_left
    ·rintro w' ⟨s0, s1, s2, s3, s4⟩
     go_simp
     with_reducible rfl
    rotate_left
    ·simp only [Act.put, q1, q2, q3, i64_w, i32_w]
     rfl
    refine take_ (i := 3) (N := some 21) (v := ?_) (a' := ?_) #[true, true, true, true, false, false, false] rfl rfl (by kernel_rfl) (fun _ _ _ h => h) (Or.inl ⟨by rfl, ?_⟩) hHeld ?_ ?_
    rotate_left
    ·rintro w' ⟨s0, s1, s2, s3, s4⟩
     go_simp
     with_reducible rfl
    rotate_left
    ·simp only [Act.put, q1, q2, q3, i64_w, i32_w]
     rfl
    refine one_ (i := 4) (N := some 22) #[true, true, true, true, true, false, false] rfl rfl (by kernel_rfl) (by decide) (fun K hK => ?_)
    refine goes_ Try.func89 (by kernel_rfl) rfl #[.agg #[.int .i64 ((rd_T89 l0_2 a2).f0), .int .i64 ((rd_T89 l0_2 a2).f1)]] (by rfl) rfl rfl (by (try simp only [List.map_toArray, List.map_cons, List.map_nil]); first | done | rfl | (simp only [List.length_drop, List.length_take]; rfl)) ?_
    with_reducible refine (spec_paTurn.calls ((rd_T89 l0_2 a2).f0) ((rd_T89 l0_2 a2).f1) t199 t200 _ A7.out).mono ?_
    rintro e w17 ⟨rfl, hb⟩
    refine ⟨_, rfl, ?_⟩
    replace HO0_2 := Aside0.mk (Kd.R_below (viaR HO0_2) hb)
    replace BK196 := kB BK196 hb
    replace BK198 := kB BK198 hb
    replace HK := Aside0.mk (Kept.below (S := (fun k_ => P0_2_ k_)) (viaT HK) hb)
    replace HB := bB HB hb
    (try clear hb); (try clear hb2); (try clear hk); (try clear hi)
    have p8 : 0 ≤ (a2 : Int) := ofD
    have q8 : (a2 : Int) < ((l0_2.length : Int) : Int) := ofD
    obtain ⟨go8, co8, eo8, gb8, gl8, cl8, HG8⟩ := Kd.R_form HO0_2.out (by omega)
    (first | cases eo8 | (injection eo8 with ea_ en_ ec_; (first | subst ea_ | (injection ea_ with ea_; subst ea_)); subst ec_; clear en_))
    have GB8 := Aside0.mk gb8
    have GG8 := Aside0.mk HG8
    clear gb8 gl8 HG8
    have HMgo8 := Aside0.mk (show (P0_2_ go8 ∨ w.heap.size ≤ go8) from (HO0_2.out.1 _ rfl).1)
    (first | simp only [add_plain] at hx197_0 | skip)
    (first | simp only [add_plain] at hx197_1 | skip)
    obtain ⟨ce8, hcl8, hM8, hcc8, hfr8⟩ := Kd.R_elem HO0_2.out z89 (a2 : Int) p8 q8
    obtain rfl := k89_openM hM8
    have hx8_0 : World.cell? _ ⟨go8, (a2 : Int).toNat * 2, none⟩ = some (.int .i64 ((rd_T89 l0_2 a2).f0)) := hcc8 0 _ rfl
    have hx8_1 : World.cell? _ ⟨go8, (a2 : Int).toNat * 2 + 1, none⟩ = some (.int .i64 ((rd_T89 l0_2 a2).f1)) := hcc8 1 _ rfl
    have hf8_0 : World.frozen? _ ⟨go8, (a2 : Int).toNat * 2, none⟩ = false := hfr8 0
    have hf8_1 : World.frozen? _ ⟨go8, (a2 : Int).toNat * 2 + 1, none⟩ = false := hfr8 1
    (try clear hcl8); (try clear hcc8); (try clear hfr8); (try clear hM8)
    replace p8 := eq_true p8
    replace q8 := eq_true q8
    obtain ⟨ce18, hcl18, hM18, hcc18, hfr18⟩ := Kd.R_elem HO0_2.out z89 (a2 : Int) (ofD) (by have h_ : (a2 : Int) < ((l0_2.length : Int) : Int) := ofD; first | exact h_ | (have e_ := (Kd.R_reads' HO0_2.out).1; omega) | simpa using h_)
    obtain rfl := k89_openM hM18
    have HP18 := (Kd.R_seg HO0_2.out (a2 : Int) (ofD) (by have h_ : (a2 : Int) < ((l0_2.length : Int) : Int) := ofD; first | exact h_ | (have e_ := (Kd.R_reads' HO0_2.out).1; omega) | simpa using h_) (seg := [.int .i64 t199, .int .i64 t200]) (j := 0) hcl18 hcc18 (show 2 ≤ 2 from by decide) (x' := (⟨t199, t200⟩ : S89)) (k89_mkM _ _ _ (⟨t199, t200⟩ : S89) ) (fun _ hk => hk)).1
    rw [← Ny201.out] at HP18
    have HQ18 := Aside0.mk HP18
    (try clear hcl18); (try clear hcc18); (try clear hfr18); (try clear hM18); (try clear HP18)
    refine hK.out _ _ ⟨(blk_cell BK196.out 0).trans rfl, (blk_cell BK196.out 1).trans rfl, (blk_cell BK196.out 2).trans rfl, (blk_cell BK198.out 0).trans rfl, (blk_cell BK198.out 1).trans rfl⟩ (fun hHeld => ?_)
    clear hK K
    refine norm_ (a' := ?_) ?_ ?_
    rotate_left
    ·show Act.put _ (some 22) _ = _
     simp only [Act.put, q1, q2, q3, i64_w, i32_w]
     rfl
    refine pure_ (i := 5) (N := some 23) (v := ?_) (a' := ?_) #[true, true, true, true, true, true, false] rfl rfl (by kernel_rfl) (fun _ _ _ h => h) (Or.inl ⟨by rfl, ?_⟩) ?_ ?_
    rotate_left
    ·intro w'
     go_simp
     with_reducible rfl
    rotate_left
    ·simp only [Act.put, q1, q2, q3, i64_w, i32_w]
     rfl
    refine last_ (i := 6) (N := none) #[true, true, true, true, true, true, true] rfl rfl (by kernel_rfl) (by decide) (fun K hK => ?_)
    refine skip_ (w1 := ?_) (by rfl) rfl ?_ ?_
    rotate_left
    ·go_simp
     rfl
    refine hK.out _ _ ?_
    clear hK K
    refine done_ (by kernel_rfl) ?_
    try go_wp2
    first | go_end0 | ((try simp only [Exit.inBlock, Exit.then]); refine bodyPost_ret (results_none rfl _ _ _) rfl ?_)
    exact ⟨by first | rfl | (simp [errW_none, errW_some] <;> rfl) | (simp [*, errW_none, errW_some] <;> rfl), by (with_reducible repeat (first | apply Kd.R_alloc | apply Kd.R_drewN | apply Kd.R_drew)); exact Kd.R_mono HQ18.out (fun _ hk => hk.1), viaB HB, by repeat (first | (with_reducible first | exact HK.out | apply Kept.alloc | apply Kept.drewN | apply Kept.drew | refine Kept.setCell ?_ HMgo8.out _ | refine Kept.setCell ?_ HMgo8.out _ | refine Kept.setCell ?_ (.inr GW196.out) _ | refine Kept.setCell ?_ (.inr GW198.out) _) | exact HK.out)⟩
   ·rw [if_neg c6] at H
    have c6b0 := beq_eq_false_iff_ne.mpr c6
    have c6b1 := bne_iff_ne.mpr c6
    by_cases c19 : ((rd_T89 l0_2 a2).f0) = 6
    ·rw [if_pos c19] at H
     have c19b0 := beq_iff_eq.mpr c19
     have c19b1 := bne_eq_false_iff_eq.mpr c19
     clear c19
     have H' := Aside0.mk H
     clear H
     obtain ⟨Ao20, co20, eo20⟩ := Kd.R_slice HO0_2.out
     subst eo20
     go_enter Try.func85, Try.ntmps85
     go_wp2_with (first | ((with_reducible refine gate_dst (N := 3) rfl ?_); refine box_ev (N := 3) (cs := #[.int .i64 a0_0, .int .i64 a0_1, .slice Ao20 l0_2.length co20]) (t := 32) ?_; intro gb196 hg w21 hbox hb; have BK196 := Aside0.mk (hbox); have GW196 := Aside0.mk ((by rw [hg]; exact (by first | exact HK.out.1 | exact (show Kept w _ (fun k_ => P0_2_ k_) from viaT HK).1) : w.heap.size ≤ gb196)); have GE196 := gW (w := w0) HB hg; replace HO0_2 := Aside0.mk (Kd.R_below (viaR HO0_2) hb); replace HK := Aside0.mk (Kept.below (S := (fun k_ => P0_2_ k_)) (viaT HK) hb); replace HB := bB HB hb; clear hb hbox hg; have hcz22_0 := bc0 BK196; have hcz22_1 := bc1 BK196; have hcz22_2 := bc2 BK196; have hfz22_0 := blk_frozen BK196.out 0; have hfz22_1 := blk_frozen BK196.out 1; have hfz22_2 := blk_frozen BK196.out 2; have p197 : 0 ≤ (a2 : Int) := ofD; have q197 : a2 < (l0_2.length : Int) := ofD; obtain ⟨ad197, e197, hx197_0, hx197_1⟩ := at_T89 (Kd.R_reads' HO0_2.out).2.2 a2 p197 q197; cases e197; replace p197 := eq_true p197; replace q197 := eq_true q197) | ((with_reducible refine gate_dst (N := 6) rfl ?_); refine box_ev (N := 6) (cs := #[.int .i64 0, .int .i64 0]) (t := 89) ?_; intro gb198 hg w23 hbox hb; have BK198 := Aside0.mk (hbox); have GW198 := Aside0.mk ((by rw [hg]; exact (by first | exact HK.out.1 | exact (show Kept w _ (fun k_ => P0_2_ k_) from viaT HK).1) : w.heap.size ≤ gb198)); have GE198 := gW (w := w0) HB hg; have NB196_198 := neL BK196 hg; have NB198_196 := neG BK196 hg; replace HO0_2 := Aside0.mk (Kd.R_below (Kd.R_elderB (viaR HO0_2) gb198 (Nat.le_of_eq hg.symm)) hb); replace BK196 := kB BK196 hb; replace HK := Aside0.mk (Kept.below (S := (fun k_ => P0_2_ k_)) (viaT HK) hb); replace HB := bB HB hb; clear hb hbox hg; have hnb24 := NB198_196.out; have hnc24 := NB196_198.out; have hcz25_0 := bc0 BK198; have hcz25_1 := bc1 BK198; have hfz25_0 := blk_frozen BK198.out 0; have hfz25_1 := blk_frozen BK198.out 1; have hcz26_0 := bc0 BK196; have hcz26_1 := bc1 BK196; have hcz26_2 := bc2 BK196; have hfz26_0 := blk_frozen BK196.out 0; have hfz26_1 := blk_frozen BK196.out 1; have hfz26_2 := blk_frozen BK196.out 2))
     go_loopg [29] k (fun kq v29 w' => ∃ (x29_1 : Int) (x197002_1 : List (S89)) (x199000_1 : Int) (x199001_1 : Int), v29 = .int .i64 x29_1 ∧ Aside0 (spec_flPass.l0 kq l1 a2 (l0_2.length : Int) x29_1 a0_0 a0_1 x197002_1 = some r) ∧ Aside0 (kq ≤ k) ∧ Aside0 (Kd.R k89 89 w' w0.heap.size (fun k_ => (P0_2_ k_ ∨ w.heap.size ≤ k_) ∧ k_ ≠ gb198) (.slice (some ad197) l0_2.length co20) x197002_1) ∧ Aside0 (w'.heap[gb196]? = some (.cells #[.int .i64 a0_0, .int .i64 a0_1, (.slice (some ad197) l0_2.length co20)] 32 (0, 0))) ∧ Aside0 (w'.heap[gb198]? = some (.cells #[.int .i64 x199000_1, .int .i64 x199001_1] 89 (0, 0))) ∧ Aside0 (Kept w w' (fun k_ => P0_2_ k_)) ∧ Aside0 (Below w0.heap.size w0 w'))
     case atStart => exact ⟨(0), (l0_2), ((rd_T89 l0_2 a2).f0), ((rd_T89 l0_2 a2).f1), (by first | rfl | (simp; done) | (simp [*]; done)), H', ⟨Nat.le_refl _⟩, ⟨by (with_reducible repeat (first | apply Kd.R_alloc | apply Kd.R_drewN | apply Kd.R_drew)); exact Kd.R_mono (Kd.R_far (p := ⟨gb198, 1, none⟩) (Kd.R_far (p := ⟨gb198, 0, none⟩) (Kd.R_mono HO0_2.out (fun k_ hk => (⟨hk, hk.2⟩ : _ ∧ k_ ≠ gb198))) (fun _ hk => hk.2) (.int .i64 ((rd_T89 l0_2 a2).f0))) (fun _ hk => hk.2) (.int .i64 ((rd_T89 l0_2 a2).f1))) (fun _ hk => ⟨hk.1.1, hk.1.2⟩)⟩, ⟨by (with_reducible repeat (first | refine blk_drewN ?_ _ | refine blk_drew ?_ | refine blk_alloc ?_ _)); refine blk_far ?_ NB196_198.out _; (with_reducible repeat (first | refine blk_drewN ?_ _ | refine blk_drew ?_ | refine blk_alloc ?_ _)); refine blk_far ?_ NB196_198.out _; (with_reducible repeat (first | refine blk_drewN ?_ _ | refine blk_drew ?_ | refine blk_alloc ?_ _)); exact BK196.out⟩, ⟨by (with_reducible repeat (first | refine blk_drewN ?_ _ | refine blk_drew ?_ | refine blk_alloc ?_ _)); refine blk_put (cs := #[.int .i64 ((rd_T89 l0_2 a2).f0), .int .i64 0]) ?_ 1 _ rfl; (with_reducible repeat (first | refine blk_drewN ?_ _ | refine blk_drew ?_ | refine blk_alloc ?_ _)); refine blk_put (cs := #[.int .i64 0, .int .i64 0]) ?_ 0 _ rfl; (with_reducible repeat (first | refine blk_drewN ?_ _ | refine blk_drew ?_ | refine blk_alloc ?_ _)); exact BK198.out⟩, ⟨viaT HK⟩, ⟨viaB HB⟩⟩
     case round =>
      clear H'
      (try clear c1); (try clear p1); (try clear q1); (try clear hx1); (try clear c2); (try clear p2); (try clear c4); (try clear c4b0); (try clear c5); (try clear c5b0); (try clear c6); (try clear c6b0); (try clear c6b1); (try clear c8); (try clear p8); (try clear q8); (try clear hx8); (try clear hf8); (try clear c13); (try clear c18); (try clear c19); (try clear c19b0); (try clear c19b1); (try clear p19); (try clear q19); (try clear hx19); (try clear c24)
      (try clear hcz11_0 hcz11_1 hcz11_2); (try clear hcz14_0 hcz14_1); (try clear hcz22_0 hcz22_1 hcz22_2); (try clear hcz25_0 hcz25_1); (try clear hcz26_0 hcz26_1 hcz26_2); (try clear hfz11_0 hfz11_1 hfz11_2); (try clear hfz14_0 hfz14_1); (try clear hfz22_0 hfz22_1 hfz22_2); (try clear hfz25_0 hfz25_1); (try clear hfz26_0 hfz26_1 hfz26_2)
      (try clear hx197_0); (try clear hx197_1); (try clear hx8_0); (try clear hx8_1); (try clear p197); (try clear p8); (try clear q197); (try clear q8)
      obtain ⟨x29_1, x197002_1, x199000_1, x199001_1, rfl, HA, HK1, HO_197002, BK196, BK198, HK, HB⟩ := hrel
      have hl197002_1 := (Kd.R_reads' HO_197002.out).1
      rw [hl197002_1] at HO_197002
      (try simp only [hl197002_1])
      (try simp only [hl197002_1] at BK196)
      (try simp only [hl197002_1] at BK198)
      cases gk with
      | zero => exact absurd HA.out (by simp [spec_flPass.l0])
      | succ k1 =>
       have H := HA.out
       clear HA
       simp only [spec_flPass.l0] at H
       by_cases c27 : x29_1 < (l0_2.length : Int)
       ·rw [if_pos c27] at H
        have c27b0 := decide_eq_true c27
        clear c27
        by_cases c28 : 0 ≤ x29_1
        ·rw [if_pos c28] at H
         have c28b0 := decide_eq_true c28
         clear c28
         by_cases c29 : x29_1 < (x197002_1.length : Int)
         ·rw [if_pos c29] at H
          have c29b0 := decide_eq_true c29
          clear c29
          by_cases c30 : ((rd_T89 x197002_1 x29_1).f0) = 6
          ·rw [if_pos c30] at H
           have c30b0 := beq_iff_eq.mpr c30
           have c30b1 := bne_eq_false_iff_eq.mpr c30
           clear c30
           by_cases c31 : x29_1 < (l1.length : Int)
           ·rw [if_pos c31] at H
            have c31b0 := decide_eq_true c31
            clear c31
            by_cases c32 : 0 ≤ a2
            ·rw [if_pos c32] at H
             have c32b0 := decide_eq_true c32
             clear c32
             by_cases c33 : a2 < (l1.length : Int)
             ·rw [if_pos c33] at H
              have c33b0 := decide_eq_true c33
              clear c33
              by_cases c34 : (rd l1 x29_1) = (rd l1 a2)
              ·rw [if_pos c34] at H
               have c34b0 := beq_iff_eq.mpr c34
               have c34b1 := bne_eq_false_iff_eq.mpr c34
               clear c34
               replace H := Option.bind_eq_some_iff.mp H
               obtain ⟨⟨t206, t207⟩, A350, H⟩ := H
               replace H : (spec_flPass.l0 k1 l1 a2 (l0_2.length : Int) (wrap64 (x29_1 + 1)) a0_0 a0_1 (x197002_1.set (x29_1 : Int).toNat (⟨t206, t207⟩ : S89))) = some r := H
               have A35 := Aside0.mk A350
               clear A350
               obtain ⟨y208, hy208⟩ : ∃ y_ : List (S89), y_ = (x197002_1.set (x29_1 : Int).toNat (⟨t206, t207⟩ : S89)) := ⟨_, rfl⟩
               replace H : (spec_flPass.l0 k1 l1 a2 (l0_2.length : Int) (wrap64 (x29_1 + 1)) a0_0 a0_1 y208) = some r := by first | (rw [hy208]; with_reducible exact H) | (have H2_ := (Option.bind_some _ _).symm.trans H; rw [hy208]; with_reducible exact H2_) | (have H2_ := (Option.bind_some _ _).symm.trans H; with_reducible exact H2_) | with_reducible exact H | (rw [hy208]; exact H) | exact H
               have Ny208 := Aside0.mk hy208
               clear hy208
               have H' := Aside0.mk H
               clear H
               have hnb37 := NB196_198.out
               have hnc37 := NB198_196.out
               have hcz38_0 := bc0 BK196
               have hcz38_1 := bc1 BK196
               have hcz38_2 := bc2 BK196
               have hfz38_0 := blk_frozen BK196.out 0
               have hfz38_1 := blk_frozen BK196.out 1
               have hfz38_2 := blk_frozen BK196.out 2
               have p202 : 0 ≤ (x29_1 : Int) := ofD
               have q202 : x29_1 < (x197002_1.length : Int) := ofD
               obtain ⟨ad202, e202, hx202_0, hx202_1⟩ := at_T89 (Kd.R_reads' HO_197002.out).2.2 x29_1 p202 q202
               obtain rfl : ad197 = ad202 := (by injection e202)
               replace p202 := eq_true p202
               replace q202 := eq_true q202
               try go_wp2_with (first | ((with_reducible refine gate_dst (N := 8) rfl ?_); refine box_ev (N := 8) (cs := #[.int .i64 0, .int .i64 0]) (t := 89) ?_; intro gb203 hg w39 hbox hb; have BK203 := Aside0.mk (hbox); have GW203 := Aside0.mk ((by rw [hg]; exact (by first | exact HK.out.1 | exact (show Kept w _ (fun k_ => P0_2_ k_) from viaT HK).1) : w.heap.size ≤ gb203)); have GE203 := gW (w := w0) HB hg; have NB196_203 := neL BK196 hg; have NB203_196 := neG BK196 hg; have NB198_203 := neL BK198 hg; have NB203_198 := neG BK198 hg; replace HO_197002 := Aside0.mk (Kd.R_below (Kd.R_elderB (viaR HO_197002) gb203 (Nat.le_of_eq hg.symm)) hb); replace BK196 := kB BK196 hb; replace BK198 := kB BK198 hb; replace HK := Aside0.mk (Kept.below (S := (fun k_ => P0_2_ k_)) (viaT HK) hb); replace HB := bB HB hb; clear hb hbox hg; have hnb40 := NB203_196.out; have hnc40 := NB196_203.out; have hnb41 := NB203_198.out; have hnc41 := NB198_203.out; have hcz42_0 := bc0 BK203; have hcz42_1 := bc1 BK203; have hfz42_0 := blk_frozen BK203.out 0; have hfz42_1 := blk_frozen BK203.out 1))
               have n0_ : Aside0 (Kd.R k89 89 ((w39.setCell ⟨gb203, 0, none⟩ (.int .i64 ((rd_T89 x197002_1 x29_1).f0))).setCell ⟨gb203, 1, none⟩ (.int .i64 ((rd_T89 x197002_1 x29_1).f1))) w0.heap.size (fun k_ => (P0_2_ k_ ∨ w.heap.size ≤ k_) ∧ k_ ≠ gb198 ∧ k_ ≠ gb203) (.slice (some ad197) x197002_1.length co20) x197002_1) := ⟨by (with_reducible repeat (first | apply Kd.R_alloc | apply Kd.R_drewN | apply Kd.R_drew)); exact Kd.R_mono (Kd.R_far (p := ⟨gb203, 1, none⟩) (Kd.R_far (p := ⟨gb203, 0, none⟩) (Kd.R_mono HO_197002.out (fun k_ hk => (⟨hk, hk.2⟩ : _ ∧ k_ ≠ gb203))) (fun _ hk => hk.2) (.int .i64 ((rd_T89 x197002_1 x29_1).f0))) (fun _ hk => hk.2) (.int .i64 ((rd_T89 x197002_1 x29_1).f1))) (fun _ hk => ⟨hk.1.1.1, ⟨hk.1.1.2, hk.1.2⟩⟩)⟩
               have n1_ : Aside0 (((w39.setCell ⟨gb203, 0, none⟩ (.int .i64 ((rd_T89 x197002_1 x29_1).f0))).setCell ⟨gb203, 1, none⟩ (.int .i64 ((rd_T89 x197002_1 x29_1).f1))).heap[gb196]? = some (.cells #[.int .i64 a0_0, .int .i64 a0_1, .slice (some ad197) x197002_1.length co20] 32 (0, 0))) := ⟨by (with_reducible repeat (first | refine blk_drewN ?_ _ | refine blk_drew ?_ | refine blk_alloc ?_ _)); refine blk_far ?_ NB196_203.out _; (with_reducible repeat (first | refine blk_drewN ?_ _ | refine blk_drew ?_ | refine blk_alloc ?_ _)); refine blk_far ?_ NB196_203.out _; (with_reducible repeat (first | refine blk_drewN ?_ _ | refine blk_drew ?_ | refine blk_alloc ?_ _)); exact BK196.out⟩
               have n2_ : Aside0 (((w39.setCell ⟨gb203, 0, none⟩ (.int .i64 ((rd_T89 x197002_1 x29_1).f0))).setCell ⟨gb203, 1, none⟩ (.int .i64 ((rd_T89 x197002_1 x29_1).f1))).heap[gb198]? = some (.cells #[.int .i64 x199000_1, .int .i64 x199001_1] 89 (0, 0))) := ⟨by (with_reducible repeat (first | refine blk_drewN ?_ _ | refine blk_drew ?_ | refine blk_alloc ?_ _)); refine blk_far ?_ NB198_203.out _; (with_reducible repeat (first | refine blk_drewN ?_ _ | refine blk_drew ?_ | refine blk_alloc ?_ _)); refine blk_far ?_ NB198_203.out _; (with_reducible repeat (first | refine blk_drewN ?_ _ | refine blk_drew ?_ | refine blk_alloc ?_ _)); exact BK198.out⟩
               have n3_ : Aside0 (((w39.setCell ⟨gb203, 0, none⟩ (.int .i64 ((rd_T89 x197002_1 x29_1).f0))).setCell ⟨gb203, 1, none⟩ (.int .i64 ((rd_T89 x197002_1 x29_1).f1))).heap[gb203]? = some (.cells #[.int .i64 ((rd_T89 x197002_1 x29_1).f0), .int .i64 ((rd_T89 x197002_1 x29_1).f1)] 89 (0, 0))) := ⟨by (with_reducible repeat (first | refine blk_drewN ?_ _ | refine blk_drew ?_ | refine blk_alloc ?_ _)); refine blk_put (cs := #[.int .i64 ((rd_T89 x197002_1 x29_1).f0), .int .i64 0]) ?_ 1 _ rfl; (with_reducible repeat (first | refine blk_drewN ?_ _ | refine blk_drew ?_ | refine blk_alloc ?_ _)); refine blk_put (cs := #[.int .i64 0, .int .i64 0]) ?_ 0 _ rfl; (with_reducible repeat (first | refine blk_drewN ?_ _ | refine blk_drew ?_ | refine blk_alloc ?_ _)); exact BK203.out⟩
               have n4_ : Aside0 (Kept w ((w39.setCell ⟨gb203, 0, none⟩ (.int .i64 ((rd_T89 x197002_1 x29_1).f0))).setCell ⟨gb203, 1, none⟩ (.int .i64 ((rd_T89 x197002_1 x29_1).f1))) (fun k_ => P0_2_ k_)) := ⟨viaT HK⟩
               have n5_ : Aside0 (Below w0.heap.size w0 ((w39.setCell ⟨gb203, 0, none⟩ (.int .i64 ((rd_T89 x197002_1 x29_1).f0))).setCell ⟨gb203, 1, none⟩ (.int .i64 ((rd_T89 x197002_1 x29_1).f1)))) := ⟨viaB HB⟩
               (try clear HO_197002); (try clear BK196); (try clear BK198); (try clear BK203); (try clear HK); (try clear HB)
               generalize ((w39.setCell ⟨gb203, 0, none⟩ (.int .i64 ((rd_T89 x197002_1 x29_1).f0))).setCell ⟨gb203, 1, none⟩ (.int .i64 ((rd_T89 x197002_1 x29_1).f1))) = w43 at n0_ n1_ n2_ n3_ n4_ n5_ ⊢
               have HO_197002 := n0_
               have BK196 := n1_
               have BK198 := n2_
               have BK203 := n3_
               have HK := n4_
               have HB := n5_
               clear n0_ n1_ n2_ n3_ n4_ n5_
               replace HO_197002 := Aside0.mk (Kd.R_drew HO_197002.out)
               replace BK196 := Aside0.mk (blk_drew BK196.out)
               replace BK198 := Aside0.mk (blk_drew BK198.out)
               replace BK203 := Aside0.mk (blk_drew BK203.out)
               replace HK := Aside0.mk (Kept.drew HK.out)
               replace HB := Aside0.mk (below_drew1 HB.out)
               have p204 : 0 ≤ (x29_1 : Int) := ofD
               have q204 : x29_1 < (l1.length : Int) := ofD
               obtain ⟨ad204, e204, hx204_0⟩ := Kd.at_int (Kd.C_kept_now HR1.out HK.out) x29_1 p204 q204
               have hw204_0 := hx204_0
               cases e204
               replace p204 := eq_true p204
               replace q204 := eq_true q204
               have p205 : 0 ≤ (a2 : Int) := ofD
               have q205 : a2 < (l1.length : Int) := ofD
               obtain ⟨ad205, e205, hx205_0⟩ := Kd.at_int (Kd.C_kept_now HR1.out HK.out) a2 p205 q205
               have hw205_0 := hx205_0
               obtain rfl : ad204 = ad205 := (by injection e205)
               replace p205 := eq_true p205
               replace q205 := eq_true q205
               refine start_ (n := 14) (S := fun w' => w'.cell? ⟨gb203, 0, none⟩ = some (.int .i64 ((rd_T89 x197002_1 x29_1).f0)) ∧ w'.cell? ⟨gb203, 1, none⟩ = some (.int .i64 ((rd_T89 x197002_1 x29_1).f1)) ∧ w'.cell? (ad204.add (x29_1).toNat) = some (.int .i64 (rd l1 x29_1)) ∧ w'.cell? (ad204.add (a2).toNat) = some (.int .i64 (rd l1 a2))) (ds := []) #[false, false, false, false, false, false, false, false, false, false, false, false, false, false] (by kernel_rfl) rfl rfl ⟨(blk_cell BK203.out 0).trans rfl, (blk_cell BK203.out 1).trans rfl, (Kd.foot_int (HR1.out _ (by repeat (first | exact HK.out | apply Kept.alloc | apply Kept.drewN | apply Kept.drew))) x29_1 (of_eq_true p204) (of_eq_true q204)), (Kd.foot_int (HR1.out _ (by repeat (first | exact HK.out | apply Kept.alloc | apply Kept.drewN | apply Kept.drew))) a2 (of_eq_true p205) (of_eq_true q205))⟩ (fun hHeld => ?_); refine with_tabW spec_flPass.tab9 spec_flPass.bits9 (fun HT_ HW_ => ?_)
               generalize w43.drew = w44 at HO_197002 BK196 BK198 BK203 HK HB hx204_0 hx205_0 hHeld ⊢
               refine pure_ (i := 0) (N := some 34) (v := ?_) (a' := ?_) #[true, false, false, false, false, false, false, false, false, false, false, false, false, false] rfl rfl (any_of HT_.out (by kernel_rfl)) (fun _ _ _ h => h) (Or.inl ⟨by rfl, ?_⟩) ?_ ?_
               rotate_left
               ·intro w'
                go_simp
                with_reducible rfl
               rotate_left
               ·simp only [Act.put, q1, q2, q3, i64_w, i32_w]
                rfl
               refine take_ (i := 1) (N := some 35) (v := ?_) (a' := ?_) #[true, true, false, false, false, false, false, false, false, false, false, false, false, false] rfl rfl (take_ofW HT_.out HW_.out (by kernel_rfl)) (fun _ _ _ h => h) (Or.inl ⟨by rfl, ?_⟩) hHeld ?_ ?_
               rotate_left
               ·rintro w' ⟨s0, s1, s2, s3⟩
                go_simp
                with_reducible rfl
               rotate_left
               ·simp only [Act.put, q1, q2, q3, i64_w, i32_w]
                rfl
               refine pure_ (i := 2) (N := some 36) (v := ?_) (a' := ?_) #[true, true, true, false, false, false, false, false, false, false, false, false, false, false] rfl rfl (any_of HT_.out (by kernel_rfl)) (fun _ _ _ h => h) (Or.inl ⟨by rfl, ?_⟩) ?_ ?_
               rotate_left
               ·intro w'
                go_simp
                with_reducible rfl
               rotate_left
               ·simp only [Act.put, q1, q2, q3, i64_w, i32_w]
                rfl
               refine pure_ (i := 3) (N := some 37) (v := ?_) (a' := ?_) #[true, true, true, true, false, false, false, false, false, false, false, false, false, false] rfl rfl (any_of HT_.out (by kernel_rfl)) (fun _ _ _ h => h) (Or.inl ⟨by rfl, ?_⟩) ?_ ?_
               rotate_left
               ·intro w'
                go_simp
                with_reducible rfl
               rotate_left
               ·simp only [Act.put, q1, q2, q3, i64_w, i32_w]
                rfl
               refine pure_ (i := 4) (N := some 38) (v := ?_) (a' := ?_) #[true, true, true, true, true, false, false, false, false, false, false, false, false, false] rfl rfl (any_of HT_.out (by kernel_rfl)) (fun _ _ _ h => h) (Or.inl ⟨by rfl, ?_⟩) ?_ ?_
               rotate_left
               ·intro w'
                go_simp
                with_reducible rfl
               rotate_left
               ·simp only [Act.put, q1, q2, q3, i64_w, i32_w]
                rfl
               refine pure_ (i := 5) (N := some 39) (v := ?_) (a' := ?_) #[true, true, true, true, true, true, false, false, false, false, false, false, false, false] rfl rfl (any_of HT_.out (by kernel_rfl)) (fun _ _ _ h => h) (Or.inl ⟨by rfl, ?_⟩) ?_ ?_
               rotate_left
               ·intro w'
                go_simp
                with_reducible rfl
               rotate_left
               ·simp only [Act.put, q1, q2, q3, i64_w, i32_w]
                rfl
               refine pure_ (i := 6) (N := some 40) (v := ?_) (a' := ?_) #[true, true, true, true, true, true, true, false, false, false, false, false, false, false] rfl rfl (any_of HT_.out (by kernel_rfl)) (fun _ _ _ h => h) (Or.inl ⟨by rfl, ?_⟩) ?_ ?_
               rotate_left
               ·intro w'
                go_simp
                with_reducible rfl
               rotate_left
               ·simp only [Act.put, q1, q2, q3, i64_w, i32_w]
                rfl
               refine pure_ (i := 8) (N := some 42) (v := ?_) (a' := ?_) #[true, true, true, true, true, true, true, false, true, false, false, false, false, false] rfl rfl (any_of HT_.out (by kernel_rfl)) (fun _ _ _ h => h) (Or.inl ⟨by rfl, ?_⟩) ?_ ?_
               rotate_left
               ·intro w'
                go_simp
                with_reducible rfl
               rotate_left
               ·simp only [Act.put, q1, q2, q3, i64_w, i32_w]
                rfl
               refine pure_ (i := 9) (N := some 43) (v := ?_) (a' := ?_) #[true, true, true, true, true, true, true, false, true, true, false, false, false, false] rfl rfl (any_of HT_.out (by kernel_rfl)) (fun _ _ _ h => h) (Or.inl ⟨by rfl, ?_⟩) ?_ ?_
               rotate_left
               ·intro w'
                go_simp
                with_reducible rfl
               rotate_left
               ·simp only [Act.put, q1, q2, q3, i64_w, i32_w]
                rfl
               refine pure_ (i := 10) (N := some 44) (v := ?_) (a' := ?_) #[true, true, true, true, true, true, true, false, true, true, true, false, false, false] rfl rfl (any_of HT_.out (by kernel_rfl)) (fun _ _ _ h => h) (Or.inl ⟨by rfl, ?_⟩) ?_ ?_
               rotate_left
               ·intro w'
                go_simp
                with_reducible rfl
               rotate_left
               ·simp only [Act.put, q1, q2, q3, i64_w, i32_w]
                rfl
               refine take_ (i := 7) (N := some 41) (v := ?_) (a' := ?_) #[true, true, true, true, true, true, true, true, true, true, true, false, false, false] rfl rfl (take_ofW HT_.out HW_.out (by kernel_rfl)) (fun _ _ _ h => h) (Or.inl ⟨by rfl, ?_⟩) hHeld ?_ ?_
               rotate_left
               ·rintro w' ⟨s0, s1, s2, s3⟩
                go_simp
                with_reducible rfl
               rotate_left
               ·simp only [Act.put, q1, q2, q3, i64_w, i32_w]
                rfl
               refine take_ (i := 11) (N := some 45) (v := ?_) (a' := ?_) #[true, true, true, true, true, true, true, true, true, true, true, true, false, false] rfl rfl (take_ofW HT_.out HW_.out (by kernel_rfl)) (fun _ _ _ h => h) (Or.inl ⟨by rfl, ?_⟩) hHeld ?_ ?_
               rotate_left
               ·rintro w' ⟨s0, s1, s2, s3⟩
                go_simp
                with_reducible rfl
               rotate_left
               ·simp only [Act.put, q1, q2, q3, i64_w, i32_w]
                rfl
               refine pure_ (i := 12) (N := some 46) (v := ?_) (a' := ?_) #[true, true, true, true, true, true, true, true, true, true, true, true, true, false] rfl rfl (any_of HT_.out (by kernel_rfl)) (fun _ _ _ h => h) (Or.inl ⟨by rfl, ?_⟩) ?_ ?_
               rotate_left
               ·intro w'
                go_simp
                with_reducible rfl
               rotate_left
               ·simp only [Act.put, q1, q2, q3, i64_w, i32_w]
                rfl
               refine pure_ (i := 13) (N := some 47) (v := ?_) (a' := ?_) #[true, true, true, true, true, true, true, true, true, true, true, true, true, true] rfl rfl (any_of HT_.out (by kernel_rfl)) (fun _ _ _ h => h) (Or.inl ⟨by rfl, ?_⟩) ?_ ?_
               rotate_left
               ·intro w'
                go_simp
                with_reducible rfl
               rotate_left
               ·simp only [Act.put, q1, q2, q3, i64_w, i32_w]
                rfl
               refine done_ (done_of HT_.out (by kernel_rfl)) ?_
               try go_wp2
               replace HO_197002 := Aside0.mk (Kd.R_drew HO_197002.out)
               replace BK196 := Aside0.mk (blk_drew BK196.out)
               replace BK198 := Aside0.mk (blk_drew BK198.out)
               replace BK203 := Aside0.mk (blk_drew BK203.out)
               replace HK := Aside0.mk (Kept.drew HK.out)
               replace HB := Aside0.mk (below_drew1 HB.out)
               refine start_ (n := 7) (S := fun w' => w'.cell? ⟨gb196, 0, none⟩ = some (.int .i64 a0_0) ∧ w'.cell? ⟨gb196, 1, none⟩ = some (.int .i64 a0_1) ∧ w'.cell? ⟨gb196, 2, none⟩ = some (.slice (some ad197) x197002_1.length co20) ∧ w'.cell? ⟨gb203, 0, none⟩ = some (.int .i64 ((rd_T89 x197002_1 x29_1).f0)) ∧ w'.cell? ⟨gb203, 1, none⟩ = some (.int .i64 ((rd_T89 x197002_1 x29_1).f1))) (ds := [6]) #[false, false, false, false, false, false, false] (by kernel_rfl) rfl rfl ⟨(blk_cell BK196.out 0).trans rfl, (blk_cell BK196.out 1).trans rfl, (blk_cell BK196.out 2).trans rfl, (blk_cell BK203.out 0).trans rfl, (blk_cell BK203.out 1).trans rfl⟩ (fun hHeld => ?_)
               generalize w44.drew = w45 at HO_197002 BK196 BK198 BK203 HK HB hHeld ⊢
               refine pure_ (i := 0) (N := some 48) (v := ?_) (a' := ?_) #[true, false, false, false, false, false, false] rfl rfl (by kernel_rfl) (fun _ _ _ h => h) (Or.inl ⟨by rfl, ?_⟩) ?_ ?_
               rotate_left
               ·intro w'
                go_simp
                with_reducible rfl
               rotate_left
               ·simp only [Act.put, q1, q2, q3, i64_w, i32_w]
                rfl
               refine pure_ (i := 2) (N := some 50) (v := ?_) (a' := ?_) #[true, false, true, false, false, false, false] rfl rfl (by kernel_rfl) (fun _ _ _ h => h) (Or.inl ⟨by rfl, ?_⟩) ?_ ?_
               rotate_left
               ·intro w'
                go_simp
                with_reducible rfl
               rotate_left
               ·simp only [Act.put, q1, q2, q3, i64_w, i32_w]
                rfl
               refine take_ (i := 1) (N := some 49) (v := ?_) (a' := ?_) #[true, true, true, false, false, false, false] rfl rfl (by kernel_rfl) (fun _ _ _ h => h) (Or.inl ⟨by rfl, ?_⟩) hHeld ?_ ?_
               rotate_left
               ·rintro w' ⟨s0, s1, s2, s3, s4⟩
                go_simp
                with_reducible rfl
               rotate_left
               ·simp only [Act.put, q1, q2, q3, i64_w, i32_w]
                rfl
               refine take_ (i := 3) (N := some 51) (v := ?_) (a' := ?_) #[true, true, true, true, false, false, false] rfl rfl (by kernel_rfl) (fun _ _ _ h => h) (Or.inl ⟨by rfl, ?_⟩) hHeld ?_ ?_
               rotate_left
               ·rintro w' ⟨s0, s1, s2, s3, s4⟩
                go_simp
                with_reducible rfl
               rotate_left
               ·simp only [Act.put, q1, q2, q3, i64_w, i32_w]
                rfl
               refine one_ (i := 4) (N := some 52) #[true, true, true, true, true, false, false] rfl rfl (by kernel_rfl) (by decide) (fun K hK => ?_)
               refine goes_ Try.func89 (by kernel_rfl) rfl #[.agg #[.int .i64 ((rd_T89 x197002_1 x29_1).f0), .int .i64 ((rd_T89 x197002_1 x29_1).f1)]] (by rfl) rfl rfl (by (try simp only [List.map_toArray, List.map_cons, List.map_nil]); first | done | rfl | (simp only [List.length_drop, List.length_take]; rfl)) ?_
               with_reducible refine (spec_paTurn.calls ((rd_T89 x197002_1 x29_1).f0) ((rd_T89 x197002_1 x29_1).f1) t206 t207 _ A35.out).mono ?_
               rintro e w46 ⟨rfl, hb⟩
               refine ⟨_, rfl, ?_⟩
               replace HO_197002 := Aside0.mk (Kd.R_below (viaR HO_197002) hb)
               replace BK196 := kB BK196 hb
               replace BK198 := kB BK198 hb
               replace BK203 := kB BK203 hb
               replace HK := Aside0.mk (Kept.below (S := (fun k_ => P0_2_ k_)) (viaT HK) hb)
               replace HB := bB HB hb
               (try clear hb); (try clear hb2); (try clear hk); (try clear hi)
               have p36 : 0 ≤ (x29_1 : Int) := ofD
               have q36 : (x29_1 : Int) < ((x197002_1.length : Int) : Int) := ofD
               obtain ⟨go36, co36, eo36, gb36, gl36, cl36, HG36⟩ := Kd.R_form HO_197002.out (by omega)
               (first | cases eo36 | (injection eo36 with ea_ en_ ec_; (first | subst ea_ | (injection ea_ with ea_; subst ea_)); subst ec_; clear en_))
               have GB36 := Aside0.mk gb36
               have GG36 := Aside0.mk HG36
               clear gb36 gl36 HG36
               have HMgo36 := Aside0.mk (show (P0_2_ go36 ∨ w.heap.size ≤ go36) from (HO_197002.out.1 _ rfl).1)
               (first | simp only [add_plain] at hx197_0 | skip)
               (first | simp only [add_plain] at hx197_1 | skip)
               (first | simp only [add_plain] at hx202_0 | skip)
               (first | simp only [add_plain] at hx202_1 | skip)
               obtain ⟨ce36, hcl36, hM36, hcc36, hfr36⟩ := Kd.R_elem HO_197002.out z89 (x29_1 : Int) p36 q36
               obtain rfl := k89_openM hM36
               have hx36_0 : World.cell? _ ⟨go36, (x29_1 : Int).toNat * 2, none⟩ = some (.int .i64 ((rd_T89 x197002_1 x29_1).f0)) := hcc36 0 _ rfl
               have hx36_1 : World.cell? _ ⟨go36, (x29_1 : Int).toNat * 2 + 1, none⟩ = some (.int .i64 ((rd_T89 x197002_1 x29_1).f1)) := hcc36 1 _ rfl
               have hf36_0 : World.frozen? _ ⟨go36, (x29_1 : Int).toNat * 2, none⟩ = false := hfr36 0
               have hf36_1 : World.frozen? _ ⟨go36, (x29_1 : Int).toNat * 2 + 1, none⟩ = false := hfr36 1
               (try clear hcl36); (try clear hcc36); (try clear hfr36); (try clear hM36)
               replace p36 := eq_true p36
               replace q36 := eq_true q36
               obtain ⟨ce47, hcl47, hM47, hcc47, hfr47⟩ := Kd.R_elem HO_197002.out z89 (x29_1 : Int) (ofD) (by have h_ : (x29_1 : Int) < ((x197002_1.length : Int) : Int) := ofD; first | exact h_ | (have e_ := (Kd.R_reads' HO_197002.out).1; omega) | simpa using h_)
               obtain rfl := k89_openM hM47
               have HP47 := (Kd.R_seg HO_197002.out (x29_1 : Int) (ofD) (by have h_ : (x29_1 : Int) < ((x197002_1.length : Int) : Int) := ofD; first | exact h_ | (have e_ := (Kd.R_reads' HO_197002.out).1; omega) | simpa using h_) (seg := [.int .i64 t206, .int .i64 t207]) (j := 0) hcl47 hcc47 (show 2 ≤ 2 from by decide) (x' := (⟨t206, t207⟩ : S89)) (k89_mkM _ _ _ (⟨t206, t207⟩ : S89) ) (fun _ hk => hk)).1
               rw [← Ny208.out] at HP47
               have HQ47 := Aside0.mk HP47
               (try clear hcl47); (try clear hcc47); (try clear hfr47); (try clear hM47); (try clear HP47)
               refine hK.out _ _ ⟨(blk_cell BK196.out 0).trans rfl, (blk_cell BK196.out 1).trans rfl, (blk_cell BK196.out 2).trans rfl, (blk_cell BK203.out 0).trans rfl, (blk_cell BK203.out 1).trans rfl⟩ (fun hHeld => ?_)
               clear hK K
               refine norm_ (a' := ?_) ?_ ?_
               rotate_left
               ·show Act.put _ (some 52) _ = _
                simp only [Act.put, q1, q2, q3, i64_w, i32_w]
                rfl
               refine pure_ (i := 5) (N := some 53) (v := ?_) (a' := ?_) #[true, true, true, true, true, true, false] rfl rfl (by kernel_rfl) (fun _ _ _ h => h) (Or.inl ⟨by rfl, ?_⟩) ?_ ?_
               rotate_left
               ·intro w'
                go_simp
                with_reducible rfl
               rotate_left
               ·simp only [Act.put, q1, q2, q3, i64_w, i32_w]
                rfl
               refine last_ (i := 6) (N := none) #[true, true, true, true, true, true, true] rfl rfl (by kernel_rfl) (by decide) (fun K hK => ?_)
               refine skip_ (w1 := ?_) (by rfl) rfl ?_ ?_
               rotate_left
               ·go_simp
                rfl
               refine hK.out _ _ ?_
               clear hK K
               refine done_ (by kernel_rfl) ?_
               try go_wp2
               (try simp only [← hl197002_1])
               go_roundg k1
               case measure => have := HK1.out; omega
               case rel => exact ⟨(wrap64 (x29_1 + 1)), (y208), (x199000_1), (x199001_1), (by first | rfl | (simp; done) | (simp [*]; done)), H', ⟨by have := HK1.out; omega⟩, ⟨by (try simp only [hl197002_1]); (with_reducible repeat (first | apply Kd.R_alloc | apply Kd.R_drewN | apply Kd.R_drew)); exact Kd.R_mono HQ47.out (fun _ hk => ⟨hk.1, hk.2.1⟩)⟩, ⟨by (try simp only [hl197002_1]); (with_reducible repeat (first | refine blk_drewN ?_ _ | refine blk_drew ?_ | refine blk_alloc ?_ _)); refine blk_far ?_ (by have h_ := Kd.R_ne HO_197002.out BK196.out (by decide); intro e_; exact h_ (by rw [e_]; rfl)) _; (with_reducible repeat (first | refine blk_drewN ?_ _ | refine blk_drew ?_ | refine blk_alloc ?_ _)); refine blk_far ?_ (by have h_ := Kd.R_ne HO_197002.out BK196.out (by decide); intro e_; exact h_ (by rw [e_]; rfl)) _; (with_reducible repeat (first | refine blk_drewN ?_ _ | refine blk_drew ?_ | refine blk_alloc ?_ _)); exact BK196.out⟩, ⟨by (try simp only [hl197002_1]); (with_reducible repeat (first | refine blk_drewN ?_ _ | refine blk_drew ?_ | refine blk_alloc ?_ _)); refine blk_far ?_ (by have h_ := Kd.R_away HO_197002.out (fun _ hk => hk.2.1); intro e_; exact h_ (by rw [e_]; rfl)) _; (with_reducible repeat (first | refine blk_drewN ?_ _ | refine blk_drew ?_ | refine blk_alloc ?_ _)); refine blk_far ?_ (by have h_ := Kd.R_away HO_197002.out (fun _ hk => hk.2.1); intro e_; exact h_ (by rw [e_]; rfl)) _; (with_reducible repeat (first | refine blk_drewN ?_ _ | refine blk_drew ?_ | refine blk_alloc ?_ _)); exact BK198.out⟩, ⟨by repeat (first | (with_reducible first | exact HK.out | apply Kept.alloc | apply Kept.drewN | apply Kept.drew | refine Kept.setCell ?_ HMgo36.out _ | refine Kept.setCell ?_ HMgo36.out _ | refine Kept.setCell ?_ (.inr GW196.out) _ | refine Kept.setCell ?_ (.inr GW198.out) _ | refine Kept.setCell ?_ (.inr GW203.out) _) | exact HK.out)⟩, ⟨viaB HB⟩⟩
              ·rw [if_neg c34] at H
               have c34b0 := beq_eq_false_iff_ne.mpr c34
               have c34b1 := bne_iff_ne.mpr c34
               have H' := Aside0.mk H
               clear H
               have hnb48 := NB196_198.out
               have hnc48 := NB198_196.out
               have hcz49_0 := bc0 BK196
               have hcz49_1 := bc1 BK196
               have hcz49_2 := bc2 BK196
               have hfz49_0 := blk_frozen BK196.out 0
               have hfz49_1 := blk_frozen BK196.out 1
               have hfz49_2 := blk_frozen BK196.out 2
               have p202 : 0 ≤ (x29_1 : Int) := ofD
               have q202 : x29_1 < (x197002_1.length : Int) := ofD
               obtain ⟨ad202, e202, hx202_0, hx202_1⟩ := at_T89 (Kd.R_reads' HO_197002.out).2.2 x29_1 p202 q202
               obtain rfl : ad197 = ad202 := (by injection e202)
               replace p202 := eq_true p202
               replace q202 := eq_true q202
               try go_wp2_with (first | ((with_reducible refine gate_dst (N := 8) rfl ?_); refine box_ev (N := 8) (cs := #[.int .i64 0, .int .i64 0]) (t := 89) ?_; intro gb203 hg w50 hbox hb; have BK203 := Aside0.mk (hbox); have GW203 := Aside0.mk ((by rw [hg]; exact (by first | exact HK.out.1 | exact (show Kept w _ (fun k_ => P0_2_ k_) from viaT HK).1) : w.heap.size ≤ gb203)); have GE203 := gW (w := w0) HB hg; have NB196_203 := neL BK196 hg; have NB203_196 := neG BK196 hg; have NB198_203 := neL BK198 hg; have NB203_198 := neG BK198 hg; replace HO_197002 := Aside0.mk (Kd.R_below (Kd.R_elderB (viaR HO_197002) gb203 (Nat.le_of_eq hg.symm)) hb); replace BK196 := kB BK196 hb; replace BK198 := kB BK198 hb; replace HK := Aside0.mk (Kept.below (S := (fun k_ => P0_2_ k_)) (viaT HK) hb); replace HB := bB HB hb; clear hb hbox hg; have hnb51 := NB203_196.out; have hnc51 := NB196_203.out; have hnb52 := NB203_198.out; have hnc52 := NB198_203.out; have hcz53_0 := bc0 BK203; have hcz53_1 := bc1 BK203; have hfz53_0 := blk_frozen BK203.out 0; have hfz53_1 := blk_frozen BK203.out 1))
               have n0_ : Aside0 (Kd.R k89 89 ((w50.setCell ⟨gb203, 0, none⟩ (.int .i64 ((rd_T89 x197002_1 x29_1).f0))).setCell ⟨gb203, 1, none⟩ (.int .i64 ((rd_T89 x197002_1 x29_1).f1))) w0.heap.size (fun k_ => (P0_2_ k_ ∨ w.heap.size ≤ k_) ∧ k_ ≠ gb198 ∧ k_ ≠ gb203) (.slice (some ad197) x197002_1.length co20) x197002_1) := ⟨by (with_reducible repeat (first | apply Kd.R_alloc | apply Kd.R_drewN | apply Kd.R_drew)); exact Kd.R_mono (Kd.R_far (p := ⟨gb203, 1, none⟩) (Kd.R_far (p := ⟨gb203, 0, none⟩) (Kd.R_mono HO_197002.out (fun k_ hk => (⟨hk, hk.2⟩ : _ ∧ k_ ≠ gb203))) (fun _ hk => hk.2) (.int .i64 ((rd_T89 x197002_1 x29_1).f0))) (fun _ hk => hk.2) (.int .i64 ((rd_T89 x197002_1 x29_1).f1))) (fun _ hk => ⟨hk.1.1.1, ⟨hk.1.1.2, hk.1.2⟩⟩)⟩
               have n1_ : Aside0 (((w50.setCell ⟨gb203, 0, none⟩ (.int .i64 ((rd_T89 x197002_1 x29_1).f0))).setCell ⟨gb203, 1, none⟩ (.int .i64 ((rd_T89 x197002_1 x29_1).f1))).heap[gb196]? = some (.cells #[.int .i64 a0_0, .int .i64 a0_1, .slice (some ad197) x197002_1.length co20] 32 (0, 0))) := ⟨by (with_reducible repeat (first | refine blk_drewN ?_ _ | refine blk_drew ?_ | refine blk_alloc ?_ _)); refine blk_far ?_ NB196_203.out _; (with_reducible repeat (first | refine blk_drewN ?_ _ | refine blk_drew ?_ | refine blk_alloc ?_ _)); refine blk_far ?_ NB196_203.out _; (with_reducible repeat (first | refine blk_drewN ?_ _ | refine blk_drew ?_ | refine blk_alloc ?_ _)); exact BK196.out⟩
               have n2_ : Aside0 (((w50.setCell ⟨gb203, 0, none⟩ (.int .i64 ((rd_T89 x197002_1 x29_1).f0))).setCell ⟨gb203, 1, none⟩ (.int .i64 ((rd_T89 x197002_1 x29_1).f1))).heap[gb198]? = some (.cells #[.int .i64 x199000_1, .int .i64 x199001_1] 89 (0, 0))) := ⟨by (with_reducible repeat (first | refine blk_drewN ?_ _ | refine blk_drew ?_ | refine blk_alloc ?_ _)); refine blk_far ?_ NB198_203.out _; (with_reducible repeat (first | refine blk_drewN ?_ _ | refine blk_drew ?_ | refine blk_alloc ?_ _)); refine blk_far ?_ NB198_203.out _; (with_reducible repeat (first | refine blk_drewN ?_ _ | refine blk_drew ?_ | refine blk_alloc ?_ _)); exact BK198.out⟩
               have n3_ : Aside0 (((w50.setCell ⟨gb203, 0, none⟩ (.int .i64 ((rd_T89 x197002_1 x29_1).f0))).setCell ⟨gb203, 1, none⟩ (.int .i64 ((rd_T89 x197002_1 x29_1).f1))).heap[gb203]? = some (.cells #[.int .i64 ((rd_T89 x197002_1 x29_1).f0), .int .i64 ((rd_T89 x197002_1 x29_1).f1)] 89 (0, 0))) := ⟨by (with_reducible repeat (first | refine blk_drewN ?_ _ | refine blk_drew ?_ | refine blk_alloc ?_ _)); refine blk_put (cs := #[.int .i64 ((rd_T89 x197002_1 x29_1).f0), .int .i64 0]) ?_ 1 _ rfl; (with_reducible repeat (first | refine blk_drewN ?_ _ | refine blk_drew ?_ | refine blk_alloc ?_ _)); refine blk_put (cs := #[.int .i64 0, .int .i64 0]) ?_ 0 _ rfl; (with_reducible repeat (first | refine blk_drewN ?_ _ | refine blk_drew ?_ | refine blk_alloc ?_ _)); exact BK203.out⟩
               have n4_ : Aside0 (Kept w ((w50.setCell ⟨gb203, 0, none⟩ (.int .i64 ((rd_T89 x197002_1 x29_1).f0))).setCell ⟨gb203, 1, none⟩ (.int .i64 ((rd_T89 x197002_1 x29_1).f1))) (fun k_ => P0_2_ k_)) := ⟨viaT HK⟩
               have n5_ : Aside0 (Below w0.heap.size w0 ((w50.setCell ⟨gb203, 0, none⟩ (.int .i64 ((rd_T89 x197002_1 x29_1).f0))).setCell ⟨gb203, 1, none⟩ (.int .i64 ((rd_T89 x197002_1 x29_1).f1)))) := ⟨viaB HB⟩
               (try clear HO_197002); (try clear BK196); (try clear BK198); (try clear BK203); (try clear HK); (try clear HB)
               generalize ((w50.setCell ⟨gb203, 0, none⟩ (.int .i64 ((rd_T89 x197002_1 x29_1).f0))).setCell ⟨gb203, 1, none⟩ (.int .i64 ((rd_T89 x197002_1 x29_1).f1))) = w54 at n0_ n1_ n2_ n3_ n4_ n5_ ⊢
               have HO_197002 := n0_
               have BK196 := n1_
               have BK198 := n2_
               have BK203 := n3_
               have HK := n4_
               have HB := n5_
               clear n0_ n1_ n2_ n3_ n4_ n5_
               replace HO_197002 := Aside0.mk (Kd.R_drew HO_197002.out)
               replace BK196 := Aside0.mk (blk_drew BK196.out)
               replace BK198 := Aside0.mk (blk_drew BK198.out)
               replace BK203 := Aside0.mk (blk_drew BK203.out)
               replace HK := Aside0.mk (Kept.drew HK.out)
               replace HB := Aside0.mk (below_drew1 HB.out)
               have p204 : 0 ≤ (x29_1 : Int) := ofD
               have q204 : x29_1 < (l1.length : Int) := ofD
               obtain ⟨ad204, e204, hx204_0⟩ := Kd.at_int (Kd.C_kept_now HR1.out HK.out) x29_1 p204 q204
               have hw204_0 := hx204_0
               cases e204
               replace p204 := eq_true p204
               replace q204 := eq_true q204
               have p205 : 0 ≤ (a2 : Int) := ofD
               have q205 : a2 < (l1.length : Int) := ofD
               obtain ⟨ad205, e205, hx205_0⟩ := Kd.at_int (Kd.C_kept_now HR1.out HK.out) a2 p205 q205
               have hw205_0 := hx205_0
               obtain rfl : ad204 = ad205 := (by injection e205)
               replace p205 := eq_true p205
               replace q205 := eq_true q205
               refine start_ (n := 14) (S := fun w' => w'.cell? ⟨gb203, 0, none⟩ = some (.int .i64 ((rd_T89 x197002_1 x29_1).f0)) ∧ w'.cell? ⟨gb203, 1, none⟩ = some (.int .i64 ((rd_T89 x197002_1 x29_1).f1)) ∧ w'.cell? (ad204.add (x29_1).toNat) = some (.int .i64 (rd l1 x29_1)) ∧ w'.cell? (ad204.add (a2).toNat) = some (.int .i64 (rd l1 a2))) (ds := []) #[false, false, false, false, false, false, false, false, false, false, false, false, false, false] (by kernel_rfl) rfl rfl ⟨(blk_cell BK203.out 0).trans rfl, (blk_cell BK203.out 1).trans rfl, (Kd.foot_int (HR1.out _ (by repeat (first | exact HK.out | apply Kept.alloc | apply Kept.drewN | apply Kept.drew))) x29_1 (of_eq_true p204) (of_eq_true q204)), (Kd.foot_int (HR1.out _ (by repeat (first | exact HK.out | apply Kept.alloc | apply Kept.drewN | apply Kept.drew))) a2 (of_eq_true p205) (of_eq_true q205))⟩ (fun hHeld => ?_); refine with_tabW spec_flPass.tab9 spec_flPass.bits9 (fun HT_ HW_ => ?_)
               generalize w54.drew = w55 at HO_197002 BK196 BK198 BK203 HK HB hx204_0 hx205_0 hHeld ⊢
               refine pure_ (i := 0) (N := some 34) (v := ?_) (a' := ?_) #[true, false, false, false, false, false, false, false, false, false, false, false, false, false] rfl rfl (any_of HT_.out (by kernel_rfl)) (fun _ _ _ h => h) (Or.inl ⟨by rfl, ?_⟩) ?_ ?_
               rotate_left
               ·intro w'
                go_simp
                with_reducible rfl
               rotate_left
               ·simp only [Act.put, q1, q2, q3, i64_w, i32_w]
                rfl
               refine take_ (i := 1) (N := some 35) (v := ?_) (a' := ?_) #[true, true, false, false, false, false, false, false, false, false, false, false, false, false] rfl rfl (take_ofW HT_.out HW_.out (by kernel_rfl)) (fun _ _ _ h => h) (Or.inl ⟨by rfl, ?_⟩) hHeld ?_ ?_
               rotate_left
               ·rintro w' ⟨s0, s1, s2, s3⟩
                go_simp
                with_reducible rfl
               rotate_left
               ·simp only [Act.put, q1, q2, q3, i64_w, i32_w]
                rfl
               refine pure_ (i := 2) (N := some 36) (v := ?_) (a' := ?_) #[true, true, true, false, false, false, false, false, false, false, false, false, false, false] rfl rfl (any_of HT_.out (by kernel_rfl)) (fun _ _ _ h => h) (Or.inl ⟨by rfl, ?_⟩) ?_ ?_
               rotate_left
               ·intro w'
                go_simp
                with_reducible rfl
               rotate_left
               ·simp only [Act.put, q1, q2, q3, i64_w, i32_w]
                rfl
               refine pure_ (i := 3) (N := some 37) (v := ?_) (a' := ?_) #[true, true, true, true, false, false, false, false, false, false, false, false, false, false] rfl rfl (any_of HT_.out (by kernel_rfl)) (fun _ _ _ h => h) (Or.inl ⟨by rfl, ?_⟩) ?_ ?_
               rotate_left
               ·intro w'
                go_simp
                with_reducible rfl
               rotate_left
               ·simp only [Act.put, q1, q2, q3, i64_w, i32_w]
                rfl
               refine pure_ (i := 4) (N := some 38) (v := ?_) (a' := ?_) #[true, true, true, true, true, false, false, false, false, false, false, false, false, false] rfl rfl (any_of HT_.out (by kernel_rfl)) (fun _ _ _ h => h) (Or.inl ⟨by rfl, ?_⟩) ?_ ?_
               rotate_left
               ·intro w'
                go_simp
                with_reducible rfl
               rotate_left
               ·simp only [Act.put, q1, q2, q3, i64_w, i32_w]
                rfl
               refine pure_ (i := 5) (N := some 39) (v := ?_) (a' := ?_) #[true, true, true, true, true, true, false, false, false, false, false, false, false, false] rfl rfl (any_of HT_.out (by kernel_rfl)) (fun _ _ _ h => h) (Or.inl ⟨by rfl, ?_⟩) ?_ ?_
               rotate_left
               ·intro w'
                go_simp
                with_reducible rfl
               rotate_left
               ·simp only [Act.put, q1, q2, q3, i64_w, i32_w]
                rfl
               refine pure_ (i := 6) (N := some 40) (v := ?_) (a' := ?_) #[true, true, true, true, true, true, true, false, false, false, false, false, false, false] rfl rfl (any_of HT_.out (by kernel_rfl)) (fun _ _ _ h => h) (Or.inl ⟨by rfl, ?_⟩) ?_ ?_
               rotate_left
               ·intro w'
                go_simp
                with_reducible rfl
               rotate_left
               ·simp only [Act.put, q1, q2, q3, i64_w, i32_w]
                rfl
               refine pure_ (i := 8) (N := some 42) (v := ?_) (a' := ?_) #[true, true, true, true, true, true, true, false, true, false, false, false, false, false] rfl rfl (any_of HT_.out (by kernel_rfl)) (fun _ _ _ h => h) (Or.inl ⟨by rfl, ?_⟩) ?_ ?_
               rotate_left
               ·intro w'
                go_simp
                with_reducible rfl
               rotate_left
               ·simp only [Act.put, q1, q2, q3, i64_w, i32_w]
                rfl
               refine pure_ (i := 9) (N := some 43) (v := ?_) (a' := ?_) #[true, true, true, true, true, true, true, false, true, true, false, false, false, false] rfl rfl (any_of HT_.out (by kernel_rfl)) (fun _ _ _ h => h) (Or.inl ⟨by rfl, ?_⟩) ?_ ?_
               rotate_left
               ·intro w'
                go_simp
                with_reducible rfl
               rotate_left
               ·simp only [Act.put, q1, q2, q3, i64_w, i32_w]
                rfl
               refine pure_ (i := 10) (N := some 44) (v := ?_) (a' := ?_) #[true, true, true, true, true, true, true, false, true, true, true, false, false, false] rfl rfl (any_of HT_.out (by kernel_rfl)) (fun _ _ _ h => h) (Or.inl ⟨by rfl, ?_⟩) ?_ ?_
               rotate_left
               ·intro w'
                go_simp
                with_reducible rfl
               rotate_left
               ·simp only [Act.put, q1, q2, q3, i64_w, i32_w]
                rfl
               refine take_ (i := 7) (N := some 41) (v := ?_) (a' := ?_) #[true, true, true, true, true, true, true, true, true, true, true, false, false, false] rfl rfl (take_ofW HT_.out HW_.out (by kernel_rfl)) (fun _ _ _ h => h) (Or.inl ⟨by rfl, ?_⟩) hHeld ?_ ?_
               rotate_left
               ·rintro w' ⟨s0, s1, s2, s3⟩
                go_simp
                with_reducible rfl
               rotate_left
               ·simp only [Act.put, q1, q2, q3, i64_w, i32_w]
                rfl
               refine take_ (i := 11) (N := some 45) (v := ?_) (a' := ?_) #[true, true, true, true, true, true, true, true, true, true, true, true, false, false] rfl rfl (take_ofW HT_.out HW_.out (by kernel_rfl)) (fun _ _ _ h => h) (Or.inl ⟨by rfl, ?_⟩) hHeld ?_ ?_
               rotate_left
               ·rintro w' ⟨s0, s1, s2, s3⟩
                go_simp
                with_reducible rfl
               rotate_left
               ·simp only [Act.put, q1, q2, q3, i64_w, i32_w]
                rfl
               refine pure_ (i := 12) (N := some 46) (v := ?_) (a' := ?_) #[true, true, true, true, true, true, true, true, true, true, true, true, true, false] rfl rfl (any_of HT_.out (by kernel_rfl)) (fun _ _ _ h => h) (Or.inl ⟨by rfl, ?_⟩) ?_ ?_
               rotate_left
               ·intro w'
                go_simp
                with_reducible rfl
               rotate_left
               ·simp only [Act.put, q1, q2, q3, i64_w, i32_w]
                rfl
               refine pure_ (i := 13) (N := some 47) (v := ?_) (a' := ?_) #[true, true, true, true, true, true, true, true, true, true, true, true, true, true] rfl rfl (any_of HT_.out (by kernel_rfl)) (fun _ _ _ h => h) (Or.inl ⟨by rfl, ?_⟩) ?_ ?_
               rotate_left
               ·intro w'
                go_simp
                with_reducible rfl
               rotate_left
               ·simp only [Act.put, q1, q2, q3, i64_w, i32_w]
                rfl
               refine done_ (done_of HT_.out (by kernel_rfl)) ?_
               try go_wp2
               (try simp only [← hl197002_1])
               go_roundg k1
               case measure => have := HK1.out; omega
               case rel => exact ⟨(wrap64 (x29_1 + 1)), (x197002_1), (x199000_1), (x199001_1), (by first | rfl | (simp; done) | (simp [*]; done)), H', ⟨by have := HK1.out; omega⟩, ⟨by (try simp only [hl197002_1]); (with_reducible repeat (first | apply Kd.R_alloc | apply Kd.R_drewN | apply Kd.R_drew)); exact Kd.R_mono HO_197002.out (fun _ hk => ⟨hk.1, hk.2.1⟩)⟩, ⟨by (try simp only [hl197002_1]); (with_reducible repeat (first | refine blk_drewN ?_ _ | refine blk_drew ?_ | refine blk_alloc ?_ _)); exact BK196.out⟩, ⟨by (try simp only [hl197002_1]); (with_reducible repeat (first | refine blk_drewN ?_ _ | refine blk_drew ?_ | refine blk_alloc ?_ _)); exact BK198.out⟩, ⟨viaT HK⟩, ⟨viaB HB⟩⟩
             ·rw [if_neg c33] at H
              exact absurd H (by simp)
            ·rw [if_neg c32] at H
             exact absurd H (by simp)
           ·rw [if_neg c31] at H
            exact absurd H (by simp)
          ·rw [if_neg c30] at H
           have c30b0 := beq_eq_false_iff_ne.mpr c30
           have c30b1 := bne_iff_ne.mpr c30
           have H' := Aside0.mk H
           clear H
           have hnb56 := NB196_198.out
           have hnc56 := NB198_196.out
           have hcz57_0 := bc0 BK196
           have hcz57_1 := bc1 BK196
           have hcz57_2 := bc2 BK196
           have hfz57_0 := blk_frozen BK196.out 0
           have hfz57_1 := blk_frozen BK196.out 1
           have hfz57_2 := blk_frozen BK196.out 2
           have p202 : 0 ≤ (x29_1 : Int) := ofD
           have q202 : x29_1 < (x197002_1.length : Int) := ofD
           obtain ⟨ad202, e202, hx202_0, hx202_1⟩ := at_T89 (Kd.R_reads' HO_197002.out).2.2 x29_1 p202 q202
           obtain rfl : ad197 = ad202 := (by injection e202)
           replace p202 := eq_true p202
           replace q202 := eq_true q202
           try go_wp2_with (first | ((with_reducible refine gate_dst (N := 8) rfl ?_); refine box_ev (N := 8) (cs := #[.int .i64 0, .int .i64 0]) (t := 89) ?_; intro gb203 hg w58 hbox hb; have BK203 := Aside0.mk (hbox); have GW203 := Aside0.mk ((by rw [hg]; exact (by first | exact HK.out.1 | exact (show Kept w _ (fun k_ => P0_2_ k_) from viaT HK).1) : w.heap.size ≤ gb203)); have GE203 := gW (w := w0) HB hg; have NB196_203 := neL BK196 hg; have NB203_196 := neG BK196 hg; have NB198_203 := neL BK198 hg; have NB203_198 := neG BK198 hg; replace HO_197002 := Aside0.mk (Kd.R_below (Kd.R_elderB (viaR HO_197002) gb203 (Nat.le_of_eq hg.symm)) hb); replace BK196 := kB BK196 hb; replace BK198 := kB BK198 hb; replace HK := Aside0.mk (Kept.below (S := (fun k_ => P0_2_ k_)) (viaT HK) hb); replace HB := bB HB hb; clear hb hbox hg; have hnb59 := NB203_196.out; have hnc59 := NB196_203.out; have hnb60 := NB203_198.out; have hnc60 := NB198_203.out; have hcz61_0 := bc0 BK203; have hcz61_1 := bc1 BK203; have hfz61_0 := blk_frozen BK203.out 0; have hfz61_1 := blk_frozen BK203.out 1))
           have n0_ : Aside0 (Kd.R k89 89 ((w58.setCell ⟨gb203, 0, none⟩ (.int .i64 ((rd_T89 x197002_1 x29_1).f0))).setCell ⟨gb203, 1, none⟩ (.int .i64 ((rd_T89 x197002_1 x29_1).f1))) w0.heap.size (fun k_ => (P0_2_ k_ ∨ w.heap.size ≤ k_) ∧ k_ ≠ gb198 ∧ k_ ≠ gb203) (.slice (some ad197) x197002_1.length co20) x197002_1) := ⟨by (with_reducible repeat (first | apply Kd.R_alloc | apply Kd.R_drewN | apply Kd.R_drew)); exact Kd.R_mono (Kd.R_far (p := ⟨gb203, 1, none⟩) (Kd.R_far (p := ⟨gb203, 0, none⟩) (Kd.R_mono HO_197002.out (fun k_ hk => (⟨hk, hk.2⟩ : _ ∧ k_ ≠ gb203))) (fun _ hk => hk.2) (.int .i64 ((rd_T89 x197002_1 x29_1).f0))) (fun _ hk => hk.2) (.int .i64 ((rd_T89 x197002_1 x29_1).f1))) (fun _ hk => ⟨hk.1.1.1, ⟨hk.1.1.2, hk.1.2⟩⟩)⟩
           have n1_ : Aside0 (((w58.setCell ⟨gb203, 0, none⟩ (.int .i64 ((rd_T89 x197002_1 x29_1).f0))).setCell ⟨gb203, 1, none⟩ (.int .i64 ((rd_T89 x197002_1 x29_1).f1))).heap[gb196]? = some (.cells #[.int .i64 a0_0, .int .i64 a0_1, .slice (some ad197) x197002_1.length co20] 32 (0, 0))) := ⟨by (with_reducible repeat (first | refine blk_drewN ?_ _ | refine blk_drew ?_ | refine blk_alloc ?_ _)); refine blk_far ?_ NB196_203.out _; (with_reducible repeat (first | refine blk_drewN ?_ _ | refine blk_drew ?_ | refine blk_alloc ?_ _)); refine blk_far ?_ NB196_203.out _; (with_reducible repeat (first | refine blk_drewN ?_ _ | refine blk_drew ?_ | refine blk_alloc ?_ _)); exact BK196.out⟩
           have n2_ : Aside0 (((w58.setCell ⟨gb203, 0, none⟩ (.int .i64 ((rd_T89 x197002_1 x29_1).f0))).setCell ⟨gb203, 1, none⟩ (.int .i64 ((rd_T89 x197002_1 x29_1).f1))).heap[gb198]? = some (.cells #[.int .i64 x199000_1, .int .i64 x199001_1] 89 (0, 0))) := ⟨by (with_reducible repeat (first | refine blk_drewN ?_ _ | refine blk_drew ?_ | refine blk_alloc ?_ _)); refine blk_far ?_ NB198_203.out _; (with_reducible repeat (first | refine blk_drewN ?_ _ | refine blk_drew ?_ | refine blk_alloc ?_ _)); refine blk_far ?_ NB198_203.out _; (with_reducible repeat (first | refine blk_drewN ?_ _ | refine blk_drew ?_ | refine blk_alloc ?_ _)); exact BK198.out⟩
           have n3_ : Aside0 (((w58.setCell ⟨gb203, 0, none⟩ (.int .i64 ((rd_T89 x197002_1 x29_1).f0))).setCell ⟨gb203, 1, none⟩ (.int .i64 ((rd_T89 x197002_1 x29_1).f1))).heap[gb203]? = some (.cells #[.int .i64 ((rd_T89 x197002_1 x29_1).f0), .int .i64 ((rd_T89 x197002_1 x29_1).f1)] 89 (0, 0))) := ⟨by (with_reducible repeat (first | refine blk_drewN ?_ _ | refine blk_drew ?_ | refine blk_alloc ?_ _)); refine blk_put (cs := #[.int .i64 ((rd_T89 x197002_1 x29_1).f0), .int .i64 0]) ?_ 1 _ rfl; (with_reducible repeat (first | refine blk_drewN ?_ _ | refine blk_drew ?_ | refine blk_alloc ?_ _)); refine blk_put (cs := #[.int .i64 0, .int .i64 0]) ?_ 0 _ rfl; (with_reducible repeat (first | refine blk_drewN ?_ _ | refine blk_drew ?_ | refine blk_alloc ?_ _)); exact BK203.out⟩
           have n4_ : Aside0 (Kept w ((w58.setCell ⟨gb203, 0, none⟩ (.int .i64 ((rd_T89 x197002_1 x29_1).f0))).setCell ⟨gb203, 1, none⟩ (.int .i64 ((rd_T89 x197002_1 x29_1).f1))) (fun k_ => P0_2_ k_)) := ⟨viaT HK⟩
           have n5_ : Aside0 (Below w0.heap.size w0 ((w58.setCell ⟨gb203, 0, none⟩ (.int .i64 ((rd_T89 x197002_1 x29_1).f0))).setCell ⟨gb203, 1, none⟩ (.int .i64 ((rd_T89 x197002_1 x29_1).f1)))) := ⟨viaB HB⟩
           (try clear HO_197002); (try clear BK196); (try clear BK198); (try clear BK203); (try clear HK); (try clear HB)
           generalize ((w58.setCell ⟨gb203, 0, none⟩ (.int .i64 ((rd_T89 x197002_1 x29_1).f0))).setCell ⟨gb203, 1, none⟩ (.int .i64 ((rd_T89 x197002_1 x29_1).f1))) = w62 at n0_ n1_ n2_ n3_ n4_ n5_ ⊢
           have HO_197002 := n0_
           have BK196 := n1_
           have BK198 := n2_
           have BK203 := n3_
           have HK := n4_
           have HB := n5_
           clear n0_ n1_ n2_ n3_ n4_ n5_
           replace HO_197002 := Aside0.mk (Kd.R_drew HO_197002.out)
           replace BK196 := Aside0.mk (blk_drew BK196.out)
           replace BK198 := Aside0.mk (blk_drew BK198.out)
           replace BK203 := Aside0.mk (blk_drew BK203.out)
           replace HK := Aside0.mk (Kept.drew HK.out)
           replace HB := Aside0.mk (below_drew1 HB.out)
           refine start_ (n := 14) (S := fun w' => w'.cell? ⟨gb203, 0, none⟩ = some (.int .i64 ((rd_T89 x197002_1 x29_1).f0)) ∧ w'.cell? ⟨gb203, 1, none⟩ = some (.int .i64 ((rd_T89 x197002_1 x29_1).f1))) (ds := []) #[false, false, false, false, false, false, false, false, false, false, false, false, false, false] (by kernel_rfl) rfl rfl ⟨(blk_cell BK203.out 0).trans rfl, (blk_cell BK203.out 1).trans rfl⟩ (fun hHeld => ?_); refine with_tabW spec_flPass.tab9 spec_flPass.bits9 (fun HT_ HW_ => ?_)
           generalize w62.drew = w63 at HO_197002 BK196 BK198 BK203 HK HB hHeld ⊢
           refine pure_ (i := 0) (N := some 34) (v := ?_) (a' := ?_) #[true, false, false, false, false, false, false, false, false, false, false, false, false, false] rfl rfl (any_of HT_.out (by kernel_rfl)) (fun _ _ _ h => h) (Or.inl ⟨by rfl, ?_⟩) ?_ ?_
           rotate_left
           ·intro w'
            go_simp
            with_reducible rfl
           rotate_left
           ·simp only [Act.put, q1, q2, q3, i64_w, i32_w]
            rfl
           refine take_ (i := 1) (N := some 35) (v := ?_) (a' := ?_) #[true, true, false, false, false, false, false, false, false, false, false, false, false, false] rfl rfl (take_ofW HT_.out HW_.out (by kernel_rfl)) (fun _ _ _ h => h) (Or.inl ⟨by rfl, ?_⟩) hHeld ?_ ?_
           rotate_left
           ·rintro w' ⟨s0, s1⟩
            go_simp
            with_reducible rfl
           rotate_left
           ·simp only [Act.put, q1, q2, q3, i64_w, i32_w]
            rfl
           refine pure_ (i := 2) (N := some 36) (v := ?_) (a' := ?_) #[true, true, true, false, false, false, false, false, false, false, false, false, false, false] rfl rfl (any_of HT_.out (by kernel_rfl)) (fun _ _ _ h => h) (Or.inl ⟨by rfl, ?_⟩) ?_ ?_
           rotate_left
           ·intro w'
            go_simp
            with_reducible rfl
           rotate_left
           ·simp only [Act.put, q1, q2, q3, i64_w, i32_w]
            rfl
           refine pure_ (i := 3) (N := some 37) (v := ?_) (a' := ?_) #[true, true, true, true, false, false, false, false, false, false, false, false, false, false] rfl rfl (any_of HT_.out (by kernel_rfl)) (fun _ _ _ h => h) (Or.inl ⟨by rfl, ?_⟩) ?_ ?_
           rotate_left
           ·intro w'
            go_simp
            with_reducible rfl
           rotate_left
           ·simp only [Act.put, q1, q2, q3, i64_w, i32_w]
            rfl
           refine pure_ (i := 4) (N := some 38) (v := undef) (a' := ?_) #[true, true, true, true, true, false, false, false, false, false, false, false, false, false] rfl rfl (any_of HT_.out (by kernel_rfl)) (fun _ _ _ h => h) (Or.inr ⟨by rfl, rfl⟩) ?_ ?_
           rotate_left
           ·simp only [Act.put, q1, q2, q3, i64_w, i32_w]
            rfl
           refine pure_ (i := 5) (N := some 39) (v := undef) (a' := ?_) #[true, true, true, true, true, true, false, false, false, false, false, false, false, false] rfl rfl (any_of HT_.out (by kernel_rfl)) (fun _ _ _ h => h) (Or.inr ⟨by rfl, rfl⟩) ?_ ?_
           rotate_left
           ·simp only [Act.put, q1, q2, q3, i64_w, i32_w]
            rfl
           refine pure_ (i := 6) (N := some 40) (v := undef) (a' := ?_) #[true, true, true, true, true, true, true, false, false, false, false, false, false, false] rfl rfl (any_of HT_.out (by kernel_rfl)) (fun _ _ _ h => h) (Or.inr ⟨by rfl, rfl⟩) ?_ ?_
           rotate_left
           ·simp only [Act.put, q1, q2, q3, i64_w, i32_w]
            rfl
           refine pure_ (i := 7) (N := some 41) (v := undef) (a' := ?_) #[true, true, true, true, true, true, true, true, false, false, false, false, false, false] rfl rfl (any_of HT_.out (by kernel_rfl)) (fun _ _ _ h => h) (Or.inr ⟨by rfl, rfl⟩) ?_ ?_
           rotate_left
           ·simp only [Act.put, q1, q2, q3, i64_w, i32_w]
            rfl
           refine pure_ (i := 8) (N := some 42) (v := undef) (a' := ?_) #[true, true, true, true, true, true, true, true, true, false, false, false, false, false] rfl rfl (any_of HT_.out (by kernel_rfl)) (fun _ _ _ h => h) (Or.inr ⟨by rfl, rfl⟩) ?_ ?_
           rotate_left
           ·simp only [Act.put, q1, q2, q3, i64_w, i32_w]
            rfl
           refine pure_ (i := 9) (N := some 43) (v := undef) (a' := ?_) #[true, true, true, true, true, true, true, true, true, true, false, false, false, false] rfl rfl (any_of HT_.out (by kernel_rfl)) (fun _ _ _ h => h) (Or.inr ⟨by rfl, rfl⟩) ?_ ?_
           rotate_left
           ·simp only [Act.put, q1, q2, q3, i64_w, i32_w]
            rfl
           refine pure_ (i := 10) (N := some 44) (v := undef) (a' := ?_) #[true, true, true, true, true, true, true, true, true, true, true, false, false, false] rfl rfl (any_of HT_.out (by kernel_rfl)) (fun _ _ _ h => h) (Or.inr ⟨by rfl, rfl⟩) ?_ ?_
           rotate_left
           ·simp only [Act.put, q1, q2, q3, i64_w, i32_w]
            rfl
           refine pure_ (i := 11) (N := some 45) (v := undef) (a' := ?_) #[true, true, true, true, true, true, true, true, true, true, true, true, false, false] rfl rfl (any_of HT_.out (by kernel_rfl)) (fun _ _ _ h => h) (Or.inr ⟨by rfl, rfl⟩) ?_ ?_
           rotate_left
           ·simp only [Act.put, q1, q2, q3, i64_w, i32_w]
            rfl
           refine pure_ (i := 12) (N := some 46) (v := undef) (a' := ?_) #[true, true, true, true, true, true, true, true, true, true, true, true, true, false] rfl rfl (any_of HT_.out (by kernel_rfl)) (fun _ _ _ h => h) (Or.inr ⟨by rfl, rfl⟩) ?_ ?_
           rotate_left
           ·simp only [Act.put, q1, q2, q3, i64_w, i32_w]
            rfl
           refine pure_ (i := 13) (N := some 47) (v := ?_) (a' := ?_) #[true, true, true, true, true, true, true, true, true, true, true, true, true, true] rfl rfl (any_of HT_.out (by kernel_rfl)) (fun _ _ _ h => h) (Or.inl ⟨by rfl, ?_⟩) ?_ ?_
           rotate_left
           ·intro w'
            go_simp
            with_reducible rfl
           rotate_left
           ·simp only [Act.put, q1, q2, q3, i64_w, i32_w]
            rfl
           refine done_ (done_of HT_.out (by kernel_rfl)) ?_
           try go_wp2
           (try simp only [← hl197002_1])
           go_roundg k1
           case measure => have := HK1.out; omega
           case rel => exact ⟨(wrap64 (x29_1 + 1)), (x197002_1), (x199000_1), (x199001_1), (by first | rfl | (simp; done) | (simp [*]; done)), H', ⟨by have := HK1.out; omega⟩, ⟨by (try simp only [hl197002_1]); (with_reducible repeat (first | apply Kd.R_alloc | apply Kd.R_drewN | apply Kd.R_drew)); exact Kd.R_mono HO_197002.out (fun _ hk => ⟨hk.1, hk.2.1⟩)⟩, ⟨by (try simp only [hl197002_1]); (with_reducible repeat (first | refine blk_drewN ?_ _ | refine blk_drew ?_ | refine blk_alloc ?_ _)); exact BK196.out⟩, ⟨by (try simp only [hl197002_1]); (with_reducible repeat (first | refine blk_drewN ?_ _ | refine blk_drew ?_ | refine blk_alloc ?_ _)); exact BK198.out⟩, ⟨viaT HK⟩, ⟨viaB HB⟩⟩
         ·rw [if_neg c29] at H
          exact absurd H (by simp)
        ·rw [if_neg c28] at H
         exact absurd H (by simp)
       ·rw [if_neg c27] at H
        have c27b0 := decide_eq_false c27
        (try simp only [hl197002_1] at c27b0)
        clear c27
        obtain rfl := Option.some.inj H
        go_wp2
        first | go_end0 | ((try simp only [Exit.inBlock, Exit.then]); refine bodyPost_ret (results_none rfl _ _ _) rfl ?_)
        exact ⟨by first | rfl | (simp [errW_none, errW_some] <;> rfl) | (simp [*, errW_none, errW_some] <;> rfl), (by first | exact (by (with_reducible repeat (first | apply Kd.R_alloc | apply Kd.R_drewN | apply Kd.R_drew)); exact Kd.R_mono HO_197002.out (fun _ hk => hk.1)) | (simp only [hl197002_1]; exact (by (with_reducible repeat (first | apply Kd.R_alloc | apply Kd.R_drewN | apply Kd.R_drew)); exact Kd.R_mono HO_197002.out (fun _ hk => hk.1)))), viaB HB, viaT HK⟩
    ·rw [if_neg c19] at H
     have c19b0 := beq_eq_false_iff_ne.mpr c19
     have c19b1 := bne_iff_ne.mpr c19
     obtain rfl := Option.some.inj H
     obtain ⟨Ao64, co64, eo64⟩ := Kd.R_slice HO0_2.out
     subst eo64
     go_enter Try.func85, Try.ntmps85
     go_wp2_with (first | ((with_reducible refine gate_dst (N := 3) rfl ?_); refine box_ev (N := 3) (cs := #[.int .i64 a0_0, .int .i64 a0_1, .slice Ao64 l0_2.length co64]) (t := 32) ?_; intro gb196 hg w65 hbox hb; have BK196 := Aside0.mk (hbox); have GW196 := Aside0.mk ((by rw [hg]; exact (by first | exact HK.out.1 | exact (show Kept w _ (fun k_ => P0_2_ k_) from viaT HK).1) : w.heap.size ≤ gb196)); have GE196 := gW (w := w0) HB hg; replace HO0_2 := Aside0.mk (Kd.R_below (viaR HO0_2) hb); replace HK := Aside0.mk (Kept.below (S := (fun k_ => P0_2_ k_)) (viaT HK) hb); replace HB := bB HB hb; clear hb hbox hg; have hcz66_0 := bc0 BK196; have hcz66_1 := bc1 BK196; have hcz66_2 := bc2 BK196; have hfz66_0 := blk_frozen BK196.out 0; have hfz66_1 := blk_frozen BK196.out 1; have hfz66_2 := blk_frozen BK196.out 2; have p197 : 0 ≤ (a2 : Int) := ofD; have q197 : a2 < (l0_2.length : Int) := ofD; obtain ⟨ad197, e197, hx197_0, hx197_1⟩ := at_T89 (Kd.R_reads' HO0_2.out).2.2 a2 p197 q197; cases e197; replace p197 := eq_true p197; replace q197 := eq_true q197) | ((with_reducible refine gate_dst (N := 6) rfl ?_); refine box_ev (N := 6) (cs := #[.int .i64 0, .int .i64 0]) (t := 89) ?_; intro gb198 hg w67 hbox hb; have BK198 := Aside0.mk (hbox); have GW198 := Aside0.mk ((by rw [hg]; exact (by first | exact HK.out.1 | exact (show Kept w _ (fun k_ => P0_2_ k_) from viaT HK).1) : w.heap.size ≤ gb198)); have GE198 := gW (w := w0) HB hg; have NB196_198 := neL BK196 hg; have NB198_196 := neG BK196 hg; replace HO0_2 := Aside0.mk (Kd.R_below (Kd.R_elderB (viaR HO0_2) gb198 (Nat.le_of_eq hg.symm)) hb); replace BK196 := kB BK196 hb; replace HK := Aside0.mk (Kept.below (S := (fun k_ => P0_2_ k_)) (viaT HK) hb); replace HB := bB HB hb; clear hb hbox hg; have hnb68 := NB198_196.out; have hnc68 := NB196_198.out; have hcz69_0 := bc0 BK198; have hcz69_1 := bc1 BK198; have hfz69_0 := blk_frozen BK198.out 0; have hfz69_1 := blk_frozen BK198.out 1))
     first | go_end0 | ((try simp only [Exit.inBlock, Exit.then]); refine bodyPost_ret (results_none rfl _ _ _) rfl ?_)
     exact ⟨by first | rfl | (simp [errW_none, errW_some] <;> rfl) | (simp [*, errW_none, errW_some] <;> rfl), by (with_reducible repeat (first | apply Kd.R_alloc | apply Kd.R_drewN | apply Kd.R_drew)); exact Kd.R_mono (Kd.R_far (p := ⟨gb198, 1, none⟩) (Kd.R_far (p := ⟨gb198, 0, none⟩) (Kd.R_mono HO0_2.out (fun k_ hk => (⟨hk, hk.2⟩ : _ ∧ k_ ≠ gb198))) (fun _ hk => hk.2) (.int .i64 ((rd_T89 l0_2 a2).f0))) (fun _ hk => hk.2) (.int .i64 ((rd_T89 l0_2 a2).f1))) (fun _ hk => hk.1.1), viaB HB, viaT HK⟩
  ·rw [if_neg c5] at H
   exact absurd H (by simp)
 ·rw [if_neg c4] at H
  exact absurd H (by simp)

end Go.Proofs.Ytoklfgjemfojgaa.PFnExactBoardAfter
