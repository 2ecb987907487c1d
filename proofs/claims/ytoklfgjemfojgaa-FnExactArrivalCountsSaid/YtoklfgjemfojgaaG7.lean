/- This text began as one that print.sh wrote for this seat (of the functions named below); it is this session's own: turned where Lean did not take the printed proof, where it was too long for a claim, or only in what it imports. -/
import Derived.Test.YtoklfgjemfojgaaG0
import Derived.Test.YtoklfgjemfojgaaG6
namespace Go.Proofs.Ytoklfgjemfojgaa.PAll
open Go.RowKit Go.Proofs.YtoklfgjemfojgaaW.PrintWords Go.Proofs.YtoklfgjemfojgaaW.PrintLast Go.Proofs.YtoklfgjemfojgaaW.PrintMore
attribute [local go_sem] max2_int min2_int max_two min_two max_three min_three max_four min_four   -- for this text's walks alone
set_option linter.unusedVariables false
set_option linter.unusedSimpArgs false

/-! ### spec_flPass: function 85 -/
def spec_flPass.l0 : Nat → List Int → Int → Int → Int → Int → Int → List (S89) → Option ((List (S89)))
 | 0, _, _, _, _, _, _, _ => none
 | k + 1, x1, x2, x28, x29, x184000, x184001, x184002 => if x29 < x28 then (if 0 ≤ x29 then (if x29 < (x184002.length : Int) then (if ((rd_T89 x184002 x29).f0) = 6 then (if x29 < (x1.length : Int) then (if 0 ≤ x2 then (if x2 < (x1.length : Int) then (if (rd x1 x29) = (rd x1 x2) then ((spec_paTurn.f ((rd_T89 x184002 x29).f0) ((rd_T89 x184002 x29).f1)).bind fun bt193 => (spec_flPass.l0 k x1 x2 x28 (wrap64 (x29 + 1)) x184000 x184001 (x184002.set (x29 : Int).toNat (⟨bt193.1, bt193.2⟩ : S89)))) else (spec_flPass.l0 k x1 x2 x28 (wrap64 (x29 + 1)) x184000 x184001 x184002)) else (none)) else (none)) else (none)) else (spec_flPass.l0 k x1 x2 x28 (wrap64 (x29 + 1)) x184000 x184001 x184002)) else (none)) else (none)) else (some x184002)
def spec_flPass.f (k : Nat) (a0_0 : Int) (a0_1 : Int) (l0_2 : List (S89)) (l1 : List Int) (a2 : Int) : Option ((List (S89))) := if 0 ≤ a2 then (if a2 < (l0_2.length : Int) then (if ((rd_T89 l0_2 a2).f0) = 3 then ((spec_paTurn.f ((rd_T89 l0_2 a2).f0) ((rd_T89 l0_2 a2).f1)).bind fun bt186 => (some (l0_2.set (a2 : Int).toNat (⟨bt186.1, bt186.2⟩ : S89)))) else (if ((rd_T89 l0_2 a2).f0) = 6 then (spec_flPass.l0 k l1 a2 (l0_2.length : Int) 0 a0_0 a0_1 l0_2) else (some l0_2))) else (none)) else (none)
theorem spec_flPass.mono_l : ∀ k, (∀ y0 y1 y2 y3 y4 y5 y6, LeO (spec_flPass.l0 k y0 y1 y2 y3 y4 y5 y6) (spec_flPass.l0 (k + 1) y0 y1 y2 y3 y4 y5 y6))
 | 0 => fun _ _ _ _ _ _ _ r h => by simp [spec_flPass.l0] at h
 | k + 1 => by
  have ih0 := spec_flPass.mono_l k
  ·intro y0 y1 y2 y3 y4 y5 y6
   unfold spec_flPass.l0
   repeat' first | (with_reducible first | exact ih0 _ _ _ _ _ _ _ | exact LeO.refl _ | exact LeO.none _ | refine LeO.ite ?_ ?_ | refine LeO.bind ?_ (fun _ => ?_)) | exact ih0 _ _ _ _ _ _ _ | exact LeO.none _ | refine LeO.ite ?_ ?_ | refine LeO.bind ?_ (fun _ => ?_)
theorem spec_flPass.mono : ∀ a0 a1 a2 a3 a4 k, LeO (spec_flPass.f k a0 a1 a2 a3 a4) (spec_flPass.f (k + 1) a0 a1 a2 a3 a4) := by
 intro a0 a1 a2 a3 a4 k
 have ih0 := spec_flPass.mono_l k
 unfold spec_flPass.f
 repeat' first | (with_reducible first | exact ih0 _ _ _ _ _ _ _ | exact LeO.refl _ | exact LeO.none _ | refine LeO.ite ?_ ?_ | refine LeO.bind ?_ (fun _ => ?_)) | exact ih0 _ _ _ _ _ _ _ | exact LeO.none _ | refine LeO.ite ?_ ?_ | refine LeO.bind ?_ (fun _ => ?_)
def spec_flPass.T9 : Bool × List (List Nat × List Nat) := (true, [([], []), ([0], [0]), ([1], [1]), ([2], [2]), ([3], [3]), ([3], [3]), ([4, 5, 3], [3, 4, 5]), ([6, 3], [3, 6]), ([3], [3]), ([3], [3]), ([8, 9, 3], [3, 8, 9]), ([10, 3], [3, 10]), ([7, 11, 3], [3, 7, 11]), ([3, 12], [3, 12])])
def spec_flPass.B9 : List Nat := [0, 1, 3, 7, 15, 15, 63, 127, 15, 15, 783, 1807, 4095, 8191]
theorem spec_flPass.tab9 : rtab .any (opsOf Try.f85 9) = spec_flPass.T9 := by kernel_rfl
theorem spec_flPass.bits9 : waitsOk spec_flPass.T9.2 spec_flPass.B9 = true := by kernel_rfl
set_option maxHeartbeats 8000000 in
set_option maxRecDepth 100000 in
theorem spec_flPass.calls (k : Nat) (a0_0 : Int) (a0_1 : Int) (P0_2_ : Nat → Prop) (u9000_ : Value) (l0_2 : List (S89)) (A1 : Option Addr) (c1 : Nat) (l1 : List Int) (a2 : Int) (r : List (S89)) (w0 w : World) (hB : Below w0.heap.size w0 w) (ho0_2 : Kd.R k89 89 w w0.heap.size P0_2_ u9000_ l0_2) (hr1 : ∀ W_, Kept w W_ (fun k_ => P0_2_ k_) → Kd.C (Kd.int .i64) W_ A1 l1.length l1) (hc1 : l1.length ≤ c1) (h : spec_flPass.f k a0_0 a0_1 l0_2 l1 a2 = some r) :
  Calls Try.prog 85 #[.agg #[.int .i64 a0_0, .int .i64 a0_1, u9000_], .slice A1 l1.length c1, .int .i64 a2] w fun e w' => e = .returned (.tuple #[]) ∧ Kd.R k89 89 w' w0.heap.size (fun k_ => (P0_2_ k_ ∨ w.heap.size ≤ k_)) u9000_ r ∧ Below w0.heap.size w0 w' ∧ Kept w w' (fun k_ => P0_2_ k_) := by
 have hu32 := Try.underlying32
 have hu89 := Try.underlying89
 have HO0_2 := Aside0.mk (show Kd.R k89 89 w w0.heap.size (fun k_ => (P0_2_ k_ ∨ w.heap.size ≤ k_)) u9000_ l0_2 from Kd.R_mono ho0_2 (fun k_ hk => (.inl hk)))
 have HR1 := Aside0.mk hr1
 have HC1 := Aside0.mk hc1
 clear hr1 hc1
 have HK := Aside0.mk (Kept.refl w (fun k_ => P0_2_ k_))
 have HW0 := Aside0.mk hB.size
 have HB := Aside0.mk hB
 clear hB
 have H : (if 0 ≤ a2 then (if a2 < (l0_2.length : Int) then (if ((rd_T89 l0_2 a2).f0) = 3 then ((spec_paTurn.f ((rd_T89 l0_2 a2).f0) ((rd_T89 l0_2 a2).f1)).bind fun bt186 => (some (l0_2.set (a2 : Int).toNat (⟨bt186.1, bt186.2⟩ : S89)))) else (if ((rd_T89 l0_2 a2).f0) = 6 then (spec_flPass.l0 k l1 a2 (l0_2.length : Int) 0 a0_0 a0_1 l0_2) else (some l0_2))) else (none)) else (none)) = some r := h
 clear h
 by_cases c4 : 0 ≤ a2
 ·rw [if_pos c4] at H
  have c4b0 := decide_eq_true c4
  clear c4
  by_cases c5 : a2 < (l0_2.length : Int)
  ·rw [if_pos c5] at H
   have c5b0 := decide_eq_true c5
   clear c5
   by_cases c6 : ((rd_T89 l0_2 a2).f0) = 3
   ·rw [if_pos c6] at H
    have c6b0 := beq_iff_eq.mpr c6
    have c6b1 := bne_eq_false_iff_eq.mpr c6
    clear c6
    replace H := Option.bind_eq_some_iff.mp H
    obtain ⟨⟨t186, t187⟩, A70, H⟩ := H
    replace H : (some (l0_2.set (a2 : Int).toNat (⟨t186, t187⟩ : S89))) = some r := H
    have A7 := Aside0.mk A70
    clear A70
    obtain ⟨y188, hy188⟩ : ∃ y_ : List (S89), y_ = (l0_2.set (a2 : Int).toNat (⟨t186, t187⟩ : S89)) := ⟨_, rfl⟩
    replace H : (some y188) = some r := by first | (rw [hy188]; with_reducible exact H) | (have H2_ := (Option.bind_some _ _).symm.trans H; rw [hy188]; with_reducible exact H2_) | (have H2_ := (Option.bind_some _ _).symm.trans H; with_reducible exact H2_) | with_reducible exact H | (rw [hy188]; exact H) | exact H
    have Ny188 := Aside0.mk hy188
    clear hy188
    obtain rfl := Option.some.inj H
    obtain ⟨Ao9, co9, eo9⟩ := Kd.R_slice HO0_2.out
    subst eo9
    go_enter Try.func85, Try.ntmps85
    try go_wp2_with (first | ((with_reducible refine gate_dst (N := 3) rfl ?_); refine box_ev (N := 3) (cs := #[.int .i64 a0_0, .int .i64 a0_1, .slice Ao9 l0_2.length co9]) (t := 32) ?_; intro gb183 hg w10 hbox hb; have BK183 := Aside0.mk (hbox); have GW183 := Aside0.mk ((by rw [hg]; exact (by first | exact HK.out.1 | exact (show Kept w _ (fun k_ => P0_2_ k_) from viaT HK).1) : w.heap.size ≤ gb183)); have GE183 := gW (w := w0) HB hg; replace HO0_2 := Aside0.mk (Kd.R_below (viaR HO0_2) hb); replace HK := Aside0.mk (Kept.below (S := (fun k_ => P0_2_ k_)) (viaT HK) hb); replace HB := bB HB hb; clear hb hbox hg; have hcz11_0 := bc0 BK183; have hcz11_1 := bc1 BK183; have hcz11_2 := bc2 BK183; have hfz11_0 := blk_frozen BK183.out 0; have hfz11_1 := blk_frozen BK183.out 1; have hfz11_2 := blk_frozen BK183.out 2; have p184 : 0 ≤ (a2 : Int) := ofD; have q184 : a2 < (l0_2.length : Int) := ofD; obtain ⟨ad184, e184, hx184_0, hx184_1⟩ := at_T89 (Kd.R_reads' HO0_2.out).2.2 a2 p184 q184; cases e184; replace p184 := eq_true p184; replace q184 := eq_true q184) | ((with_reducible refine gate_dst (N := 6) rfl ?_); refine box_ev (N := 6) (cs := #[.int .i64 0, .int .i64 0]) (t := 89) ?_; intro gb185 hg w12 hbox hb; have BK185 := Aside0.mk (hbox); have GW185 := Aside0.mk ((by rw [hg]; exact (by first | exact HK.out.1 | exact (show Kept w _ (fun k_ => P0_2_ k_) from viaT HK).1) : w.heap.size ≤ gb185)); have GE185 := gW (w := w0) HB hg; have NB183_185 := neL BK183 hg; have NB185_183 := neG BK183 hg; replace HO0_2 := Aside0.mk (Kd.R_below (Kd.R_elderB (viaR HO0_2) gb185 (Nat.le_of_eq hg.symm)) hb); replace BK183 := kB BK183 hb; replace HK := Aside0.mk (Kept.below (S := (fun k_ => P0_2_ k_)) (viaT HK) hb); replace HB := bB HB hb; clear hb hbox hg; have hnb13 := NB185_183.out; have hnc13 := NB183_185.out; have hcz14_0 := bc0 BK185; have hcz14_1 := bc1 BK185; have hfz14_0 := blk_frozen BK185.out 0; have hfz14_1 := blk_frozen BK185.out 1))
    have n0_ : Aside0 (Kd.R k89 89 ((w12.setCell ⟨gb185, 0, none⟩ (.int .i64 ((rd_T89 l0_2 a2).f0))).setCell ⟨gb185, 1, none⟩ (.int .i64 ((rd_T89 l0_2 a2).f1))) w0.heap.size (fun k_ => (P0_2_ k_ ∨ w.heap.size ≤ k_) ∧ k_ ≠ gb185) (.slice (some ad184) l0_2.length co9) l0_2) := ⟨by (with_reducible repeat (first | apply Kd.R_alloc | apply Kd.R_drewN | apply Kd.R_drew)); exact Kd.R_mono (Kd.R_far (p := ⟨gb185, 1, none⟩) (Kd.R_far (p := ⟨gb185, 0, none⟩) (Kd.R_mono HO0_2.out (fun k_ hk => (⟨hk, hk.2⟩ : _ ∧ k_ ≠ gb185))) (fun _ hk => hk.2) (.int .i64 ((rd_T89 l0_2 a2).f0))) (fun _ hk => hk.2) (.int .i64 ((rd_T89 l0_2 a2).f1))) (fun _ hk => ⟨hk.1.1, hk.1.2⟩)⟩
    have n1_ : Aside0 (((w12.setCell ⟨gb185, 0, none⟩ (.int .i64 ((rd_T89 l0_2 a2).f0))).setCell ⟨gb185, 1, none⟩ (.int .i64 ((rd_T89 l0_2 a2).f1))).heap[gb183]? = some (.cells #[.int .i64 a0_0, .int .i64 a0_1, .slice (some ad184) l0_2.length co9] 32 (0, 0))) := ⟨by (with_reducible repeat (first | refine blk_drewN ?_ _ | refine blk_drew ?_ | refine blk_alloc ?_ _)); refine blk_far ?_ NB183_185.out _; (with_reducible repeat (first | refine blk_drewN ?_ _ | refine blk_drew ?_ | refine blk_alloc ?_ _)); refine blk_far ?_ NB183_185.out _; (with_reducible repeat (first | refine blk_drewN ?_ _ | refine blk_drew ?_ | refine blk_alloc ?_ _)); exact BK183.out⟩
    have n2_ : Aside0 (((w12.setCell ⟨gb185, 0, none⟩ (.int .i64 ((rd_T89 l0_2 a2).f0))).setCell ⟨gb185, 1, none⟩ (.int .i64 ((rd_T89 l0_2 a2).f1))).heap[gb185]? = some (.cells #[.int .i64 ((rd_T89 l0_2 a2).f0), .int .i64 ((rd_T89 l0_2 a2).f1)] 89 (0, 0))) := ⟨by (with_reducible repeat (first | refine blk_drewN ?_ _ | refine blk_drew ?_ | refine blk_alloc ?_ _)); refine blk_put (cs := #[.int .i64 ((rd_T89 l0_2 a2).f0), .int .i64 0]) ?_ 1 _ rfl; (with_reducible repeat (first | refine blk_drewN ?_ _ | refine blk_drew ?_ | refine blk_alloc ?_ _)); refine blk_put (cs := #[.int .i64 0, .int .i64 0]) ?_ 0 _ rfl; (with_reducible repeat (first | refine blk_drewN ?_ _ | refine blk_drew ?_ | refine blk_alloc ?_ _)); exact BK185.out⟩
    have n3_ : Aside0 (Kept w ((w12.setCell ⟨gb185, 0, none⟩ (.int .i64 ((rd_T89 l0_2 a2).f0))).setCell ⟨gb185, 1, none⟩ (.int .i64 ((rd_T89 l0_2 a2).f1))) (fun k_ => P0_2_ k_)) := ⟨viaT HK⟩
    have n4_ : Aside0 (Below w0.heap.size w0 ((w12.setCell ⟨gb185, 0, none⟩ (.int .i64 ((rd_T89 l0_2 a2).f0))).setCell ⟨gb185, 1, none⟩ (.int .i64 ((rd_T89 l0_2 a2).f1)))) := ⟨viaB HB⟩
    (try clear HO0_2); (try clear BK183); (try clear BK185); (try clear HK); (try clear HB)
    generalize ((w12.setCell ⟨gb185, 0, none⟩ (.int .i64 ((rd_T89 l0_2 a2).f0))).setCell ⟨gb185, 1, none⟩ (.int .i64 ((rd_T89 l0_2 a2).f1))) = w15 at n0_ n1_ n2_ n3_ n4_ ⊢
    have HO0_2 := n0_
    have BK183 := n1_
    have BK185 := n2_
    have HK := n3_
    have HB := n4_
    clear n0_ n1_ n2_ n3_ n4_
    replace HO0_2 := Aside0.mk (Kd.R_drew HO0_2.out)
    replace BK183 := Aside0.mk (blk_drew BK183.out)
    replace BK185 := Aside0.mk (blk_drew BK185.out)
    replace HK := Aside0.mk (Kept.drew HK.out)
    replace HB := Aside0.mk (below_drew1 HB.out)
    refine start_ (n := 7) (S := fun w' => w'.cell? ⟨gb183, 0, none⟩ = some (.int .i64 a0_0) ∧ w'.cell? ⟨gb183, 1, none⟩ = some (.int .i64 a0_1) ∧ w'.cell? ⟨gb183, 2, none⟩ = some (.slice (some ad184) l0_2.length co9) ∧ w'.cell? ⟨gb185, 0, none⟩ = some (.int .i64 ((rd_T89 l0_2 a2).f0)) ∧ w'.cell? ⟨gb185, 1, none⟩ = some (.int .i64 ((rd_T89 l0_2 a2).f1))) (ds := [6]) #[false, false, false, false, false, false, false] (by kernel_rfl) rfl rfl ⟨(blk_cell BK183.out 0).trans rfl, (blk_cell BK183.out 1).trans rfl, (blk_cell BK183.out 2).trans rfl, (blk_cell BK185.out 0).trans rfl, (blk_cell BK185.out 1).trans rfl⟩ (fun hHeld => ?_)
    generalize w15.drew = w16 at HO0_2 BK183 BK185 HK HB hHeld ⊢
    refine pure_ (i := 0) (N := some 18) (v := ?_) (a' := ?_) #[true, false, false, false, false, false, false] rfl rfl (by kernel_rfl) (fun _ _ _ h => h) (Or.inl ⟨by rfl, ?_⟩) ?_ ?_
    rotate_left
    ·intro w'
     go_simp
     with_reducible rfl
    rotate_left
    ·simp only [Act.put, q1, q2, q3, i64_w, i32_w]
     rfl
    refine pure_ (i := 2) (N := some 20) (v := ?_) (a' := ?_) #[true, false, true, false, false, false, false] rfl rfl (by kernel_rfl) (fun _ _ _ h => h) (Or.inl ⟨by rfl, ?_⟩) ?_ ?_
    rotate_left
    ·intro w'
     go_simp
     with_reducible rfl
    rotate_left
    ·simp only [Act.put, q1, q2, q3, i64_w, i32_w]
     rfl
    refine take_ (i := 1) (N := some 19) (v := ?_) (a' := ?_) #[true, true, true, false, false, false, false] rfl rfl (by kernel_rfl) (fun _ _ _ h => h) (Or.inl ⟨by rfl, ?_⟩) hHeld ?_ ?_
    rotate_left
    ·rintro w' ⟨s0, s1, s2, s3, s4⟩
     go_simp
     with_reducible rfl
    rotate_left
    ·simp only [Act.put, q1, q2, q3, i64_w, i32_w]
     rfl
    refine take_ (i := 3) (N := some 21) (v := ?_) (a' := ?_) #[true, true, true, true, false, false, false] rfl rfl (by kernel_rfl) (fun _ _ _ h => h) (Or.inl ⟨by rfl, ?_⟩) hHeld ?_ ?_
    rotate_left
    ·rintro w' ⟨s0, s1, s2, s3, s4⟩
     go_simp
     with_reducible rfl
    rotate_left
    ·simp only [Act.put, q1, q2, q3, i64_w, i32_w]
     rfl
    refine one_ (i := 4) (N := some 22) #[true, true, true, true, true, false, false] rfl rfl (by kernel_rfl) (by decide) (fun K hK => ?_)
    refine goes_ Try.func89 (by kernel_rfl) rfl #[.agg #[.int .i64 ((rd_T89 l0_2 a2).f0), .int .i64 ((rd_T89 l0_2 a2).f1)]] (by rfl) rfl rfl (by (try simp only [List.map_toArray, List.map_cons, List.map_nil]); first | done | rfl | (simp only [List.length_drop, List.length_take]; rfl)) ?_
    with_reducible refine (spec_paTurn.calls ((rd_T89 l0_2 a2).f0) ((rd_T89 l0_2 a2).f1) t186 t187 _ A7.out).mono ?_
    rintro e w17 ⟨rfl, hb⟩
    refine ⟨_, rfl, ?_⟩
    replace HO0_2 := Aside0.mk (Kd.R_below (viaR HO0_2) hb)
    replace BK183 := kB BK183 hb
    replace BK185 := kB BK185 hb
    replace HK := Aside0.mk (Kept.below (S := (fun k_ => P0_2_ k_)) (viaT HK) hb)
    replace HB := bB HB hb
    (try clear hb)
    have p8 : 0 ≤ (a2 : Int) := ofD
    have q8 : (a2 : Int) < ((l0_2.length : Int) : Int) := ofD
    obtain ⟨go8, co8, eo8, gb8, gl8, cl8, HG8⟩ := Kd.R_form HO0_2.out (by omega)
    (first | cases eo8 | (injection eo8 with ea_ en_ ec_; (first | subst ea_ | (injection ea_ with ea_; subst ea_)); subst ec_; clear en_))
    have GB8 := Aside0.mk gb8
    have GG8 := Aside0.mk HG8
    clear gb8 gl8 HG8
    have HMgo8 := Aside0.mk (show (P0_2_ go8 ∨ w.heap.size ≤ go8) from (HO0_2.out.1 _ rfl).1)
    (first | simp only [add_plain] at hx184_0 | skip)
    (first | simp only [add_plain] at hx184_1 | skip)
    obtain ⟨ce8, hcl8, hM8, hcc8, hfr8⟩ := Kd.R_elem HO0_2.out z89 (a2 : Int) p8 q8
    obtain rfl := k89_openM hM8
    have hx8_0 : World.cell? _ ⟨go8, (a2 : Int).toNat * 2, none⟩ = some (.int .i64 ((rd_T89 l0_2 a2).f0)) := hcc8 0 _ rfl
    have hx8_1 : World.cell? _ ⟨go8, (a2 : Int).toNat * 2 + 1, none⟩ = some (.int .i64 ((rd_T89 l0_2 a2).f1)) := hcc8 1 _ rfl
    have hf8_0 : World.frozen? _ ⟨go8, (a2 : Int).toNat * 2, none⟩ = false := hfr8 0
    have hf8_1 : World.frozen? _ ⟨go8, (a2 : Int).toNat * 2 + 1, none⟩ = false := hfr8 1
    (try clear hcl8); (try clear hcc8); (try clear hfr8); (try clear hM8)
    replace p8 := eq_true p8
    replace q8 := eq_true q8
    obtain ⟨ce18, hcl18, hM18, hcc18, hfr18⟩ := Kd.R_elem HO0_2.out z89 (a2 : Int) (ofD) (by have h_ : (a2 : Int) < ((l0_2.length : Int) : Int) := ofD; first | exact h_ | (have e_ := (Kd.R_reads' HO0_2.out).1; omega) | simpa using h_)
    obtain rfl := k89_openM hM18
    have HP18 := (Kd.R_seg HO0_2.out (a2 : Int) (ofD) (by have h_ : (a2 : Int) < ((l0_2.length : Int) : Int) := ofD; first | exact h_ | (have e_ := (Kd.R_reads' HO0_2.out).1; omega) | simpa using h_) (seg := [.int .i64 t186, .int .i64 t187]) (j := 0) hcl18 hcc18 (show 2 ≤ 2 from by decide) (x' := (⟨t186, t187⟩ : S89)) (k89_mkM _ _ _ (⟨t186, t187⟩ : S89) ) (fun _ hk => hk)).1
    rw [← Ny188.out] at HP18
    have HQ18 := Aside0.mk HP18
    (try clear hcl18); (try clear hcc18); (try clear hfr18); (try clear hM18); (try clear HP18)
    refine hK.out _ _ ⟨(blk_cell BK183.out 0).trans rfl, (blk_cell BK183.out 1).trans rfl, (blk_cell BK183.out 2).trans rfl, (blk_cell BK185.out 0).trans rfl, (blk_cell BK185.out 1).trans rfl⟩ (fun hHeld => ?_)
    clear hK K
    refine norm_ (a' := ?_) ?_ ?_
    rotate_left
    ·show Act.put _ (some 22) _ = _
     simp only [Act.put, q1, q2, q3, i64_w, i32_w]
     rfl
    refine pure_ (i := 5) (N := some 23) (v := ?_) (a' := ?_) #[true, true, true, true, true, true, false] rfl rfl (by kernel_rfl) (fun _ _ _ h => h) (Or.inl ⟨by rfl, ?_⟩) ?_ ?_
    rotate_left
    ·intro w'
     go_simp
     with_reducible rfl
    rotate_left
    ·simp only [Act.put, q1, q2, q3, i64_w, i32_w]
     rfl
    refine last_ (i := 6) (N := none) #[true, true, true, true, true, true, true] rfl rfl (by kernel_rfl) (by decide) (fun K hK => ?_)
    refine skip_ (w1 := ?_) (by rfl) rfl ?_ ?_
    rotate_left
    ·go_simp
     rfl
    refine hK.out _ _ ?_
    clear hK K
    refine done_ (by kernel_rfl) ?_
    try go_wp2
    first | go_end0 | ((try simp only [Exit.inBlock, Exit.then]); refine bodyPost_ret (results_none rfl _ _ _) rfl ?_)
    exact ⟨by first | rfl | (simp [errW_none, errW_some] <;> rfl) | (simp [*, errW_none, errW_some] <;> rfl), by (with_reducible repeat (first | apply Kd.R_alloc | apply Kd.R_drewN | apply Kd.R_drew)); exact Kd.R_mono HQ18.out (fun _ hk => hk.1), viaB HB, by repeat (first | (with_reducible first | exact HK.out | apply Kept.alloc | apply Kept.drewN | apply Kept.drew | refine Kept.setCell ?_ HMgo8.out _ | refine Kept.setCell ?_ HMgo8.out _ | refine Kept.setCell ?_ (.inr GW183.out) _ | refine Kept.setCell ?_ (.inr GW185.out) _) | exact HK.out)⟩
   ·rw [if_neg c6] at H
    have c6b0 := beq_eq_false_iff_ne.mpr c6
    have c6b1 := bne_iff_ne.mpr c6
    by_cases c19 : ((rd_T89 l0_2 a2).f0) = 6
    ·rw [if_pos c19] at H
     have c19b0 := beq_iff_eq.mpr c19
     have c19b1 := bne_eq_false_iff_eq.mpr c19
     clear c19
     have H' := Aside0.mk H
     clear H
     obtain ⟨Ao20, co20, eo20⟩ := Kd.R_slice HO0_2.out
     subst eo20
     go_enter Try.func85, Try.ntmps85
     go_wp2_with (first | ((with_reducible refine gate_dst (N := 3) rfl ?_); refine box_ev (N := 3) (cs := #[.int .i64 a0_0, .int .i64 a0_1, .slice Ao20 l0_2.length co20]) (t := 32) ?_; intro gb183 hg w21 hbox hb; have BK183 := Aside0.mk (hbox); have GW183 := Aside0.mk ((by rw [hg]; exact (by first | exact HK.out.1 | exact (show Kept w _ (fun k_ => P0_2_ k_) from viaT HK).1) : w.heap.size ≤ gb183)); have GE183 := gW (w := w0) HB hg; replace HO0_2 := Aside0.mk (Kd.R_below (viaR HO0_2) hb); replace HK := Aside0.mk (Kept.below (S := (fun k_ => P0_2_ k_)) (viaT HK) hb); replace HB := bB HB hb; clear hb hbox hg; have hcz22_0 := bc0 BK183; have hcz22_1 := bc1 BK183; have hcz22_2 := bc2 BK183; have hfz22_0 := blk_frozen BK183.out 0; have hfz22_1 := blk_frozen BK183.out 1; have hfz22_2 := blk_frozen BK183.out 2; have p184 : 0 ≤ (a2 : Int) := ofD; have q184 : a2 < (l0_2.length : Int) := ofD; obtain ⟨ad184, e184, hx184_0, hx184_1⟩ := at_T89 (Kd.R_reads' HO0_2.out).2.2 a2 p184 q184; cases e184; replace p184 := eq_true p184; replace q184 := eq_true q184) | ((with_reducible refine gate_dst (N := 6) rfl ?_); refine box_ev (N := 6) (cs := #[.int .i64 0, .int .i64 0]) (t := 89) ?_; intro gb185 hg w23 hbox hb; have BK185 := Aside0.mk (hbox); have GW185 := Aside0.mk ((by rw [hg]; exact (by first | exact HK.out.1 | exact (show Kept w _ (fun k_ => P0_2_ k_) from viaT HK).1) : w.heap.size ≤ gb185)); have GE185 := gW (w := w0) HB hg; have NB183_185 := neL BK183 hg; have NB185_183 := neG BK183 hg; replace HO0_2 := Aside0.mk (Kd.R_below (Kd.R_elderB (viaR HO0_2) gb185 (Nat.le_of_eq hg.symm)) hb); replace BK183 := kB BK183 hb; replace HK := Aside0.mk (Kept.below (S := (fun k_ => P0_2_ k_)) (viaT HK) hb); replace HB := bB HB hb; clear hb hbox hg; have hnb24 := NB185_183.out; have hnc24 := NB183_185.out; have hcz25_0 := bc0 BK185; have hcz25_1 := bc1 BK185; have hfz25_0 := blk_frozen BK185.out 0; have hfz25_1 := blk_frozen BK185.out 1; have hcz26_0 := bc0 BK183; have hcz26_1 := bc1 BK183; have hcz26_2 := bc2 BK183; have hfz26_0 := blk_frozen BK183.out 0; have hfz26_1 := blk_frozen BK183.out 1; have hfz26_2 := blk_frozen BK183.out 2))
     go_loopg [29] k (fun kq v29 w' => ∃ (x29_1 : Int) (x184002_1 : List (S89)) (x186000_1 : Int) (x186001_1 : Int), v29 = .int .i64 x29_1 ∧ Aside0 (spec_flPass.l0 kq l1 a2 (l0_2.length : Int) x29_1 a0_0 a0_1 x184002_1 = some r) ∧ Aside0 (kq ≤ k) ∧ Aside0 (Kd.R k89 89 w' w0.heap.size (fun k_ => (P0_2_ k_ ∨ w.heap.size ≤ k_) ∧ k_ ≠ gb185) (.slice (some ad184) l0_2.length co20) x184002_1) ∧ Aside0 (w'.heap[gb183]? = some (.cells #[.int .i64 a0_0, .int .i64 a0_1, (.slice (some ad184) l0_2.length co20)] 32 (0, 0))) ∧ Aside0 (w'.heap[gb185]? = some (.cells #[.int .i64 x186000_1, .int .i64 x186001_1] 89 (0, 0))) ∧ Aside0 (Kept w w' (fun k_ => P0_2_ k_)) ∧ Aside0 (Below w0.heap.size w0 w'))
     case atStart => exact ⟨(0), (l0_2), ((rd_T89 l0_2 a2).f0), ((rd_T89 l0_2 a2).f1), (by first | rfl | (simp; done) | (simp [*]; done)), H', ⟨Nat.le_refl _⟩, ⟨by (with_reducible repeat (first | apply Kd.R_alloc | apply Kd.R_drewN | apply Kd.R_drew)); exact Kd.R_mono (Kd.R_far (p := ⟨gb185, 1, none⟩) (Kd.R_far (p := ⟨gb185, 0, none⟩) (Kd.R_mono HO0_2.out (fun k_ hk => (⟨hk, hk.2⟩ : _ ∧ k_ ≠ gb185))) (fun _ hk => hk.2) (.int .i64 ((rd_T89 l0_2 a2).f0))) (fun _ hk => hk.2) (.int .i64 ((rd_T89 l0_2 a2).f1))) (fun _ hk => ⟨hk.1.1, hk.1.2⟩)⟩, ⟨by (with_reducible repeat (first | refine blk_drewN ?_ _ | refine blk_drew ?_ | refine blk_alloc ?_ _)); refine blk_far ?_ NB183_185.out _; (with_reducible repeat (first | refine blk_drewN ?_ _ | refine blk_drew ?_ | refine blk_alloc ?_ _)); refine blk_far ?_ NB183_185.out _; (with_reducible repeat (first | refine blk_drewN ?_ _ | refine blk_drew ?_ | refine blk_alloc ?_ _)); exact BK183.out⟩, ⟨by (with_reducible repeat (first | refine blk_drewN ?_ _ | refine blk_drew ?_ | refine blk_alloc ?_ _)); refine blk_put (cs := #[.int .i64 ((rd_T89 l0_2 a2).f0), .int .i64 0]) ?_ 1 _ rfl; (with_reducible repeat (first | refine blk_drewN ?_ _ | refine blk_drew ?_ | refine blk_alloc ?_ _)); refine blk_put (cs := #[.int .i64 0, .int .i64 0]) ?_ 0 _ rfl; (with_reducible repeat (first | refine blk_drewN ?_ _ | refine blk_drew ?_ | refine blk_alloc ?_ _)); exact BK185.out⟩, ⟨viaT HK⟩, ⟨viaB HB⟩⟩
     case round =>
      clear H'
      (try clear c4b0); (try clear c5b0); (try clear c6); (try clear c6b0); (try clear c6b1); (try clear c19b0); (try clear c19b1)
      (try clear hcz22_0); (try clear hcz22_1); (try clear hcz22_2); (try clear hcz25_0); (try clear hcz25_1); (try clear hcz26_0); (try clear hcz26_1); (try clear hcz26_2)
      (try clear hfz22_0); (try clear hfz22_1); (try clear hfz22_2); (try clear hfz25_0); (try clear hfz25_1); (try clear hfz26_0); (try clear hfz26_1); (try clear hfz26_2); (try clear hx184_0); (try clear hx184_1); (try clear p184); (try clear q184)
      obtain ⟨x29_1, x184002_1, x186000_1, x186001_1, rfl, HA, HK1, HO_184002, BK183, BK185, HK, HB⟩ := hrel
      have hl184002_1 := (Kd.R_reads' HO_184002.out).1
      rw [hl184002_1] at HO_184002
      (try simp only [hl184002_1])
      (try simp only [hl184002_1] at BK183)
      (try simp only [hl184002_1] at BK185)
      cases gk with
      | zero => exact absurd HA.out (by simp [spec_flPass.l0])
      | succ k1 =>
       have H := HA.out
       clear HA
       simp only [spec_flPass.l0] at H
       by_cases c27 : x29_1 < (l0_2.length : Int)
       ·rw [if_pos c27] at H
        have c27b0 := decide_eq_true c27
        clear c27
        by_cases c28 : 0 ≤ x29_1
        ·rw [if_pos c28] at H
         have c28b0 := decide_eq_true c28
         clear c28
         by_cases c29 : x29_1 < (x184002_1.length : Int)
         ·rw [if_pos c29] at H
          have c29b0 := decide_eq_true c29
          clear c29
          by_cases c30 : ((rd_T89 x184002_1 x29_1).f0) = 6
          ·rw [if_pos c30] at H
           have c30b0 := beq_iff_eq.mpr c30
           have c30b1 := bne_eq_false_iff_eq.mpr c30
           clear c30
           by_cases c31 : x29_1 < (l1.length : Int)
           ·rw [if_pos c31] at H
            have c31b0 := decide_eq_true c31
            clear c31
            by_cases c32 : 0 ≤ a2
            ·rw [if_pos c32] at H
             have c32b0 := decide_eq_true c32
             clear c32
             by_cases c33 : a2 < (l1.length : Int)
             ·rw [if_pos c33] at H
              have c33b0 := decide_eq_true c33
              clear c33
              by_cases c34 : (rd l1 x29_1) = (rd l1 a2)
              ·rw [if_pos c34] at H
               have c34b0 := beq_iff_eq.mpr c34
               have c34b1 := bne_eq_false_iff_eq.mpr c34
               clear c34
               replace H := Option.bind_eq_some_iff.mp H
               obtain ⟨⟨t193, t194⟩, A350, H⟩ := H
               replace H : (spec_flPass.l0 k1 l1 a2 (l0_2.length : Int) (wrap64 (x29_1 + 1)) a0_0 a0_1 (x184002_1.set (x29_1 : Int).toNat (⟨t193, t194⟩ : S89))) = some r := H
               have A35 := Aside0.mk A350
               clear A350
               obtain ⟨y195, hy195⟩ : ∃ y_ : List (S89), y_ = (x184002_1.set (x29_1 : Int).toNat (⟨t193, t194⟩ : S89)) := ⟨_, rfl⟩
               replace H : (spec_flPass.l0 k1 l1 a2 (l0_2.length : Int) (wrap64 (x29_1 + 1)) a0_0 a0_1 y195) = some r := by first | (rw [hy195]; with_reducible exact H) | (have H2_ := (Option.bind_some _ _).symm.trans H; rw [hy195]; with_reducible exact H2_) | (have H2_ := (Option.bind_some _ _).symm.trans H; with_reducible exact H2_) | with_reducible exact H | (rw [hy195]; exact H) | exact H
               have Ny195 := Aside0.mk hy195
               clear hy195
               have H' := Aside0.mk H
               clear H
               have hnb37 := NB183_185.out
               have hnc37 := NB185_183.out
               have hcz38_0 := bc0 BK183
               have hcz38_1 := bc1 BK183
               have hcz38_2 := bc2 BK183
               have hfz38_0 := blk_frozen BK183.out 0
               have hfz38_1 := blk_frozen BK183.out 1
               have hfz38_2 := blk_frozen BK183.out 2
               have p189 : 0 ≤ (x29_1 : Int) := ofD
               have q189 : x29_1 < (x184002_1.length : Int) := ofD
               obtain ⟨ad189, e189, hx189_0, hx189_1⟩ := at_T89 (Kd.R_reads' HO_184002.out).2.2 x29_1 p189 q189
               obtain rfl : ad184 = ad189 := (by injection e189)
               replace p189 := eq_true p189
               replace q189 := eq_true q189
               try go_wp2_with (first | ((with_reducible refine gate_dst (N := 8) rfl ?_); refine box_ev (N := 8) (cs := #[.int .i64 0, .int .i64 0]) (t := 89) ?_; intro gb190 hg w39 hbox hb; have BK190 := Aside0.mk (hbox); have GW190 := Aside0.mk ((by rw [hg]; exact (by first | exact HK.out.1 | exact (show Kept w _ (fun k_ => P0_2_ k_) from viaT HK).1) : w.heap.size ≤ gb190)); have GE190 := gW (w := w0) HB hg; have NB183_190 := neL BK183 hg; have NB190_183 := neG BK183 hg; have NB185_190 := neL BK185 hg; have NB190_185 := neG BK185 hg; replace HO_184002 := Aside0.mk (Kd.R_below (Kd.R_elderB (viaR HO_184002) gb190 (Nat.le_of_eq hg.symm)) hb); replace BK183 := kB BK183 hb; replace BK185 := kB BK185 hb; replace HK := Aside0.mk (Kept.below (S := (fun k_ => P0_2_ k_)) (viaT HK) hb); replace HB := bB HB hb; clear hb hbox hg; have hnb40 := NB190_183.out; have hnc40 := NB183_190.out; have hnb41 := NB190_185.out; have hnc41 := NB185_190.out; have hcz42_0 := bc0 BK190; have hcz42_1 := bc1 BK190; have hfz42_0 := blk_frozen BK190.out 0; have hfz42_1 := blk_frozen BK190.out 1))
               have n0_ : Aside0 (Kd.R k89 89 ((w39.setCell ⟨gb190, 0, none⟩ (.int .i64 ((rd_T89 x184002_1 x29_1).f0))).setCell ⟨gb190, 1, none⟩ (.int .i64 ((rd_T89 x184002_1 x29_1).f1))) w0.heap.size (fun k_ => (P0_2_ k_ ∨ w.heap.size ≤ k_) ∧ k_ ≠ gb185 ∧ k_ ≠ gb190) (.slice (some ad184) x184002_1.length co20) x184002_1) := ⟨by (with_reducible repeat (first | apply Kd.R_alloc | apply Kd.R_drewN | apply Kd.R_drew)); exact Kd.R_mono (Kd.R_far (p := ⟨gb190, 1, none⟩) (Kd.R_far (p := ⟨gb190, 0, none⟩) (Kd.R_mono HO_184002.out (fun k_ hk => (⟨hk, hk.2⟩ : _ ∧ k_ ≠ gb190))) (fun _ hk => hk.2) (.int .i64 ((rd_T89 x184002_1 x29_1).f0))) (fun _ hk => hk.2) (.int .i64 ((rd_T89 x184002_1 x29_1).f1))) (fun _ hk => ⟨hk.1.1.1, ⟨hk.1.1.2, hk.1.2⟩⟩)⟩
               have n1_ : Aside0 (((w39.setCell ⟨gb190, 0, none⟩ (.int .i64 ((rd_T89 x184002_1 x29_1).f0))).setCell ⟨gb190, 1, none⟩ (.int .i64 ((rd_T89 x184002_1 x29_1).f1))).heap[gb183]? = some (.cells #[.int .i64 a0_0, .int .i64 a0_1, .slice (some ad184) x184002_1.length co20] 32 (0, 0))) := ⟨by (with_reducible repeat (first | refine blk_drewN ?_ _ | refine blk_drew ?_ | refine blk_alloc ?_ _)); refine blk_far ?_ NB183_190.out _; (with_reducible repeat (first | refine blk_drewN ?_ _ | refine blk_drew ?_ | refine blk_alloc ?_ _)); refine blk_far ?_ NB183_190.out _; (with_reducible repeat (first | refine blk_drewN ?_ _ | refine blk_drew ?_ | refine blk_alloc ?_ _)); exact BK183.out⟩
               have n2_ : Aside0 (((w39.setCell ⟨gb190, 0, none⟩ (.int .i64 ((rd_T89 x184002_1 x29_1).f0))).setCell ⟨gb190, 1, none⟩ (.int .i64 ((rd_T89 x184002_1 x29_1).f1))).heap[gb185]? = some (.cells #[.int .i64 x186000_1, .int .i64 x186001_1] 89 (0, 0))) := ⟨by (with_reducible repeat (first | refine blk_drewN ?_ _ | refine blk_drew ?_ | refine blk_alloc ?_ _)); refine blk_far ?_ NB185_190.out _; (with_reducible repeat (first | refine blk_drewN ?_ _ | refine blk_drew ?_ | refine blk_alloc ?_ _)); refine blk_far ?_ NB185_190.out _; (with_reducible repeat (first | refine blk_drewN ?_ _ | refine blk_drew ?_ | refine blk_alloc ?_ _)); exact BK185.out⟩
               have n3_ : Aside0 (((w39.setCell ⟨gb190, 0, none⟩ (.int .i64 ((rd_T89 x184002_1 x29_1).f0))).setCell ⟨gb190, 1, none⟩ (.int .i64 ((rd_T89 x184002_1 x29_1).f1))).heap[gb190]? = some (.cells #[.int .i64 ((rd_T89 x184002_1 x29_1).f0), .int .i64 ((rd_T89 x184002_1 x29_1).f1)] 89 (0, 0))) := ⟨by (with_reducible repeat (first | refine blk_drewN ?_ _ | refine blk_drew ?_ | refine blk_alloc ?_ _)); refine blk_put (cs := #[.int .i64 ((rd_T89 x184002_1 x29_1).f0), .int .i64 0]) ?_ 1 _ rfl; (with_reducible repeat (first | refine blk_drewN ?_ _ | refine blk_drew ?_ | refine blk_alloc ?_ _)); refine blk_put (cs := #[.int .i64 0, .int .i64 0]) ?_ 0 _ rfl; (with_reducible repeat (first | refine blk_drewN ?_ _ | refine blk_drew ?_ | refine blk_alloc ?_ _)); exact BK190.out⟩
               have n4_ : Aside0 (Kept w ((w39.setCell ⟨gb190, 0, none⟩ (.int .i64 ((rd_T89 x184002_1 x29_1).f0))).setCell ⟨gb190, 1, none⟩ (.int .i64 ((rd_T89 x184002_1 x29_1).f1))) (fun k_ => P0_2_ k_)) := ⟨viaT HK⟩
               have n5_ : Aside0 (Below w0.heap.size w0 ((w39.setCell ⟨gb190, 0, none⟩ (.int .i64 ((rd_T89 x184002_1 x29_1).f0))).setCell ⟨gb190, 1, none⟩ (.int .i64 ((rd_T89 x184002_1 x29_1).f1)))) := ⟨viaB HB⟩
               (try clear HO_184002); (try clear BK183); (try clear BK185); (try clear BK190); (try clear HK); (try clear HB)
               generalize ((w39.setCell ⟨gb190, 0, none⟩ (.int .i64 ((rd_T89 x184002_1 x29_1).f0))).setCell ⟨gb190, 1, none⟩ (.int .i64 ((rd_T89 x184002_1 x29_1).f1))) = w43 at n0_ n1_ n2_ n3_ n4_ n5_ ⊢
               have HO_184002 := n0_
               have BK183 := n1_
               have BK185 := n2_
               have BK190 := n3_
               have HK := n4_
               have HB := n5_
               clear n0_ n1_ n2_ n3_ n4_ n5_
               replace HO_184002 := Aside0.mk (Kd.R_drew HO_184002.out)
               replace BK183 := Aside0.mk (blk_drew BK183.out)
               replace BK185 := Aside0.mk (blk_drew BK185.out)
               replace BK190 := Aside0.mk (blk_drew BK190.out)
               replace HK := Aside0.mk (Kept.drew HK.out)
               replace HB := Aside0.mk (below_drew1 HB.out)
               have p191 : 0 ≤ (x29_1 : Int) := ofD
               have q191 : x29_1 < (l1.length : Int) := ofD
               obtain ⟨ad191, e191, hx191_0⟩ := Kd.at_int (Kd.C_kept_now HR1.out HK.out) x29_1 p191 q191
               have hw191_0 := hx191_0
               cases e191
               replace p191 := eq_true p191
               replace q191 := eq_true q191
               have p192 : 0 ≤ (a2 : Int) := ofD
               have q192 : a2 < (l1.length : Int) := ofD
               obtain ⟨ad192, e192, hx192_0⟩ := Kd.at_int (Kd.C_kept_now HR1.out HK.out) a2 p192 q192
               have hw192_0 := hx192_0
               obtain rfl : ad191 = ad192 := (by injection e192)
               replace p192 := eq_true p192
               replace q192 := eq_true q192
               refine start_ (n := 14) (S := fun w' => w'.cell? ⟨gb190, 0, none⟩ = some (.int .i64 ((rd_T89 x184002_1 x29_1).f0)) ∧ w'.cell? ⟨gb190, 1, none⟩ = some (.int .i64 ((rd_T89 x184002_1 x29_1).f1)) ∧ w'.cell? (ad191.add (x29_1).toNat) = some (.int .i64 (rd l1 x29_1)) ∧ w'.cell? (ad191.add (a2).toNat) = some (.int .i64 (rd l1 a2))) (ds := []) #[false, false, false, false, false, false, false, false, false, false, false, false, false, false] (by kernel_rfl) rfl rfl ⟨(blk_cell BK190.out 0).trans rfl, (blk_cell BK190.out 1).trans rfl, (Kd.foot_int (HR1.out _ (by repeat (first | exact HK.out | apply Kept.alloc | apply Kept.drewN | apply Kept.drew))) x29_1 (of_eq_true p191) (of_eq_true q191)), (Kd.foot_int (HR1.out _ (by repeat (first | exact HK.out | apply Kept.alloc | apply Kept.drewN | apply Kept.drew))) a2 (of_eq_true p192) (of_eq_true q192))⟩ (fun hHeld => ?_); refine with_tabW spec_flPass.tab9 spec_flPass.bits9 (fun HT_ HW_ => ?_)
               generalize w43.drew = w44 at HO_184002 BK183 BK185 BK190 HK HB hx191_0 hx192_0 hHeld ⊢
               refine pure_ (i := 0) (N := some 34) (v := ?_) (a' := ?_) #[true, false, false, false, false, false, false, false, false, false, false, false, false, false] rfl rfl (any_of HT_.out (by kernel_rfl)) (fun _ _ _ h => h) (Or.inl ⟨by rfl, ?_⟩) ?_ ?_
               rotate_left
               ·intro w'
                go_simp
                with_reducible rfl
               rotate_left
               ·simp only [Act.put, q1, q2, q3, i64_w, i32_w]
                rfl
               refine take_ (i := 1) (N := some 35) (v := ?_) (a' := ?_) #[true, true, false, false, false, false, false, false, false, false, false, false, false, false] rfl rfl (take_ofW HT_.out HW_.out (by kernel_rfl)) (fun _ _ _ h => h) (Or.inl ⟨by rfl, ?_⟩) hHeld ?_ ?_
               rotate_left
               ·rintro w' ⟨s0, s1, s2, s3⟩
                go_simp
                with_reducible rfl
               rotate_left
               ·simp only [Act.put, q1, q2, q3, i64_w, i32_w]
                rfl
               refine pure_ (i := 2) (N := some 36) (v := ?_) (a' := ?_) #[true, true, true, false, false, false, false, false, false, false, false, false, false, false] rfl rfl (any_of HT_.out (by kernel_rfl)) (fun _ _ _ h => h) (Or.inl ⟨by rfl, ?_⟩) ?_ ?_
               rotate_left
               ·intro w'
                go_simp
                with_reducible rfl
               rotate_left
               ·simp only [Act.put, q1, q2, q3, i64_w, i32_w]
                rfl
               refine pure_ (i := 3) (N := some 37) (v := ?_) (a' := ?_) #[true, true, true, true, false, false, false, false, false, false, false, false, false, false] rfl rfl (any_of HT_.out (by kernel_rfl)) (fun _ _ _ h => h) (Or.inl ⟨by rfl, ?_⟩) ?_ ?_
               rotate_left
               ·intro w'
                go_simp
                with_reducible rfl
               rotate_left
               ·simp only [Act.put, q1, q2, q3, i64_w, i32_w]
                rfl
               refine pure_ (i := 4) (N := some 38) (v := ?_) (a' := ?_) #[true, true, true, true, true, false, false, false, false, false, false, false, false, false] rfl rfl (any_of HT_.out (by kernel_rfl)) (fun _ _ _ h => h) (Or.inl ⟨by rfl, ?_⟩) ?_ ?_
               rotate_left
               ·intro w'
                go_simp
                with_reducible rfl
               rotate_left
               ·simp only [Act.put, q1, q2, q3, i64_w, i32_w]
                rfl
               refine pure_ (i := 5) (N := some 39) (v := ?_) (a' := ?_) #[true, true, true, true, true, true, false, false, false, false, false, false, false, false] rfl rfl (any_of HT_.out (by kernel_rfl)) (fun _ _ _ h => h) (Or.inl ⟨by rfl, ?_⟩) ?_ ?_
               rotate_left
               ·intro w'
                go_simp
                with_reducible rfl
               rotate_left
               ·simp only [Act.put, q1, q2, q3, i64_w, i32_w]
                rfl
               refine pure_ (i := 6) (N := some 40) (v := ?_) (a' := ?_) #[true, true, true, true, true, true, true, false, false, false, false, false, false, false] rfl rfl (any_of HT_.out (by kernel_rfl)) (fun _ _ _ h => h) (Or.inl ⟨by rfl, ?_⟩) ?_ ?_
               rotate_left
               ·intro w'
                go_simp
                with_reducible rfl
               rotate_left
               ·simp only [Act.put, q1, q2, q3, i64_w, i32_w]
                rfl
               refine pure_ (i := 8) (N := some 42) (v := ?_) (a' := ?_) #[true, true, true, true, true, true, true, false, true, false, false, false, false, false] rfl rfl (any_of HT_.out (by kernel_rfl)) (fun _ _ _ h => h) (Or.inl ⟨by rfl, ?_⟩) ?_ ?_
               rotate_left
               ·intro w'
                go_simp
                with_reducible rfl
               rotate_left
               ·simp only [Act.put, q1, q2, q3, i64_w, i32_w]
                rfl
               refine pure_ (i := 9) (N := some 43) (v := ?_) (a' := ?_) #[true, true, true, true, true, true, true, false, true, true, false, false, false, false] rfl rfl (any_of HT_.out (by kernel_rfl)) (fun _ _ _ h => h) (Or.inl ⟨by rfl, ?_⟩) ?_ ?_
               rotate_left
               ·intro w'
                go_simp
                with_reducible rfl
               rotate_left
               ·simp only [Act.put, q1, q2, q3, i64_w, i32_w]
                rfl
               refine pure_ (i := 10) (N := some 44) (v := ?_) (a' := ?_) #[true, true, true, true, true, true, true, false, true, true, true, false, false, false] rfl rfl (any_of HT_.out (by kernel_rfl)) (fun _ _ _ h => h) (Or.inl ⟨by rfl, ?_⟩) ?_ ?_
               rotate_left
               ·intro w'
                go_simp
                with_reducible rfl
               rotate_left
               ·simp only [Act.put, q1, q2, q3, i64_w, i32_w]
                rfl
               refine take_ (i := 7) (N := some 41) (v := ?_) (a' := ?_) #[true, true, true, true, true, true, true, true, true, true, true, false, false, false] rfl rfl (take_ofW HT_.out HW_.out (by kernel_rfl)) (fun _ _ _ h => h) (Or.inl ⟨by rfl, ?_⟩) hHeld ?_ ?_
               rotate_left
               ·rintro w' ⟨s0, s1, s2, s3⟩
                go_simp
                with_reducible rfl
               rotate_left
               ·simp only [Act.put, q1, q2, q3, i64_w, i32_w]
                rfl
               refine take_ (i := 11) (N := some 45) (v := ?_) (a' := ?_) #[true, true, true, true, true, true, true, true, true, true, true, true, false, false] rfl rfl (take_ofW HT_.out HW_.out (by kernel_rfl)) (fun _ _ _ h => h) (Or.inl ⟨by rfl, ?_⟩) hHeld ?_ ?_
               rotate_left
               ·rintro w' ⟨s0, s1, s2, s3⟩
                go_simp
                with_reducible rfl
               rotate_left
               ·simp only [Act.put, q1, q2, q3, i64_w, i32_w]
                rfl
               refine pure_ (i := 12) (N := some 46) (v := ?_) (a' := ?_) #[true, true, true, true, true, true, true, true, true, true, true, true, true, false] rfl rfl (any_of HT_.out (by kernel_rfl)) (fun _ _ _ h => h) (Or.inl ⟨by rfl, ?_⟩) ?_ ?_
               rotate_left
               ·intro w'
                go_simp
                with_reducible rfl
               rotate_left
               ·simp only [Act.put, q1, q2, q3, i64_w, i32_w]
                rfl
               refine pure_ (i := 13) (N := some 47) (v := ?_) (a' := ?_) #[true, true, true, true, true, true, true, true, true, true, true, true, true, true] rfl rfl (any_of HT_.out (by kernel_rfl)) (fun _ _ _ h => h) (Or.inl ⟨by rfl, ?_⟩) ?_ ?_
               rotate_left
               ·intro w'
                go_simp
                with_reducible rfl
               rotate_left
               ·simp only [Act.put, q1, q2, q3, i64_w, i32_w]
                rfl
               refine done_ (done_of HT_.out (by kernel_rfl)) ?_
               try go_wp2
               replace HO_184002 := Aside0.mk (Kd.R_drew HO_184002.out)
               replace BK183 := Aside0.mk (blk_drew BK183.out)
               replace BK185 := Aside0.mk (blk_drew BK185.out)
               replace BK190 := Aside0.mk (blk_drew BK190.out)
               replace HK := Aside0.mk (Kept.drew HK.out)
               replace HB := Aside0.mk (below_drew1 HB.out)
               refine start_ (n := 7) (S := fun w' => w'.cell? ⟨gb183, 0, none⟩ = some (.int .i64 a0_0) ∧ w'.cell? ⟨gb183, 1, none⟩ = some (.int .i64 a0_1) ∧ w'.cell? ⟨gb183, 2, none⟩ = some (.slice (some ad184) x184002_1.length co20) ∧ w'.cell? ⟨gb190, 0, none⟩ = some (.int .i64 ((rd_T89 x184002_1 x29_1).f0)) ∧ w'.cell? ⟨gb190, 1, none⟩ = some (.int .i64 ((rd_T89 x184002_1 x29_1).f1))) (ds := [6]) #[false, false, false, false, false, false, false] (by kernel_rfl) rfl rfl ⟨(blk_cell BK183.out 0).trans rfl, (blk_cell BK183.out 1).trans rfl, (blk_cell BK183.out 2).trans rfl, (blk_cell BK190.out 0).trans rfl, (blk_cell BK190.out 1).trans rfl⟩ (fun hHeld => ?_)
               generalize w44.drew = w45 at HO_184002 BK183 BK185 BK190 HK HB hHeld ⊢
               refine pure_ (i := 0) (N := some 48) (v := ?_) (a' := ?_) #[true, false, false, false, false, false, false] rfl rfl (by kernel_rfl) (fun _ _ _ h => h) (Or.inl ⟨by rfl, ?_⟩) ?_ ?_
               rotate_left
               ·intro w'
                go_simp
                with_reducible rfl
               rotate_left
               ·simp only [Act.put, q1, q2, q3, i64_w, i32_w]
                rfl
               refine pure_ (i := 2) (N := some 50) (v := ?_) (a' := ?_) #[true, false, true, false, false, false, false] rfl rfl (by kernel_rfl) (fun _ _ _ h => h) (Or.inl ⟨by rfl, ?_⟩) ?_ ?_
               rotate_left
               ·intro w'
                go_simp
                with_reducible rfl
               rotate_left
               ·simp only [Act.put, q1, q2, q3, i64_w, i32_w]
                rfl
               refine take_ (i := 1) (N := some 49) (v := ?_) (a' := ?_) #[true, true, true, false, false, false, false] rfl rfl (by kernel_rfl) (fun _ _ _ h => h) (Or.inl ⟨by rfl, ?_⟩) hHeld ?_ ?_
               rotate_left
               ·rintro w' ⟨s0, s1, s2, s3, s4⟩
                go_simp
                with_reducible rfl
               rotate_left
               ·simp only [Act.put, q1, q2, q3, i64_w, i32_w]
                rfl
               refine take_ (i := 3) (N := some 51) (v := ?_) (a' := ?_) #[true, true, true, true, false, false, false] rfl rfl (by kernel_rfl) (fun _ _ _ h => h) (Or.inl ⟨by rfl, ?_⟩) hHeld ?_ ?_
               rotate_left
               ·rintro w' ⟨s0, s1, s2, s3, s4⟩
                go_simp
                with_reducible rfl
               rotate_left
               ·simp only [Act.put, q1, q2, q3, i64_w, i32_w]
                rfl
               refine one_ (i := 4) (N := some 52) #[true, true, true, true, true, false, false] rfl rfl (by kernel_rfl) (by decide) (fun K hK => ?_)
               refine goes_ Try.func89 (by kernel_rfl) rfl #[.agg #[.int .i64 ((rd_T89 x184002_1 x29_1).f0), .int .i64 ((rd_T89 x184002_1 x29_1).f1)]] (by rfl) rfl rfl (by (try simp only [List.map_toArray, List.map_cons, List.map_nil]); first | done | rfl | (simp only [List.length_drop, List.length_take]; rfl)) ?_
               with_reducible refine (spec_paTurn.calls ((rd_T89 x184002_1 x29_1).f0) ((rd_T89 x184002_1 x29_1).f1) t193 t194 _ A35.out).mono ?_
               rintro e w46 ⟨rfl, hb⟩
               refine ⟨_, rfl, ?_⟩
               replace HO_184002 := Aside0.mk (Kd.R_below (viaR HO_184002) hb)
               replace BK183 := kB BK183 hb
               replace BK185 := kB BK185 hb
               replace BK190 := kB BK190 hb
               replace HK := Aside0.mk (Kept.below (S := (fun k_ => P0_2_ k_)) (viaT HK) hb)
               replace HB := bB HB hb
               (try clear hb)
               have p36 : 0 ≤ (x29_1 : Int) := ofD
               have q36 : (x29_1 : Int) < ((x184002_1.length : Int) : Int) := ofD
               obtain ⟨go36, co36, eo36, gb36, gl36, cl36, HG36⟩ := Kd.R_form HO_184002.out (by omega)
               (first | cases eo36 | (injection eo36 with ea_ en_ ec_; (first | subst ea_ | (injection ea_ with ea_; subst ea_)); subst ec_; clear en_))
               have GB36 := Aside0.mk gb36
               have GG36 := Aside0.mk HG36
               clear gb36 gl36 HG36
               have HMgo36 := Aside0.mk (show (P0_2_ go36 ∨ w.heap.size ≤ go36) from (HO_184002.out.1 _ rfl).1)
               (first | simp only [add_plain] at hx184_0 | skip)
               (first | simp only [add_plain] at hx184_1 | skip)
               (first | simp only [add_plain] at hx189_0 | skip)
               (first | simp only [add_plain] at hx189_1 | skip)
               obtain ⟨ce36, hcl36, hM36, hcc36, hfr36⟩ := Kd.R_elem HO_184002.out z89 (x29_1 : Int) p36 q36
               obtain rfl := k89_openM hM36
               have hx36_0 : World.cell? _ ⟨go36, (x29_1 : Int).toNat * 2, none⟩ = some (.int .i64 ((rd_T89 x184002_1 x29_1).f0)) := hcc36 0 _ rfl
               have hx36_1 : World.cell? _ ⟨go36, (x29_1 : Int).toNat * 2 + 1, none⟩ = some (.int .i64 ((rd_T89 x184002_1 x29_1).f1)) := hcc36 1 _ rfl
               have hf36_0 : World.frozen? _ ⟨go36, (x29_1 : Int).toNat * 2, none⟩ = false := hfr36 0
               have hf36_1 : World.frozen? _ ⟨go36, (x29_1 : Int).toNat * 2 + 1, none⟩ = false := hfr36 1
               (try clear hcl36); (try clear hcc36); (try clear hfr36); (try clear hM36)
               replace p36 := eq_true p36
               replace q36 := eq_true q36
               obtain ⟨ce47, hcl47, hM47, hcc47, hfr47⟩ := Kd.R_elem HO_184002.out z89 (x29_1 : Int) (ofD) (by have h_ : (x29_1 : Int) < ((x184002_1.length : Int) : Int) := ofD; first | exact h_ | (have e_ := (Kd.R_reads' HO_184002.out).1; omega) | simpa using h_)
               obtain rfl := k89_openM hM47
               have HP47 := (Kd.R_seg HO_184002.out (x29_1 : Int) (ofD) (by have h_ : (x29_1 : Int) < ((x184002_1.length : Int) : Int) := ofD; first | exact h_ | (have e_ := (Kd.R_reads' HO_184002.out).1; omega) | simpa using h_) (seg := [.int .i64 t193, .int .i64 t194]) (j := 0) hcl47 hcc47 (show 2 ≤ 2 from by decide) (x' := (⟨t193, t194⟩ : S89)) (k89_mkM _ _ _ (⟨t193, t194⟩ : S89) ) (fun _ hk => hk)).1
               rw [← Ny195.out] at HP47
               have HQ47 := Aside0.mk HP47
               (try clear hcl47); (try clear hcc47); (try clear hfr47); (try clear hM47); (try clear HP47)
               refine hK.out _ _ ⟨(blk_cell BK183.out 0).trans rfl, (blk_cell BK183.out 1).trans rfl, (blk_cell BK183.out 2).trans rfl, (blk_cell BK190.out 0).trans rfl, (blk_cell BK190.out 1).trans rfl⟩ (fun hHeld => ?_)
               clear hK K
               refine norm_ (a' := ?_) ?_ ?_
               rotate_left
               ·show Act.put _ (some 52) _ = _
                simp only [Act.put, q1, q2, q3, i64_w, i32_w]
                rfl
               refine pure_ (i := 5) (N := some 53) (v := ?_) (a' := ?_) #[true, true, true, true, true, true, false] rfl rfl (by kernel_rfl) (fun _ _ _ h => h) (Or.inl ⟨by rfl, ?_⟩) ?_ ?_
               rotate_left
               ·intro w'
                go_simp
                with_reducible rfl
               rotate_left
               ·simp only [Act.put, q1, q2, q3, i64_w, i32_w]
                rfl
               refine last_ (i := 6) (N := none) #[true, true, true, true, true, true, true] rfl rfl (by kernel_rfl) (by decide) (fun K hK => ?_)
               refine skip_ (w1 := ?_) (by rfl) rfl ?_ ?_
               rotate_left
               ·go_simp
                rfl
               refine hK.out _ _ ?_
               clear hK K
               refine done_ (by kernel_rfl) ?_
               try go_wp2
               (try simp only [← hl184002_1])
               go_roundg k1
               case measure => have := HK1.out; omega
               case rel => exact ⟨(wrap64 (x29_1 + 1)), (y195), (x186000_1), (x186001_1), (by first | rfl | (simp; done) | (simp [*]; done)), H', ⟨by have := HK1.out; omega⟩, ⟨by (try simp only [hl184002_1]); (with_reducible repeat (first | apply Kd.R_alloc | apply Kd.R_drewN | apply Kd.R_drew)); exact Kd.R_mono HQ47.out (fun _ hk => ⟨hk.1, hk.2.1⟩)⟩, ⟨by (try simp only [hl184002_1]); (with_reducible repeat (first | refine blk_drewN ?_ _ | refine blk_drew ?_ | refine blk_alloc ?_ _)); refine blk_far ?_ (by have h_ := Kd.R_ne HO_184002.out BK183.out (by decide); intro e_; exact h_ (by rw [e_]; rfl)) _; (with_reducible repeat (first | refine blk_drewN ?_ _ | refine blk_drew ?_ | refine blk_alloc ?_ _)); refine blk_far ?_ (by have h_ := Kd.R_ne HO_184002.out BK183.out (by decide); intro e_; exact h_ (by rw [e_]; rfl)) _; (with_reducible repeat (first | refine blk_drewN ?_ _ | refine blk_drew ?_ | refine blk_alloc ?_ _)); exact BK183.out⟩, ⟨by (try simp only [hl184002_1]); (with_reducible repeat (first | refine blk_drewN ?_ _ | refine blk_drew ?_ | refine blk_alloc ?_ _)); refine blk_far ?_ (by have h_ := Kd.R_away HO_184002.out (fun _ hk => hk.2.1); intro e_; exact h_ (by rw [e_]; rfl)) _; (with_reducible repeat (first | refine blk_drewN ?_ _ | refine blk_drew ?_ | refine blk_alloc ?_ _)); refine blk_far ?_ (by have h_ := Kd.R_away HO_184002.out (fun _ hk => hk.2.1); intro e_; exact h_ (by rw [e_]; rfl)) _; (with_reducible repeat (first | refine blk_drewN ?_ _ | refine blk_drew ?_ | refine blk_alloc ?_ _)); exact BK185.out⟩, ⟨by repeat (first | (with_reducible first | exact HK.out | apply Kept.alloc | apply Kept.drewN | apply Kept.drew | refine Kept.setCell ?_ HMgo36.out _ | refine Kept.setCell ?_ HMgo36.out _ | refine Kept.setCell ?_ (.inr GW183.out) _ | refine Kept.setCell ?_ (.inr GW185.out) _ | refine Kept.setCell ?_ (.inr GW190.out) _) | exact HK.out)⟩, ⟨viaB HB⟩⟩
              ·rw [if_neg c34] at H
               have c34b0 := beq_eq_false_iff_ne.mpr c34
               have c34b1 := bne_iff_ne.mpr c34
               have H' := Aside0.mk H
               clear H
               have hnb48 := NB183_185.out
               have hnc48 := NB185_183.out
               have hcz49_0 := bc0 BK183
               have hcz49_1 := bc1 BK183
               have hcz49_2 := bc2 BK183
               have hfz49_0 := blk_frozen BK183.out 0
               have hfz49_1 := blk_frozen BK183.out 1
               have hfz49_2 := blk_frozen BK183.out 2
               have p189 : 0 ≤ (x29_1 : Int) := ofD
               have q189 : x29_1 < (x184002_1.length : Int) := ofD
               obtain ⟨ad189, e189, hx189_0, hx189_1⟩ := at_T89 (Kd.R_reads' HO_184002.out).2.2 x29_1 p189 q189
               obtain rfl : ad184 = ad189 := (by injection e189)
               replace p189 := eq_true p189
               replace q189 := eq_true q189
               try go_wp2_with (first | ((with_reducible refine gate_dst (N := 8) rfl ?_); refine box_ev (N := 8) (cs := #[.int .i64 0, .int .i64 0]) (t := 89) ?_; intro gb190 hg w50 hbox hb; have BK190 := Aside0.mk (hbox); have GW190 := Aside0.mk ((by rw [hg]; exact (by first | exact HK.out.1 | exact (show Kept w _ (fun k_ => P0_2_ k_) from viaT HK).1) : w.heap.size ≤ gb190)); have GE190 := gW (w := w0) HB hg; have NB183_190 := neL BK183 hg; have NB190_183 := neG BK183 hg; have NB185_190 := neL BK185 hg; have NB190_185 := neG BK185 hg; replace HO_184002 := Aside0.mk (Kd.R_below (Kd.R_elderB (viaR HO_184002) gb190 (Nat.le_of_eq hg.symm)) hb); replace BK183 := kB BK183 hb; replace BK185 := kB BK185 hb; replace HK := Aside0.mk (Kept.below (S := (fun k_ => P0_2_ k_)) (viaT HK) hb); replace HB := bB HB hb; clear hb hbox hg; have hnb51 := NB190_183.out; have hnc51 := NB183_190.out; have hnb52 := NB190_185.out; have hnc52 := NB185_190.out; have hcz53_0 := bc0 BK190; have hcz53_1 := bc1 BK190; have hfz53_0 := blk_frozen BK190.out 0; have hfz53_1 := blk_frozen BK190.out 1))
               have n0_ : Aside0 (Kd.R k89 89 ((w50.setCell ⟨gb190, 0, none⟩ (.int .i64 ((rd_T89 x184002_1 x29_1).f0))).setCell ⟨gb190, 1, none⟩ (.int .i64 ((rd_T89 x184002_1 x29_1).f1))) w0.heap.size (fun k_ => (P0_2_ k_ ∨ w.heap.size ≤ k_) ∧ k_ ≠ gb185 ∧ k_ ≠ gb190) (.slice (some ad184) x184002_1.length co20) x184002_1) := ⟨by (with_reducible repeat (first | apply Kd.R_alloc | apply Kd.R_drewN | apply Kd.R_drew)); exact Kd.R_mono (Kd.R_far (p := ⟨gb190, 1, none⟩) (Kd.R_far (p := ⟨gb190, 0, none⟩) (Kd.R_mono HO_184002.out (fun k_ hk => (⟨hk, hk.2⟩ : _ ∧ k_ ≠ gb190))) (fun _ hk => hk.2) (.int .i64 ((rd_T89 x184002_1 x29_1).f0))) (fun _ hk => hk.2) (.int .i64 ((rd_T89 x184002_1 x29_1).f1))) (fun _ hk => ⟨hk.1.1.1, ⟨hk.1.1.2, hk.1.2⟩⟩)⟩
               have n1_ : Aside0 (((w50.setCell ⟨gb190, 0, none⟩ (.int .i64 ((rd_T89 x184002_1 x29_1).f0))).setCell ⟨gb190, 1, none⟩ (.int .i64 ((rd_T89 x184002_1 x29_1).f1))).heap[gb183]? = some (.cells #[.int .i64 a0_0, .int .i64 a0_1, .slice (some ad184) x184002_1.length co20] 32 (0, 0))) := ⟨by (with_reducible repeat (first | refine blk_drewN ?_ _ | refine blk_drew ?_ | refine blk_alloc ?_ _)); refine blk_far ?_ NB183_190.out _; (with_reducible repeat (first | refine blk_drewN ?_ _ | refine blk_drew ?_ | refine blk_alloc ?_ _)); refine blk_far ?_ NB183_190.out _; (with_reducible repeat (first | refine blk_drewN ?_ _ | refine blk_drew ?_ | refine blk_alloc ?_ _)); exact BK183.out⟩
               have n2_ : Aside0 (((w50.setCell ⟨gb190, 0, none⟩ (.int .i64 ((rd_T89 x184002_1 x29_1).f0))).setCell ⟨gb190, 1, none⟩ (.int .i64 ((rd_T89 x184002_1 x29_1).f1))).heap[gb185]? = some (.cells #[.int .i64 x186000_1, .int .i64 x186001_1] 89 (0, 0))) := ⟨by (with_reducible repeat (first | refine blk_drewN ?_ _ | refine blk_drew ?_ | refine blk_alloc ?_ _)); refine blk_far ?_ NB185_190.out _; (with_reducible repeat (first | refine blk_drewN ?_ _ | refine blk_drew ?_ | refine blk_alloc ?_ _)); refine blk_far ?_ NB185_190.out _; (with_reducible repeat (first | refine blk_drewN ?_ _ | refine blk_drew ?_ | refine blk_alloc ?_ _)); exact BK185.out⟩
               have n3_ : Aside0 (((w50.setCell ⟨gb190, 0, none⟩ (.int .i64 ((rd_T89 x184002_1 x29_1).f0))).setCell ⟨gb190, 1, none⟩ (.int .i64 ((rd_T89 x184002_1 x29_1).f1))).heap[gb190]? = some (.cells #[.int .i64 ((rd_T89 x184002_1 x29_1).f0), .int .i64 ((rd_T89 x184002_1 x29_1).f1)] 89 (0, 0))) := ⟨by (with_reducible repeat (first | refine blk_drewN ?_ _ | refine blk_drew ?_ | refine blk_alloc ?_ _)); refine blk_put (cs := #[.int .i64 ((rd_T89 x184002_1 x29_1).f0), .int .i64 0]) ?_ 1 _ rfl; (with_reducible repeat (first | refine blk_drewN ?_ _ | refine blk_drew ?_ | refine blk_alloc ?_ _)); refine blk_put (cs := #[.int .i64 0, .int .i64 0]) ?_ 0 _ rfl; (with_reducible repeat (first | refine blk_drewN ?_ _ | refine blk_drew ?_ | refine blk_alloc ?_ _)); exact BK190.out⟩
               have n4_ : Aside0 (Kept w ((w50.setCell ⟨gb190, 0, none⟩ (.int .i64 ((rd_T89 x184002_1 x29_1).f0))).setCell ⟨gb190, 1, none⟩ (.int .i64 ((rd_T89 x184002_1 x29_1).f1))) (fun k_ => P0_2_ k_)) := ⟨viaT HK⟩
               have n5_ : Aside0 (Below w0.heap.size w0 ((w50.setCell ⟨gb190, 0, none⟩ (.int .i64 ((rd_T89 x184002_1 x29_1).f0))).setCell ⟨gb190, 1, none⟩ (.int .i64 ((rd_T89 x184002_1 x29_1).f1)))) := ⟨viaB HB⟩
               (try clear HO_184002); (try clear BK183); (try clear BK185); (try clear BK190); (try clear HK); (try clear HB)
               generalize ((w50.setCell ⟨gb190, 0, none⟩ (.int .i64 ((rd_T89 x184002_1 x29_1).f0))).setCell ⟨gb190, 1, none⟩ (.int .i64 ((rd_T89 x184002_1 x29_1).f1))) = w54 at n0_ n1_ n2_ n3_ n4_ n5_ ⊢
               have HO_184002 := n0_
               have BK183 := n1_
               have BK185 := n2_
               have BK190 := n3_
               have HK := n4_
               have HB := n5_
               clear n0_ n1_ n2_ n3_ n4_ n5_
               replace HO_184002 := Aside0.mk (Kd.R_drew HO_184002.out)
               replace BK183 := Aside0.mk (blk_drew BK183.out)
               replace BK185 := Aside0.mk (blk_drew BK185.out)
               replace BK190 := Aside0.mk (blk_drew BK190.out)
               replace HK := Aside0.mk (Kept.drew HK.out)
               replace HB := Aside0.mk (below_drew1 HB.out)
               have p191 : 0 ≤ (x29_1 : Int) := ofD
               have q191 : x29_1 < (l1.length : Int) := ofD
               obtain ⟨ad191, e191, hx191_0⟩ := Kd.at_int (Kd.C_kept_now HR1.out HK.out) x29_1 p191 q191
               have hw191_0 := hx191_0
               cases e191
               replace p191 := eq_true p191
               replace q191 := eq_true q191
               have p192 : 0 ≤ (a2 : Int) := ofD
               have q192 : a2 < (l1.length : Int) := ofD
               obtain ⟨ad192, e192, hx192_0⟩ := Kd.at_int (Kd.C_kept_now HR1.out HK.out) a2 p192 q192
               have hw192_0 := hx192_0
               obtain rfl : ad191 = ad192 := (by injection e192)
               replace p192 := eq_true p192
               replace q192 := eq_true q192
               refine start_ (n := 14) (S := fun w' => w'.cell? ⟨gb190, 0, none⟩ = some (.int .i64 ((rd_T89 x184002_1 x29_1).f0)) ∧ w'.cell? ⟨gb190, 1, none⟩ = some (.int .i64 ((rd_T89 x184002_1 x29_1).f1)) ∧ w'.cell? (ad191.add (x29_1).toNat) = some (.int .i64 (rd l1 x29_1)) ∧ w'.cell? (ad191.add (a2).toNat) = some (.int .i64 (rd l1 a2))) (ds := []) #[false, false, false, false, false, false, false, false, false, false, false, false, false, false] (by kernel_rfl) rfl rfl ⟨(blk_cell BK190.out 0).trans rfl, (blk_cell BK190.out 1).trans rfl, (Kd.foot_int (HR1.out _ (by repeat (first | exact HK.out | apply Kept.alloc | apply Kept.drewN | apply Kept.drew))) x29_1 (of_eq_true p191) (of_eq_true q191)), (Kd.foot_int (HR1.out _ (by repeat (first | exact HK.out | apply Kept.alloc | apply Kept.drewN | apply Kept.drew))) a2 (of_eq_true p192) (of_eq_true q192))⟩ (fun hHeld => ?_); refine with_tabW spec_flPass.tab9 spec_flPass.bits9 (fun HT_ HW_ => ?_)
               generalize w54.drew = w55 at HO_184002 BK183 BK185 BK190 HK HB hx191_0 hx192_0 hHeld ⊢
               refine pure_ (i := 0) (N := some 34) (v := ?_) (a' := ?_) #[true, false, false, false, false, false, false, false, false, false, false, false, false, false] rfl rfl (any_of HT_.out (by kernel_rfl)) (fun _ _ _ h => h) (Or.inl ⟨by rfl, ?_⟩) ?_ ?_
               rotate_left
               ·intro w'
                go_simp
                with_reducible rfl
               rotate_left
               ·simp only [Act.put, q1, q2, q3, i64_w, i32_w]
                rfl
               refine take_ (i := 1) (N := some 35) (v := ?_) (a' := ?_) #[true, true, false, false, false, false, false, false, false, false, false, false, false, false] rfl rfl (take_ofW HT_.out HW_.out (by kernel_rfl)) (fun _ _ _ h => h) (Or.inl ⟨by rfl, ?_⟩) hHeld ?_ ?_
               rotate_left
               ·rintro w' ⟨s0, s1, s2, s3⟩
                go_simp
                with_reducible rfl
               rotate_left
               ·simp only [Act.put, q1, q2, q3, i64_w, i32_w]
                rfl
               refine pure_ (i := 2) (N := some 36) (v := ?_) (a' := ?_) #[true, true, true, false, false, false, false, false, false, false, false, false, false, false] rfl rfl (any_of HT_.out (by kernel_rfl)) (fun _ _ _ h => h) (Or.inl ⟨by rfl, ?_⟩) ?_ ?_
               rotate_left
               ·intro w'
                go_simp
                with_reducible rfl
               rotate_left
               ·simp only [Act.put, q1, q2, q3, i64_w, i32_w]
                rfl
               refine pure_ (i := 3) (N := some 37) (v := ?_) (a' := ?_) #[true, true, true, true, false, false, false, false, false, false, false, false, false, false] rfl rfl (any_of HT_.out (by kernel_rfl)) (fun _ _ _ h => h) (Or.inl ⟨by rfl, ?_⟩) ?_ ?_
               rotate_left
               ·intro w'
                go_simp
                with_reducible rfl
               rotate_left
               ·simp only [Act.put, q1, q2, q3, i64_w, i32_w]
                rfl
               refine pure_ (i := 4) (N := some 38) (v := ?_) (a' := ?_) #[true, true, true, true, true, false, false, false, false, false, false, false, false, false] rfl rfl (any_of HT_.out (by kernel_rfl)) (fun _ _ _ h => h) (Or.inl ⟨by rfl, ?_⟩) ?_ ?_
               rotate_left
               ·intro w'
                go_simp
                with_reducible rfl
               rotate_left
               ·simp only [Act.put, q1, q2, q3, i64_w, i32_w]
                rfl
               refine pure_ (i := 5) (N := some 39) (v := ?_) (a' := ?_) #[true, true, true, true, true, true, false, false, false, false, false, false, false, false] rfl rfl (any_of HT_.out (by kernel_rfl)) (fun _ _ _ h => h) (Or.inl ⟨by rfl, ?_⟩) ?_ ?_
               rotate_left
               ·intro w'
                go_simp
                with_reducible rfl
               rotate_left
               ·simp only [Act.put, q1, q2, q3, i64_w, i32_w]
                rfl
               refine pure_ (i := 6) (N := some 40) (v := ?_) (a' := ?_) #[true, true, true, true, true, true, true, false, false, false, false, false, false, false] rfl rfl (any_of HT_.out (by kernel_rfl)) (fun _ _ _ h => h) (Or.inl ⟨by rfl, ?_⟩) ?_ ?_
               rotate_left
               ·intro w'
                go_simp
                with_reducible rfl
               rotate_left
               ·simp only [Act.put, q1, q2, q3, i64_w, i32_w]
                rfl
               refine pure_ (i := 8) (N := some 42) (v := ?_) (a' := ?_) #[true, true, true, true, true, true, true, false, true, false, false, false, false, false] rfl rfl (any_of HT_.out (by kernel_rfl)) (fun _ _ _ h => h) (Or.inl ⟨by rfl, ?_⟩) ?_ ?_
               rotate_left
               ·intro w'
                go_simp
                with_reducible rfl
               rotate_left
               ·simp only [Act.put, q1, q2, q3, i64_w, i32_w]
                rfl
               refine pure_ (i := 9) (N := some 43) (v := ?_) (a' := ?_) #[true, true, true, true, true, true, true, false, true, true, false, false, false, false] rfl rfl (any_of HT_.out (by kernel_rfl)) (fun _ _ _ h => h) (Or.inl ⟨by rfl, ?_⟩) ?_ ?_
               rotate_left
               ·intro w'
                go_simp
                with_reducible rfl
               rotate_left
               ·simp only [Act.put, q1, q2, q3, i64_w, i32_w]
                rfl
               refine pure_ (i := 10) (N := some 44) (v := ?_) (a' := ?_) #[true, true, true, true, true, true, true, false, true, true, true, false, false, false] rfl rfl (any_of HT_.out (by kernel_rfl)) (fun _ _ _ h => h) (Or.inl ⟨by rfl, ?_⟩) ?_ ?_
               rotate_left
               ·intro w'
                go_simp
                with_reducible rfl
               rotate_left
               ·simp only [Act.put, q1, q2, q3, i64_w, i32_w]
                rfl
               refine take_ (i := 7) (N := some 41) (v := ?_) (a' := ?_) #[true, true, true, true, true, true, true, true, true, true, true, false, false, false] rfl rfl (take_ofW HT_.out HW_.out (by kernel_rfl)) (fun _ _ _ h => h) (Or.inl ⟨by rfl, ?_⟩) hHeld ?_ ?_
               rotate_left
               ·rintro w' ⟨s0, s1, s2, s3⟩
                go_simp
                with_reducible rfl
               rotate_left
               ·simp only [Act.put, q1, q2, q3, i64_w, i32_w]
                rfl
               refine take_ (i := 11) (N := some 45) (v := ?_) (a' := ?_) #[true, true, true, true, true, true, true, true, true, true, true, true, false, false] rfl rfl (take_ofW HT_.out HW_.out (by kernel_rfl)) (fun _ _ _ h => h) (Or.inl ⟨by rfl, ?_⟩) hHeld ?_ ?_
               rotate_left
               ·rintro w' ⟨s0, s1, s2, s3⟩
                go_simp
                with_reducible rfl
               rotate_left
               ·simp only [Act.put, q1, q2, q3, i64_w, i32_w]
                rfl
               refine pure_ (i := 12) (N := some 46) (v := ?_) (a' := ?_) #[true, true, true, true, true, true, true, true, true, true, true, true, true, false] rfl rfl (any_of HT_.out (by kernel_rfl)) (fun _ _ _ h => h) (Or.inl ⟨by rfl, ?_⟩) ?_ ?_
               rotate_left
               ·intro w'
                go_simp
                with_reducible rfl
               rotate_left
               ·simp only [Act.put, q1, q2, q3, i64_w, i32_w]
                rfl
               refine pure_ (i := 13) (N := some 47) (v := ?_) (a' := ?_) #[true, true, true, true, true, true, true, true, true, true, true, true, true, true] rfl rfl (any_of HT_.out (by kernel_rfl)) (fun _ _ _ h => h) (Or.inl ⟨by rfl, ?_⟩) ?_ ?_
               rotate_left
               ·intro w'
                go_simp
                with_reducible rfl
               rotate_left
               ·simp only [Act.put, q1, q2, q3, i64_w, i32_w]
                rfl
               refine done_ (done_of HT_.out (by kernel_rfl)) ?_
               try go_wp2
               (try simp only [← hl184002_1])
               go_roundg k1
               case measure => have := HK1.out; omega
               case rel => exact ⟨(wrap64 (x29_1 + 1)), (x184002_1), (x186000_1), (x186001_1), (by first | rfl | (simp; done) | (simp [*]; done)), H', ⟨by have := HK1.out; omega⟩, ⟨by (try simp only [hl184002_1]); (with_reducible repeat (first | apply Kd.R_alloc | apply Kd.R_drewN | apply Kd.R_drew)); exact Kd.R_mono HO_184002.out (fun _ hk => ⟨hk.1, hk.2.1⟩)⟩, ⟨by (try simp only [hl184002_1]); (with_reducible repeat (first | refine blk_drewN ?_ _ | refine blk_drew ?_ | refine blk_alloc ?_ _)); exact BK183.out⟩, ⟨by (try simp only [hl184002_1]); (with_reducible repeat (first | refine blk_drewN ?_ _ | refine blk_drew ?_ | refine blk_alloc ?_ _)); exact BK185.out⟩, ⟨viaT HK⟩, ⟨viaB HB⟩⟩
             ·rw [if_neg c33] at H
              exact absurd H (by simp)
            ·rw [if_neg c32] at H
             exact absurd H (by simp)
           ·rw [if_neg c31] at H
            exact absurd H (by simp)
          ·rw [if_neg c30] at H
           have c30b0 := beq_eq_false_iff_ne.mpr c30
           have c30b1 := bne_iff_ne.mpr c30
           have H' := Aside0.mk H
           clear H
           have hnb56 := NB183_185.out
           have hnc56 := NB185_183.out
           have hcz57_0 := bc0 BK183
           have hcz57_1 := bc1 BK183
           have hcz57_2 := bc2 BK183
           have hfz57_0 := blk_frozen BK183.out 0
           have hfz57_1 := blk_frozen BK183.out 1
           have hfz57_2 := blk_frozen BK183.out 2
           have p189 : 0 ≤ (x29_1 : Int) := ofD
           have q189 : x29_1 < (x184002_1.length : Int) := ofD
           obtain ⟨ad189, e189, hx189_0, hx189_1⟩ := at_T89 (Kd.R_reads' HO_184002.out).2.2 x29_1 p189 q189
           obtain rfl : ad184 = ad189 := (by injection e189)
           replace p189 := eq_true p189
           replace q189 := eq_true q189
           try go_wp2_with (first | ((with_reducible refine gate_dst (N := 8) rfl ?_); refine box_ev (N := 8) (cs := #[.int .i64 0, .int .i64 0]) (t := 89) ?_; intro gb190 hg w58 hbox hb; have BK190 := Aside0.mk (hbox); have GW190 := Aside0.mk ((by rw [hg]; exact (by first | exact HK.out.1 | exact (show Kept w _ (fun k_ => P0_2_ k_) from viaT HK).1) : w.heap.size ≤ gb190)); have GE190 := gW (w := w0) HB hg; have NB183_190 := neL BK183 hg; have NB190_183 := neG BK183 hg; have NB185_190 := neL BK185 hg; have NB190_185 := neG BK185 hg; replace HO_184002 := Aside0.mk (Kd.R_below (Kd.R_elderB (viaR HO_184002) gb190 (Nat.le_of_eq hg.symm)) hb); replace BK183 := kB BK183 hb; replace BK185 := kB BK185 hb; replace HK := Aside0.mk (Kept.below (S := (fun k_ => P0_2_ k_)) (viaT HK) hb); replace HB := bB HB hb; clear hb hbox hg; have hnb59 := NB190_183.out; have hnc59 := NB183_190.out; have hnb60 := NB190_185.out; have hnc60 := NB185_190.out; have hcz61_0 := bc0 BK190; have hcz61_1 := bc1 BK190; have hfz61_0 := blk_frozen BK190.out 0; have hfz61_1 := blk_frozen BK190.out 1))
           have n0_ : Aside0 (Kd.R k89 89 ((w58.setCell ⟨gb190, 0, none⟩ (.int .i64 ((rd_T89 x184002_1 x29_1).f0))).setCell ⟨gb190, 1, none⟩ (.int .i64 ((rd_T89 x184002_1 x29_1).f1))) w0.heap.size (fun k_ => (P0_2_ k_ ∨ w.heap.size ≤ k_) ∧ k_ ≠ gb185 ∧ k_ ≠ gb190) (.slice (some ad184) x184002_1.length co20) x184002_1) := ⟨by (with_reducible repeat (first | apply Kd.R_alloc | apply Kd.R_drewN | apply Kd.R_drew)); exact Kd.R_mono (Kd.R_far (p := ⟨gb190, 1, none⟩) (Kd.R_far (p := ⟨gb190, 0, none⟩) (Kd.R_mono HO_184002.out (fun k_ hk => (⟨hk, hk.2⟩ : _ ∧ k_ ≠ gb190))) (fun _ hk => hk.2) (.int .i64 ((rd_T89 x184002_1 x29_1).f0))) (fun _ hk => hk.2) (.int .i64 ((rd_T89 x184002_1 x29_1).f1))) (fun _ hk => ⟨hk.1.1.1, ⟨hk.1.1.2, hk.1.2⟩⟩)⟩
           have n1_ : Aside0 (((w58.setCell ⟨gb190, 0, none⟩ (.int .i64 ((rd_T89 x184002_1 x29_1).f0))).setCell ⟨gb190, 1, none⟩ (.int .i64 ((rd_T89 x184002_1 x29_1).f1))).heap[gb183]? = some (.cells #[.int .i64 a0_0, .int .i64 a0_1, .slice (some ad184) x184002_1.length co20] 32 (0, 0))) := ⟨by (with_reducible repeat (first | refine blk_drewN ?_ _ | refine blk_drew ?_ | refine blk_alloc ?_ _)); refine blk_far ?_ NB183_190.out _; (with_reducible repeat (first | refine blk_drewN ?_ _ | refine blk_drew ?_ | refine blk_alloc ?_ _)); refine blk_far ?_ NB183_190.out _; (with_reducible repeat (first | refine blk_drewN ?_ _ | refine blk_drew ?_ | refine blk_alloc ?_ _)); exact BK183.out⟩
           have n2_ : Aside0 (((w58.setCell ⟨gb190, 0, none⟩ (.int .i64 ((rd_T89 x184002_1 x29_1).f0))).setCell ⟨gb190, 1, none⟩ (.int .i64 ((rd_T89 x184002_1 x29_1).f1))).heap[gb185]? = some (.cells #[.int .i64 x186000_1, .int .i64 x186001_1] 89 (0, 0))) := ⟨by (with_reducible repeat (first | refine blk_drewN ?_ _ | refine blk_drew ?_ | refine blk_alloc ?_ _)); refine blk_far ?_ NB185_190.out _; (with_reducible repeat (first | refine blk_drewN ?_ _ | refine blk_drew ?_ | refine blk_alloc ?_ _)); refine blk_far ?_ NB185_190.out _; (with_reducible repeat (first | refine blk_drewN ?_ _ | refine blk_drew ?_ | refine blk_alloc ?_ _)); exact BK185.out⟩
           have n3_ : Aside0 (((w58.setCell ⟨gb190, 0, none⟩ (.int .i64 ((rd_T89 x184002_1 x29_1).f0))).setCell ⟨gb190, 1, none⟩ (.int .i64 ((rd_T89 x184002_1 x29_1).f1))).heap[gb190]? = some (.cells #[.int .i64 ((rd_T89 x184002_1 x29_1).f0), .int .i64 ((rd_T89 x184002_1 x29_1).f1)] 89 (0, 0))) := ⟨by (with_reducible repeat (first | refine blk_drewN ?_ _ | refine blk_drew ?_ | refine blk_alloc ?_ _)); refine blk_put (cs := #[.int .i64 ((rd_T89 x184002_1 x29_1).f0), .int .i64 0]) ?_ 1 _ rfl; (with_reducible repeat (first | refine blk_drewN ?_ _ | refine blk_drew ?_ | refine blk_alloc ?_ _)); refine blk_put (cs := #[.int .i64 0, .int .i64 0]) ?_ 0 _ rfl; (with_reducible repeat (first | refine blk_drewN ?_ _ | refine blk_drew ?_ | refine blk_alloc ?_ _)); exact BK190.out⟩
           have n4_ : Aside0 (Kept w ((w58.setCell ⟨gb190, 0, none⟩ (.int .i64 ((rd_T89 x184002_1 x29_1).f0))).setCell ⟨gb190, 1, none⟩ (.int .i64 ((rd_T89 x184002_1 x29_1).f1))) (fun k_ => P0_2_ k_)) := ⟨viaT HK⟩
           have n5_ : Aside0 (Below w0.heap.size w0 ((w58.setCell ⟨gb190, 0, none⟩ (.int .i64 ((rd_T89 x184002_1 x29_1).f0))).setCell ⟨gb190, 1, none⟩ (.int .i64 ((rd_T89 x184002_1 x29_1).f1)))) := ⟨viaB HB⟩
           (try clear HO_184002); (try clear BK183); (try clear BK185); (try clear BK190); (try clear HK); (try clear HB)
           generalize ((w58.setCell ⟨gb190, 0, none⟩ (.int .i64 ((rd_T89 x184002_1 x29_1).f0))).setCell ⟨gb190, 1, none⟩ (.int .i64 ((rd_T89 x184002_1 x29_1).f1))) = w62 at n0_ n1_ n2_ n3_ n4_ n5_ ⊢
           have HO_184002 := n0_
           have BK183 := n1_
           have BK185 := n2_
           have BK190 := n3_
           have HK := n4_
           have HB := n5_
           clear n0_ n1_ n2_ n3_ n4_ n5_
           replace HO_184002 := Aside0.mk (Kd.R_drew HO_184002.out)
           replace BK183 := Aside0.mk (blk_drew BK183.out)
           replace BK185 := Aside0.mk (blk_drew BK185.out)
           replace BK190 := Aside0.mk (blk_drew BK190.out)
           replace HK := Aside0.mk (Kept.drew HK.out)
           replace HB := Aside0.mk (below_drew1 HB.out)
           refine start_ (n := 14) (S := fun w' => w'.cell? ⟨gb190, 0, none⟩ = some (.int .i64 ((rd_T89 x184002_1 x29_1).f0)) ∧ w'.cell? ⟨gb190, 1, none⟩ = some (.int .i64 ((rd_T89 x184002_1 x29_1).f1))) (ds := []) #[false, false, false, false, false, false, false, false, false, false, false, false, false, false] (by kernel_rfl) rfl rfl ⟨(blk_cell BK190.out 0).trans rfl, (blk_cell BK190.out 1).trans rfl⟩ (fun hHeld => ?_); refine with_tabW spec_flPass.tab9 spec_flPass.bits9 (fun HT_ HW_ => ?_)
           generalize w62.drew = w63 at HO_184002 BK183 BK185 BK190 HK HB hHeld ⊢
           refine pure_ (i := 0) (N := some 34) (v := ?_) (a' := ?_) #[true, false, false, false, false, false, false, false, false, false, false, false, false, false] rfl rfl (any_of HT_.out (by kernel_rfl)) (fun _ _ _ h => h) (Or.inl ⟨by rfl, ?_⟩) ?_ ?_
           rotate_left
           ·intro w'
            go_simp
            with_reducible rfl
           rotate_left
           ·simp only [Act.put, q1, q2, q3, i64_w, i32_w]
            rfl
           refine take_ (i := 1) (N := some 35) (v := ?_) (a' := ?_) #[true, true, false, false, false, false, false, false, false, false, false, false, false, false] rfl rfl (take_ofW HT_.out HW_.out (by kernel_rfl)) (fun _ _ _ h => h) (Or.inl ⟨by rfl, ?_⟩) hHeld ?_ ?_
           rotate_left
           ·rintro w' ⟨s0, s1⟩
            go_simp
            with_reducible rfl
           rotate_left
           ·simp only [Act.put, q1, q2, q3, i64_w, i32_w]
            rfl
           refine pure_ (i := 2) (N := some 36) (v := ?_) (a' := ?_) #[true, true, true, false, false, false, false, false, false, false, false, false, false, false] rfl rfl (any_of HT_.out (by kernel_rfl)) (fun _ _ _ h => h) (Or.inl ⟨by rfl, ?_⟩) ?_ ?_
           rotate_left
           ·intro w'
            go_simp
            with_reducible rfl
           rotate_left
           ·simp only [Act.put, q1, q2, q3, i64_w, i32_w]
            rfl
           refine pure_ (i := 3) (N := some 37) (v := ?_) (a' := ?_) #[true, true, true, true, false, false, false, false, false, false, false, false, false, false] rfl rfl (any_of HT_.out (by kernel_rfl)) (fun _ _ _ h => h) (Or.inl ⟨by rfl, ?_⟩) ?_ ?_
           rotate_left
           ·intro w'
            go_simp
            with_reducible rfl
           rotate_left
           ·simp only [Act.put, q1, q2, q3, i64_w, i32_w]
            rfl
           refine pure_ (i := 4) (N := some 38) (v := undef) (a' := ?_) #[true, true, true, true, true, false, false, false, false, false, false, false, false, false] rfl rfl (any_of HT_.out (by kernel_rfl)) (fun _ _ _ h => h) (Or.inr ⟨by rfl, rfl⟩) ?_ ?_
           rotate_left
           ·simp only [Act.put, q1, q2, q3, i64_w, i32_w]
            rfl
           refine pure_ (i := 5) (N := some 39) (v := undef) (a' := ?_) #[true, true, true, true, true, true, false, false, false, false, false, false, false, false] rfl rfl (any_of HT_.out (by kernel_rfl)) (fun _ _ _ h => h) (Or.inr ⟨by rfl, rfl⟩) ?_ ?_
           rotate_left
           ·simp only [Act.put, q1, q2, q3, i64_w, i32_w]
            rfl
           refine pure_ (i := 6) (N := some 40) (v := undef) (a' := ?_) #[true, true, true, true, true, true, true, false, false, false, false, false, false, false] rfl rfl (any_of HT_.out (by kernel_rfl)) (fun _ _ _ h => h) (Or.inr ⟨by rfl, rfl⟩) ?_ ?_
           rotate_left
           ·simp only [Act.put, q1, q2, q3, i64_w, i32_w]
            rfl
           refine pure_ (i := 7) (N := some 41) (v := undef) (a' := ?_) #[true, true, true, true, true, true, true, true, false, false, false, false, false, false] rfl rfl (any_of HT_.out (by kernel_rfl)) (fun _ _ _ h => h) (Or.inr ⟨by rfl, rfl⟩) ?_ ?_
           rotate_left
           ·simp only [Act.put, q1, q2, q3, i64_w, i32_w]
            rfl
           refine pure_ (i := 8) (N := some 42) (v := undef) (a' := ?_) #[true, true, true, true, true, true, true, true, true, false, false, false, false, false] rfl rfl (any_of HT_.out (by kernel_rfl)) (fun _ _ _ h => h) (Or.inr ⟨by rfl, rfl⟩) ?_ ?_
           rotate_left
           ·simp only [Act.put, q1, q2, q3, i64_w, i32_w]
            rfl
           refine pure_ (i := 9) (N := some 43) (v := undef) (a' := ?_) #[true, true, true, true, true, true, true, true, true, true, false, false, false, false] rfl rfl (any_of HT_.out (by kernel_rfl)) (fun _ _ _ h => h) (Or.inr ⟨by rfl, rfl⟩) ?_ ?_
           rotate_left
           ·simp only [Act.put, q1, q2, q3, i64_w, i32_w]
            rfl
           refine pure_ (i := 10) (N := some 44) (v := undef) (a' := ?_) #[true, true, true, true, true, true, true, true, true, true, true, false, false, false] rfl rfl (any_of HT_.out (by kernel_rfl)) (fun _ _ _ h => h) (Or.inr ⟨by rfl, rfl⟩) ?_ ?_
           rotate_left
           ·simp only [Act.put, q1, q2, q3, i64_w, i32_w]
            rfl
           refine pure_ (i := 11) (N := some 45) (v := undef) (a' := ?_) #[true, true, true, true, true, true, true, true, true, true, true, true, false, false] rfl rfl (any_of HT_.out (by kernel_rfl)) (fun _ _ _ h => h) (Or.inr ⟨by rfl, rfl⟩) ?_ ?_
           rotate_left
           ·simp only [Act.put, q1, q2, q3, i64_w, i32_w]
            rfl
           refine pure_ (i := 12) (N := some 46) (v := undef) (a' := ?_) #[true, true, true, true, true, true, true, true, true, true, true, true, true, false] rfl rfl (any_of HT_.out (by kernel_rfl)) (fun _ _ _ h => h) (Or.inr ⟨by rfl, rfl⟩) ?_ ?_
           rotate_left
           ·simp only [Act.put, q1, q2, q3, i64_w, i32_w]
            rfl
           refine pure_ (i := 13) (N := some 47) (v := ?_) (a' := ?_) #[true, true, true, true, true, true, true, true, true, true, true, true, true, true] rfl rfl (any_of HT_.out (by kernel_rfl)) (fun _ _ _ h => h) (Or.inl ⟨by rfl, ?_⟩) ?_ ?_
           rotate_left
           ·intro w'
            go_simp
            with_reducible rfl
           rotate_left
           ·simp only [Act.put, q1, q2, q3, i64_w, i32_w]
            rfl
           refine done_ (done_of HT_.out (by kernel_rfl)) ?_
           try go_wp2
           (try simp only [← hl184002_1])
           go_roundg k1
           case measure => have := HK1.out; omega
           case rel => exact ⟨(wrap64 (x29_1 + 1)), (x184002_1), (x186000_1), (x186001_1), (by first | rfl | (simp; done) | (simp [*]; done)), H', ⟨by have := HK1.out; omega⟩, ⟨by (try simp only [hl184002_1]); (with_reducible repeat (first | apply Kd.R_alloc | apply Kd.R_drewN | apply Kd.R_drew)); exact Kd.R_mono HO_184002.out (fun _ hk => ⟨hk.1, hk.2.1⟩)⟩, ⟨by (try simp only [hl184002_1]); (with_reducible repeat (first | refine blk_drewN ?_ _ | refine blk_drew ?_ | refine blk_alloc ?_ _)); exact BK183.out⟩, ⟨by (try simp only [hl184002_1]); (with_reducible repeat (first | refine blk_drewN ?_ _ | refine blk_drew ?_ | refine blk_alloc ?_ _)); exact BK185.out⟩, ⟨viaT HK⟩, ⟨viaB HB⟩⟩
         ·rw [if_neg c29] at H
          exact absurd H (by simp)
        ·rw [if_neg c28] at H
         exact absurd H (by simp)
       ·rw [if_neg c27] at H
        have c27b0 := decide_eq_false c27
        (try simp only [hl184002_1] at c27b0)
        clear c27
        obtain rfl := Option.some.inj H
        go_wp2
        first | go_end0 | ((try simp only [Exit.inBlock, Exit.then]); refine bodyPost_ret (results_none rfl _ _ _) rfl ?_)
        exact ⟨by first | rfl | (simp [errW_none, errW_some] <;> rfl) | (simp [*, errW_none, errW_some] <;> rfl), (by first | exact (by (with_reducible repeat (first | apply Kd.R_alloc | apply Kd.R_drewN | apply Kd.R_drew)); exact Kd.R_mono HO_184002.out (fun _ hk => hk.1)) | (simp only [hl184002_1]; exact (by (with_reducible repeat (first | apply Kd.R_alloc | apply Kd.R_drewN | apply Kd.R_drew)); exact Kd.R_mono HO_184002.out (fun _ hk => hk.1)))), viaB HB, viaT HK⟩
    ·rw [if_neg c19] at H
     have c19b0 := beq_eq_false_iff_ne.mpr c19
     have c19b1 := bne_iff_ne.mpr c19
     obtain rfl := Option.some.inj H
     obtain ⟨Ao64, co64, eo64⟩ := Kd.R_slice HO0_2.out
     subst eo64
     go_enter Try.func85, Try.ntmps85
     go_wp2_with (first | ((with_reducible refine gate_dst (N := 3) rfl ?_); refine box_ev (N := 3) (cs := #[.int .i64 a0_0, .int .i64 a0_1, .slice Ao64 l0_2.length co64]) (t := 32) ?_; intro gb183 hg w65 hbox hb; have BK183 := Aside0.mk (hbox); have GW183 := Aside0.mk ((by rw [hg]; exact (by first | exact HK.out.1 | exact (show Kept w _ (fun k_ => P0_2_ k_) from viaT HK).1) : w.heap.size ≤ gb183)); have GE183 := gW (w := w0) HB hg; replace HO0_2 := Aside0.mk (Kd.R_below (viaR HO0_2) hb); replace HK := Aside0.mk (Kept.below (S := (fun k_ => P0_2_ k_)) (viaT HK) hb); replace HB := bB HB hb; clear hb hbox hg; have hcz66_0 := bc0 BK183; have hcz66_1 := bc1 BK183; have hcz66_2 := bc2 BK183; have hfz66_0 := blk_frozen BK183.out 0; have hfz66_1 := blk_frozen BK183.out 1; have hfz66_2 := blk_frozen BK183.out 2; have p184 : 0 ≤ (a2 : Int) := ofD; have q184 : a2 < (l0_2.length : Int) := ofD; obtain ⟨ad184, e184, hx184_0, hx184_1⟩ := at_T89 (Kd.R_reads' HO0_2.out).2.2 a2 p184 q184; cases e184; replace p184 := eq_true p184; replace q184 := eq_true q184) | ((with_reducible refine gate_dst (N := 6) rfl ?_); refine box_ev (N := 6) (cs := #[.int .i64 0, .int .i64 0]) (t := 89) ?_; intro gb185 hg w67 hbox hb; have BK185 := Aside0.mk (hbox); have GW185 := Aside0.mk ((by rw [hg]; exact (by first | exact HK.out.1 | exact (show Kept w _ (fun k_ => P0_2_ k_) from viaT HK).1) : w.heap.size ≤ gb185)); have GE185 := gW (w := w0) HB hg; have NB183_185 := neL BK183 hg; have NB185_183 := neG BK183 hg; replace HO0_2 := Aside0.mk (Kd.R_below (Kd.R_elderB (viaR HO0_2) gb185 (Nat.le_of_eq hg.symm)) hb); replace BK183 := kB BK183 hb; replace HK := Aside0.mk (Kept.below (S := (fun k_ => P0_2_ k_)) (viaT HK) hb); replace HB := bB HB hb; clear hb hbox hg; have hnb68 := NB185_183.out; have hnc68 := NB183_185.out; have hcz69_0 := bc0 BK185; have hcz69_1 := bc1 BK185; have hfz69_0 := blk_frozen BK185.out 0; have hfz69_1 := blk_frozen BK185.out 1))
     first | go_end0 | ((try simp only [Exit.inBlock, Exit.then]); refine bodyPost_ret (results_none rfl _ _ _) rfl ?_)
     exact ⟨by first | rfl | (simp [errW_none, errW_some] <;> rfl) | (simp [*, errW_none, errW_some] <;> rfl), by (with_reducible repeat (first | apply Kd.R_alloc | apply Kd.R_drewN | apply Kd.R_drew)); exact Kd.R_mono (Kd.R_far (p := ⟨gb185, 1, none⟩) (Kd.R_far (p := ⟨gb185, 0, none⟩) (Kd.R_mono HO0_2.out (fun k_ hk => (⟨hk, hk.2⟩ : _ ∧ k_ ≠ gb185))) (fun _ hk => hk.2) (.int .i64 ((rd_T89 l0_2 a2).f0))) (fun _ hk => hk.2) (.int .i64 ((rd_T89 l0_2 a2).f1))) (fun _ hk => hk.1.1), viaB HB, viaT HK⟩
  ·rw [if_neg c5] at H
   exact absurd H (by simp)
 ·rw [if_neg c4] at H
  exact absurd H (by simp)

end Go.Proofs.Ytoklfgjemfojgaa.PAll
