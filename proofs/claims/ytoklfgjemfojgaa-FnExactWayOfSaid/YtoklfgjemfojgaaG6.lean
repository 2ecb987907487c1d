/- Began as a text that print.sh wrote (of the functions named below); turned and shortened by this session. -/
import Derived.Test.YtoklfgjemfojgaaG0
import Derived.Test.YtoklfgjemfojgaaG5
namespace Go.Proofs.Ytoklfgjemfojgaa.PAll
open Go.RowKit Go.Proofs.YtoklfgjemfojgaaW.PrintWords Go.Proofs.YtoklfgjemfojgaaW.PrintLast Go.Proofs.YtoklfgjemfojgaaW.PrintMore
attribute [local go_sem] max2_int min2_int max_two min_two max_three min_three max_four min_four   -- for this text's walks alone
set_option linter.unusedVariables false
set_option linter.unusedSimpArgs false

/-! ### spec_flPass: function 85 -/
def spec_flPass.l0 : Nat → List Int → Int → Int → Int → Int → Int → List (S89) → Option ((List (S89)))
 | 0, _, _, _, _, _, _, _ => none
 | k + 1, x1, x2, x28, x29, x202000, x202001, x202002 => if x29 < x28 then (if 0 ≤ x29 then (if x29 < (x202002.length : Int) then (if ((rd_T89 x202002 x29).f0) = 6 then (if x29 < (x1.length : Int) then (if 0 ≤ x2 then (if x2 < (x1.length : Int) then (if (rd x1 x29) = (rd x1 x2) then ((spec_paTurn.f ((rd_T89 x202002 x29).f0) ((rd_T89 x202002 x29).f1)).bind fun bt211 => (spec_flPass.l0 k x1 x2 x28 (wrap64 (x29 + 1)) x202000 x202001 (x202002.set (x29 : Int).toNat (⟨bt211.1, bt211.2⟩ : S89)))) else (spec_flPass.l0 k x1 x2 x28 (wrap64 (x29 + 1)) x202000 x202001 x202002)) else (none)) else (none)) else (none)) else (spec_flPass.l0 k x1 x2 x28 (wrap64 (x29 + 1)) x202000 x202001 x202002)) else (none)) else (none)) else (some x202002)
def spec_flPass.f (k : Nat) (a0_0 : Int) (a0_1 : Int) (l0_2 : List (S89)) (l1 : List Int) (a2 : Int) : Option ((List (S89))) := if 0 ≤ a2 then (if a2 < (l0_2.length : Int) then (if ((rd_T89 l0_2 a2).f0) = 3 then ((spec_paTurn.f ((rd_T89 l0_2 a2).f0) ((rd_T89 l0_2 a2).f1)).bind fun bt204 => (some (l0_2.set (a2 : Int).toNat (⟨bt204.1, bt204.2⟩ : S89)))) else (if ((rd_T89 l0_2 a2).f0) = 6 then (spec_flPass.l0 k l1 a2 (l0_2.length : Int) 0 a0_0 a0_1 l0_2) else (some l0_2))) else (none)) else (none)
def spec_flPass.T9 : Bool × List (List Nat × List Nat) := (true, [([], []), ([0], [0]), ([1], [1]), ([2], [2]), ([3], [3]), ([3], [3]), ([4, 5, 3], [3, 4, 5]), ([6, 3], [3, 6]), ([3], [3]), ([3], [3]), ([8, 9, 3], [3, 8, 9]), ([10, 3], [3, 10]), ([7, 11, 3], [3, 7, 11]), ([3, 12], [3, 12])])
def spec_flPass.B9 : List Nat := [0, 1, 3, 7, 15, 15, 63, 127, 15, 15, 783, 1807, 4095, 8191]
theorem spec_flPass.tab9 : rtab .any (opsOf Try.f85 9) = spec_flPass.T9 := by kernel_rfl
theorem spec_flPass.bits9 : waitsOk spec_flPass.T9.2 spec_flPass.B9 = true := by kernel_rfl
set_option maxHeartbeats 8000000 in
set_option maxRecDepth 100000 in
theorem spec_flPass.calls (k : Nat) (a0_0 : Int) (a0_1 : Int) (P0_2_ : Nat → Prop) (u9000_ : Value) (l0_2 : List (S89)) (A1 : Option Addr) (c1 : Nat) (l1 : List Int) (a2 : Int) (r : List (S89)) (w0 w : World) (hB : Below w0.heap.size w0 w) (ho0_2 : Kd.R k89 89 w w0.heap.size P0_2_ u9000_ l0_2) (hr1 : ∀ W_, Kept w W_ (fun k_ => P0_2_ k_) → Kd.C (Kd.int .i64) W_ A1 l1.length l1) (hc1 : l1.length ≤ c1) (h : spec_flPass.f k a0_0 a0_1 l0_2 l1 a2 = some r) :
 Calls Try.prog 85 #[.agg #[.int .i64 a0_0, .int .i64 a0_1, u9000_], .slice A1 l1.length c1, .int .i64 a2] w fun e w' => e = .returned (.tuple #[]) ∧ Kd.R k89 89 w' w0.heap.size (fun k_ => (P0_2_ k_ ∨ w.heap.size ≤ k_)) u9000_ r ∧ Below w0.heap.size w0 w' ∧ Kept w w' (fun k_ => P0_2_ k_) := by
 have DA := Try.underlying32
 have DB := Try.underlying89
 have Aa := Z.m (show Kd.R k89 89 w w0.heap.size (fun k_ => (P0_2_ k_ ∨ w.heap.size ≤ k_)) u9000_ l0_2 from Kd.Rm ho0_2 (fun k_ hk => (.inl hk)))
 have Ba := Z.m hr1
 have DJ := Z.m hc1
 clear hr1 hc1
 have HK := Z.m (Kept.refl w (fun k_ => P0_2_ k_))
 have HW0 := Z.m hB.size
 have HB := Z.m hB
 clear hB
 have H : (if 0 ≤ a2 then (if a2 < (l0_2.length : Int) then (if ((rd_T89 l0_2 a2).f0) = 3 then ((spec_paTurn.f ((rd_T89 l0_2 a2).f0) ((rd_T89 l0_2 a2).f1)).bind fun bt204 => (some (l0_2.set (a2 : Int).toNat (⟨bt204.1, bt204.2⟩ : S89)))) else (if ((rd_T89 l0_2 a2).f0) = 6 then (spec_flPass.l0 k l1 a2 (l0_2.length : Int) 0 a0_0 a0_1 l0_2) else (some l0_2))) else (none)) else (none)) = some r := h
 clear h
 by_cases c4 : 0 ≤ a2
 ·rw [if_pos c4] at H
  have CE := decide_eq_true c4
  clear c4
  by_cases c5 : a2 < (l0_2.length : Int)
  ·rw [if_pos c5] at H
   have CF := decide_eq_true c5
   clear c5
   by_cases c6 : ((rd_T89 l0_2 a2).f0) = 3
   ·rw [if_pos c6] at H
    have BA := beq_iff_eq.mpr c6
    have BB := bne_eq_false_iff_eq.mpr c6
    clear c6
    replace H := Option.bind_eq_some_iff.mp H
    obtain ⟨⟨AA, AB⟩, CP, H⟩ := H
    replace H : (some (l0_2.set (a2 : Int).toNat (⟨AA, AB⟩ : S89))) = some r := H
    have A7 := Z.m CP
    clear CP
    obtain ⟨CO, Av⟩ : ∃ y_ : List (S89), y_ = (l0_2.set (a2 : Int).toNat (⟨AA, AB⟩ : S89)) := ⟨_, rfl⟩
    replace H : (some CO) = some r := by first | (rw [Av]; with_reducible exact H) | (have H2_ := (Option.bind_some _ _).symm.trans H; rw [Av]; with_reducible exact H2_) | (have H2_ := (Option.bind_some _ _).symm.trans H; with_reducible exact H2_) | with_reducible exact H | (rw [Av]; exact H) | exact H
    have Bu := Z.m Av
    clear Av
    obtain rfl := Option.some.inj H
    obtain ⟨Ds, BL, Dz⟩ := Kd.R_slice Aa.o
    subst Dz
    go_enter Try.func85, Try.ntmps85
    try go_wp2_with (first | ((with_reducible refine gq (N := 3) rfl ?_); refine be (N := 3) (cs := #[.int .i64 a0_0, .int .i64 a0_1, .slice Ds l0_2.length BL]) (t := 32) ?_; intro Aj hg DM hbox hb; have A2 := Z.m (hbox); have Ax := Z.m ((by rw [hg]; exact (by first | exact HK.o.1 | exact (show Kept w _ (fun k_ => P0_2_ k_) from vT HK).1) : w.heap.size ≤ Aj)); have AZ := gW (w := w0) HB hg; replace Aa := Z.m (Kd.Rb (vR Aa) hb); replace HK := Z.m (Kept.below (S := (fun k_ => P0_2_ k_)) (vT HK) hb); replace HB := bB HB hb; clear hb hbox hg; have BM := bc0 A2; have BN := bc1 A2; have BO := bc2 A2; have Cb := qz A2.o 0; have Cd := qz A2.o 1; have Ce := qz A2.o 2; have p202 : 0 ≤ (a2 : Int) := ofD; have q202 : a2 < (l0_2.length : Int) := ofD; obtain ⟨Ai, e202, Am, An⟩ := at_T89 (Kd.RrZ Aa.o).2.2 a2 p202 q202; cases e202; replace p202 := eq_true p202; replace q202 := eq_true q202) | ((with_reducible refine gq (N := 6) rfl ?_); refine be (N := 6) (cs := #[.int .i64 0, .int .i64 0]) (t := 89) ?_; intro Ab hg Br hbox hb; have A5 := Z.m (hbox); have Ay := Z.m ((by rw [hg]; exact (by first | exact HK.o.1 | exact (show Kept w _ (fun k_ => P0_2_ k_) from vT HK).1) : w.heap.size ≤ Ab)); have B0 := gW (w := w0) HB hg; have Ac := neL A2 hg; have Ae := neG A2 hg; replace Aa := Z.m (Kd.Rb (Kd.R_elderB (vR Aa) Ab (Nat.le_of_eq hg.symm)) hb); replace A2 := kB A2 hb; replace HK := Z.m (Kept.below (S := (fun k_ => P0_2_ k_)) (vT HK) hb); replace HB := bB HB hb; clear hb hbox hg; have D1 := Ae.o; have Dd := Ac.o; have BP := bc0 A5; have BQ := bc1 A5; have Cf := qz A5.o 0; have Cg := qz A5.o 1))
    have n0_ : Z (Kd.R k89 89 ((Br.setCell ⟨Ab, 0, none⟩ (.int .i64 ((rd_T89 l0_2 a2).f0))).setCell ⟨Ab, 1, none⟩ (.int .i64 ((rd_T89 l0_2 a2).f1))) w0.heap.size (fun k_ => (P0_2_ k_ ∨ w.heap.size ≤ k_) ∧ k_ ≠ Ab) (.slice (some Ai) l0_2.length BL) l0_2) := ⟨by refine rK ?_; exact Kd.Rm (rf (rf (Kd.Rm Aa.o (fun k_ hk => (⟨hk, hk.2⟩ : _ ∧ k_ ≠ Ab))))) (fun _ hk => ⟨hk.1.1, hk.1.2⟩)⟩
    have n1_ : Z (((Br.setCell ⟨Ab, 0, none⟩ (.int .i64 ((rd_T89 l0_2 a2).f0))).setCell ⟨Ab, 1, none⟩ (.int .i64 ((rd_T89 l0_2 a2).f1))).heap[Aj]? = some (.cells #[.int .i64 a0_0, .int .i64 a0_1, .slice (some Ai) l0_2.length BL] 32 (0, 0))) := ⟨by refine bK ?_; (iterate 2 refine qF ?_ Ac); exact A2.o⟩
    have n2_ : Z (((Br.setCell ⟨Ab, 0, none⟩ (.int .i64 ((rd_T89 l0_2 a2).f0))).setCell ⟨Ab, 1, none⟩ (.int .i64 ((rd_T89 l0_2 a2).f1))).heap[Ab]? = some (.cells #[.int .i64 ((rd_T89 l0_2 a2).f0), .int .i64 ((rd_T89 l0_2 a2).f1)] 89 (0, 0))) := ⟨by refine bK ?_; refine qp (cs := #[iV ((rd_T89 l0_2 a2).f0), iV 0]) ?_ 1 _ rfl; refine bK ?_; refine qp (cs := #[iV 0, iV 0]) ?_ 0 _ rfl; refine bK ?_; exact A5.o⟩
    have n3_ : Z (Kept w ((Br.setCell ⟨Ab, 0, none⟩ (.int .i64 ((rd_T89 l0_2 a2).f0))).setCell ⟨Ab, 1, none⟩ (.int .i64 ((rd_T89 l0_2 a2).f1))) (fun k_ => P0_2_ k_)) := ⟨vT HK⟩
    have n4_ : Z (Below w0.heap.size w0 ((Br.setCell ⟨Ab, 0, none⟩ (.int .i64 ((rd_T89 l0_2 a2).f0))).setCell ⟨Ab, 1, none⟩ (.int .i64 ((rd_T89 l0_2 a2).f1)))) := ⟨vB HB⟩
    (try clear Aa); (try clear A2); (try clear A5); (try clear HK); (try clear HB)
    generalize ((Br.setCell ⟨Ab, 0, none⟩ (.int .i64 ((rd_T89 l0_2 a2).f0))).setCell ⟨Ab, 1, none⟩ (.int .i64 ((rd_T89 l0_2 a2).f1))) = DC at n0_ n1_ n2_ n3_ n4_ ⊢
    have Aa := n0_
    have A2 := n1_
    have A5 := n2_
    have HK := n3_
    have HB := n4_
    clear n0_ n1_ n2_ n3_ n4_
    replace Aa := Z.m (Kd.R_drew Aa.o)
    replace A2 := Z.m (blk_drew A2.o)
    replace A5 := Z.m (blk_drew A5.o)
    replace HK := Z.m (Kept.drew HK.o)
    replace HB := Z.m (qd HB.o)
    refine start_ (n := 7) (S := fun w' => w'.cell? ⟨Aj, 0, none⟩ = some (.int .i64 a0_0) ∧ w'.cell? ⟨Aj, 1, none⟩ = some (.int .i64 a0_1) ∧ w'.cell? ⟨Aj, 2, none⟩ = some (.slice (some Ai) l0_2.length BL) ∧ w'.cell? ⟨Ab, 0, none⟩ = some (.int .i64 ((rd_T89 l0_2 a2).f0)) ∧ w'.cell? ⟨Ab, 1, none⟩ = some (.int .i64 ((rd_T89 l0_2 a2).f1))) (ds := [6]) #[false, false, false, false, false, false, false] (by kernel_rfl) rfl rfl ⟨(ql A2.o 0).trans rfl, (ql A2.o 1).trans rfl, (ql A2.o 2).trans rfl, (ql A5.o 0).trans rfl, (ql A5.o 1).trans rfl⟩ (fun hHeld => ?_)
    generalize DC.drew = DN at Aa A2 A5 HK HB hHeld ⊢
    refine pure_ (i := 0) (N := some 18) (v := ?_) (a' := ?_) #[true, false, false, false, false, false, false] rfl rfl (by kernel_rfl) (fun _ _ _ h => h) (Or.inl ⟨by rfl, ?_⟩) ?_ ?_
    rotate_left
    ·intro w'
     go_simp
     with_reducible rfl
    rotate_left
    ·simp only [Act.put, q1, q2, q3, i64_w, i32_w]
     rfl
    refine pure_ (i := 2) (N := some 20) (v := ?_) (a' := ?_) #[true, false, true, false, false, false, false] rfl rfl (by kernel_rfl) (fun _ _ _ h => h) (Or.inl ⟨by rfl, ?_⟩) ?_ ?_
    rotate_left
    ·intro w'
     go_simp
     with_reducible rfl
    rotate_left
    ·simp only [Act.put, q1, q2, q3, i64_w, i32_w]
     rfl
    refine take_ (i := 1) (N := some 19) (v := ?_) (a' := ?_) #[true, true, true, false, false, false, false] rfl rfl (by kernel_rfl) (fun _ _ _ h => h) (Or.inl ⟨by rfl, ?_⟩) hHeld ?_ ?_
    rotate_left
    ·rintro w' ⟨s0, s1, s2, s3, s4⟩
     go_simp
     with_reducible rfl
    rotate_left
    ·simp only [Act.put, q1, q2, q3, i64_w, i32_w]
     rfl
    refine take_ (i := 3) (N := some 21) (v := ?_) (a' := ?_) #[true, true, true, true, false, false, false] rfl rfl (by kernel_rfl) (fun _ _ _ h => h) (Or.inl ⟨by rfl, ?_⟩) hHeld ?_ ?_
    rotate_left
    ·rintro w' ⟨s0, s1, s2, s3, s4⟩
     go_simp
     with_reducible rfl
    rotate_left
    ·simp only [Act.put, q1, q2, q3, i64_w, i32_w]
     rfl
    refine one_ (i := 4) (N := some 22) #[true, true, true, true, true, false, false] rfl rfl (by kernel_rfl) (by decide) (fun K hK => ?_)
    refine goes_ Try.func89 (by kernel_rfl) rfl #[.agg #[.int .i64 ((rd_T89 l0_2 a2).f0), .int .i64 ((rd_T89 l0_2 a2).f1)]] (by rfl) rfl rfl (by (try simp only [List.map_toArray, List.map_cons, List.map_nil]); first | done | rfl | (simp only [List.length_drop, List.length_take]; rfl)) ?_
    with_reducible refine (spec_paTurn.calls ((rd_T89 l0_2 a2).f0) ((rd_T89 l0_2 a2).f1) AA AB _ A7.o).mono ?_
    rintro e DO ⟨rfl, hb⟩
    refine ⟨_, rfl, ?_⟩
    replace Aa := Z.m (Kd.Rb (vR Aa) hb)
    replace A2 := kB A2 hb
    replace A5 := kB A5 hb
    replace HK := Z.m (Kept.below (S := (fun k_ => P0_2_ k_)) (vT HK) hb)
    replace HB := bB HB hb
    (try clear hb)
    have p8 : 0 ≤ (a2 : Int) := ofD
    have q8 : (a2 : Int) < ((l0_2.length : Int) : Int) := ofD
    obtain ⟨Bq, DL, CW, CX, gl8, cl8, CQ⟩ := Kd.R_form Aa.o (by omega)
    (first | cases CW | (injection CW with ea_ en_ ec_; (first | subst ea_ | (injection ea_ with ea_; subst ea_)); subst ec_; clear en_))
    have DH := Z.m CX
    have DI := Z.m CQ
    clear CX gl8 CQ
    have B7 := Z.m (show (P0_2_ Bq ∨ w.heap.size ≤ Bq) from (Aa.o.1 _ rfl).1)
    (first | simp only [add_plain] at Am | skip)
    (first | simp only [add_plain] at An | skip)
    obtain ⟨DK, CJ, CY, Bk, Bl⟩ := Kd.R_elem Aa.o z89 (a2 : Int) p8 q8
    obtain rfl := k89_openM CY
    have Dp : World.cell? _ ⟨Bq, (a2 : Int).toNat * 2, none⟩ = some (.int .i64 ((rd_T89 l0_2 a2).f0)) := Bk 0 _ rfl
    have Dq : World.cell? _ ⟨Bq, (a2 : Int).toNat * 2 + 1, none⟩ = some (.int .i64 ((rd_T89 l0_2 a2).f1)) := Bk 1 _ rfl
    have CZ : World.frozen? _ ⟨Bq, (a2 : Int).toNat * 2, none⟩ = false := Bl 0
    have D0 : World.frozen? _ ⟨Bq, (a2 : Int).toNat * 2 + 1, none⟩ = false := Bl 1
    (try clear CJ); (try clear Bk); (try clear Bl); (try clear CY)
    replace p8 := eq_true p8
    replace q8 := eq_true q8
    obtain ⟨Dv, Bg, BE, Be, BI⟩ := Kd.R_elem Aa.o z89 (a2 : Int) (ofD) (by have h_ : (a2 : Int) < ((l0_2.length : Int) : Int) := ofD; first | exact h_ | (have e_ := (Kd.RrZ Aa.o).1; omega) | simpa using h_)
    obtain rfl := k89_openM BE
    have Bi := (Kd.R_seg Aa.o (a2 : Int) (ofD) (by have h_ : (a2 : Int) < ((l0_2.length : Int) : Int) := ofD; first | exact h_ | (have e_ := (Kd.RrZ Aa.o).1; omega) | simpa using h_) (seg := [.int .i64 AA, .int .i64 AB]) (j := 0) Bg Be (show 2 ≤ 2 from by decide) (x' := (⟨AA, AB⟩ : S89)) (k89_mkM _ _ _ (⟨AA, AB⟩ : S89) ) (fun _ hk => hk)).1
    rw [← Bu.o] at Bi
    have HQ18 := Z.m Bi
    (try clear Bg); (try clear Be); (try clear BI); (try clear BE); (try clear Bi)
    refine hK.out _ _ ⟨(ql A2.o 0).trans rfl, (ql A2.o 1).trans rfl, (ql A2.o 2).trans rfl, (ql A5.o 0).trans rfl, (ql A5.o 1).trans rfl⟩ (fun hHeld => ?_)
    clear hK K
    refine norm_ (a' := ?_) ?_ ?_
    rotate_left
    ·show Act.put _ (some 22) _ = _
     simp only [Act.put, q1, q2, q3, i64_w, i32_w]
     rfl
    refine pure_ (i := 5) (N := some 23) (v := ?_) (a' := ?_) #[true, true, true, true, true, true, false] rfl rfl (by kernel_rfl) (fun _ _ _ h => h) (Or.inl ⟨by rfl, ?_⟩) ?_ ?_
    rotate_left
    ·intro w'
     go_simp
     with_reducible rfl
    rotate_left
    ·simp only [Act.put, q1, q2, q3, i64_w, i32_w]
     rfl
    refine last_ (i := 6) (N := none) #[true, true, true, true, true, true, true] rfl rfl (by kernel_rfl) (by decide) (fun K hK => ?_)
    refine skip_ (w1 := ?_) ?hwx ?hnx ?_ ?_; (case hwx => rfl); (case hnx => rfl)
    rotate_left
    ·go_simp
     rfl
    refine hK.out _ _ ?_
    clear hK K
    refine done_ (by kernel_rfl) ?_
    try go_wp2
    first | go_end0 | ((try simp only [Exit.inBlock, Exit.then]); refine bodyPost_ret (results_none rfl _ _ _) rfl ?_)
    exact ⟨by first | rfl | (simp [eN, eS] <;> rfl) | (simp [*, eN, eS] <;> rfl), by refine rK ?_; exact Kd.Rm HQ18.o (fun _ hk => hk.1), vB HB, by repeat (first | (with_reducible first | exact HK.o | apply Kept.alloc | apply Kept.drewN | apply Kept.drew | refine Kept.setCell ?_ B7.o _ | refine Kept.setCell ?_ B7.o _ | refine Kept.setCell ?_ (.inr Ax.o) _ | refine Kept.setCell ?_ (.inr Ay.o) _) | exact HK.o)⟩
   ·rw [if_neg c6] at H
    have BA := beq_eq_false_iff_ne.mpr c6
    have BB := bne_iff_ne.mpr c6
    by_cases c19 : ((rd_T89 l0_2 a2).f0) = 6
    ·rw [if_pos c19] at H
     have Bb := beq_iff_eq.mpr c19
     have Bc := bne_eq_false_iff_eq.mpr c19
     clear c19
     have H' := Z.m H
     clear H
     obtain ⟨CC, Ar, CH⟩ := Kd.R_slice Aa.o
     subst CH
     go_enter Try.func85, Try.ntmps85
     go_wp2_with (first | ((with_reducible refine gq (N := 3) rfl ?_); refine be (N := 3) (cs := #[.int .i64 a0_0, .int .i64 a0_1, .slice CC l0_2.length Ar]) (t := 32) ?_; intro Aj hg DP hbox hb; have A2 := Z.m (hbox); have Ax := Z.m ((by rw [hg]; exact (by first | exact HK.o.1 | exact (show Kept w _ (fun k_ => P0_2_ k_) from vT HK).1) : w.heap.size ≤ Aj)); have AZ := gW (w := w0) HB hg; replace Aa := Z.m (Kd.Rb (vR Aa) hb); replace HK := Z.m (Kept.below (S := (fun k_ => P0_2_ k_)) (vT HK) hb); replace HB := bB HB hb; clear hb hbox hg; have AJ := bc0 A2; have AK := bc1 A2; have AL := bc2 A2; have AR := qz A2.o 0; have AS := qz A2.o 1; have AT := qz A2.o 2; have p202 : 0 ≤ (a2 : Int) := ofD; have q202 : a2 < (l0_2.length : Int) := ofD; obtain ⟨Ai, e202, Am, An⟩ := at_T89 (Kd.RrZ Aa.o).2.2 a2 p202 q202; cases e202; replace p202 := eq_true p202; replace q202 := eq_true q202) | ((with_reducible refine gq (N := 6) rfl ?_); refine be (N := 6) (cs := #[.int .i64 0, .int .i64 0]) (t := 89) ?_; intro Ab hg DQ hbox hb; have A5 := Z.m (hbox); have Ay := Z.m ((by rw [hg]; exact (by first | exact HK.o.1 | exact (show Kept w _ (fun k_ => P0_2_ k_) from vT HK).1) : w.heap.size ≤ Ab)); have B0 := gW (w := w0) HB hg; have Ac := neL A2 hg; have Ae := neG A2 hg; replace Aa := Z.m (Kd.Rb (Kd.R_elderB (vR Aa) Ab (Nat.le_of_eq hg.symm)) hb); replace A2 := kB A2 hb; replace HK := Z.m (Kept.below (S := (fun k_ => P0_2_ k_)) (vT HK) hb); replace HB := bB HB hb; clear hb hbox hg; have D2 := Ae.o; have De := Ac.o; have AM := bc0 A5; have AN := bc1 A5; have AU := qz A5.o 0; have AV := qz A5.o 1; have AO := bc0 A2; have AP := bc1 A2; have AQ := bc2 A2; have AW := qz A2.o 0; have AX := qz A2.o 1; have AY := qz A2.o 2))
     go_loopg [29] k (fun kq v29 w' => ∃ (A4 : Int) (A0 : List (S89)) (Ag : Int) (Ah : Int), v29 = .int .i64 A4 ∧ Z (spec_flPass.l0 kq l1 a2 (l0_2.length : Int) A4 a0_0 a0_1 A0 = some r) ∧ Z (kq ≤ k) ∧ Z (Kd.R k89 89 w' w0.heap.size (fun k_ => (P0_2_ k_ ∨ w.heap.size ≤ k_) ∧ k_ ≠ Ab) (.slice (some Ai) l0_2.length Ar) A0) ∧ Z (w'.heap[Aj]? = some (.cells #[.int .i64 a0_0, .int .i64 a0_1, (.slice (some Ai) l0_2.length Ar)] 32 (0, 0))) ∧ Z (w'.heap[Ab]? = some (.cells #[.int .i64 Ag, .int .i64 Ah] 89 (0, 0))) ∧ Z (Kept w w' (fun k_ => P0_2_ k_)) ∧ Z (Below w0.heap.size w0 w'))
     case atStart => exact ⟨(0), (l0_2), ((rd_T89 l0_2 a2).f0), ((rd_T89 l0_2 a2).f1), (by first | rfl | (simp; done) | (simp [*]; done)), H', ⟨Nat.le_refl _⟩, ⟨by refine rK ?_; exact Kd.Rm (rf (rf (Kd.Rm Aa.o (fun k_ hk => (⟨hk, hk.2⟩ : _ ∧ k_ ≠ Ab))))) (fun _ hk => ⟨hk.1.1, hk.1.2⟩)⟩, ⟨by refine bK ?_; (iterate 2 refine qF ?_ Ac); exact A2.o⟩, ⟨by refine bK ?_; refine qp (cs := #[iV ((rd_T89 l0_2 a2).f0), iV 0]) ?_ 1 _ rfl; refine bK ?_; refine qp (cs := #[iV 0, iV 0]) ?_ 0 _ rfl; refine bK ?_; exact A5.o⟩, ⟨vT HK⟩, ⟨vB HB⟩⟩
     case round =>
      clear H'
      (try clear CE); (try clear CF); (try clear c6); (try clear BA); (try clear BB); (try clear Bb); (try clear Bc)
      (try clear AJ); (try clear AK); (try clear AL); (try clear AM); (try clear AN); (try clear AO); (try clear AP); (try clear AQ)
      (try clear AR); (try clear AS); (try clear AT); (try clear AU); (try clear AV); (try clear AW); (try clear AX); (try clear AY); (try clear Am); (try clear An); (try clear p202); (try clear q202)
      obtain ⟨A4, A0, Ag, Ah, rfl, HA, Bp, A3, A2, A5, HK, HB⟩ := hrel
      have A8 := (Kd.RrZ A3.o).1
      rw [A8] at A3
      (try simp only [A8])
      (try simp only [A8] at A2)
      (try simp only [A8] at A5)
      cases gk with
      | zero => exact absurd HA.o (by simp [spec_flPass.l0])
      | succ k1 =>
       have H := HA.o
       clear HA
       simp only [spec_flPass.l0] at H
       by_cases c27 : A4 < (l0_2.length : Int)
       ·rw [if_pos c27] at H
        have Bd := decide_eq_true c27
        clear c27
        by_cases c28 : 0 ≤ A4
        ·rw [if_pos c28] at H
         have CR := decide_eq_true c28
         clear c28
         by_cases c29 : A4 < (A0.length : Int)
         ·rw [if_pos c29] at H
          have CS := decide_eq_true c29
          clear c29
          by_cases c30 : ((rd_T89 A0 A4).f0) = 6
          ·rw [if_pos c30] at H
           have Bw := beq_iff_eq.mpr c30
           have Bx := bne_eq_false_iff_eq.mpr c30
           clear c30
           by_cases c31 : A4 < (l1.length : Int)
           ·rw [if_pos c31] at H
            have CT := decide_eq_true c31
            clear c31
            by_cases c32 : 0 ≤ a2
            ·rw [if_pos c32] at H
             have CU := decide_eq_true c32
             clear c32
             by_cases c33 : a2 < (l1.length : Int)
             ·rw [if_pos c33] at H
              have CV := decide_eq_true c33
              clear c33
              by_cases c34 : (rd l1 A4) = (rd l1 a2)
              ·rw [if_pos c34] at H
               have By := beq_iff_eq.mpr c34
               have Bz := bne_eq_false_iff_eq.mpr c34
               clear c34
               replace H := Option.bind_eq_some_iff.mp H
               obtain ⟨⟨AC, AD⟩, Bs, H⟩ := H
               replace H : (spec_flPass.l0 k1 l1 a2 (l0_2.length : Int) (wrap64 (A4 + 1)) a0_0 a0_1 (A0.set (A4 : Int).toNat (⟨AC, AD⟩ : S89))) = some r := H
               have Dr := Z.m Bs
               clear Bs
               obtain ⟨BK, Aw⟩ : ∃ y_ : List (S89), y_ = (A0.set (A4 : Int).toNat (⟨AC, AD⟩ : S89)) := ⟨_, rfl⟩
               replace H : (spec_flPass.l0 k1 l1 a2 (l0_2.length : Int) (wrap64 (A4 + 1)) a0_0 a0_1 BK) = some r := by first | (rw [Aw]; with_reducible exact H) | (have H2_ := (Option.bind_some _ _).symm.trans H; rw [Aw]; with_reducible exact H2_) | (have H2_ := (Option.bind_some _ _).symm.trans H; with_reducible exact H2_) | with_reducible exact H | (rw [Aw]; exact H) | exact H
               have Bv := Z.m Aw
               clear Aw
               have H' := Z.m H
               clear H
               have D3 := Ac.o
               have Df := Ae.o
               have BR := bc0 A2
               have BS := bc1 A2
               have BT := bc2 A2
               have Ch := qz A2.o 0
               have Ci := qz A2.o 1
               have Cj := qz A2.o 2
               have p207 : 0 ≤ (A4 : Int) := ofD
               have q207 : A4 < (A0.length : Int) := ofD
               obtain ⟨Au, e207, As, At⟩ := at_T89 (Kd.RrZ A3.o).2.2 A4 p207 q207
               obtain rfl : Ai = Au := (by injection e207)
               replace p207 := eq_true p207
               replace q207 := eq_true q207
               try go_wp2_with (first | ((with_reducible refine gq (N := 8) rfl ?_); refine be (N := 8) (cs := #[.int .i64 0, .int .i64 0]) (t := 89) ?_; intro A6 hg Bm hbox hb; have A9 := Z.m (hbox); have AE := Z.m ((by rw [hg]; exact (by first | exact HK.o.1 | exact (show Kept w _ (fun k_ => P0_2_ k_) from vT HK).1) : w.heap.size ≤ A6)); have B2 := gW (w := w0) HB hg; have Ad := neL A2 hg; have Ak := neG A2 hg; have Af := neL A5 hg; have Al := neG A5 hg; replace A3 := Z.m (Kd.Rb (Kd.R_elderB (vR A3) A6 (Nat.le_of_eq hg.symm)) hb); replace A2 := kB A2 hb; replace A5 := kB A5 hb; replace HK := Z.m (Kept.below (S := (fun k_ => P0_2_ k_)) (vT HK) hb); replace HB := bB HB hb; clear hb hbox hg; have D4 := Ak.o; have Dg := Ad.o; have D5 := Al.o; have Dh := Af.o; have BU := bc0 A9; have BV := bc1 A9; have Cl := qz A9.o 0; have Cm := qz A9.o 1))
               have n0_ : Z (Kd.R k89 89 ((Bm.setCell ⟨A6, 0, none⟩ (.int .i64 ((rd_T89 A0 A4).f0))).setCell ⟨A6, 1, none⟩ (.int .i64 ((rd_T89 A0 A4).f1))) w0.heap.size (fun k_ => (P0_2_ k_ ∨ w.heap.size ≤ k_) ∧ k_ ≠ Ab ∧ k_ ≠ A6) (.slice (some Ai) A0.length Ar) A0) := ⟨by refine rK ?_; exact Kd.Rm (rf (rf (Kd.Rm A3.o (fun k_ hk => (⟨hk, hk.2⟩ : _ ∧ k_ ≠ A6))))) (fun _ hk => ⟨hk.1.1.1, ⟨hk.1.1.2, hk.1.2⟩⟩)⟩
               have n1_ : Z (((Bm.setCell ⟨A6, 0, none⟩ (.int .i64 ((rd_T89 A0 A4).f0))).setCell ⟨A6, 1, none⟩ (.int .i64 ((rd_T89 A0 A4).f1))).heap[Aj]? = some (.cells #[.int .i64 a0_0, .int .i64 a0_1, .slice (some Ai) A0.length Ar] 32 (0, 0))) := ⟨by refine bK ?_; (iterate 2 refine qF ?_ Ad); exact A2.o⟩
               have n2_ : Z (((Bm.setCell ⟨A6, 0, none⟩ (.int .i64 ((rd_T89 A0 A4).f0))).setCell ⟨A6, 1, none⟩ (.int .i64 ((rd_T89 A0 A4).f1))).heap[Ab]? = some (.cells #[.int .i64 Ag, .int .i64 Ah] 89 (0, 0))) := ⟨by refine bK ?_; (iterate 2 refine qF ?_ Af); exact A5.o⟩
               have n3_ : Z (((Bm.setCell ⟨A6, 0, none⟩ (.int .i64 ((rd_T89 A0 A4).f0))).setCell ⟨A6, 1, none⟩ (.int .i64 ((rd_T89 A0 A4).f1))).heap[A6]? = some (.cells #[.int .i64 ((rd_T89 A0 A4).f0), .int .i64 ((rd_T89 A0 A4).f1)] 89 (0, 0))) := ⟨by refine bK ?_; refine qp (cs := #[iV ((rd_T89 A0 A4).f0), iV 0]) ?_ 1 _ rfl; refine bK ?_; refine qp (cs := #[iV 0, iV 0]) ?_ 0 _ rfl; refine bK ?_; exact A9.o⟩
               have n4_ : Z (Kept w ((Bm.setCell ⟨A6, 0, none⟩ (.int .i64 ((rd_T89 A0 A4).f0))).setCell ⟨A6, 1, none⟩ (.int .i64 ((rd_T89 A0 A4).f1))) (fun k_ => P0_2_ k_)) := ⟨vT HK⟩
               have n5_ : Z (Below w0.heap.size w0 ((Bm.setCell ⟨A6, 0, none⟩ (.int .i64 ((rd_T89 A0 A4).f0))).setCell ⟨A6, 1, none⟩ (.int .i64 ((rd_T89 A0 A4).f1)))) := ⟨vB HB⟩
               (try clear A3); (try clear A2); (try clear A5); (try clear A9); (try clear HK); (try clear HB)
               generalize ((Bm.setCell ⟨A6, 0, none⟩ (.int .i64 ((rd_T89 A0 A4).f0))).setCell ⟨A6, 1, none⟩ (.int .i64 ((rd_T89 A0 A4).f1))) = DD at n0_ n1_ n2_ n3_ n4_ n5_ ⊢
               have A3 := n0_
               have A2 := n1_
               have A5 := n2_
               have A9 := n3_
               have HK := n4_
               have HB := n5_
               clear n0_ n1_ n2_ n3_ n4_ n5_
               replace A3 := Z.m (Kd.R_drew A3.o)
               replace A2 := Z.m (blk_drew A2.o)
               replace A5 := Z.m (blk_drew A5.o)
               replace A9 := Z.m (blk_drew A9.o)
               replace HK := Z.m (Kept.drew HK.o)
               replace HB := Z.m (qd HB.o)
               have p209 : 0 ≤ (A4 : Int) := ofD
               have q209 : A4 < (l1.length : Int) := ofD
               obtain ⟨Aq, e209, Ao⟩ := Kd.at_int (Kd.C_kept_now Ba.o HK.o) A4 p209 q209
               have hw209_0 := Ao
               cases e209
               replace p209 := eq_true p209
               replace q209 := eq_true q209
               have p210 : 0 ≤ (a2 : Int) := ofD
               have q210 : a2 < (l1.length : Int) := ofD
               obtain ⟨AG, e210, Ap⟩ := Kd.at_int (Kd.C_kept_now Ba.o HK.o) a2 p210 q210
               have hw210_0 := Ap
               obtain rfl : Aq = AG := (by injection e210)
               replace p210 := eq_true p210
               replace q210 := eq_true q210
               refine start_ (n := 14) (S := fun w' => w'.cell? ⟨A6, 0, none⟩ = some (.int .i64 ((rd_T89 A0 A4).f0)) ∧ w'.cell? ⟨A6, 1, none⟩ = some (.int .i64 ((rd_T89 A0 A4).f1)) ∧ w'.cell? (Aq.add (A4).toNat) = some (.int .i64 (rd l1 A4)) ∧ w'.cell? (Aq.add (a2).toNat) = some (.int .i64 (rd l1 a2))) (ds := []) #[false, false, false, false, false, false, false, false, false, false, false, false, false, false] (by kernel_rfl) rfl rfl ⟨(ql A9.o 0).trans rfl, (ql A9.o 1).trans rfl, (Kd.foot_int (Ba.o _ (by repeat (first | exact HK.o | apply Kept.alloc | apply Kept.drewN | apply Kept.drew))) A4 (of_eq_true p209) (of_eq_true q209)), (Kd.foot_int (Ba.o _ (by repeat (first | exact HK.o | apply Kept.alloc | apply Kept.drewN | apply Kept.drew))) a2 (of_eq_true p210) (of_eq_true q210))⟩ (fun hHeld => ?_); refine with_tabW spec_flPass.tab9 spec_flPass.bits9 (fun HT_ HW_ => ?_)
               generalize DD.drew = DE at A3 A2 A5 A9 HK HB Ao Ap hHeld ⊢
               refine pure_ (i := 0) (N := some 34) (v := ?_) (a' := ?_) #[true, false, false, false, false, false, false, false, false, false, false, false, false, false] rfl rfl (any_of HT_.o (by kernel_rfl)) (fun _ _ _ h => h) (Or.inl ⟨by rfl, ?_⟩) ?_ ?_
               rotate_left
               ·intro w'
                go_simp
                with_reducible rfl
               rotate_left
               ·simp only [Act.put, q1, q2, q3, i64_w, i32_w]
                rfl
               refine take_ (i := 1) (N := some 35) (v := ?_) (a' := ?_) #[true, true, false, false, false, false, false, false, false, false, false, false, false, false] rfl rfl (take_ofW HT_.o HW_.o (by kernel_rfl)) (fun _ _ _ h => h) (Or.inl ⟨by rfl, ?_⟩) hHeld ?_ ?_
               rotate_left
               ·rintro w' ⟨s0, s1, s2, s3⟩
                go_simp
                with_reducible rfl
               rotate_left
               ·simp only [Act.put, q1, q2, q3, i64_w, i32_w]
                rfl
               refine pure_ (i := 2) (N := some 36) (v := ?_) (a' := ?_) #[true, true, true, false, false, false, false, false, false, false, false, false, false, false] rfl rfl (any_of HT_.o (by kernel_rfl)) (fun _ _ _ h => h) (Or.inl ⟨by rfl, ?_⟩) ?_ ?_
               rotate_left
               ·intro w'
                go_simp
                with_reducible rfl
               rotate_left
               ·simp only [Act.put, q1, q2, q3, i64_w, i32_w]
                rfl
               refine pure_ (i := 3) (N := some 37) (v := ?_) (a' := ?_) #[true, true, true, true, false, false, false, false, false, false, false, false, false, false] rfl rfl (any_of HT_.o (by kernel_rfl)) (fun _ _ _ h => h) (Or.inl ⟨by rfl, ?_⟩) ?_ ?_
               rotate_left
               ·intro w'
                go_simp
                with_reducible rfl
               rotate_left
               ·simp only [Act.put, q1, q2, q3, i64_w, i32_w]
                rfl
               refine pure_ (i := 4) (N := some 38) (v := ?_) (a' := ?_) #[true, true, true, true, true, false, false, false, false, false, false, false, false, false] rfl rfl (any_of HT_.o (by kernel_rfl)) (fun _ _ _ h => h) (Or.inl ⟨by rfl, ?_⟩) ?_ ?_
               rotate_left
               ·intro w'
                go_simp
                with_reducible rfl
               rotate_left
               ·simp only [Act.put, q1, q2, q3, i64_w, i32_w]
                rfl
               refine pure_ (i := 5) (N := some 39) (v := ?_) (a' := ?_) #[true, true, true, true, true, true, false, false, false, false, false, false, false, false] rfl rfl (any_of HT_.o (by kernel_rfl)) (fun _ _ _ h => h) (Or.inl ⟨by rfl, ?_⟩) ?_ ?_
               rotate_left
               ·intro w'
                go_simp
                with_reducible rfl
               rotate_left
               ·simp only [Act.put, q1, q2, q3, i64_w, i32_w]
                rfl
               refine pure_ (i := 6) (N := some 40) (v := ?_) (a' := ?_) #[true, true, true, true, true, true, true, false, false, false, false, false, false, false] rfl rfl (any_of HT_.o (by kernel_rfl)) (fun _ _ _ h => h) (Or.inl ⟨by rfl, ?_⟩) ?_ ?_
               rotate_left
               ·intro w'
                go_simp
                with_reducible rfl
               rotate_left
               ·simp only [Act.put, q1, q2, q3, i64_w, i32_w]
                rfl
               refine pure_ (i := 8) (N := some 42) (v := ?_) (a' := ?_) #[true, true, true, true, true, true, true, false, true, false, false, false, false, false] rfl rfl (any_of HT_.o (by kernel_rfl)) (fun _ _ _ h => h) (Or.inl ⟨by rfl, ?_⟩) ?_ ?_
               rotate_left
               ·intro w'
                go_simp
                with_reducible rfl
               rotate_left
               ·simp only [Act.put, q1, q2, q3, i64_w, i32_w]
                rfl
               refine pure_ (i := 9) (N := some 43) (v := ?_) (a' := ?_) #[true, true, true, true, true, true, true, false, true, true, false, false, false, false] rfl rfl (any_of HT_.o (by kernel_rfl)) (fun _ _ _ h => h) (Or.inl ⟨by rfl, ?_⟩) ?_ ?_
               rotate_left
               ·intro w'
                go_simp
                with_reducible rfl
               rotate_left
               ·simp only [Act.put, q1, q2, q3, i64_w, i32_w]
                rfl
               refine pure_ (i := 10) (N := some 44) (v := ?_) (a' := ?_) #[true, true, true, true, true, true, true, false, true, true, true, false, false, false] rfl rfl (any_of HT_.o (by kernel_rfl)) (fun _ _ _ h => h) (Or.inl ⟨by rfl, ?_⟩) ?_ ?_
               rotate_left
               ·intro w'
                go_simp
                with_reducible rfl
               rotate_left
               ·simp only [Act.put, q1, q2, q3, i64_w, i32_w]
                rfl
               refine take_ (i := 7) (N := some 41) (v := ?_) (a' := ?_) #[true, true, true, true, true, true, true, true, true, true, true, false, false, false] rfl rfl (take_ofW HT_.o HW_.o (by kernel_rfl)) (fun _ _ _ h => h) (Or.inl ⟨by rfl, ?_⟩) hHeld ?_ ?_
               rotate_left
               ·rintro w' ⟨s0, s1, s2, s3⟩
                go_simp
                with_reducible rfl
               rotate_left
               ·simp only [Act.put, q1, q2, q3, i64_w, i32_w]
                rfl
               refine take_ (i := 11) (N := some 45) (v := ?_) (a' := ?_) #[true, true, true, true, true, true, true, true, true, true, true, true, false, false] rfl rfl (take_ofW HT_.o HW_.o (by kernel_rfl)) (fun _ _ _ h => h) (Or.inl ⟨by rfl, ?_⟩) hHeld ?_ ?_
               rotate_left
               ·rintro w' ⟨s0, s1, s2, s3⟩
                go_simp
                with_reducible rfl
               rotate_left
               ·simp only [Act.put, q1, q2, q3, i64_w, i32_w]
                rfl
               refine pure_ (i := 12) (N := some 46) (v := ?_) (a' := ?_) #[true, true, true, true, true, true, true, true, true, true, true, true, true, false] rfl rfl (any_of HT_.o (by kernel_rfl)) (fun _ _ _ h => h) (Or.inl ⟨by rfl, ?_⟩) ?_ ?_
               rotate_left
               ·intro w'
                go_simp
                with_reducible rfl
               rotate_left
               ·simp only [Act.put, q1, q2, q3, i64_w, i32_w]
                rfl
               refine pure_ (i := 13) (N := some 47) (v := ?_) (a' := ?_) #[true, true, true, true, true, true, true, true, true, true, true, true, true, true] rfl rfl (any_of HT_.o (by kernel_rfl)) (fun _ _ _ h => h) (Or.inl ⟨by rfl, ?_⟩) ?_ ?_
               rotate_left
               ·intro w'
                go_simp
                with_reducible rfl
               rotate_left
               ·simp only [Act.put, q1, q2, q3, i64_w, i32_w]
                rfl
               refine done_ (done_of HT_.o (by kernel_rfl)) ?_
               try go_wp2
               replace A3 := Z.m (Kd.R_drew A3.o)
               replace A2 := Z.m (blk_drew A2.o)
               replace A5 := Z.m (blk_drew A5.o)
               replace A9 := Z.m (blk_drew A9.o)
               replace HK := Z.m (Kept.drew HK.o)
               replace HB := Z.m (qd HB.o)
               refine start_ (n := 7) (S := fun w' => w'.cell? ⟨Aj, 0, none⟩ = some (.int .i64 a0_0) ∧ w'.cell? ⟨Aj, 1, none⟩ = some (.int .i64 a0_1) ∧ w'.cell? ⟨Aj, 2, none⟩ = some (.slice (some Ai) A0.length Ar) ∧ w'.cell? ⟨A6, 0, none⟩ = some (.int .i64 ((rd_T89 A0 A4).f0)) ∧ w'.cell? ⟨A6, 1, none⟩ = some (.int .i64 ((rd_T89 A0 A4).f1))) (ds := [6]) #[false, false, false, false, false, false, false] (by kernel_rfl) rfl rfl ⟨(ql A2.o 0).trans rfl, (ql A2.o 1).trans rfl, (ql A2.o 2).trans rfl, (ql A9.o 0).trans rfl, (ql A9.o 1).trans rfl⟩ (fun hHeld => ?_)
               generalize DE.drew = DR at A3 A2 A5 A9 HK HB hHeld ⊢
               refine pure_ (i := 0) (N := some 48) (v := ?_) (a' := ?_) #[true, false, false, false, false, false, false] rfl rfl (by kernel_rfl) (fun _ _ _ h => h) (Or.inl ⟨by rfl, ?_⟩) ?_ ?_
               rotate_left
               ·intro w'
                go_simp
                with_reducible rfl
               rotate_left
               ·simp only [Act.put, q1, q2, q3, i64_w, i32_w]
                rfl
               refine pure_ (i := 2) (N := some 50) (v := ?_) (a' := ?_) #[true, false, true, false, false, false, false] rfl rfl (by kernel_rfl) (fun _ _ _ h => h) (Or.inl ⟨by rfl, ?_⟩) ?_ ?_
               rotate_left
               ·intro w'
                go_simp
                with_reducible rfl
               rotate_left
               ·simp only [Act.put, q1, q2, q3, i64_w, i32_w]
                rfl
               refine take_ (i := 1) (N := some 49) (v := ?_) (a' := ?_) #[true, true, true, false, false, false, false] rfl rfl (by kernel_rfl) (fun _ _ _ h => h) (Or.inl ⟨by rfl, ?_⟩) hHeld ?_ ?_
               rotate_left
               ·rintro w' ⟨s0, s1, s2, s3, s4⟩
                go_simp
                with_reducible rfl
               rotate_left
               ·simp only [Act.put, q1, q2, q3, i64_w, i32_w]
                rfl
               refine take_ (i := 3) (N := some 51) (v := ?_) (a' := ?_) #[true, true, true, true, false, false, false] rfl rfl (by kernel_rfl) (fun _ _ _ h => h) (Or.inl ⟨by rfl, ?_⟩) hHeld ?_ ?_
               rotate_left
               ·rintro w' ⟨s0, s1, s2, s3, s4⟩
                go_simp
                with_reducible rfl
               rotate_left
               ·simp only [Act.put, q1, q2, q3, i64_w, i32_w]
                rfl
               refine one_ (i := 4) (N := some 52) #[true, true, true, true, true, false, false] rfl rfl (by kernel_rfl) (by decide) (fun K hK => ?_)
               refine goes_ Try.func89 (by kernel_rfl) rfl #[.agg #[.int .i64 ((rd_T89 A0 A4).f0), .int .i64 ((rd_T89 A0 A4).f1)]] (by rfl) rfl rfl (by (try simp only [List.map_toArray, List.map_cons, List.map_nil]); first | done | rfl | (simp only [List.length_drop, List.length_take]; rfl)) ?_
               with_reducible refine (spec_paTurn.calls ((rd_T89 A0 A4).f0) ((rd_T89 A0 A4).f1) AC AD _ Dr.o).mono ?_
               rintro e DS ⟨rfl, hb⟩
               refine ⟨_, rfl, ?_⟩
               replace A3 := Z.m (Kd.Rb (vR A3) hb)
               replace A2 := kB A2 hb
               replace A5 := kB A5 hb
               replace A9 := kB A9 hb
               replace HK := Z.m (Kept.below (S := (fun k_ => P0_2_ k_)) (vT HK) hb)
               replace HB := bB HB hb
               (try clear hb)
               have p36 : 0 ≤ (A4 : Int) := ofD
               have q36 : (A4 : Int) < ((A0.length : Int) : Int) := ofD
               obtain ⟨Az, Dy, BC, BD, gl36, cl36, Bt⟩ := Kd.R_form A3.o (by omega)
               (first | cases BC | (injection BC with ea_ en_ ec_; (first | subst ea_ | (injection ea_ with ea_; subst ea_)); subst ec_; clear en_))
               have Dt := Z.m BD
               have Du := Z.m Bt
               clear BD gl36 Bt
               have AF := Z.m (show (P0_2_ Az ∨ w.heap.size ≤ Az) from (A3.o.1 _ rfl).1)
               (first | simp only [add_plain] at Am | skip)
               (first | simp only [add_plain] at An | skip)
               (first | simp only [add_plain] at As | skip)
               (first | simp only [add_plain] at At | skip)
               obtain ⟨Dw, BH, BF, AH, AI⟩ := Kd.R_elem A3.o z89 (A4 : Int) p36 q36
               obtain rfl := k89_openM BF
               have CM : World.cell? _ ⟨Az, (A4 : Int).toNat * 2, none⟩ = some (.int .i64 ((rd_T89 A0 A4).f0)) := AH 0 _ rfl
               have CN : World.cell? _ ⟨Az, (A4 : Int).toNat * 2 + 1, none⟩ = some (.int .i64 ((rd_T89 A0 A4).f1)) := AH 1 _ rfl
               have CK : World.frozen? _ ⟨Az, (A4 : Int).toNat * 2, none⟩ = false := AI 0
               have CL : World.frozen? _ ⟨Az, (A4 : Int).toNat * 2 + 1, none⟩ = false := AI 1
               (try clear BH); (try clear AH); (try clear AI); (try clear BF)
               replace p36 := eq_true p36
               replace q36 := eq_true q36
               obtain ⟨Dx, Bh, BG, Bf, BJ⟩ := Kd.R_elem A3.o z89 (A4 : Int) (ofD) (by have h_ : (A4 : Int) < ((A0.length : Int) : Int) := ofD; first | exact h_ | (have e_ := (Kd.RrZ A3.o).1; omega) | simpa using h_)
               obtain rfl := k89_openM BG
               have Bj := (Kd.R_seg A3.o (A4 : Int) (ofD) (by have h_ : (A4 : Int) < ((A0.length : Int) : Int) := ofD; first | exact h_ | (have e_ := (Kd.RrZ A3.o).1; omega) | simpa using h_) (seg := [.int .i64 AC, .int .i64 AD]) (j := 0) Bh Bf (show 2 ≤ 2 from by decide) (x' := (⟨AC, AD⟩ : S89)) (k89_mkM _ _ _ (⟨AC, AD⟩ : S89) ) (fun _ hk => hk)).1
               rw [← Bv.o] at Bj
               have HQ47 := Z.m Bj
               (try clear Bh); (try clear Bf); (try clear BJ); (try clear BG); (try clear Bj)
               refine hK.out _ _ ⟨(ql A2.o 0).trans rfl, (ql A2.o 1).trans rfl, (ql A2.o 2).trans rfl, (ql A9.o 0).trans rfl, (ql A9.o 1).trans rfl⟩ (fun hHeld => ?_)
               clear hK K
               refine norm_ (a' := ?_) ?_ ?_
               rotate_left
               ·show Act.put _ (some 52) _ = _
                simp only [Act.put, q1, q2, q3, i64_w, i32_w]
                rfl
               refine pure_ (i := 5) (N := some 53) (v := ?_) (a' := ?_) #[true, true, true, true, true, true, false] rfl rfl (by kernel_rfl) (fun _ _ _ h => h) (Or.inl ⟨by rfl, ?_⟩) ?_ ?_
               rotate_left
               ·intro w'
                go_simp
                with_reducible rfl
               rotate_left
               ·simp only [Act.put, q1, q2, q3, i64_w, i32_w]
                rfl
               refine last_ (i := 6) (N := none) #[true, true, true, true, true, true, true] rfl rfl (by kernel_rfl) (by decide) (fun K hK => ?_)
               refine skip_ (w1 := ?_) ?hwx ?hnx ?_ ?_; (case hwx => rfl); (case hnx => rfl)
               rotate_left
               ·go_simp
                rfl
               refine hK.out _ _ ?_
               clear hK K
               refine done_ (by kernel_rfl) ?_
               try go_wp2
               (try simp only [← A8])
               go_roundg k1
               case measure => have := Bp.o; omega
               case rel => exact ⟨(wrap64 (A4 + 1)), (BK), (Ag), (Ah), (by first | rfl | (simp; done) | (simp [*]; done)), H', ⟨by have := Bp.o; omega⟩, ⟨by (try simp only [A8]); refine rK ?_; exact Kd.Rm HQ47.o (fun _ hk => ⟨hk.1, hk.2.1⟩)⟩, ⟨by (try simp only [A8]); refine bK ?_; refine qf ?_ (by have h_ := Kd.R_ne A3.o A2.o (by decide); intro e_; exact h_ (by rw [e_]; rfl)) _; refine bK ?_; refine qf ?_ (by have h_ := Kd.R_ne A3.o A2.o (by decide); intro e_; exact h_ (by rw [e_]; rfl)) _; refine bK ?_; exact A2.o⟩, ⟨by (try simp only [A8]); refine bK ?_; refine qf ?_ (by have h_ := Kd.R_away A3.o (fun _ hk => hk.2.1); intro e_; exact h_ (by rw [e_]; rfl)) _; refine bK ?_; refine qf ?_ (by have h_ := Kd.R_away A3.o (fun _ hk => hk.2.1); intro e_; exact h_ (by rw [e_]; rfl)) _; refine bK ?_; exact A5.o⟩, ⟨by repeat (first | (with_reducible first | exact HK.o | apply Kept.alloc | apply Kept.drewN | apply Kept.drew | refine Kept.setCell ?_ AF.o _ | refine Kept.setCell ?_ AF.o _ | refine Kept.setCell ?_ (.inr Ax.o) _ | refine Kept.setCell ?_ (.inr Ay.o) _ | refine Kept.setCell ?_ (.inr AE.o) _) | exact HK.o)⟩, ⟨vB HB⟩⟩
              ·rw [if_neg c34] at H
               have By := beq_eq_false_iff_ne.mpr c34
               have Bz := bne_iff_ne.mpr c34
               have H' := Z.m H
               clear H
               have D6 := Ac.o
               have Di := Ae.o
               have BW := bc0 A2
               have BX := bc1 A2
               have BY := bc2 A2
               have Cn := qz A2.o 0
               have Co := qz A2.o 1
               have Cp := qz A2.o 2
               have p207 : 0 ≤ (A4 : Int) := ofD
               have q207 : A4 < (A0.length : Int) := ofD
               obtain ⟨Au, e207, As, At⟩ := at_T89 (Kd.RrZ A3.o).2.2 A4 p207 q207
               obtain rfl : Ai = Au := (by injection e207)
               replace p207 := eq_true p207
               replace q207 := eq_true q207
               try go_wp2_with (first | ((with_reducible refine gq (N := 8) rfl ?_); refine be (N := 8) (cs := #[.int .i64 0, .int .i64 0]) (t := 89) ?_; intro A6 hg Bn hbox hb; have A9 := Z.m (hbox); have AE := Z.m ((by rw [hg]; exact (by first | exact HK.o.1 | exact (show Kept w _ (fun k_ => P0_2_ k_) from vT HK).1) : w.heap.size ≤ A6)); have B2 := gW (w := w0) HB hg; have Ad := neL A2 hg; have Ak := neG A2 hg; have Af := neL A5 hg; have Al := neG A5 hg; replace A3 := Z.m (Kd.Rb (Kd.R_elderB (vR A3) A6 (Nat.le_of_eq hg.symm)) hb); replace A2 := kB A2 hb; replace A5 := kB A5 hb; replace HK := Z.m (Kept.below (S := (fun k_ => P0_2_ k_)) (vT HK) hb); replace HB := bB HB hb; clear hb hbox hg; have D7 := Ak.o; have Dj := Ad.o; have D8 := Al.o; have Dk := Af.o; have BZ := bc0 A9; have C0 := bc1 A9; have Cq := qz A9.o 0; have Cr := qz A9.o 1))
               have n0_ : Z (Kd.R k89 89 ((Bn.setCell ⟨A6, 0, none⟩ (.int .i64 ((rd_T89 A0 A4).f0))).setCell ⟨A6, 1, none⟩ (.int .i64 ((rd_T89 A0 A4).f1))) w0.heap.size (fun k_ => (P0_2_ k_ ∨ w.heap.size ≤ k_) ∧ k_ ≠ Ab ∧ k_ ≠ A6) (.slice (some Ai) A0.length Ar) A0) := ⟨by refine rK ?_; exact Kd.Rm (rf (rf (Kd.Rm A3.o (fun k_ hk => (⟨hk, hk.2⟩ : _ ∧ k_ ≠ A6))))) (fun _ hk => ⟨hk.1.1.1, ⟨hk.1.1.2, hk.1.2⟩⟩)⟩
               have n1_ : Z (((Bn.setCell ⟨A6, 0, none⟩ (.int .i64 ((rd_T89 A0 A4).f0))).setCell ⟨A6, 1, none⟩ (.int .i64 ((rd_T89 A0 A4).f1))).heap[Aj]? = some (.cells #[.int .i64 a0_0, .int .i64 a0_1, .slice (some Ai) A0.length Ar] 32 (0, 0))) := ⟨by refine bK ?_; (iterate 2 refine qF ?_ Ad); exact A2.o⟩
               have n2_ : Z (((Bn.setCell ⟨A6, 0, none⟩ (.int .i64 ((rd_T89 A0 A4).f0))).setCell ⟨A6, 1, none⟩ (.int .i64 ((rd_T89 A0 A4).f1))).heap[Ab]? = some (.cells #[.int .i64 Ag, .int .i64 Ah] 89 (0, 0))) := ⟨by refine bK ?_; (iterate 2 refine qF ?_ Af); exact A5.o⟩
               have n3_ : Z (((Bn.setCell ⟨A6, 0, none⟩ (.int .i64 ((rd_T89 A0 A4).f0))).setCell ⟨A6, 1, none⟩ (.int .i64 ((rd_T89 A0 A4).f1))).heap[A6]? = some (.cells #[.int .i64 ((rd_T89 A0 A4).f0), .int .i64 ((rd_T89 A0 A4).f1)] 89 (0, 0))) := ⟨by refine bK ?_; refine qp (cs := #[iV ((rd_T89 A0 A4).f0), iV 0]) ?_ 1 _ rfl; refine bK ?_; refine qp (cs := #[iV 0, iV 0]) ?_ 0 _ rfl; refine bK ?_; exact A9.o⟩
               have n4_ : Z (Kept w ((Bn.setCell ⟨A6, 0, none⟩ (.int .i64 ((rd_T89 A0 A4).f0))).setCell ⟨A6, 1, none⟩ (.int .i64 ((rd_T89 A0 A4).f1))) (fun k_ => P0_2_ k_)) := ⟨vT HK⟩
               have n5_ : Z (Below w0.heap.size w0 ((Bn.setCell ⟨A6, 0, none⟩ (.int .i64 ((rd_T89 A0 A4).f0))).setCell ⟨A6, 1, none⟩ (.int .i64 ((rd_T89 A0 A4).f1)))) := ⟨vB HB⟩
               (try clear A3); (try clear A2); (try clear A5); (try clear A9); (try clear HK); (try clear HB)
               generalize ((Bn.setCell ⟨A6, 0, none⟩ (.int .i64 ((rd_T89 A0 A4).f0))).setCell ⟨A6, 1, none⟩ (.int .i64 ((rd_T89 A0 A4).f1))) = DF at n0_ n1_ n2_ n3_ n4_ n5_ ⊢
               have A3 := n0_
               have A2 := n1_
               have A5 := n2_
               have A9 := n3_
               have HK := n4_
               have HB := n5_
               clear n0_ n1_ n2_ n3_ n4_ n5_
               replace A3 := Z.m (Kd.R_drew A3.o)
               replace A2 := Z.m (blk_drew A2.o)
               replace A5 := Z.m (blk_drew A5.o)
               replace A9 := Z.m (blk_drew A9.o)
               replace HK := Z.m (Kept.drew HK.o)
               replace HB := Z.m (qd HB.o)
               have p209 : 0 ≤ (A4 : Int) := ofD
               have q209 : A4 < (l1.length : Int) := ofD
               obtain ⟨Aq, e209, Ao⟩ := Kd.at_int (Kd.C_kept_now Ba.o HK.o) A4 p209 q209
               have hw209_0 := Ao
               cases e209
               replace p209 := eq_true p209
               replace q209 := eq_true q209
               have p210 : 0 ≤ (a2 : Int) := ofD
               have q210 : a2 < (l1.length : Int) := ofD
               obtain ⟨AG, e210, Ap⟩ := Kd.at_int (Kd.C_kept_now Ba.o HK.o) a2 p210 q210
               have hw210_0 := Ap
               obtain rfl : Aq = AG := (by injection e210)
               replace p210 := eq_true p210
               replace q210 := eq_true q210
               refine start_ (n := 14) (S := fun w' => w'.cell? ⟨A6, 0, none⟩ = some (.int .i64 ((rd_T89 A0 A4).f0)) ∧ w'.cell? ⟨A6, 1, none⟩ = some (.int .i64 ((rd_T89 A0 A4).f1)) ∧ w'.cell? (Aq.add (A4).toNat) = some (.int .i64 (rd l1 A4)) ∧ w'.cell? (Aq.add (a2).toNat) = some (.int .i64 (rd l1 a2))) (ds := []) #[false, false, false, false, false, false, false, false, false, false, false, false, false, false] (by kernel_rfl) rfl rfl ⟨(ql A9.o 0).trans rfl, (ql A9.o 1).trans rfl, (Kd.foot_int (Ba.o _ (by repeat (first | exact HK.o | apply Kept.alloc | apply Kept.drewN | apply Kept.drew))) A4 (of_eq_true p209) (of_eq_true q209)), (Kd.foot_int (Ba.o _ (by repeat (first | exact HK.o | apply Kept.alloc | apply Kept.drewN | apply Kept.drew))) a2 (of_eq_true p210) (of_eq_true q210))⟩ (fun hHeld => ?_); refine with_tabW spec_flPass.tab9 spec_flPass.bits9 (fun HT_ HW_ => ?_)
               generalize DF.drew = DT at A3 A2 A5 A9 HK HB Ao Ap hHeld ⊢
               refine pure_ (i := 0) (N := some 34) (v := ?_) (a' := ?_) #[true, false, false, false, false, false, false, false, false, false, false, false, false, false] rfl rfl (any_of HT_.o (by kernel_rfl)) (fun _ _ _ h => h) (Or.inl ⟨by rfl, ?_⟩) ?_ ?_
               rotate_left
               ·intro w'
                go_simp
                with_reducible rfl
               rotate_left
               ·simp only [Act.put, q1, q2, q3, i64_w, i32_w]
                rfl
               refine take_ (i := 1) (N := some 35) (v := ?_) (a' := ?_) #[true, true, false, false, false, false, false, false, false, false, false, false, false, false] rfl rfl (take_ofW HT_.o HW_.o (by kernel_rfl)) (fun _ _ _ h => h) (Or.inl ⟨by rfl, ?_⟩) hHeld ?_ ?_
               rotate_left
               ·rintro w' ⟨s0, s1, s2, s3⟩
                go_simp
                with_reducible rfl
               rotate_left
               ·simp only [Act.put, q1, q2, q3, i64_w, i32_w]
                rfl
               refine pure_ (i := 2) (N := some 36) (v := ?_) (a' := ?_) #[true, true, true, false, false, false, false, false, false, false, false, false, false, false] rfl rfl (any_of HT_.o (by kernel_rfl)) (fun _ _ _ h => h) (Or.inl ⟨by rfl, ?_⟩) ?_ ?_
               rotate_left
               ·intro w'
                go_simp
                with_reducible rfl
               rotate_left
               ·simp only [Act.put, q1, q2, q3, i64_w, i32_w]
                rfl
               refine pure_ (i := 3) (N := some 37) (v := ?_) (a' := ?_) #[true, true, true, true, false, false, false, false, false, false, false, false, false, false] rfl rfl (any_of HT_.o (by kernel_rfl)) (fun _ _ _ h => h) (Or.inl ⟨by rfl, ?_⟩) ?_ ?_
               rotate_left
               ·intro w'
                go_simp
                with_reducible rfl
               rotate_left
               ·simp only [Act.put, q1, q2, q3, i64_w, i32_w]
                rfl
               refine pure_ (i := 4) (N := some 38) (v := ?_) (a' := ?_) #[true, true, true, true, true, false, false, false, false, false, false, false, false, false] rfl rfl (any_of HT_.o (by kernel_rfl)) (fun _ _ _ h => h) (Or.inl ⟨by rfl, ?_⟩) ?_ ?_
               rotate_left
               ·intro w'
                go_simp
                with_reducible rfl
               rotate_left
               ·simp only [Act.put, q1, q2, q3, i64_w, i32_w]
                rfl
               refine pure_ (i := 5) (N := some 39) (v := ?_) (a' := ?_) #[true, true, true, true, true, true, false, false, false, false, false, false, false, false] rfl rfl (any_of HT_.o (by kernel_rfl)) (fun _ _ _ h => h) (Or.inl ⟨by rfl, ?_⟩) ?_ ?_
               rotate_left
               ·intro w'
                go_simp
                with_reducible rfl
               rotate_left
               ·simp only [Act.put, q1, q2, q3, i64_w, i32_w]
                rfl
               refine pure_ (i := 6) (N := some 40) (v := ?_) (a' := ?_) #[true, true, true, true, true, true, true, false, false, false, false, false, false, false] rfl rfl (any_of HT_.o (by kernel_rfl)) (fun _ _ _ h => h) (Or.inl ⟨by rfl, ?_⟩) ?_ ?_
               rotate_left
               ·intro w'
                go_simp
                with_reducible rfl
               rotate_left
               ·simp only [Act.put, q1, q2, q3, i64_w, i32_w]
                rfl
               refine pure_ (i := 8) (N := some 42) (v := ?_) (a' := ?_) #[true, true, true, true, true, true, true, false, true, false, false, false, false, false] rfl rfl (any_of HT_.o (by kernel_rfl)) (fun _ _ _ h => h) (Or.inl ⟨by rfl, ?_⟩) ?_ ?_
               rotate_left
               ·intro w'
                go_simp
                with_reducible rfl
               rotate_left
               ·simp only [Act.put, q1, q2, q3, i64_w, i32_w]
                rfl
               refine pure_ (i := 9) (N := some 43) (v := ?_) (a' := ?_) #[true, true, true, true, true, true, true, false, true, true, false, false, false, false] rfl rfl (any_of HT_.o (by kernel_rfl)) (fun _ _ _ h => h) (Or.inl ⟨by rfl, ?_⟩) ?_ ?_
               rotate_left
               ·intro w'
                go_simp
                with_reducible rfl
               rotate_left
               ·simp only [Act.put, q1, q2, q3, i64_w, i32_w]
                rfl
               refine pure_ (i := 10) (N := some 44) (v := ?_) (a' := ?_) #[true, true, true, true, true, true, true, false, true, true, true, false, false, false] rfl rfl (any_of HT_.o (by kernel_rfl)) (fun _ _ _ h => h) (Or.inl ⟨by rfl, ?_⟩) ?_ ?_
               rotate_left
               ·intro w'
                go_simp
                with_reducible rfl
               rotate_left
               ·simp only [Act.put, q1, q2, q3, i64_w, i32_w]
                rfl
               refine take_ (i := 7) (N := some 41) (v := ?_) (a' := ?_) #[true, true, true, true, true, true, true, true, true, true, true, false, false, false] rfl rfl (take_ofW HT_.o HW_.o (by kernel_rfl)) (fun _ _ _ h => h) (Or.inl ⟨by rfl, ?_⟩) hHeld ?_ ?_
               rotate_left
               ·rintro w' ⟨s0, s1, s2, s3⟩
                go_simp
                with_reducible rfl
               rotate_left
               ·simp only [Act.put, q1, q2, q3, i64_w, i32_w]
                rfl
               refine take_ (i := 11) (N := some 45) (v := ?_) (a' := ?_) #[true, true, true, true, true, true, true, true, true, true, true, true, false, false] rfl rfl (take_ofW HT_.o HW_.o (by kernel_rfl)) (fun _ _ _ h => h) (Or.inl ⟨by rfl, ?_⟩) hHeld ?_ ?_
               rotate_left
               ·rintro w' ⟨s0, s1, s2, s3⟩
                go_simp
                with_reducible rfl
               rotate_left
               ·simp only [Act.put, q1, q2, q3, i64_w, i32_w]
                rfl
               refine pure_ (i := 12) (N := some 46) (v := ?_) (a' := ?_) #[true, true, true, true, true, true, true, true, true, true, true, true, true, false] rfl rfl (any_of HT_.o (by kernel_rfl)) (fun _ _ _ h => h) (Or.inl ⟨by rfl, ?_⟩) ?_ ?_
               rotate_left
               ·intro w'
                go_simp
                with_reducible rfl
               rotate_left
               ·simp only [Act.put, q1, q2, q3, i64_w, i32_w]
                rfl
               refine pure_ (i := 13) (N := some 47) (v := ?_) (a' := ?_) #[true, true, true, true, true, true, true, true, true, true, true, true, true, true] rfl rfl (any_of HT_.o (by kernel_rfl)) (fun _ _ _ h => h) (Or.inl ⟨by rfl, ?_⟩) ?_ ?_
               rotate_left
               ·intro w'
                go_simp
                with_reducible rfl
               rotate_left
               ·simp only [Act.put, q1, q2, q3, i64_w, i32_w]
                rfl
               refine done_ (done_of HT_.o (by kernel_rfl)) ?_
               try go_wp2
               (try simp only [← A8])
               go_roundg k1
               case measure => have := Bp.o; omega
               case rel => exact ⟨(wrap64 (A4 + 1)), (A0), (Ag), (Ah), (by first | rfl | (simp; done) | (simp [*]; done)), H', ⟨by have := Bp.o; omega⟩, ⟨by (try simp only [A8]); refine rK ?_; exact Kd.Rm A3.o (fun _ hk => ⟨hk.1, hk.2.1⟩)⟩, ⟨by (try simp only [A8]); refine bK ?_; exact A2.o⟩, ⟨by (try simp only [A8]); refine bK ?_; exact A5.o⟩, ⟨vT HK⟩, ⟨vB HB⟩⟩
             ·rw [if_neg c33] at H
              exact absurd H (by simp)
            ·rw [if_neg c32] at H
             exact absurd H (by simp)
           ·rw [if_neg c31] at H
            exact absurd H (by simp)
          ·rw [if_neg c30] at H
           have Bw := beq_eq_false_iff_ne.mpr c30
           have Bx := bne_iff_ne.mpr c30
           have H' := Z.m H
           clear H
           have D9 := Ac.o
           have Dl := Ae.o
           have C1 := bc0 A2
           have C2 := bc1 A2
           have C3 := bc2 A2
           have Cs := qz A2.o 0
           have Ct := qz A2.o 1
           have Cu := qz A2.o 2
           have p207 : 0 ≤ (A4 : Int) := ofD
           have q207 : A4 < (A0.length : Int) := ofD
           obtain ⟨Au, e207, As, At⟩ := at_T89 (Kd.RrZ A3.o).2.2 A4 p207 q207
           obtain rfl : Ai = Au := (by injection e207)
           replace p207 := eq_true p207
           replace q207 := eq_true q207
           try go_wp2_with (first | ((with_reducible refine gq (N := 8) rfl ?_); refine be (N := 8) (cs := #[.int .i64 0, .int .i64 0]) (t := 89) ?_; intro A6 hg Bo hbox hb; have A9 := Z.m (hbox); have AE := Z.m ((by rw [hg]; exact (by first | exact HK.o.1 | exact (show Kept w _ (fun k_ => P0_2_ k_) from vT HK).1) : w.heap.size ≤ A6)); have B2 := gW (w := w0) HB hg; have Ad := neL A2 hg; have Ak := neG A2 hg; have Af := neL A5 hg; have Al := neG A5 hg; replace A3 := Z.m (Kd.Rb (Kd.R_elderB (vR A3) A6 (Nat.le_of_eq hg.symm)) hb); replace A2 := kB A2 hb; replace A5 := kB A5 hb; replace HK := Z.m (Kept.below (S := (fun k_ => P0_2_ k_)) (vT HK) hb); replace HB := bB HB hb; clear hb hbox hg; have Da := Ak.o; have Dm := Ad.o; have Db := Al.o; have Dn := Af.o; have C4 := bc0 A9; have C5 := bc1 A9; have Cv := qz A9.o 0; have Cw := qz A9.o 1))
           have n0_ : Z (Kd.R k89 89 ((Bo.setCell ⟨A6, 0, none⟩ (.int .i64 ((rd_T89 A0 A4).f0))).setCell ⟨A6, 1, none⟩ (.int .i64 ((rd_T89 A0 A4).f1))) w0.heap.size (fun k_ => (P0_2_ k_ ∨ w.heap.size ≤ k_) ∧ k_ ≠ Ab ∧ k_ ≠ A6) (.slice (some Ai) A0.length Ar) A0) := ⟨by refine rK ?_; exact Kd.Rm (rf (rf (Kd.Rm A3.o (fun k_ hk => (⟨hk, hk.2⟩ : _ ∧ k_ ≠ A6))))) (fun _ hk => ⟨hk.1.1.1, ⟨hk.1.1.2, hk.1.2⟩⟩)⟩
           have n1_ : Z (((Bo.setCell ⟨A6, 0, none⟩ (.int .i64 ((rd_T89 A0 A4).f0))).setCell ⟨A6, 1, none⟩ (.int .i64 ((rd_T89 A0 A4).f1))).heap[Aj]? = some (.cells #[.int .i64 a0_0, .int .i64 a0_1, .slice (some Ai) A0.length Ar] 32 (0, 0))) := ⟨by refine bK ?_; (iterate 2 refine qF ?_ Ad); exact A2.o⟩
           have n2_ : Z (((Bo.setCell ⟨A6, 0, none⟩ (.int .i64 ((rd_T89 A0 A4).f0))).setCell ⟨A6, 1, none⟩ (.int .i64 ((rd_T89 A0 A4).f1))).heap[Ab]? = some (.cells #[.int .i64 Ag, .int .i64 Ah] 89 (0, 0))) := ⟨by refine bK ?_; (iterate 2 refine qF ?_ Af); exact A5.o⟩
           have n3_ : Z (((Bo.setCell ⟨A6, 0, none⟩ (.int .i64 ((rd_T89 A0 A4).f0))).setCell ⟨A6, 1, none⟩ (.int .i64 ((rd_T89 A0 A4).f1))).heap[A6]? = some (.cells #[.int .i64 ((rd_T89 A0 A4).f0), .int .i64 ((rd_T89 A0 A4).f1)] 89 (0, 0))) := ⟨by refine bK ?_; refine qp (cs := #[iV ((rd_T89 A0 A4).f0), iV 0]) ?_ 1 _ rfl; refine bK ?_; refine qp (cs := #[iV 0, iV 0]) ?_ 0 _ rfl; refine bK ?_; exact A9.o⟩
           have n4_ : Z (Kept w ((Bo.setCell ⟨A6, 0, none⟩ (.int .i64 ((rd_T89 A0 A4).f0))).setCell ⟨A6, 1, none⟩ (.int .i64 ((rd_T89 A0 A4).f1))) (fun k_ => P0_2_ k_)) := ⟨vT HK⟩
           have n5_ : Z (Below w0.heap.size w0 ((Bo.setCell ⟨A6, 0, none⟩ (.int .i64 ((rd_T89 A0 A4).f0))).setCell ⟨A6, 1, none⟩ (.int .i64 ((rd_T89 A0 A4).f1)))) := ⟨vB HB⟩
           (try clear A3); (try clear A2); (try clear A5); (try clear A9); (try clear HK); (try clear HB)
           generalize ((Bo.setCell ⟨A6, 0, none⟩ (.int .i64 ((rd_T89 A0 A4).f0))).setCell ⟨A6, 1, none⟩ (.int .i64 ((rd_T89 A0 A4).f1))) = DG at n0_ n1_ n2_ n3_ n4_ n5_ ⊢
           have A3 := n0_
           have A2 := n1_
           have A5 := n2_
           have A9 := n3_
           have HK := n4_
           have HB := n5_
           clear n0_ n1_ n2_ n3_ n4_ n5_
           replace A3 := Z.m (Kd.R_drew A3.o)
           replace A2 := Z.m (blk_drew A2.o)
           replace A5 := Z.m (blk_drew A5.o)
           replace A9 := Z.m (blk_drew A9.o)
           replace HK := Z.m (Kept.drew HK.o)
           replace HB := Z.m (qd HB.o)
           refine start_ (n := 14) (S := fun w' => w'.cell? ⟨A6, 0, none⟩ = some (.int .i64 ((rd_T89 A0 A4).f0)) ∧ w'.cell? ⟨A6, 1, none⟩ = some (.int .i64 ((rd_T89 A0 A4).f1))) (ds := []) #[false, false, false, false, false, false, false, false, false, false, false, false, false, false] (by kernel_rfl) rfl rfl ⟨(ql A9.o 0).trans rfl, (ql A9.o 1).trans rfl⟩ (fun hHeld => ?_); refine with_tabW spec_flPass.tab9 spec_flPass.bits9 (fun HT_ HW_ => ?_)
           generalize DG.drew = DU at A3 A2 A5 A9 HK HB hHeld ⊢
           refine pure_ (i := 0) (N := some 34) (v := ?_) (a' := ?_) #[true, false, false, false, false, false, false, false, false, false, false, false, false, false] rfl rfl (any_of HT_.o (by kernel_rfl)) (fun _ _ _ h => h) (Or.inl ⟨by rfl, ?_⟩) ?_ ?_
           rotate_left
           ·intro w'
            go_simp
            with_reducible rfl
           rotate_left
           ·simp only [Act.put, q1, q2, q3, i64_w, i32_w]
            rfl
           refine take_ (i := 1) (N := some 35) (v := ?_) (a' := ?_) #[true, true, false, false, false, false, false, false, false, false, false, false, false, false] rfl rfl (take_ofW HT_.o HW_.o (by kernel_rfl)) (fun _ _ _ h => h) (Or.inl ⟨by rfl, ?_⟩) hHeld ?_ ?_
           rotate_left
           ·rintro w' ⟨s0, s1⟩
            go_simp
            with_reducible rfl
           rotate_left
           ·simp only [Act.put, q1, q2, q3, i64_w, i32_w]
            rfl
           refine pure_ (i := 2) (N := some 36) (v := ?_) (a' := ?_) #[true, true, true, false, false, false, false, false, false, false, false, false, false, false] rfl rfl (any_of HT_.o (by kernel_rfl)) (fun _ _ _ h => h) (Or.inl ⟨by rfl, ?_⟩) ?_ ?_
           rotate_left
           ·intro w'
            go_simp
            with_reducible rfl
           rotate_left
           ·simp only [Act.put, q1, q2, q3, i64_w, i32_w]
            rfl
           refine pure_ (i := 3) (N := some 37) (v := ?_) (a' := ?_) #[true, true, true, true, false, false, false, false, false, false, false, false, false, false] rfl rfl (any_of HT_.o (by kernel_rfl)) (fun _ _ _ h => h) (Or.inl ⟨by rfl, ?_⟩) ?_ ?_
           rotate_left
           ·intro w'
            go_simp
            with_reducible rfl
           rotate_left
           ·simp only [Act.put, q1, q2, q3, i64_w, i32_w]
            rfl
           refine pure_ (i := 4) (N := some 38) (v := undef) (a' := ?_) #[true, true, true, true, true, false, false, false, false, false, false, false, false, false] rfl rfl (any_of HT_.o (by kernel_rfl)) (fun _ _ _ h => h) (Or.inr ⟨by rfl, rfl⟩) ?_ ?_
           rotate_left
           ·simp only [Act.put, q1, q2, q3, i64_w, i32_w]
            rfl
           refine pure_ (i := 5) (N := some 39) (v := undef) (a' := ?_) #[true, true, true, true, true, true, false, false, false, false, false, false, false, false] rfl rfl (any_of HT_.o (by kernel_rfl)) (fun _ _ _ h => h) (Or.inr ⟨by rfl, rfl⟩) ?_ ?_
           rotate_left
           ·simp only [Act.put, q1, q2, q3, i64_w, i32_w]
            rfl
           refine pure_ (i := 6) (N := some 40) (v := undef) (a' := ?_) #[true, true, true, true, true, true, true, false, false, false, false, false, false, false] rfl rfl (any_of HT_.o (by kernel_rfl)) (fun _ _ _ h => h) (Or.inr ⟨by rfl, rfl⟩) ?_ ?_
           rotate_left
           ·simp only [Act.put, q1, q2, q3, i64_w, i32_w]
            rfl
           refine pure_ (i := 7) (N := some 41) (v := undef) (a' := ?_) #[true, true, true, true, true, true, true, true, false, false, false, false, false, false] rfl rfl (any_of HT_.o (by kernel_rfl)) (fun _ _ _ h => h) (Or.inr ⟨by rfl, rfl⟩) ?_ ?_
           rotate_left
           ·simp only [Act.put, q1, q2, q3, i64_w, i32_w]
            rfl
           refine pure_ (i := 8) (N := some 42) (v := undef) (a' := ?_) #[true, true, true, true, true, true, true, true, true, false, false, false, false, false] rfl rfl (any_of HT_.o (by kernel_rfl)) (fun _ _ _ h => h) (Or.inr ⟨by rfl, rfl⟩) ?_ ?_
           rotate_left
           ·simp only [Act.put, q1, q2, q3, i64_w, i32_w]
            rfl
           refine pure_ (i := 9) (N := some 43) (v := undef) (a' := ?_) #[true, true, true, true, true, true, true, true, true, true, false, false, false, false] rfl rfl (any_of HT_.o (by kernel_rfl)) (fun _ _ _ h => h) (Or.inr ⟨by rfl, rfl⟩) ?_ ?_
           rotate_left
           ·simp only [Act.put, q1, q2, q3, i64_w, i32_w]
            rfl
           refine pure_ (i := 10) (N := some 44) (v := undef) (a' := ?_) #[true, true, true, true, true, true, true, true, true, true, true, false, false, false] rfl rfl (any_of HT_.o (by kernel_rfl)) (fun _ _ _ h => h) (Or.inr ⟨by rfl, rfl⟩) ?_ ?_
           rotate_left
           ·simp only [Act.put, q1, q2, q3, i64_w, i32_w]
            rfl
           refine pure_ (i := 11) (N := some 45) (v := undef) (a' := ?_) #[true, true, true, true, true, true, true, true, true, true, true, true, false, false] rfl rfl (any_of HT_.o (by kernel_rfl)) (fun _ _ _ h => h) (Or.inr ⟨by rfl, rfl⟩) ?_ ?_
           rotate_left
           ·simp only [Act.put, q1, q2, q3, i64_w, i32_w]
            rfl
           refine pure_ (i := 12) (N := some 46) (v := undef) (a' := ?_) #[true, true, true, true, true, true, true, true, true, true, true, true, true, false] rfl rfl (any_of HT_.o (by kernel_rfl)) (fun _ _ _ h => h) (Or.inr ⟨by rfl, rfl⟩) ?_ ?_
           rotate_left
           ·simp only [Act.put, q1, q2, q3, i64_w, i32_w]
            rfl
           refine pure_ (i := 13) (N := some 47) (v := ?_) (a' := ?_) #[true, true, true, true, true, true, true, true, true, true, true, true, true, true] rfl rfl (any_of HT_.o (by kernel_rfl)) (fun _ _ _ h => h) (Or.inl ⟨by rfl, ?_⟩) ?_ ?_
           rotate_left
           ·intro w'
            go_simp
            with_reducible rfl
           rotate_left
           ·simp only [Act.put, q1, q2, q3, i64_w, i32_w]
            rfl
           refine done_ (done_of HT_.o (by kernel_rfl)) ?_
           try go_wp2
           (try simp only [← A8])
           go_roundg k1
           case measure => have := Bp.o; omega
           case rel => exact ⟨(wrap64 (A4 + 1)), (A0), (Ag), (Ah), (by first | rfl | (simp; done) | (simp [*]; done)), H', ⟨by have := Bp.o; omega⟩, ⟨by (try simp only [A8]); refine rK ?_; exact Kd.Rm A3.o (fun _ hk => ⟨hk.1, hk.2.1⟩)⟩, ⟨by (try simp only [A8]); refine bK ?_; exact A2.o⟩, ⟨by (try simp only [A8]); refine bK ?_; exact A5.o⟩, ⟨vT HK⟩, ⟨vB HB⟩⟩
         ·rw [if_neg c29] at H
          exact absurd H (by simp)
        ·rw [if_neg c28] at H
         exact absurd H (by simp)
       ·rw [if_neg c27] at H
        have Bd := decide_eq_false c27
        (try simp only [A8] at Bd)
        clear c27
        obtain rfl := Option.some.inj H
        go_wp2
        first | go_end0 | ((try simp only [Exit.inBlock, Exit.then]); refine bodyPost_ret (results_none rfl _ _ _) rfl ?_)
        exact ⟨by first | rfl | (simp [eN, eS] <;> rfl) | (simp [*, eN, eS] <;> rfl), (by first | exact (by refine rK ?_; exact Kd.Rm A3.o (fun _ hk => hk.1)) | (simp only [A8]; exact (by refine rK ?_; exact Kd.Rm A3.o (fun _ hk => hk.1)))), vB HB, vT HK⟩
    ·rw [if_neg c19] at H
     have Bb := beq_eq_false_iff_ne.mpr c19
     have Bc := bne_iff_ne.mpr c19
     obtain rfl := Option.some.inj H
     obtain ⟨CD, CG, CI⟩ := Kd.R_slice Aa.o
     subst CI
     go_enter Try.func85, Try.ntmps85
     go_wp2_with (first | ((with_reducible refine gq (N := 3) rfl ?_); refine be (N := 3) (cs := #[.int .i64 a0_0, .int .i64 a0_1, .slice CD l0_2.length CG]) (t := 32) ?_; intro Aj hg DV hbox hb; have A2 := Z.m (hbox); have Ax := Z.m ((by rw [hg]; exact (by first | exact HK.o.1 | exact (show Kept w _ (fun k_ => P0_2_ k_) from vT HK).1) : w.heap.size ≤ Aj)); have AZ := gW (w := w0) HB hg; replace Aa := Z.m (Kd.Rb (vR Aa) hb); replace HK := Z.m (Kept.below (S := (fun k_ => P0_2_ k_)) (vT HK) hb); replace HB := bB HB hb; clear hb hbox hg; have C6 := bc0 A2; have C7 := bc1 A2; have C8 := bc2 A2; have Cx := qz A2.o 0; have Cy := qz A2.o 1; have Cz := qz A2.o 2; have p202 : 0 ≤ (a2 : Int) := ofD; have q202 : a2 < (l0_2.length : Int) := ofD; obtain ⟨Ai, e202, Am, An⟩ := at_T89 (Kd.RrZ Aa.o).2.2 a2 p202 q202; cases e202; replace p202 := eq_true p202; replace q202 := eq_true q202) | ((with_reducible refine gq (N := 6) rfl ?_); refine be (N := 6) (cs := #[.int .i64 0, .int .i64 0]) (t := 89) ?_; intro Ab hg DW hbox hb; have A5 := Z.m (hbox); have Ay := Z.m ((by rw [hg]; exact (by first | exact HK.o.1 | exact (show Kept w _ (fun k_ => P0_2_ k_) from vT HK).1) : w.heap.size ≤ Ab)); have B0 := gW (w := w0) HB hg; have Ac := neL A2 hg; have Ae := neG A2 hg; replace Aa := Z.m (Kd.Rb (Kd.R_elderB (vR Aa) Ab (Nat.le_of_eq hg.symm)) hb); replace A2 := kB A2 hb; replace HK := Z.m (Kept.below (S := (fun k_ => P0_2_ k_)) (vT HK) hb); replace HB := bB HB hb; clear hb hbox hg; have Dc := Ae.o; have Do := Ac.o; have C9 := bc0 A5; have Ca := bc1 A5; have CA := qz A5.o 0; have CB := qz A5.o 1))
     first | go_end0 | ((try simp only [Exit.inBlock, Exit.then]); refine bodyPost_ret (results_none rfl _ _ _) rfl ?_)
     exact ⟨by first | rfl | (simp [eN, eS] <;> rfl) | (simp [*, eN, eS] <;> rfl), by refine rK ?_; exact Kd.Rm (rf (rf (Kd.Rm Aa.o (fun k_ hk => (⟨hk, hk.2⟩ : _ ∧ k_ ≠ Ab))))) (fun _ hk => hk.1.1), vB HB, vT HK⟩
  ·rw [if_neg c5] at H
   exact absurd H (by simp)
 ·rw [if_neg c4] at H
  exact absurd H (by simp)

end Go.Proofs.Ytoklfgjemfojgaa.PAll
