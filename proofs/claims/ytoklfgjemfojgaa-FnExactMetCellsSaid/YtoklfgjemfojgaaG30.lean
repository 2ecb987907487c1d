/- This text began as one that print.sh wrote for this seat (of the functions named below); it is this session's own: turned where Lean did not take the printed proof, where it was too long for a claim, or only in what it imports. -/
import Derived.Test.YtoklfgjemfojgaaG0
import Derived.Test.YtoklfgjemfojgaaG12
import Derived.Test.YtoklfgjemfojgaaG15
import Derived.Test.YtoklfgjemfojgaaG16
import Derived.Test.YtoklfgjemfojgaaG17
namespace Go.Proofs.Ytoklfgjemfojgaa.PAll
open Go.RowKit Go.Proofs.YtoklfgjemfojgaaW.PrintWords Go.Proofs.YtoklfgjemfojgaaW.PrintLast Go.Proofs.YtoklfgjemfojgaaW.PrintMore
attribute [local go_sem] max2_int min2_int max_two min_two max_three min_three max_four min_four   -- for this text's walks alone
set_option linter.unusedVariables false
set_option linter.unusedSimpArgs false

/-! ### impl_MetCells: function 31 -/
mutual
def impl_MetCells.l0 : Nat → List Bool → Int → Int → Int → List (S89) → Option (List Int × Bool)
 | 0, _, _, _, _, _ => none
 | k + 1, x4, x5, x583000, x583001, x583002 => if x5 < x583001 then ((impl_copyBoard.f x583000 x583001 x583002).bind fun bt587 => ((impl_groupNumbers.f k x583000 x583001 x583002).bind fun t592 => ((impl_drop.f k bt587.1 bt587.2.1 bt587.2.2 t592 x5).bind fun bt595 => (impl_MetCells.l1 k x4 x5 bt595.2.2.2.1 (bt595.2.2.2.1.length : Int) 0 x583000 x583001 x583002)))) else (impl_MetCells.l2 k (([] : List Int)) x4 (x4.length : Int) 0)
def impl_MetCells.l1 : Nat → List Bool → Int → List Int → Int → Int → Int → Int → List (S89) → Option (List Int × Bool)
 | 0, _, _, _, _, _, _, _, _ => none
 | k + 1, x4, x5, x35, x36, x37, x583000, x583001, x583002 => if x37 < x36 then (if 0 ≤ x37 then (if x37 < (x35.length : Int) then (if 0 ≤ (rd x35 x37) then (if (rd x35 x37) < (x4.length : Int) then (impl_MetCells.l1 k (x4.set ((rd x35 x37) : Int).toNat true) x5 x35 x36 (wrap64 (x37 + 1)) x583000 x583001 x583002) else (none)) else (none)) else (none)) else (none)) else (impl_MetCells.l0 k x4 (wrap64 (x5 + 1)) x583000 x583001 x583002)
def impl_MetCells.l2 : Nat → List Int → List Bool → Int → Int → Option (List Int × Bool)
 | 0, _, _, _, _ => none
 | k + 1, x10, x46, x47, x48 => if x48 < x47 then (if 0 ≤ x48 then (if x48 < (x46.length : Int) then (if rdOf false x46 x48 = true then (if x10.length < 17592186044416 then (impl_MetCells.l2 k (x10 ++ [x48]) x46 x47 (wrap64 (x48 + 1))) else (none)) else (impl_MetCells.l2 k x10 x46 x47 (wrap64 (x48 + 1)))) else (none)) else (none)) else (some (x10, true))
end
def impl_MetCells.f (k : Nat) (a0_0 : Int) (a0_1 : Int) (l0_2 : List (S89)) : Option (List Int × Bool) := (impl_IsBoard.f k a0_0 a0_1 l0_2).bind fun t583 => (if t583 = true then (if 0 ≤ (l0_2.length : Int) then (if ((l0_2.length : Int) : Int).toNat ≤ 281474976710656 then (impl_MetCells.l0 k (List.replicate ((l0_2.length : Int) : Int).toNat false) 0 a0_0 a0_1 l0_2) else (none)) else (none)) else (some (([] : List Int), false)))
theorem impl_MetCells.mono_l : ∀ k, (∀ y0 y1 y2 y3 y4, LeO (impl_MetCells.l0 k y0 y1 y2 y3 y4) (impl_MetCells.l0 (k + 1) y0 y1 y2 y3 y4)) ∧ (∀ y0 y1 y2 y3 y4 y5 y6 y7, LeO (impl_MetCells.l1 k y0 y1 y2 y3 y4 y5 y6 y7) (impl_MetCells.l1 (k + 1) y0 y1 y2 y3 y4 y5 y6 y7)) ∧ (∀ y0 y1 y2 y3, LeO (impl_MetCells.l2 k y0 y1 y2 y3) (impl_MetCells.l2 (k + 1) y0 y1 y2 y3))
 | 0 => ⟨fun _ _ _ _ _ r h => by simp [impl_MetCells.l0] at h, fun _ _ _ _ _ _ _ _ r h => by simp [impl_MetCells.l1] at h, fun _ _ _ _ r h => by simp [impl_MetCells.l2] at h⟩
 | k + 1 => by
  obtain ⟨ih0, ih1, ih2⟩ := impl_MetCells.mono_l k
  refine ⟨?_, ?_, ?_⟩
  ·intro y0 y1 y2 y3 y4
   unfold impl_MetCells.l0
   repeat' first | (with_reducible first | exact ih0 _ _ _ _ _ | exact ih1 _ _ _ _ _ _ _ _ | exact ih2 _ _ _ _ | exact impl_IsBoard.mono _ _ _ _ | exact impl_drop.mono _ _ _ _ _ _ | exact impl_groupNumbers.mono _ _ _ _ | exact LeO.refl _ | exact LeO.none _ | refine LeO.ite ?_ ?_ | refine LeO.bind ?_ (fun _ => ?_)) | exact ih0 _ _ _ _ _ | exact ih1 _ _ _ _ _ _ _ _ | exact ih2 _ _ _ _ | exact impl_IsBoard.mono _ _ _ _ | exact impl_drop.mono _ _ _ _ _ _ | exact impl_groupNumbers.mono _ _ _ _ | exact LeO.none _ | refine LeO.ite ?_ ?_ | refine LeO.bind ?_ (fun _ => ?_)
  ·intro y0 y1 y2 y3 y4 y5 y6 y7
   unfold impl_MetCells.l1
   repeat' first | (with_reducible first | exact ih0 _ _ _ _ _ | exact ih1 _ _ _ _ _ _ _ _ | exact ih2 _ _ _ _ | exact impl_IsBoard.mono _ _ _ _ | exact impl_drop.mono _ _ _ _ _ _ | exact impl_groupNumbers.mono _ _ _ _ | exact LeO.refl _ | exact LeO.none _ | refine LeO.ite ?_ ?_ | refine LeO.bind ?_ (fun _ => ?_)) | exact ih0 _ _ _ _ _ | exact ih1 _ _ _ _ _ _ _ _ | exact ih2 _ _ _ _ | exact impl_IsBoard.mono _ _ _ _ | exact impl_drop.mono _ _ _ _ _ _ | exact impl_groupNumbers.mono _ _ _ _ | exact LeO.none _ | refine LeO.ite ?_ ?_ | refine LeO.bind ?_ (fun _ => ?_)
  ·intro y0 y1 y2 y3
   unfold impl_MetCells.l2
   repeat' first | (with_reducible first | exact ih0 _ _ _ _ _ | exact ih1 _ _ _ _ _ _ _ _ | exact ih2 _ _ _ _ | exact impl_IsBoard.mono _ _ _ _ | exact impl_drop.mono _ _ _ _ _ _ | exact impl_groupNumbers.mono _ _ _ _ | exact LeO.refl _ | exact LeO.none _ | refine LeO.ite ?_ ?_ | refine LeO.bind ?_ (fun _ => ?_)) | exact ih0 _ _ _ _ _ | exact ih1 _ _ _ _ _ _ _ _ | exact ih2 _ _ _ _ | exact impl_IsBoard.mono _ _ _ _ | exact impl_drop.mono _ _ _ _ _ _ | exact impl_groupNumbers.mono _ _ _ _ | exact LeO.none _ | refine LeO.ite ?_ ?_ | refine LeO.bind ?_ (fun _ => ?_)
theorem impl_MetCells.mono : ∀ a0 a1 a2 k, LeO (impl_MetCells.f k a0 a1 a2) (impl_MetCells.f (k + 1) a0 a1 a2) := by
 intro a0 a1 a2 k
 obtain ⟨ih0, ih1, ih2⟩ := impl_MetCells.mono_l k
 unfold impl_MetCells.f
 repeat' first | (with_reducible first | exact ih0 _ _ _ _ _ | exact ih1 _ _ _ _ _ _ _ _ | exact ih2 _ _ _ _ | exact impl_IsBoard.mono _ _ _ _ | exact impl_drop.mono _ _ _ _ _ _ | exact impl_groupNumbers.mono _ _ _ _ | exact LeO.refl _ | exact LeO.none _ | refine LeO.ite ?_ ?_ | refine LeO.bind ?_ (fun _ => ?_)) | exact ih0 _ _ _ _ _ | exact ih1 _ _ _ _ _ _ _ _ | exact ih2 _ _ _ _ | exact impl_IsBoard.mono _ _ _ _ | exact impl_drop.mono _ _ _ _ _ _ | exact impl_groupNumbers.mono _ _ _ _ | exact LeO.none _ | refine LeO.ite ?_ ?_ | refine LeO.bind ?_ (fun _ => ?_)
def impl_MetCells.T7 : Bool × List (List Nat × List Nat) := (true, [([], []), ([0], [0]), ([], []), ([2, 1], [2]), ([], []), ([1, 3, 4, 3], [1, 3, 4]), ([5], [5]), ([6], [6]), ([6], [6]), ([], []), ([9, 7, 5, 0, 1, 2, 3, 4, 5, 6, 7, 9], [7, 9]), ([8, 10, 0, 1, 2, 3, 4, 5, 6, 7, 8, 9, 10], [8])])
def impl_MetCells.B7 : List Nat := [0, 1, 0, 7, 0, 31, 63, 127, 127, 0, 767, 2047]
theorem impl_MetCells.tab7 : rtab .any (opsOf Try.f31 7) = impl_MetCells.T7 := by kernel_rfl
theorem impl_MetCells.bits7 : waitsOk impl_MetCells.T7.2 impl_MetCells.B7 = true := by kernel_rfl
set_option maxHeartbeats 8000000 in
set_option maxRecDepth 100000 in
theorem impl_MetCells.calls (k : Nat) (a0_0 : Int) (a0_1 : Int) (A0_2 : Option Addr) (c0_2 : Nat) (l0_2 : List (S89)) (r1 : List Int) (r2 : Bool) (w : World) (hr0_2 : Kd.C k89 w A0_2 l0_2.length l0_2) (hc0_2 : l0_2.length ≤ c0_2) (h : impl_MetCells.f k a0_0 a0_1 l0_2 = some (r1, r2)) :
  Calls Try.prog 31 #[.agg #[.int .i64 a0_0, .int .i64 a0_1, .slice A0_2 l0_2.length c0_2]] w fun e w' => ∃ v0_ : Value, e = .returned (.tuple #[v0_, .bool r2]) ∧ Kd.R (Kd.int .i64) 3 w' w.heap.size (fun _ => True) v0_ r1 ∧ Below w.heap.size w w' := by
 have hu32 := Try.underlying32
 have hu27 := Try.underlying27
 have HR0_2 := Aside0.mk hr0_2
 have HC0_2 := Aside0.mk hc0_2
 clear hr0_2 hc0_2
 have HB := Aside0.mk (Below.refl w.heap.size w)
 have H : ((impl_IsBoard.f k a0_0 a0_1 l0_2).bind fun t583 => (if t583 = true then (if 0 ≤ (l0_2.length : Int) then (if ((l0_2.length : Int) : Int).toNat ≤ 281474976710656 then (impl_MetCells.l0 k (List.replicate ((l0_2.length : Int) : Int).toNat false) 0 a0_0 a0_1 l0_2) else (none)) else (none)) else (some (([] : List Int), false)))) = some (r1, r2) := h
 clear h
 replace H := Option.bind_eq_some_iff.mp H
 obtain ⟨t583, A20, H⟩ := H
 replace H : (if t583 = true then (if 0 ≤ (l0_2.length : Int) then (if ((l0_2.length : Int) : Int).toNat ≤ 281474976710656 then (impl_MetCells.l0 k (List.replicate ((l0_2.length : Int) : Int).toNat false) 0 a0_0 a0_1 l0_2) else (none)) else (none)) else (some (([] : List Int), false))) = some (r1, r2) := H
 have A2 := Aside0.mk A20
 clear A20
 by_cases c3 : t583 = true
 ·subst c3
  have H1 : (if 0 ≤ (l0_2.length : Int) then (if ((l0_2.length : Int) : Int).toNat ≤ 281474976710656 then (impl_MetCells.l0 k (List.replicate ((l0_2.length : Int) : Int).toNat false) 0 a0_0 a0_1 l0_2) else (none)) else (none)) = some (r1, r2) := by rw [if_pos rfl] at H; exact H
  clear H
  have H := H1
  clear H1
  by_cases c4 : 0 ≤ (l0_2.length : Int)
  ·rw [if_pos c4] at H
   have c4b0 := eq_true c4
   have c4b1 := decide_eq_true c4
   clear c4
   by_cases c5 : ((l0_2.length : Int) : Int).toNat ≤ 281474976710656
   ·rw [if_pos c5] at H
    have c5b0 := eq_true c5
    have c5b1 := decide_eq_true c5
    clear c5
    obtain ⟨y584, hy584⟩ : ∃ y_ : List Bool, y_ = (List.replicate ((l0_2.length : Int) : Int).toNat false) := ⟨_, rfl⟩
    replace H : (impl_MetCells.l0 k y584 0 a0_0 a0_1 l0_2) = some (r1, r2) := by first | (rw [hy584]; with_reducible exact H) | (have H2_ := (Option.bind_some _ _).symm.trans H; rw [hy584]; with_reducible exact H2_) | (have H2_ := (Option.bind_some _ _).symm.trans H; with_reducible exact H2_) | with_reducible exact H | (rw [hy584]; exact H) | exact H
    have Ny584 := Aside0.mk hy584
    clear hy584
    have H' := Aside0.mk H
    clear H
    go_enter Try.func31, Try.ntmps31
    go_wp2_with (first | ((with_reducible refine gate_dst (N := 1) rfl ?_); refine box_ev (N := 1) (cs := #[.int .i64 a0_0, .int .i64 a0_1, .slice A0_2 l0_2.length c0_2]) (t := 32) ?_; intro gb582 hg w6 hbox hb; have BK582 := Aside0.mk (hbox); have GW582 := gW (w := w) HB hg; have GE582 := gW (w := w) HB hg; replace HB := bB HB hb; clear hb hbox hg; have hcz7_0 := bc0 BK582; have hcz7_1 := bc1 BK582; have hcz7_2 := bc2 BK582; have hfz7_0 := blk_frozen BK582.out 0; have hfz7_1 := blk_frozen BK582.out 1; have hfz7_2 := blk_frozen BK582.out 2) | ((with_reducible refine gate_callee (f := 59) rfl ?_); refine goesA (some 14) _ #[.agg #[.int .i64 a0_0, .int .i64 a0_1, .slice A0_2 l0_2.length c0_2]] ?_ Try.func59; (with_reducible refine (impl_IsBoard.calls k a0_0 a0_1 _ _ l0_2 true _ ?side1 ?side2 A2.out).mono ?_); (case side1 => repeat (first | exact (Kd.C_below HR0_2.out HB.out) | (with_reducible refine Kd.C_alloc ?_ _) | (with_reducible refine Kd.C_drewN ?_ _) | (with_reducible refine Kd.C_drew ?_))); (case side2 => exact HC0_2.out); rintro e w8 ⟨rfl, hb⟩; refine ⟨_, rfl, ?_⟩; replace BK582 := kB BK582 hb; replace HB := bB HB hb; (try clear hb); (try clear hb2); (try clear hk); (try clear hi); have hcz9_0 := bc0 BK582; have hcz9_1 := bc1 BK582; have hcz9_2 := bc2 BK582; have hfz9_0 := blk_frozen BK582.out 0; have hfz9_1 := blk_frozen BK582.out 1; have hfz9_2 := blk_frozen BK582.out 2) | ((with_reducible refine gate_dst (N := 19) rfl ?_); refine Kd.R_make Kd.bool _ 4 rfl (N := 19) rfl 81 _ _ rfl (l0_2.length : Int) rfl rfl Try.underlying81 (.bool false) 1 info4 rfl (by decide) (by omega) false (ok := fun _ => True) (okp := fun _ => True) rfl (fun _ hk => hk) trivial (ofD) (Nat.le_trans (Nat.mul_le_mul_right _ (ofD : (l0_2.length : Int).toNat ≤ 281474976710656)) (by omega)) (Below.refl _ _) (Nat.le_refl _) ?_; intro v585 w10 ho11 hb hg_ hnew_; clear hg_ hnew_; (first | rw [← Ny584.out] at ho11 | (simp only [Int.reduceToNat] at ho11; rw [← Ny584.out] at ho11)); have HO586 := Aside0.mk (Kd.R_lower ho11 (below_size (viaB HB))); replace BK582 := kB BK582 hb; replace HB := bB HB hb; clear hb ho11))
    go_loopg [5] k (fun kq v5 w' => ∃ (x4_1 : List Bool) (x5_1 : Int), v5 = .int .i64 x5_1 ∧ Aside0 (impl_MetCells.l0 kq x4_1 x5_1 a0_0 a0_1 l0_2 = some (r1, r2)) ∧ Aside0 (kq ≤ k) ∧ Aside0 (Kd.R Kd.bool 4 w' w.heap.size (fun _ => True) v585 x4_1) ∧ Aside0 (w'.heap[gb582]? = some (.cells #[.int .i64 a0_0, .int .i64 a0_1, (.slice A0_2 l0_2.length c0_2)] 32 (0, 0))) ∧ Aside0 (Below w.heap.size w w'))
    case atStart => exact ⟨(y584), (0), (by first | rfl | (simp; done) | (simp [*]; done)), H', ⟨Nat.le_refl _⟩, ⟨viaR HO586⟩, ⟨viaK BK582⟩, ⟨viaB HB⟩⟩
    case round =>
     clear H'
     (try clear c3); (try clear c4b0); (try clear c4b1); (try clear c5b0); (try clear c5b1)
     (try clear hcz7_0); (try clear hcz7_1); (try clear hcz7_2); (try clear hcz9_0); (try clear hcz9_1); (try clear hcz9_2); (try clear hfz7_0); (try clear hfz7_1)
     (try clear hfz7_2); (try clear hfz9_0); (try clear hfz9_1); (try clear hfz9_2)
     obtain ⟨x4_1, x5_1, rfl, HA, HK1, HO_4, BK582, HB⟩ := hrel
     cases gk with
     | zero => exact absurd HA.out (by simp [impl_MetCells.l0])
     | succ k1 =>
      have H := HA.out
      clear HA
      simp only [impl_MetCells.l0] at H
      by_cases c12 : x5_1 < a0_1
      ·rw [if_pos c12] at H
       have c12b0 := decide_eq_true c12
       clear c12
       replace H := Option.bind_eq_some_iff.mp H
       obtain ⟨⟨t587, t588, t589⟩, A130, H⟩ := H
       replace H : ((impl_groupNumbers.f k1 a0_0 a0_1 l0_2).bind fun t592 => ((impl_drop.f k1 t587 t588 t589 t592 x5_1).bind fun bt595 => (impl_MetCells.l1 k1 x4_1 x5_1 bt595.2.2.2.1 (bt595.2.2.2.1.length : Int) 0 a0_0 a0_1 l0_2))) = some (r1, r2) := H
       have A13 := Aside0.mk A130
       clear A130
       replace H := Option.bind_eq_some_iff.mp H
       obtain ⟨t592, A140, H⟩ := H
       replace H : ((impl_drop.f k1 t587 t588 t589 t592 x5_1).bind fun bt595 => (impl_MetCells.l1 k1 x4_1 x5_1 bt595.2.2.2.1 (bt595.2.2.2.1.length : Int) 0 a0_0 a0_1 l0_2)) = some (r1, r2) := H
       have A14 := Aside0.mk A140
       clear A140
       replace H := Option.bind_eq_some_iff.mp H
       obtain ⟨⟨t595, t596, t597, t598, t601⟩, A150, H⟩ := H
       replace H : (impl_MetCells.l1 k1 x4_1 x5_1 t598 (t598.length : Int) 0 a0_0 a0_1 l0_2) = some (r1, r2) := H
       have A15 := Aside0.mk A150
       clear A150
       have H' := Aside0.mk H
       clear H
       have hcz16_0 := bc0 BK582
       have hcz16_1 := bc1 BK582
       have hcz16_2 := bc2 BK582
       have hfz16_0 := blk_frozen BK582.out 0
       have hfz16_1 := blk_frozen BK582.out 1
       have hfz16_2 := blk_frozen BK582.out 2
       try go_wp2
       replace HO_4 := Aside0.mk (Kd.R_drew HO_4.out)
       replace BK582 := Aside0.mk (blk_drew BK582.out)
       replace HB := Aside0.mk (below_drew1 HB.out)
       refine start_ (n := 12) (S := fun w' => w'.cell? ⟨gb582, 0, none⟩ = some (.int .i64 a0_0) ∧ w'.cell? ⟨gb582, 1, none⟩ = some (.int .i64 a0_1) ∧ w'.cell? ⟨gb582, 2, none⟩ = some (.slice A0_2 l0_2.length c0_2)) (ds := []) #[false, false, false, false, false, false, false, false, false, false, false, false] (by kernel_rfl) rfl rfl ⟨(blk_cell BK582.out 0).trans rfl, (blk_cell BK582.out 1).trans rfl, (blk_cell BK582.out 2).trans rfl⟩ (fun hHeld => ?_); refine with_tabW impl_MetCells.tab7 impl_MetCells.bits7 (fun HT_ HW_ => ?_)
       generalize wr.drew = w17 at HO_4 BK582 HB hHeld ⊢
       refine pure_ (i := 4) (N := some 31) (v := ?_) (a' := ?_) #[false, false, false, false, true, false, false, false, false, false, false, false] rfl rfl (any_of HT_.out (by kernel_rfl)) (fun _ _ _ h => h) (Or.inl ⟨by rfl, ?_⟩) ?_ ?_
       rotate_left
       ·intro w'
        go_simp
        with_reducible rfl
       rotate_left
       ·simp only [Act.put, q1, q2, q3, i64_w, i32_w]
        rfl
       refine take_ (i := 0) (N := some 27) (v := ?_) (a' := ?_) #[true, false, false, false, true, false, false, false, false, false, false, false] rfl rfl (take_ofW HT_.out HW_.out (by kernel_rfl)) (fun _ _ _ h => h) (Or.inl ⟨by rfl, ?_⟩) hHeld ?_ ?_
       rotate_left
       ·rintro w' ⟨s0, s1, s2⟩
        go_simp
        with_reducible rfl
       rotate_left
       ·simp only [Act.put, q1, q2, q3, i64_w, i32_w]
        rfl
       refine take_ (i := 2) (N := some 29) (v := ?_) (a' := ?_) #[true, false, true, false, true, false, false, false, false, false, false, false] rfl rfl (take_ofW HT_.out HW_.out (by kernel_rfl)) (fun _ _ _ h => h) (Or.inl ⟨by rfl, ?_⟩) hHeld ?_ ?_
       rotate_left
       ·rintro w' ⟨s0, s1, s2⟩
        go_simp
        with_reducible rfl
       rotate_left
       ·simp only [Act.put, q1, q2, q3, i64_w, i32_w]
        rfl
       refine join_ (σ := Value × Value × Value × Nat) 2 #[true, true, true, true, true, true, true, true, true, true, false, false] (fun s_ => [(28, .agg #[.int .i64 t587, .int .i64 t588, s_.1]), (30, s_.2.1), (32, .tuple #[.agg #[.int .i64 t595, .int .i64 t596, .int .i64 t597], s_.2.2.1]), (6, .pointer (some ⟨s_.2.2.2, 0, none⟩)), (26, .tuple #[.agg #[.int .i64 t595, .int .i64 t596, .int .i64 t597], s_.2.2.1]), (33, .agg #[.int .i64 t595, .int .i64 t596, .int .i64 t597]), (34, s_.2.2.1)]) (fun s_ w' => (w'.cell? ⟨gb582, 0, none⟩ = some (.int .i64 a0_0) ∧ w'.cell? ⟨gb582, 1, none⟩ = some (.int .i64 a0_1) ∧ w'.cell? ⟨gb582, 2, none⟩ = some (.slice A0_2 l0_2.length c0_2)) ∧ (Kd.R k89 89 w' w.heap.size (fun _ => True) s_.1 t601) ∧ (Kd.R (Kd.int .i64) 3 w' w.heap.size (fun k_ => some k_ ≠ (s_.2.2.1 : Value).ownBlock) s_.2.1 t592) ∧ (Kd.R (Kd.int .i64) 3 w' w.heap.size (fun k_ => some k_ ≠ (s_.2.1 : Value).ownBlock) s_.2.2.1 t598) ∧ (Kd.R Kd.bool 4 w' w.heap.size (fun _ => True) v585 x4_1) ∧ (w'.heap[gb582]? = some (.cells #[.int .i64 a0_0, .int .i64 a0_1, .slice A0_2 l0_2.length c0_2] 32 (0, 0))) ∧ (w'.heap[s_.2.2.2]? = some (.cells #[.int .i64 0, .int .i64 0, .int .i64 0] 27 (0, 0))) ∧ (w.heap.size ≤ s_.2.2.2) ∧ (w.heap.size ≤ s_.2.2.2) ∧ (gb582 ≠ s_.2.2.2) ∧ (s_.2.2.2 ≠ gb582) ∧ (Below w.heap.size w w')) ?_ ?_
       rotate_left
       ·intro hCont
        refine two_ (i := 1) (j := 9) (Ni := some 28) (Nj := some 6) #[true, true, true, false, true, false, false, false, false, false, false, false] #[true, false, true, false, true, false, false, false, false, true, false, false] rfl rfl rfl rfl (two_of HT_.out (by kernel_rfl)) (by decide) (by decide) (fun K hK => ?_) (fun K hK => ?_)
        ·skip
         refine goes_ Try.func55 (by kernel_rfl) rfl #[.agg #[.int .i64 a0_0, .int .i64 a0_1, .slice A0_2 l0_2.length c0_2]] (by rfl) rfl rfl (by (try simp only [List.map_toArray, List.map_cons, List.map_nil]); first | done | rfl | (simp only [List.length_drop, List.length_take]; rfl)) ?_
         with_reducible refine (impl_copyBoard.calls a0_0 a0_1 _ _ l0_2 t587 t588 t589 _ ?side1 ?side2 A13.out).mono ?_
         (case side1 => repeat (first | exact (Kd.C_below HR0_2.out HB.out) | (with_reducible refine Kd.C_alloc ?_ _) | (with_reducible refine Kd.C_drewN ?_ _) | (with_reducible refine Kd.C_drew ?_)))
         (case side2 => exact HC0_2.out)
         rintro e w18 ⟨v590, rfl, ho0, hb⟩
         refine ⟨_, rfl, ?_⟩
         have HO591 := Aside0.mk (Kd.R_lower ho0 (below_size (viaB HB)))
         replace HO_4 := Aside0.mk (Kd.R_below (viaR HO_4) hb)
         replace BK582 := kB BK582 hb
         replace HB := bB HB hb
         (try clear hb); (try clear ho0)
         refine hK.out _ _ ⟨(blk_cell BK582.out 0).trans rfl, (blk_cell BK582.out 1).trans rfl, (blk_cell BK582.out 2).trans rfl⟩ (fun hHeld => ?_)
         clear hK K
         refine norm_ (a' := ?_) ?_ ?_
         rotate_left
         ·show Act.put _ (some 28) _ = _
          simp only [Act.put, q1, q2, q3, i64_w, i32_w]
          rfl
         refine two_ (i := 3) (j := 9) (Ni := some 30) (Nj := some 6) #[true, true, true, true, true, false, false, false, false, false, false, false] #[true, true, true, false, true, false, false, false, false, true, false, false] rfl rfl rfl rfl (two_of HT_.out (by kernel_rfl)) (by decide) (by decide) (fun K hK => ?_) (fun K hK => ?_)
         ·skip
          refine goes_ Try.func56 (by kernel_rfl) rfl #[.agg #[.int .i64 a0_0, .int .i64 a0_1, .slice A0_2 l0_2.length c0_2]] (by rfl) rfl rfl (by (try simp only [List.map_toArray, List.map_cons, List.map_nil]); first | done | rfl | (simp only [List.length_drop, List.length_take]; rfl)) ?_
          with_reducible refine (impl_groupNumbers.calls k1 a0_0 a0_1 _ _ l0_2 t592 _ ?side1 ?side2 A14.out).mono ?_
          (case side1 => repeat (first | exact (Kd.C_below HR0_2.out HB.out) | (with_reducible refine Kd.C_alloc ?_ _) | (with_reducible refine Kd.C_drewN ?_ _) | (with_reducible refine Kd.C_drew ?_)))
          (case side2 => exact HC0_2.out)
          rintro e w19 ⟨v593, rfl, ho0, hb⟩
          refine ⟨_, rfl, ?_⟩
          have HO594 := Aside0.mk (Kd.R_lower ho0 (below_size (viaB HB)))
          replace HO_4 := Aside0.mk (Kd.R_below (viaR HO_4) hb)
          replace HO591 := Aside0.mk (Kd.R_below (viaR HO591) hb)
          replace BK582 := kB BK582 hb
          replace HB := bB HB hb
          (try clear hb); (try clear ho0)
          obtain ⟨Ao20, co20, eo20⟩ := Kd.R_slice HO591.out
          (first | subst eo20 | (injection eo20 with f1_ f2_ f3_; have f4_ := f1_.symm; have f5_ := f3_.symm; clear f1_ f2_ f3_; subst f4_; subst f5_))
          obtain ⟨Ao21, co21, eo21⟩ := Kd.R_slice HO594.out
          (first | subst eo21 | (injection eo21 with f1_ f2_ f3_; have f4_ := f1_.symm; have f5_ := f3_.symm; clear f1_ f2_ f3_; subst f4_; subst f5_))
          refine hK.out _ _ ⟨(blk_cell BK582.out 0).trans rfl, (blk_cell BK582.out 1).trans rfl, (blk_cell BK582.out 2).trans rfl⟩ (fun hHeld => ?_)
          clear hK K
          refine norm_ (a' := ?_) ?_ ?_
          rotate_left
          ·show Act.put _ (some 30) _ = _
           simp only [Act.put, q1, q2, q3, i64_w, i32_w]
           rfl
          refine two_ (i := 5) (j := 9) (Ni := some 32) (Nj := some 6) #[true, true, true, true, true, true, false, false, false, false, false, false] #[true, true, true, true, true, false, false, false, false, true, false, false] rfl rfl rfl rfl (two_of HT_.out (by kernel_rfl)) (by decide) (by decide) (fun K hK => ?_) (fun K hK => ?_)
          ·skip
           refine goes_ Try.func54 (by kernel_rfl) rfl #[.agg #[.int .i64 t587, .int .i64 t588, .slice Ao20 t589.length co20], .slice Ao21 t592.length co21, .int .i64 x5_1] (by rfl) rfl rfl (by (try simp only [List.map_toArray, List.map_cons, List.map_nil]); first | done | rfl | (simp only [List.length_drop, List.length_take]; rfl)) ?_
           with_reducible refine (impl_drop.calls k1 t587 t588 (fun k_ => some k_ = (.slice Ao20 t589.length co20 : Value).ownBlock) (.slice Ao20 t589.length co20) t589 _ _ t592 x5_1 t595 t596 t597 t598 t601 w _ ?side1 ?side2 ?side3 ?side4 A15.out).mono ?_
           (case side1 => repeat (first | (with_reducible first | exact HB.out | apply below_alloc | apply pw_below_drewN | apply below_drew1 | refine below_set ?_ GE582.out) | exact HB.out))
           (case side2 => exact Kd.R_tight rfl HO591.out)
           (case side3 => exact Kd.C_kept_own ((Kd.R_apart' HO594.out (Kd.R_typed HO591.out) (by decide))) (fun k_ hk_ hs_ => (hk_.2) hs_))
           (case side4 => exact (Kd.R_reads' HO594.out).2.1)
           rintro e w22 ⟨v599, rfl, ho0, hy0, hb, hkp⟩
           refine ⟨_, rfl, ?_⟩
           have HO600 := Aside0.mk (Kd.R_mono (ok' := fun k_ => some k_ ≠ (.slice Ao21 t592.length co21 : Value).ownBlock) ho0 (fun k_ hk_ => Or.elim hk_ (fun hs_ => fun e_ => ((((Kd.R_apart' HO594.out (Kd.R_typed HO591.out) (by decide))).1 k_ e_.symm).2) hs_) (fun hn_ => (Kd.fresh' (Kd.R_lt (viaR HO594)) k_ hn_))))
           replace HO_4 := Aside0.mk (Kd.R_mono (ok' := fun k_ => True) (Kd.R_keptB ((Kd.R_apart' HO_4.out (Kd.R_typed HO591.out) (by decide))) hkp (fun k_ hk_ hs_ => (hk_.2) hs_)) (fun k_ hk_ => trivial))
           replace BK582 := Aside0.mk (blk_kept (viaK BK582) hkp (fun hs_ => (fun e_ => (Kd.R_ne HO591.out BK582.out (by decide)) e_) hs_))
           replace HO594 := Aside0.mk (Kd.R_mono (ok' := fun k_ => some k_ ≠ (v599 : Value).ownBlock) (Kd.R_keptB ((Kd.R_apart' HO594.out (Kd.R_typed HO591.out) (by decide))) hkp (fun k_ hk_ hs_ => (hk_.2) hs_)) (fun k_ hk_ => fun e_ => Or.elim (ho0.1 k_ e_.symm) (fun hs_ => hk_.2.1 hs_) (fun hn_ => Nat.not_le.2 hk_.2.2 hn_)))
           replace HO591 := Aside0.mk (Kd.R_reok rfl hy0 (fun k_ e_ => HO591.out.1 k_ e_))
           replace HB := Aside0.mk (hb)
           (try clear hb); (try clear hkp); (try clear ho0); (try clear hy0)
           refine hK.out _ _ ⟨(blk_cell BK582.out 0).trans rfl, (blk_cell BK582.out 1).trans rfl, (blk_cell BK582.out 2).trans rfl⟩ (fun hHeld => ?_)
           clear hK K
           refine norm_ (a' := ?_) ?_ ?_
           rotate_left
           ·show Act.put _ (some 32) _ = _
            simp only [Act.put, q1, q2, q3, i64_w, i32_w]
            rfl
           refine pure_ (i := 6) (N := some 26) (v := ?_) (a' := ?_) #[true, true, true, true, true, true, true, false, false, false, false, false] rfl rfl (any_of HT_.out (by kernel_rfl)) (fun _ _ _ h => h) (Or.inl ⟨by rfl, ?_⟩) ?_ ?_
           rotate_left
           ·intro w'
            go_simp
            with_reducible rfl
           rotate_left
           ·simp only [Act.put, q1, q2, q3, i64_w, i32_w]
            rfl
           refine pure_ (i := 7) (N := some 33) (v := ?_) (a' := ?_) #[true, true, true, true, true, true, true, true, false, false, false, false] rfl rfl (any_of HT_.out (by kernel_rfl)) (fun _ _ _ h => h) (Or.inl ⟨by rfl, ?_⟩) ?_ ?_
           rotate_left
           ·intro w'
            go_simp
            with_reducible rfl
           rotate_left
           ·simp only [Act.put, q1, q2, q3, i64_w, i32_w]
            rfl
           refine pure_ (i := 8) (N := some 34) (v := ?_) (a' := ?_) #[true, true, true, true, true, true, true, true, true, false, false, false] rfl rfl (any_of HT_.out (by kernel_rfl)) (fun _ _ _ h => h) (Or.inl ⟨by rfl, ?_⟩) ?_ ?_
           rotate_left
           ·intro w'
            go_simp
            with_reducible rfl
           rotate_left
           ·simp only [Act.put, q1, q2, q3, i64_w, i32_w]
            rfl
           refine one_ (i := 9) (N := some 6) #[true, true, true, true, true, true, true, true, true, true, false, false] rfl rfl (one_of HT_.out (by kernel_rfl)) (by decide) (fun K hK => ?_)
           refine box_step ?hg (N := 6) ?hd (cs := #[.int .i64 0, .int .i64 0, .int .i64 0]) (t := 27) ?hr ?_; (case hd => rfl); (case hg => rfl); (case hr => first | (go_simp; done) | (go_simp; rfl))
           intro gb602 hg w23 hbox hb
           have BK602 := Aside0.mk (hbox)
           have GW602 := gW (w := w) HB hg
           have GE602 := gW (w := w) HB hg
           have NB582_602 := neL BK582 hg
           have NB602_582 := neG BK582 hg
           replace HO_4 := Aside0.mk (Kd.R_below (viaR HO_4) hb)
           replace HO591 := Aside0.mk (Kd.R_below (viaR HO591) hb)
           replace HO594 := Aside0.mk (Kd.R_below (viaR HO594) hb)
           replace HO600 := Aside0.mk (Kd.R_below (viaR HO600) hb)
           replace BK582 := kB BK582 hb
           replace HB := bB HB hb
           clear hb hbox hg
           refine hK.out _ _ ⟨(blk_cell BK582.out 0).trans rfl, (blk_cell BK582.out 1).trans rfl, (blk_cell BK582.out 2).trans rfl⟩ (fun hHeld => ?_)
           clear hK K
           refine norm_ (a' := ?_) ?_ ?_
           rotate_left
           ·show Act.put _ (some 6) _ = _
            simp only [Act.put, q1, q2, q3, i64_w, i32_w]
            rfl
           exact norm_ (by simp only [putAll, Act.put, q1, q2, q3]) (hCont (.slice Ao20 t589.length co20, .slice Ao21 t592.length co21, v599, gb602) _ ⟨hHeld, (viaR HO591), (viaR HO594), (viaR HO600), (viaR HO_4), (viaK BK582), (viaK BK602), GW602.out, GE602.out, NB582_602.out, NB602_582.out, (viaB HB)⟩)
          ·skip
           refine box_step ?hg (N := 6) ?hd (cs := #[.int .i64 0, .int .i64 0, .int .i64 0]) (t := 27) ?hr ?_; (case hd => rfl); (case hg => rfl); (case hr => first | (go_simp; done) | (go_simp; rfl))
           intro gb602 hg w20 hbox hb
           have BK602 := Aside0.mk (hbox)
           have GW602 := gW (w := w) HB hg
           have GE602 := gW (w := w) HB hg
           have NB582_602 := neL BK582 hg
           have NB602_582 := neG BK582 hg
           replace HO_4 := Aside0.mk (Kd.R_below (viaR HO_4) hb)
           replace HO591 := Aside0.mk (Kd.R_below (viaR HO591) hb)
           replace HO594 := Aside0.mk (Kd.R_below (viaR HO594) hb)
           replace BK582 := kB BK582 hb
           replace HB := bB HB hb
           clear hb hbox hg
           obtain ⟨Ao21, co21, eo21⟩ := Kd.R_slice HO591.out
           (first | subst eo21 | (injection eo21 with f1_ f2_ f3_; have f4_ := f1_.symm; have f5_ := f3_.symm; clear f1_ f2_ f3_; subst f4_; subst f5_))
           obtain ⟨Ao22, co22, eo22⟩ := Kd.R_slice HO594.out
           (first | subst eo22 | (injection eo22 with f1_ f2_ f3_; have f4_ := f1_.symm; have f5_ := f3_.symm; clear f1_ f2_ f3_; subst f4_; subst f5_))
           refine hK.out _ _ ⟨(blk_cell BK582.out 0).trans rfl, (blk_cell BK582.out 1).trans rfl, (blk_cell BK582.out 2).trans rfl⟩ (fun hHeld => ?_)
           clear hK K
           refine norm_ (a' := ?_) ?_ ?_
           rotate_left
           ·show Act.put _ (some 6) _ = _
            simp only [Act.put, q1, q2, q3, i64_w, i32_w]
            rfl
           refine one_ (i := 5) (N := some 32) #[true, true, true, true, true, true, false, false, false, true, false, false] rfl rfl (one_of HT_.out (by kernel_rfl)) (by decide) (fun K hK => ?_)
           refine goes_ Try.func54 (by kernel_rfl) rfl #[.agg #[.int .i64 t587, .int .i64 t588, .slice Ao21 t589.length co21], .slice Ao22 t592.length co22, .int .i64 x5_1] (by rfl) rfl rfl (by (try simp only [List.map_toArray, List.map_cons, List.map_nil]); first | done | rfl | (simp only [List.length_drop, List.length_take]; rfl)) ?_
           with_reducible refine (impl_drop.calls k1 t587 t588 (fun k_ => some k_ = (.slice Ao21 t589.length co21 : Value).ownBlock) (.slice Ao21 t589.length co21) t589 _ _ t592 x5_1 t595 t596 t597 t598 t601 w _ ?side1 ?side2 ?side3 ?side4 A15.out).mono ?_
           (case side1 => repeat (first | (with_reducible first | exact HB.out | apply below_alloc | apply pw_below_drewN | apply below_drew1 | refine below_set ?_ GE582.out | refine below_set ?_ GE602.out) | exact HB.out))
           (case side2 => exact Kd.R_tight rfl HO591.out)
           (case side3 => exact Kd.C_kept_own ((Kd.R_apart' HO594.out (Kd.R_typed HO591.out) (by decide))) (fun k_ hk_ hs_ => (hk_.2) hs_))
           (case side4 => exact (Kd.R_reads' HO594.out).2.1)
           rintro e w23 ⟨v599, rfl, ho0, hy0, hb, hkp⟩
           refine ⟨_, rfl, ?_⟩
           have HO600 := Aside0.mk (Kd.R_mono (ok' := fun k_ => some k_ ≠ (.slice Ao22 t592.length co22 : Value).ownBlock) ho0 (fun k_ hk_ => Or.elim hk_ (fun hs_ => fun e_ => ((((Kd.R_apart' HO594.out (Kd.R_typed HO591.out) (by decide))).1 k_ e_.symm).2) hs_) (fun hn_ => (Kd.fresh' (Kd.R_lt (viaR HO594)) k_ hn_))))
           replace HO_4 := Aside0.mk (Kd.R_mono (ok' := fun k_ => True) (Kd.R_keptB ((Kd.R_apart' HO_4.out (Kd.R_typed HO591.out) (by decide))) hkp (fun k_ hk_ hs_ => (hk_.2) hs_)) (fun k_ hk_ => trivial))
           replace BK582 := Aside0.mk (blk_kept (viaK BK582) hkp (fun hs_ => (fun e_ => (Kd.R_ne HO591.out BK582.out (by decide)) e_) hs_))
           replace HO594 := Aside0.mk (Kd.R_mono (ok' := fun k_ => some k_ ≠ (v599 : Value).ownBlock) (Kd.R_keptB ((Kd.R_apart' HO594.out (Kd.R_typed HO591.out) (by decide))) hkp (fun k_ hk_ hs_ => (hk_.2) hs_)) (fun k_ hk_ => fun e_ => Or.elim (ho0.1 k_ e_.symm) (fun hs_ => hk_.2.1 hs_) (fun hn_ => Nat.not_le.2 hk_.2.2 hn_)))
           replace BK602 := Aside0.mk (blk_kept (viaK BK602) hkp (fun hs_ => (fun e_ => (Kd.R_ne HO591.out BK602.out (by decide)) e_) hs_))
           replace HO591 := Aside0.mk (Kd.R_reok rfl hy0 (fun k_ e_ => HO591.out.1 k_ e_))
           replace HB := Aside0.mk (hb)
           (try clear hb); (try clear hkp); (try clear ho0); (try clear hy0)
           refine hK.out _ _ ⟨(blk_cell BK582.out 0).trans rfl, (blk_cell BK582.out 1).trans rfl, (blk_cell BK582.out 2).trans rfl⟩ (fun hHeld => ?_)
           clear hK K
           refine norm_ (a' := ?_) ?_ ?_
           rotate_left
           ·show Act.put _ (some 32) _ = _
            simp only [Act.put, q1, q2, q3, i64_w, i32_w]
            rfl
           refine pure_ (i := 6) (N := some 26) (v := ?_) (a' := ?_) #[true, true, true, true, true, true, true, false, false, true, false, false] rfl rfl (any_of HT_.out (by kernel_rfl)) (fun _ _ _ h => h) (Or.inl ⟨by rfl, ?_⟩) ?_ ?_
           rotate_left
           ·intro w'
            go_simp
            with_reducible rfl
           rotate_left
           ·simp only [Act.put, q1, q2, q3, i64_w, i32_w]
            rfl
           refine pure_ (i := 7) (N := some 33) (v := ?_) (a' := ?_) #[true, true, true, true, true, true, true, true, false, true, false, false] rfl rfl (any_of HT_.out (by kernel_rfl)) (fun _ _ _ h => h) (Or.inl ⟨by rfl, ?_⟩) ?_ ?_
           rotate_left
           ·intro w'
            go_simp
            with_reducible rfl
           rotate_left
           ·simp only [Act.put, q1, q2, q3, i64_w, i32_w]
            rfl
           refine pure_ (i := 8) (N := some 34) (v := ?_) (a' := ?_) #[true, true, true, true, true, true, true, true, true, true, false, false] rfl rfl (any_of HT_.out (by kernel_rfl)) (fun _ _ _ h => h) (Or.inl ⟨by rfl, ?_⟩) ?_ ?_
           rotate_left
           ·intro w'
            go_simp
            with_reducible rfl
           rotate_left
           ·simp only [Act.put, q1, q2, q3, i64_w, i32_w]
            rfl
           exact norm_ (by simp only [putAll, Act.put, q1, q2, q3]) (hCont (.slice Ao21 t589.length co21, .slice Ao22 t592.length co22, v599, gb602) _ ⟨hHeld, (viaR HO591), (viaR HO594), (viaR HO600), (viaR HO_4), (viaK BK582), (viaK BK602), GW602.out, GE602.out, NB582_602.out, NB602_582.out, (viaB HB)⟩)
         ·skip
          refine box_step ?hg (N := 6) ?hd (cs := #[.int .i64 0, .int .i64 0, .int .i64 0]) (t := 27) ?hr ?_; (case hd => rfl); (case hg => rfl); (case hr => first | (go_simp; done) | (go_simp; rfl))
          intro gb602 hg w19 hbox hb
          have BK602 := Aside0.mk (hbox)
          have GW602 := gW (w := w) HB hg
          have GE602 := gW (w := w) HB hg
          have NB582_602 := neL BK582 hg
          have NB602_582 := neG BK582 hg
          replace HO_4 := Aside0.mk (Kd.R_below (viaR HO_4) hb)
          replace HO591 := Aside0.mk (Kd.R_below (viaR HO591) hb)
          replace BK582 := kB BK582 hb
          replace HB := bB HB hb
          clear hb hbox hg
          refine hK.out _ _ ⟨(blk_cell BK582.out 0).trans rfl, (blk_cell BK582.out 1).trans rfl, (blk_cell BK582.out 2).trans rfl⟩ (fun hHeld => ?_)
          clear hK K
          refine norm_ (a' := ?_) ?_ ?_
          rotate_left
          ·show Act.put _ (some 6) _ = _
           simp only [Act.put, q1, q2, q3, i64_w, i32_w]
           rfl
          refine one_ (i := 3) (N := some 30) #[true, true, true, true, true, false, false, false, false, true, false, false] rfl rfl (one_of HT_.out (by kernel_rfl)) (by decide) (fun K hK => ?_)
          refine goes_ Try.func56 (by kernel_rfl) rfl #[.agg #[.int .i64 a0_0, .int .i64 a0_1, .slice A0_2 l0_2.length c0_2]] (by rfl) rfl rfl (by (try simp only [List.map_toArray, List.map_cons, List.map_nil]); first | done | rfl | (simp only [List.length_drop, List.length_take]; rfl)) ?_
          with_reducible refine (impl_groupNumbers.calls k1 a0_0 a0_1 _ _ l0_2 t592 _ ?side1 ?side2 A14.out).mono ?_
          (case side1 => repeat (first | exact (Kd.C_below HR0_2.out HB.out) | (with_reducible refine Kd.C_alloc ?_ _) | (with_reducible refine Kd.C_drewN ?_ _) | (with_reducible refine Kd.C_drew ?_)))
          (case side2 => exact HC0_2.out)
          rintro e w20 ⟨v593, rfl, ho0, hb⟩
          refine ⟨_, rfl, ?_⟩
          have HO594 := Aside0.mk (Kd.R_lower ho0 (below_size (viaB HB)))
          replace HO_4 := Aside0.mk (Kd.R_below (viaR HO_4) hb)
          replace HO591 := Aside0.mk (Kd.R_below (viaR HO591) hb)
          replace BK582 := kB BK582 hb
          replace BK602 := kB BK602 hb
          replace HB := bB HB hb
          (try clear hb); (try clear ho0)
          obtain ⟨Ao21, co21, eo21⟩ := Kd.R_slice HO591.out
          (first | subst eo21 | (injection eo21 with f1_ f2_ f3_; have f4_ := f1_.symm; have f5_ := f3_.symm; clear f1_ f2_ f3_; subst f4_; subst f5_))
          obtain ⟨Ao22, co22, eo22⟩ := Kd.R_slice HO594.out
          (first | subst eo22 | (injection eo22 with f1_ f2_ f3_; have f4_ := f1_.symm; have f5_ := f3_.symm; clear f1_ f2_ f3_; subst f4_; subst f5_))
          refine hK.out _ _ ⟨(blk_cell BK582.out 0).trans rfl, (blk_cell BK582.out 1).trans rfl, (blk_cell BK582.out 2).trans rfl⟩ (fun hHeld => ?_)
          clear hK K
          refine norm_ (a' := ?_) ?_ ?_
          rotate_left
          ·show Act.put _ (some 30) _ = _
           simp only [Act.put, q1, q2, q3, i64_w, i32_w]
           rfl
          refine one_ (i := 5) (N := some 32) #[true, true, true, true, true, true, false, false, false, true, false, false] rfl rfl (one_of HT_.out (by kernel_rfl)) (by decide) (fun K hK => ?_)
          refine goes_ Try.func54 (by kernel_rfl) rfl #[.agg #[.int .i64 t587, .int .i64 t588, .slice Ao21 t589.length co21], .slice Ao22 t592.length co22, .int .i64 x5_1] (by rfl) rfl rfl (by (try simp only [List.map_toArray, List.map_cons, List.map_nil]); first | done | rfl | (simp only [List.length_drop, List.length_take]; rfl)) ?_
          with_reducible refine (impl_drop.calls k1 t587 t588 (fun k_ => some k_ = (.slice Ao21 t589.length co21 : Value).ownBlock) (.slice Ao21 t589.length co21) t589 _ _ t592 x5_1 t595 t596 t597 t598 t601 w _ ?side1 ?side2 ?side3 ?side4 A15.out).mono ?_
          (case side1 => repeat (first | (with_reducible first | exact HB.out | apply below_alloc | apply pw_below_drewN | apply below_drew1 | refine below_set ?_ GE582.out | refine below_set ?_ GE602.out) | exact HB.out))
          (case side2 => exact Kd.R_tight rfl HO591.out)
          (case side3 => exact Kd.C_kept_own ((Kd.R_apart' HO594.out (Kd.R_typed HO591.out) (by decide))) (fun k_ hk_ hs_ => (hk_.2) hs_))
          (case side4 => exact (Kd.R_reads' HO594.out).2.1)
          rintro e w23 ⟨v599, rfl, ho0, hy0, hb, hkp⟩
          refine ⟨_, rfl, ?_⟩
          have HO600 := Aside0.mk (Kd.R_mono (ok' := fun k_ => some k_ ≠ (.slice Ao22 t592.length co22 : Value).ownBlock) ho0 (fun k_ hk_ => Or.elim hk_ (fun hs_ => fun e_ => ((((Kd.R_apart' HO594.out (Kd.R_typed HO591.out) (by decide))).1 k_ e_.symm).2) hs_) (fun hn_ => (Kd.fresh' (Kd.R_lt (viaR HO594)) k_ hn_))))
          replace HO_4 := Aside0.mk (Kd.R_mono (ok' := fun k_ => True) (Kd.R_keptB ((Kd.R_apart' HO_4.out (Kd.R_typed HO591.out) (by decide))) hkp (fun k_ hk_ hs_ => (hk_.2) hs_)) (fun k_ hk_ => trivial))
          replace BK582 := Aside0.mk (blk_kept (viaK BK582) hkp (fun hs_ => (fun e_ => (Kd.R_ne HO591.out BK582.out (by decide)) e_) hs_))
          replace BK602 := Aside0.mk (blk_kept (viaK BK602) hkp (fun hs_ => (fun e_ => (Kd.R_ne HO591.out BK602.out (by decide)) e_) hs_))
          replace HO594 := Aside0.mk (Kd.R_mono (ok' := fun k_ => some k_ ≠ (v599 : Value).ownBlock) (Kd.R_keptB ((Kd.R_apart' HO594.out (Kd.R_typed HO591.out) (by decide))) hkp (fun k_ hk_ hs_ => (hk_.2) hs_)) (fun k_ hk_ => fun e_ => Or.elim (ho0.1 k_ e_.symm) (fun hs_ => hk_.2.1 hs_) (fun hn_ => Nat.not_le.2 hk_.2.2 hn_)))
          replace HO591 := Aside0.mk (Kd.R_reok rfl hy0 (fun k_ e_ => HO591.out.1 k_ e_))
          replace HB := Aside0.mk (hb)
          (try clear hb); (try clear hkp); (try clear ho0); (try clear hy0)
          refine hK.out _ _ ⟨(blk_cell BK582.out 0).trans rfl, (blk_cell BK582.out 1).trans rfl, (blk_cell BK582.out 2).trans rfl⟩ (fun hHeld => ?_)
          clear hK K
          refine norm_ (a' := ?_) ?_ ?_
          rotate_left
          ·show Act.put _ (some 32) _ = _
           simp only [Act.put, q1, q2, q3, i64_w, i32_w]
           rfl
          refine pure_ (i := 6) (N := some 26) (v := ?_) (a' := ?_) #[true, true, true, true, true, true, true, false, false, true, false, false] rfl rfl (any_of HT_.out (by kernel_rfl)) (fun _ _ _ h => h) (Or.inl ⟨by rfl, ?_⟩) ?_ ?_
          rotate_left
          ·intro w'
           go_simp
           with_reducible rfl
          rotate_left
          ·simp only [Act.put, q1, q2, q3, i64_w, i32_w]
           rfl
          refine pure_ (i := 7) (N := some 33) (v := ?_) (a' := ?_) #[true, true, true, true, true, true, true, true, false, true, false, false] rfl rfl (any_of HT_.out (by kernel_rfl)) (fun _ _ _ h => h) (Or.inl ⟨by rfl, ?_⟩) ?_ ?_
          rotate_left
          ·intro w'
           go_simp
           with_reducible rfl
          rotate_left
          ·simp only [Act.put, q1, q2, q3, i64_w, i32_w]
           rfl
          refine pure_ (i := 8) (N := some 34) (v := ?_) (a' := ?_) #[true, true, true, true, true, true, true, true, true, true, false, false] rfl rfl (any_of HT_.out (by kernel_rfl)) (fun _ _ _ h => h) (Or.inl ⟨by rfl, ?_⟩) ?_ ?_
          rotate_left
          ·intro w'
           go_simp
           with_reducible rfl
          rotate_left
          ·simp only [Act.put, q1, q2, q3, i64_w, i32_w]
           rfl
          exact norm_ (by simp only [putAll, Act.put, q1, q2, q3]) (hCont (.slice Ao21 t589.length co21, .slice Ao22 t592.length co22, v599, gb602) _ ⟨hHeld, (viaR HO591), (viaR HO594), (viaR HO600), (viaR HO_4), (viaK BK582), (viaK BK602), GW602.out, GE602.out, NB582_602.out, NB602_582.out, (viaB HB)⟩)
        ·skip
         refine box_step ?hg (N := 6) ?hd (cs := #[.int .i64 0, .int .i64 0, .int .i64 0]) (t := 27) ?hr ?_; (case hd => rfl); (case hg => rfl); (case hr => first | (go_simp; done) | (go_simp; rfl))
         intro gb602 hg w18 hbox hb
         have BK602 := Aside0.mk (hbox)
         have GW602 := gW (w := w) HB hg
         have GE602 := gW (w := w) HB hg
         have NB582_602 := neL BK582 hg
         have NB602_582 := neG BK582 hg
         replace HO_4 := Aside0.mk (Kd.R_below (viaR HO_4) hb)
         replace BK582 := kB BK582 hb
         replace HB := bB HB hb
         clear hb hbox hg
         refine hK.out _ _ ⟨(blk_cell BK582.out 0).trans rfl, (blk_cell BK582.out 1).trans rfl, (blk_cell BK582.out 2).trans rfl⟩ (fun hHeld => ?_)
         clear hK K
         refine norm_ (a' := ?_) ?_ ?_
         rotate_left
         ·show Act.put _ (some 6) _ = _
          simp only [Act.put, q1, q2, q3, i64_w, i32_w]
          rfl
         refine one_ (i := 1) (N := some 28) #[true, true, true, false, true, false, false, false, false, true, false, false] rfl rfl (one_of HT_.out (by kernel_rfl)) (by decide) (fun K hK => ?_)
         refine goes_ Try.func55 (by kernel_rfl) rfl #[.agg #[.int .i64 a0_0, .int .i64 a0_1, .slice A0_2 l0_2.length c0_2]] (by rfl) rfl rfl (by (try simp only [List.map_toArray, List.map_cons, List.map_nil]); first | done | rfl | (simp only [List.length_drop, List.length_take]; rfl)) ?_
         with_reducible refine (impl_copyBoard.calls a0_0 a0_1 _ _ l0_2 t587 t588 t589 _ ?side1 ?side2 A13.out).mono ?_
         (case side1 => repeat (first | exact (Kd.C_below HR0_2.out HB.out) | (with_reducible refine Kd.C_alloc ?_ _) | (with_reducible refine Kd.C_drewN ?_ _) | (with_reducible refine Kd.C_drew ?_)))
         (case side2 => exact HC0_2.out)
         rintro e w19 ⟨v590, rfl, ho0, hb⟩
         refine ⟨_, rfl, ?_⟩
         have HO591 := Aside0.mk (Kd.R_lower ho0 (below_size (viaB HB)))
         replace HO_4 := Aside0.mk (Kd.R_below (viaR HO_4) hb)
         replace BK582 := kB BK582 hb
         replace BK602 := kB BK602 hb
         replace HB := bB HB hb
         (try clear hb); (try clear ho0)
         refine hK.out _ _ ⟨(blk_cell BK582.out 0).trans rfl, (blk_cell BK582.out 1).trans rfl, (blk_cell BK582.out 2).trans rfl⟩ (fun hHeld => ?_)
         clear hK K
         refine norm_ (a' := ?_) ?_ ?_
         rotate_left
         ·show Act.put _ (some 28) _ = _
          simp only [Act.put, q1, q2, q3, i64_w, i32_w]
          rfl
         refine one_ (i := 3) (N := some 30) #[true, true, true, true, true, false, false, false, false, true, false, false] rfl rfl (one_of HT_.out (by kernel_rfl)) (by decide) (fun K hK => ?_)
         refine goes_ Try.func56 (by kernel_rfl) rfl #[.agg #[.int .i64 a0_0, .int .i64 a0_1, .slice A0_2 l0_2.length c0_2]] (by rfl) rfl rfl (by (try simp only [List.map_toArray, List.map_cons, List.map_nil]); first | done | rfl | (simp only [List.length_drop, List.length_take]; rfl)) ?_
         with_reducible refine (impl_groupNumbers.calls k1 a0_0 a0_1 _ _ l0_2 t592 _ ?side1 ?side2 A14.out).mono ?_
         (case side1 => repeat (first | exact (Kd.C_below HR0_2.out HB.out) | (with_reducible refine Kd.C_alloc ?_ _) | (with_reducible refine Kd.C_drewN ?_ _) | (with_reducible refine Kd.C_drew ?_)))
         (case side2 => exact HC0_2.out)
         rintro e w20 ⟨v593, rfl, ho0, hb⟩
         refine ⟨_, rfl, ?_⟩
         have HO594 := Aside0.mk (Kd.R_lower ho0 (below_size (viaB HB)))
         replace HO_4 := Aside0.mk (Kd.R_below (viaR HO_4) hb)
         replace HO591 := Aside0.mk (Kd.R_below (viaR HO591) hb)
         replace BK582 := kB BK582 hb
         replace BK602 := kB BK602 hb
         replace HB := bB HB hb
         (try clear hb); (try clear ho0)
         obtain ⟨Ao21, co21, eo21⟩ := Kd.R_slice HO591.out
         (first | subst eo21 | (injection eo21 with f1_ f2_ f3_; have f4_ := f1_.symm; have f5_ := f3_.symm; clear f1_ f2_ f3_; subst f4_; subst f5_))
         obtain ⟨Ao22, co22, eo22⟩ := Kd.R_slice HO594.out
         (first | subst eo22 | (injection eo22 with f1_ f2_ f3_; have f4_ := f1_.symm; have f5_ := f3_.symm; clear f1_ f2_ f3_; subst f4_; subst f5_))
         refine hK.out _ _ ⟨(blk_cell BK582.out 0).trans rfl, (blk_cell BK582.out 1).trans rfl, (blk_cell BK582.out 2).trans rfl⟩ (fun hHeld => ?_)
         clear hK K
         refine norm_ (a' := ?_) ?_ ?_
         rotate_left
         ·show Act.put _ (some 30) _ = _
          simp only [Act.put, q1, q2, q3, i64_w, i32_w]
          rfl
         refine one_ (i := 5) (N := some 32) #[true, true, true, true, true, true, false, false, false, true, false, false] rfl rfl (one_of HT_.out (by kernel_rfl)) (by decide) (fun K hK => ?_)
         refine goes_ Try.func54 (by kernel_rfl) rfl #[.agg #[.int .i64 t587, .int .i64 t588, .slice Ao21 t589.length co21], .slice Ao22 t592.length co22, .int .i64 x5_1] (by rfl) rfl rfl (by (try simp only [List.map_toArray, List.map_cons, List.map_nil]); first | done | rfl | (simp only [List.length_drop, List.length_take]; rfl)) ?_
         with_reducible refine (impl_drop.calls k1 t587 t588 (fun k_ => some k_ = (.slice Ao21 t589.length co21 : Value).ownBlock) (.slice Ao21 t589.length co21) t589 _ _ t592 x5_1 t595 t596 t597 t598 t601 w _ ?side1 ?side2 ?side3 ?side4 A15.out).mono ?_
         (case side1 => repeat (first | (with_reducible first | exact HB.out | apply below_alloc | apply pw_below_drewN | apply below_drew1 | refine below_set ?_ GE582.out | refine below_set ?_ GE602.out) | exact HB.out))
         (case side2 => exact Kd.R_tight rfl HO591.out)
         (case side3 => exact Kd.C_kept_own ((Kd.R_apart' HO594.out (Kd.R_typed HO591.out) (by decide))) (fun k_ hk_ hs_ => (hk_.2) hs_))
         (case side4 => exact (Kd.R_reads' HO594.out).2.1)
         rintro e w23 ⟨v599, rfl, ho0, hy0, hb, hkp⟩
         refine ⟨_, rfl, ?_⟩
         have HO600 := Aside0.mk (Kd.R_mono (ok' := fun k_ => some k_ ≠ (.slice Ao22 t592.length co22 : Value).ownBlock) ho0 (fun k_ hk_ => Or.elim hk_ (fun hs_ => fun e_ => ((((Kd.R_apart' HO594.out (Kd.R_typed HO591.out) (by decide))).1 k_ e_.symm).2) hs_) (fun hn_ => (Kd.fresh' (Kd.R_lt (viaR HO594)) k_ hn_))))
         replace HO_4 := Aside0.mk (Kd.R_mono (ok' := fun k_ => True) (Kd.R_keptB ((Kd.R_apart' HO_4.out (Kd.R_typed HO591.out) (by decide))) hkp (fun k_ hk_ hs_ => (hk_.2) hs_)) (fun k_ hk_ => trivial))
         replace BK582 := Aside0.mk (blk_kept (viaK BK582) hkp (fun hs_ => (fun e_ => (Kd.R_ne HO591.out BK582.out (by decide)) e_) hs_))
         replace BK602 := Aside0.mk (blk_kept (viaK BK602) hkp (fun hs_ => (fun e_ => (Kd.R_ne HO591.out BK602.out (by decide)) e_) hs_))
         replace HO594 := Aside0.mk (Kd.R_mono (ok' := fun k_ => some k_ ≠ (v599 : Value).ownBlock) (Kd.R_keptB ((Kd.R_apart' HO594.out (Kd.R_typed HO591.out) (by decide))) hkp (fun k_ hk_ hs_ => (hk_.2) hs_)) (fun k_ hk_ => fun e_ => Or.elim (ho0.1 k_ e_.symm) (fun hs_ => hk_.2.1 hs_) (fun hn_ => Nat.not_le.2 hk_.2.2 hn_)))
         replace HO591 := Aside0.mk (Kd.R_reok rfl hy0 (fun k_ e_ => HO591.out.1 k_ e_))
         replace HB := Aside0.mk (hb)
         (try clear hb); (try clear hkp); (try clear ho0); (try clear hy0)
         refine hK.out _ _ ⟨(blk_cell BK582.out 0).trans rfl, (blk_cell BK582.out 1).trans rfl, (blk_cell BK582.out 2).trans rfl⟩ (fun hHeld => ?_)
         clear hK K
         refine norm_ (a' := ?_) ?_ ?_
         rotate_left
         ·show Act.put _ (some 32) _ = _
          simp only [Act.put, q1, q2, q3, i64_w, i32_w]
          rfl
         refine pure_ (i := 6) (N := some 26) (v := ?_) (a' := ?_) #[true, true, true, true, true, true, true, false, false, true, false, false] rfl rfl (any_of HT_.out (by kernel_rfl)) (fun _ _ _ h => h) (Or.inl ⟨by rfl, ?_⟩) ?_ ?_
         rotate_left
         ·intro w'
          go_simp
          with_reducible rfl
         rotate_left
         ·simp only [Act.put, q1, q2, q3, i64_w, i32_w]
          rfl
         refine pure_ (i := 7) (N := some 33) (v := ?_) (a' := ?_) #[true, true, true, true, true, true, true, true, false, true, false, false] rfl rfl (any_of HT_.out (by kernel_rfl)) (fun _ _ _ h => h) (Or.inl ⟨by rfl, ?_⟩) ?_ ?_
         rotate_left
         ·intro w'
          go_simp
          with_reducible rfl
         rotate_left
         ·simp only [Act.put, q1, q2, q3, i64_w, i32_w]
          rfl
         refine pure_ (i := 8) (N := some 34) (v := ?_) (a' := ?_) #[true, true, true, true, true, true, true, true, true, true, false, false] rfl rfl (any_of HT_.out (by kernel_rfl)) (fun _ _ _ h => h) (Or.inl ⟨by rfl, ?_⟩) ?_ ?_
         rotate_left
         ·intro w'
          go_simp
          with_reducible rfl
         rotate_left
         ·simp only [Act.put, q1, q2, q3, i64_w, i32_w]
          rfl
         exact norm_ (by simp only [putAll, Act.put, q1, q2, q3]) (hCont (.slice Ao21 t589.length co21, .slice Ao22 t592.length co22, v599, gb602) _ ⟨hHeld, (viaR HO591), (viaR HO594), (viaR HO600), (viaR HO_4), (viaK BK582), (viaK BK602), GW602.out, GE602.out, NB582_602.out, NB602_582.out, (viaB HB)⟩)
       rintro ⟨v590, v593, v599, gb602⟩ w24 ⟨hS_, h0_, h1_, h2_, h3_, h4_, h5_, h6_, h7_, h8_, h9_, h10_⟩
       have HO591 : Aside0 (Kd.R k89 89 w24 w.heap.size (fun _ => True) v590 t601) := ⟨h0_⟩
       have HO594 : Aside0 (Kd.R (Kd.int .i64) 3 w24 w.heap.size (fun k_ => some k_ ≠ (v599 : Value).ownBlock) v593 t592) := ⟨h1_⟩
       have HO600 : Aside0 (Kd.R (Kd.int .i64) 3 w24 w.heap.size (fun k_ => some k_ ≠ (v593 : Value).ownBlock) v599 t598) := ⟨h2_⟩
       have BK602 : Aside0 (w24.heap[gb602]? = some (.cells #[.int .i64 0, .int .i64 0, .int .i64 0] 27 (0, 0))) := ⟨h5_⟩
       have GW602 : Aside0 (w.heap.size ≤ gb602) := ⟨h6_⟩
       have GE602 : Aside0 (w.heap.size ≤ gb602) := ⟨h7_⟩
       have NB582_602 : Aside0 (gb582 ≠ gb602) := ⟨h8_⟩
       have NB602_582 : Aside0 (gb602 ≠ gb582) := ⟨h9_⟩
       replace HO_4 : Aside0 (Kd.R Kd.bool 4 w24 w.heap.size (fun _ => True) v585 x4_1) := ⟨h3_⟩
       replace BK582 : Aside0 (w24.heap[gb582]? = some (.cells #[.int .i64 a0_0, .int .i64 a0_1, .slice A0_2 l0_2.length c0_2] 32 (0, 0))) := ⟨h4_⟩
       replace HB : Aside0 (Below w.heap.size w w24) := ⟨h10_⟩
       clear h0_ h1_ h2_ h3_ h4_ h5_ h6_ h7_ h8_ h9_ h10_
       have hHeld : w24.cell? ⟨gb582, 0, none⟩ = some (.int .i64 a0_0) ∧ w24.cell? ⟨gb582, 1, none⟩ = some (.int .i64 a0_1) ∧ w24.cell? ⟨gb582, 2, none⟩ = some (.slice A0_2 l0_2.length c0_2) := hS_
       refine norm_ (a' := ?_) ?_ ?_
       rotate_left
       ·simp only [putAll, Act.put, q1, q2, q3]
        rfl
       refine one_ (i := 10) (N := none) #[true, true, true, true, true, true, true, true, true, true, true, false] rfl rfl (one_of HT_.out (by kernel_rfl)) (by decide) (fun K hK => ?_)
       have hs25 : w24.cell? ⟨gb602, 0, none⟩ = some (.int .i64 0) := (blk_cell BK602.out 0).trans rfl
       have hfs25 := blk_frozen BK602.out 0
       have hns25_0 := NB582_602.out
       have hms25_0 := NB602_582.out
       have hs26 : w24.cell? ⟨gb602, 1, none⟩ = some (.int .i64 0) := (blk_cell BK602.out 1).trans rfl
       have hfs26 := blk_frozen BK602.out 1
       have hns26_0 := NB582_602.out
       have hms26_0 := NB602_582.out
       have hs27 : w24.cell? ⟨gb602, 2, none⟩ = some (.int .i64 0) := (blk_cell BK602.out 2).trans rfl
       have hfs27 := blk_frozen BK602.out 2
       have hns27_0 := NB582_602.out
       have hms27_0 := NB602_582.out
       refine skip_ (w1 := ?_) (by rfl) rfl ?_ ?_
       rotate_left
       ·go_simp
        rfl
       refine hK.out _ _ ⟨((cell_far (p := ⟨gb602, _, none⟩) NB582_602.out _).trans (((cell_far (p := ⟨gb602, _, none⟩) NB582_602.out _).trans (((cell_far (p := ⟨gb602, _, none⟩) NB582_602.out _).trans (hHeld.1)))))), ((cell_far (p := ⟨gb602, _, none⟩) NB582_602.out _).trans (((cell_far (p := ⟨gb602, _, none⟩) NB582_602.out _).trans (((cell_far (p := ⟨gb602, _, none⟩) NB582_602.out _).trans (hHeld.2.1)))))), ((cell_far (p := ⟨gb602, _, none⟩) NB582_602.out _).trans (((cell_far (p := ⟨gb602, _, none⟩) NB582_602.out _).trans (((cell_far (p := ⟨gb602, _, none⟩) NB582_602.out _).trans (hHeld.2.2))))))⟩ (fun hHeld => ?_)
       clear hK K
       refine pure_ (i := 11) (N := some 7) (v := ?_) (a' := ?_) #[true, true, true, true, true, true, true, true, true, true, true, true] rfl rfl (any_of HT_.out (by kernel_rfl)) (fun _ _ _ h => h) (Or.inl ⟨by rfl, ?_⟩) ?_ ?_
       rotate_left
       ·intro w'
        go_simp
        with_reducible rfl
       rotate_left
       ·simp only [Act.put, q1, q2, q3, i64_w, i32_w]
        rfl
       refine done_ (done_of HT_.out (by kernel_rfl)) ?_
       obtain ⟨Ao28, co28, eo28⟩ := Kd.R_slice HO600.out
       subst eo28
       try go_wp2
       go_loopg [37] k1 (fun kq v37 w' => ∃ (x4_2 : List Bool) (x37_2 : Int), v37 = .int .i64 x37_2 ∧ Aside0 (impl_MetCells.l1 kq x4_2 x5_1 t598 (t598.length : Int) x37_2 a0_0 a0_1 l0_2 = some (r1, r2)) ∧ Aside0 (kq ≤ k1) ∧ Aside0 (Kd.R Kd.bool 4 w' w.heap.size (fun _ => True) v585 x4_2) ∧ Aside0 (Kd.R (Kd.int .i64) 3 w' w.heap.size (fun _ => True) (.slice Ao28 t598.length co28) t598) ∧ Aside0 (w'.heap[gb582]? = some (.cells #[.int .i64 a0_0, .int .i64 a0_1, (.slice A0_2 l0_2.length c0_2)] 32 (0, 0))) ∧ Aside0 (w'.heap[gb602]? = some (.cells #[.int .i64 t595, .int .i64 t596, .int .i64 t597] 27 (0, 0))) ∧ Aside0 (Below w.heap.size w w'))
       case atStart => exact ⟨(x4_1), (0), (by first | rfl | (simp; done) | (simp [*]; done)), H', ⟨Nat.le_refl _⟩, ⟨by (with_reducible repeat (first | apply Kd.R_alloc | apply Kd.R_drewN | apply Kd.R_drew)); exact Kd.R_mono (Kd.R_far (p := ⟨gb602, 2, none⟩) (Kd.R_far (p := ⟨gb602, 1, none⟩) (Kd.R_far (p := ⟨gb602, 0, none⟩) (Kd.R_types HO_4.out BK602.out (by decide)) (fun _ hk => hk.2) (.int .i64 t595)) (fun _ hk => hk.2) (.int .i64 t596)) (fun _ hk => hk.2) (.int .i64 t597)) (fun _ hk => trivial)⟩, ⟨by (with_reducible repeat (first | apply Kd.R_alloc | apply Kd.R_drewN | apply Kd.R_drew)); exact Kd.R_mono (Kd.R_far (p := ⟨gb602, 2, none⟩) (Kd.R_far (p := ⟨gb602, 1, none⟩) (Kd.R_far (p := ⟨gb602, 0, none⟩) (Kd.R_types HO600.out BK602.out (by decide)) (fun _ hk => hk.2) (.int .i64 t595)) (fun _ hk => hk.2) (.int .i64 t596)) (fun _ hk => hk.2) (.int .i64 t597)) (fun _ hk => trivial)⟩, ⟨by (with_reducible repeat (first | refine blk_drewN ?_ _ | refine blk_drew ?_ | refine blk_alloc ?_ _)); refine blk_far ?_ NB582_602.out _; (with_reducible repeat (first | refine blk_drewN ?_ _ | refine blk_drew ?_ | refine blk_alloc ?_ _)); refine blk_far ?_ NB582_602.out _; (with_reducible repeat (first | refine blk_drewN ?_ _ | refine blk_drew ?_ | refine blk_alloc ?_ _)); refine blk_far ?_ NB582_602.out _; (with_reducible repeat (first | refine blk_drewN ?_ _ | refine blk_drew ?_ | refine blk_alloc ?_ _)); exact BK582.out⟩, ⟨by (with_reducible repeat (first | refine blk_drewN ?_ _ | refine blk_drew ?_ | refine blk_alloc ?_ _)); refine blk_put (cs := #[.int .i64 t595, .int .i64 t596, .int .i64 0]) ?_ 2 _ rfl; (with_reducible repeat (first | refine blk_drewN ?_ _ | refine blk_drew ?_ | refine blk_alloc ?_ _)); refine blk_put (cs := #[.int .i64 t595, .int .i64 0, .int .i64 0]) ?_ 1 _ rfl; (with_reducible repeat (first | refine blk_drewN ?_ _ | refine blk_drew ?_ | refine blk_alloc ?_ _)); refine blk_put (cs := #[.int .i64 0, .int .i64 0, .int .i64 0]) ?_ 0 _ rfl; (with_reducible repeat (first | refine blk_drewN ?_ _ | refine blk_drew ?_ | refine blk_alloc ?_ _)); exact BK602.out⟩, ⟨viaB HB⟩⟩
       case round =>
        clear H'
        obtain ⟨x4_2, x37_2, rfl, HA, HK2, HO_4, HO_35, BK582, BK602, HB⟩ := hrel
        cases gk with
        | zero => exact absurd HA.out (by simp [impl_MetCells.l1])
        | succ k2 =>
         have H := HA.out
         clear HA
         simp only [impl_MetCells.l1] at H
         by_cases c29 : x37_2 < (t598.length : Int)
         ·rw [if_pos c29] at H
          have c29b0 := decide_eq_true c29
          clear c29
          by_cases c30 : 0 ≤ x37_2
          ·rw [if_pos c30] at H
           have c30b0 := decide_eq_true c30
           clear c30
           by_cases c31 : x37_2 < (t598.length : Int)
           ·rw [if_pos c31] at H
            have c31b0 := decide_eq_true c31
            clear c31
            by_cases c32 : 0 ≤ (rd t598 x37_2)
            ·rw [if_pos c32] at H
             have c32b0 := decide_eq_true c32
             clear c32
             by_cases c33 : (rd t598 x37_2) < (x4_2.length : Int)
             ·rw [if_pos c33] at H
              have c33b0 := decide_eq_true c33
              clear c33
              obtain ⟨y604, hy604⟩ : ∃ y_ : List Bool, y_ = (x4_2.set ((rd t598 x37_2) : Int).toNat true) := ⟨_, rfl⟩
              replace H : (impl_MetCells.l1 k2 y604 x5_1 t598 (t598.length : Int) (wrap64 (x37_2 + 1)) a0_0 a0_1 l0_2) = some (r1, r2) := by first | (rw [hy604]; with_reducible exact H) | (have H2_ := (Option.bind_some _ _).symm.trans H; rw [hy604]; with_reducible exact H2_) | (have H2_ := (Option.bind_some _ _).symm.trans H; with_reducible exact H2_) | with_reducible exact H | (rw [hy604]; exact H) | exact H
              have Ny604 := Aside0.mk hy604
              clear hy604
              have H' := Aside0.mk H
              clear H
              have p603 : 0 ≤ (x37_2 : Int) := ofD
              have q603 : x37_2 < (t598.length : Int) := ofD
              obtain ⟨ad603, e603, hx603_0⟩ := Kd.at_int (Kd.R_reads' HO_35.out).2.2 x37_2 p603 q603
              cases e603
              replace p603 := eq_true p603
              replace q603 := eq_true q603
              have p34 : 0 ≤ ((rd t598 x37_2) : Int) := ofD
              have q34 : ((rd t598 x37_2) : Int) < ((x4_2.length : Int) : Int) := ofD
              obtain ⟨go34, co34, eo34, gb34, gl34, cl34, HG34⟩ := Kd.R_form HO_4.out (by omega)
              (first | cases eo34 | (injection eo34 with ea_ en_ ec_; (first | subst ea_ | (injection ea_ with ea_; subst ea_)); subst ec_; clear en_))
              have GB34 := Aside0.mk gb34
              have GG34 := Aside0.mk HG34
              clear gb34 gl34 HG34
              obtain ⟨hx34_0, hf34_0⟩ := Kd.R_celln false HO_4.out ((rd t598 x37_2) : Int) p34 q34
              replace p34 := eq_true p34
              replace q34 := eq_true q34
              have HP35 := Kd.R_putg HO_4.out ((rd t598 x37_2) : Int) true
              go_wp2_with (first | ((with_reducible refine gate_store (t := 4) (p := 43) rfl ?_); refine store_event (t := 4) (p := 43) (v := ?vo_w36) (w1 := (wr.setCell ⟨go34, ((rd t598 x37_2) : Int).toNat, none⟩ (.bool true))) ?hg ?ho ?hn ?hr ?_; (case ho => rfl); (case hg => rfl); (case hn => rfl); (case hr => first | (go_simp; done) | (go_simp; rfl)); intro w36 hw; have hg : wr.grownBy w36 (some go34) := (by rw [hw]; exact HP35.2); have hp_ : Kd.R Kd.bool 4 w36 w.heap.size (fun _ => True) (.slice (some ⟨go34, 0, none⟩) x4_2.length co34) y604 := (by rw [hw, Ny604.out]; exact HP35.1); clear HP35; replace HO_35 := Aside0.mk (Kd.R_over' (v := (.slice (some ⟨go34, 0, none⟩) x4_2.length co34)) (viaR HO_35) (Kd.R_typed HO_4.out) (by decide) hg); replace BK582 := Aside0.mk (blk_grown (g := gb582) (o := .cells #[.int .i64 a0_0, .int .i64 a0_1, .slice A0_2 l0_2.length c0_2] 32 (0, 0)) (viaK BK582) hg (Kd.R_ne HO_4.out BK582.out (by decide))); replace BK602 := Aside0.mk (blk_grown (g := gb602) (o := .cells #[.int .i64 t595, .int .i64 t596, .int .i64 t597] 27 (0, 0)) (viaK BK602) hg (Kd.R_ne HO_4.out BK602.out (by decide))); replace HO_4 := Aside0.mk (hp_); replace HB := Aside0.mk ((by rw [hw]; exact below_set (HB.out) GB34.out : Below w.heap.size w w36)); clear hg hw hp_))
              go_roundg k2
              case measure => have := HK1.out; have := HK2.out; omega
              case rel => exact ⟨(y604), (wrap64 (x37_2 + 1)), (by first | rfl | (simp; done) | (simp [*]; done)), H', ⟨by have := HK1.out; have := HK2.out; omega⟩, ⟨viaR HO_4⟩, ⟨viaR HO_35⟩, ⟨viaK BK582⟩, ⟨viaK BK602⟩, ⟨viaB HB⟩⟩
             ·rw [if_neg c33] at H
              exact absurd H (by simp)
            ·rw [if_neg c32] at H
             exact absurd H (by simp)
           ·rw [if_neg c31] at H
            exact absurd H (by simp)
          ·rw [if_neg c30] at H
           exact absurd H (by simp)
         ·rw [if_neg c29] at H
          have c29b0 := decide_eq_false c29
          clear c29
          have H' := Aside0.mk H
          clear H
          go_wp2
          go_roundg k2
          case measure => have := HK1.out; have := HK2.out; omega
          case rel => exact ⟨(x4_2), (wrap64 (x5_1 + 1)), (by first | rfl | (simp; done) | (simp [*]; done)), H', ⟨by have := HK1.out; have := HK2.out; omega⟩, ⟨viaR HO_4⟩, ⟨viaK BK582⟩, ⟨viaB HB⟩⟩
      ·rw [if_neg c12] at H
       have c12b0 := decide_eq_false c12
       clear c12
       obtain ⟨y605, hy605⟩ : ∃ y_ : List Int, y_ = (([] : List Int)) := ⟨_, rfl⟩
       replace H : (impl_MetCells.l2 k1 y605 x4_1 (x4_1.length : Int) 0) = some (r1, r2) := by first | (rw [hy605]; with_reducible exact H) | (have H2_ := (Option.bind_some _ _).symm.trans H; rw [hy605]; with_reducible exact H2_) | (have H2_ := (Option.bind_some _ _).symm.trans H; with_reducible exact H2_) | with_reducible exact H | (rw [hy605]; exact H) | exact H
       have Ny605 := Aside0.mk hy605
       clear hy605
       have H' := Aside0.mk H
       clear H
       have hcz37_0 := bc0 BK582
       have hcz37_1 := bc1 BK582
       have hcz37_2 := bc2 BK582
       have hfz37_0 := blk_frozen BK582.out 0
       have hfz37_1 := blk_frozen BK582.out 1
       have hfz37_2 := blk_frozen BK582.out 2
       go_wp2_with (first | ((with_reducible refine gate_dst (N := 45) rfl ?_); refine Kd.R_lit (Kd.int .i64) _ 3 ?hg (N := 45) ?hd (xs := ([] : List Int)) (inner := []) (ok := fun _ => True) (okp := fun _ => True) ?hr ?hp (fun _ hk => hk) trivial (Below.refl _ _) (Nat.le_refl _) (by simp) ?_; (case hd => rfl); (case hg => rfl); (case hr => first | (go_simp; done) | (go_simp; rfl)); (case hp => exact (Reps.none _ _)); intro v606 w38 ho39 hb hg_ hnew_; clear hg_ hnew_; (first | rw [← Ny605.out] at ho39 | (simp only [Int.reduceToNat] at ho39; rw [← Ny605.out] at ho39)); have HO607 := Aside0.mk (Kd.R_lower ho39 (below_size (viaB HB))); replace HO_4 := Aside0.mk (Kd.R_below (viaR HO_4) hb); replace BK582 := kB BK582 hb; replace HB := bB HB hb; clear hb ho39; obtain ⟨Ao40, co40, eo40⟩ := Kd.R_slice HO_4.out; subst eo40))
       go_loopg [10, 48] k1 (fun kq v10 v48 w' => ∃ (x10_2 : List Int) (x48_2 : Int), v48 = .int .i64 x48_2 ∧ Aside0 (impl_MetCells.l2 kq x10_2 x4_1 (x4_1.length : Int) x48_2 = some (r1, r2)) ∧ Aside0 (kq ≤ k1) ∧ Aside0 (Kd.R (Kd.int .i64) 3 w' w.heap.size (fun _ => True) v10 x10_2) ∧ Aside0 (Kd.R Kd.bool 4 w' w.heap.size (fun _ => True) (.slice Ao40 x4_1.length co40) x4_1) ∧ Aside0 (w'.heap[gb582]? = some (.cells #[.int .i64 a0_0, .int .i64 a0_1, (.slice A0_2 l0_2.length c0_2)] 32 (0, 0))) ∧ Aside0 (Below w.heap.size w w'))
       case atStart => exact ⟨(y605), (0), (by first | rfl | (simp; done) | (simp [*]; done)), H', ⟨Nat.le_refl _⟩, ⟨viaR HO607⟩, ⟨viaR HO_4⟩, ⟨viaK BK582⟩, ⟨viaB HB⟩⟩
       case round =>
        clear H'
        (try clear c12b0)
        (try clear hcz37_0); (try clear hcz37_1); (try clear hcz37_2); (try clear hfz37_0); (try clear hfz37_1); (try clear hfz37_2)
        obtain ⟨x10_2, x48_2, rfl, HA, HK2, HO_10, HO_46, BK582, HB⟩ := hrel
        cases gk with
        | zero => exact absurd HA.out (by simp [impl_MetCells.l2])
        | succ k2 =>
         have H := HA.out
         clear HA
         simp only [impl_MetCells.l2] at H
         by_cases c41 : x48_2 < (x4_1.length : Int)
         ·rw [if_pos c41] at H
          have c41b0 := decide_eq_true c41
          clear c41
          by_cases c42 : 0 ≤ x48_2
          ·rw [if_pos c42] at H
           have c42b0 := decide_eq_true c42
           clear c42
           by_cases c43 : x48_2 < (x4_1.length : Int)
           ·rw [if_pos c43] at H
            have c43b0 := decide_eq_true c43
            clear c43
            obtain ⟨bq44, hbq44⟩ : ∃ b_ : Bool, b_ = (rdOf false x4_1 x48_2) := ⟨_, rfl⟩
            replace H : (if bq44 = true then (if x10_2.length < 17592186044416 then (impl_MetCells.l2 k2 (x10_2 ++ [x48_2]) x4_1 (x4_1.length : Int) (wrap64 (x48_2 + 1))) else (none)) else (impl_MetCells.l2 k2 x10_2 x4_1 (x4_1.length : Int) (wrap64 (x48_2 + 1)))) = some (r1, r2) := by rw [← hbq44] at H; exact H
            have Nbq44 := Aside0.mk hbq44
            clear hbq44
            by_cases c45 : bq44 = true
            ·subst c45
             have H1 : (if x10_2.length < 17592186044416 then (impl_MetCells.l2 k2 (x10_2 ++ [x48_2]) x4_1 (x4_1.length : Int) (wrap64 (x48_2 + 1))) else (none)) = some (r1, r2) := by rw [if_pos rfl] at H; exact H
             clear H
             have H := H1
             clear H1
             by_cases c46 : x10_2.length < 17592186044416
             ·rw [if_pos c46] at H
              have LMc46 := Aside0.mk c46
              clear c46
              obtain ⟨y609, hy609⟩ : ∃ y_ : List Int, y_ = (x10_2 ++ [x48_2]) := ⟨_, rfl⟩
              replace H : (impl_MetCells.l2 k2 y609 x4_1 (x4_1.length : Int) (wrap64 (x48_2 + 1))) = some (r1, r2) := by first | (rw [hy609]; with_reducible exact H) | (have H2_ := (Option.bind_some _ _).symm.trans H; rw [hy609]; with_reducible exact H2_) | (have H2_ := (Option.bind_some _ _).symm.trans H; with_reducible exact H2_) | with_reducible exact H | (rw [hy609]; exact H) | exact H
              have Ny609 := Aside0.mk hy609
              clear hy609
              have H' := Aside0.mk H
              clear H
              have p608 : 0 ≤ (x48_2 : Int) := ofD
              have q608 : x48_2 < (x4_1.length : Int) := ofD
              obtain ⟨ad608, e608, hx608_0⟩ := Kd.at_bool (Kd.R_reads' HO_46.out).2.2 x48_2 p608 q608
              (try rw [← Nbq44.out] at hx608_0)
              cases e608
              replace p608 := eq_true p608
              replace q608 := eq_true q608
              go_wp2_with (first | ((with_reducible refine gate_builtin (b := .append) (xs := #[.tmp 54, .tmp 56]) rfl ?_); at_builtin; refine Kd.R_append (Kd.int .i64) (w0 := w) w.heap.size rfl (.tmp 54) (.tmp 56) 43 3 (.int .i64 0) 8 rfl Try.underlying43 info3 rfl (by decide) (by omega) u10 x10_2 x48_2 [.int .i64 x48_2] (fun _ => True) (fun _ => False) rfl rfl ?aP (fun _ hk => hk.elim) ?aF ?aO ?aB ?aS ?aL ?_; (case aP => exact rfl); (case aB => exact (viaB HB)); (case aF => exact (fun _ _ => trivial)); (case aO => exact (viaR HO_10)); (case aS => exact (below_size (viaB HB))); (case aL => have := LMc46.out; omega); intro v610 w47 ho hb hg hat; rw [← Ny609.out] at ho; have HO611 := Aside0.mk (ho); replace HO_46 := Aside0.mk (Kd.R_over' (viaR HO_46) (Kd.R_typed (viaR HO_10)) (by decide) hg); replace BK582 := Aside0.mk (blk_grown (g := gb582) (o := .cells #[.int .i64 a0_0, .int .i64 a0_1, .slice A0_2 l0_2.length c0_2] 32 (0, 0)) (viaK BK582) hg (Kd.R_ne HO_10.out BK582.out (by decide))); replace HB := Aside0.mk (hb); clear HO_10; clear ho hb hg hat))
              go_roundg k2
              case measure => have := HK1.out; have := HK2.out; omega
              case rel => exact ⟨(y609), (wrap64 (x48_2 + 1)), (by first | rfl | (simp; done) | (simp [*]; done)), H', ⟨by have := HK1.out; have := HK2.out; omega⟩, ⟨viaR HO611⟩, ⟨viaR HO_46⟩, ⟨viaK BK582⟩, ⟨viaB HB⟩⟩
             ·rw [if_neg c46] at H
              exact absurd H (by simp)
            ·replace c45 := Bool.eq_false_iff.mpr c45
             subst c45
             have H1 : (impl_MetCells.l2 k2 x10_2 x4_1 (x4_1.length : Int) (wrap64 (x48_2 + 1))) = some (r1, r2) := by rw [if_neg (show ¬ (false = true) by decide)] at H; exact H
             clear H
             have H := H1
             clear H1
             have H' := Aside0.mk H
             clear H
             have p608 : 0 ≤ (x48_2 : Int) := ofD
             have q608 : x48_2 < (x4_1.length : Int) := ofD
             obtain ⟨ad608, e608, hx608_0⟩ := Kd.at_bool (Kd.R_reads' HO_46.out).2.2 x48_2 p608 q608
             (try rw [← Nbq44.out] at hx608_0)
             cases e608
             replace p608 := eq_true p608
             replace q608 := eq_true q608
             go_wp2
             go_roundg k2
             case measure => have := HK1.out; have := HK2.out; omega
             case rel => exact ⟨(x10_2), (wrap64 (x48_2 + 1)), (by first | rfl | (simp; done) | (simp [*]; done)), H', ⟨by have := HK1.out; have := HK2.out; omega⟩, ⟨viaR HO_10⟩, ⟨viaR HO_46⟩, ⟨viaK BK582⟩, ⟨viaB HB⟩⟩
           ·rw [if_neg c43] at H
            exact absurd H (by simp)
          ·rw [if_neg c42] at H
           exact absurd H (by simp)
         ·rw [if_neg c41] at H
          have c41b0 := decide_eq_false c41
          clear c41
          simp only [Option.some.injEq, Prod.mk.injEq] at H
          obtain ⟨rfl, rfl⟩ := H
          go_wp2
          go_ret2
          exact ⟨_, by first | rfl | (simp [errW_none, errW_some] <;> rfl) | (simp [*, errW_none, errW_some] <;> rfl), viaR HO_10, viaB HB⟩
   ·rw [if_neg c5] at H
    exact absurd H (by simp)
  ·rw [if_neg c4] at H
   exact absurd H (by simp)
 ·replace c3 := Bool.eq_false_iff.mpr c3
  subst c3
  have H1 : (some (([] : List Int), false)) = some (r1, r2) := by rw [if_neg (show ¬ (false = true) by decide)] at H; exact H
  clear H
  have H := H1
  clear H1
  simp only [Option.some.injEq, Prod.mk.injEq] at H
  obtain ⟨rfl, rfl⟩ := H
  go_enter Try.func31, Try.ntmps31
  go_wp2_with (first | ((with_reducible refine gate_dst (N := 1) rfl ?_); refine box_ev (N := 1) (cs := #[.int .i64 a0_0, .int .i64 a0_1, .slice A0_2 l0_2.length c0_2]) (t := 32) ?_; intro gb582 hg w48 hbox hb; have BK582 := Aside0.mk (hbox); have GW582 := gW (w := w) HB hg; have GE582 := gW (w := w) HB hg; replace HB := bB HB hb; clear hb hbox hg; have hcz49_0 := bc0 BK582; have hcz49_1 := bc1 BK582; have hcz49_2 := bc2 BK582; have hfz49_0 := blk_frozen BK582.out 0; have hfz49_1 := blk_frozen BK582.out 1; have hfz49_2 := blk_frozen BK582.out 2) | ((with_reducible refine gate_callee (f := 59) rfl ?_); refine goesA (some 14) _ #[.agg #[.int .i64 a0_0, .int .i64 a0_1, .slice A0_2 l0_2.length c0_2]] ?_ Try.func59; (with_reducible refine (impl_IsBoard.calls k a0_0 a0_1 _ _ l0_2 false _ ?side1 ?side2 A2.out).mono ?_); (case side1 => repeat (first | exact (Kd.C_below HR0_2.out HB.out) | (with_reducible refine Kd.C_alloc ?_ _) | (with_reducible refine Kd.C_drewN ?_ _) | (with_reducible refine Kd.C_drew ?_))); (case side2 => exact HC0_2.out); rintro e w50 ⟨rfl, hb⟩; refine ⟨_, rfl, ?_⟩; replace BK582 := kB BK582 hb; replace HB := bB HB hb; (try clear hb); (try clear hb2); (try clear hk); (try clear hi)))
  go_ret2
  exact ⟨_, by first | rfl | (simp [errW_none, errW_some] <;> rfl) | (simp [*, errW_none, errW_some] <;> rfl), by first | exact Kd.R_nil _ _ _ _ _ | exact Kd.N_nil _ _ _ _ _ | exact Kd.V_nil _ _ _ _ _ | exact Kd.Q_nil _ _ _ _ _ | exact Kd.S_nil _ _ _ _ _, viaB HB⟩

end Go.Proofs.Ytoklfgjemfojgaa.PAll
