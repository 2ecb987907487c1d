/- This text began as one that print.sh wrote for this seat (of the functions named below); it is this session's own: turned where Lean did not take the printed proof, where it was too long for a claim, or only in what it imports. -/
import Derived.Test.YtoklfgjemfojgaaG0
import Derived.Test.YtoklfgjemfojgaaG14
namespace Go.Proofs.Ytoklfgjemfojgaa.PAll
open Go.RowKit Go.Proofs.YtoklfgjemfojgaaW.PrintWords Go.Proofs.YtoklfgjemfojgaaW.PrintLast Go.Proofs.YtoklfgjemfojgaaW.PrintMore
attribute [local go_sem] max2_int min2_int max_two min_two max_three min_three max_four min_four   -- for this text's walks alone
set_option linter.unusedVariables false
set_option linter.unusedSimpArgs false

/-! ### impl_drop: function 54 -/
mutual
def impl_drop.l0 : Nat → List Int → Int → List Int → Int → Int → Int → Int → List (S89) → Option (Int × Int × Int × List Int × (List (S89)))
 | 0, _, _, _, _, _, _, _, _ => none
 | k + 1, x1, x2, x8, x9, x10, x287000, x287001, x287002 => if x10 < x287000 then (if x8.length < 17592186044416 then ((some (x8 ++ [wrap64 ((wrap64 (x10 * x287001)) + x2)] : List Int)).bind fun y291 => (if 0 ≤ (wrap64 ((wrap64 (x10 * x287001)) + x2)) then (if (wrap64 ((wrap64 (x10 * x287001)) + x2)) < (x287002.length : Int) then ((impl_GoesTo.f k ((rd_T89 x287002 (wrap64 ((wrap64 (x10 * x287001)) + x2))).f0) ((rd_T89 x287002 (wrap64 ((wrap64 (x10 * x287001)) + x2))).f1) x9).bind fun bt296 => (if bt296.2 = true then (if ((rd_T89 x287002 (wrap64 ((wrap64 (x10 * x287001)) + x2))).f0) = 3 then (impl_drop.j1 k x1 x2 y291 x10 (wrap64 ((wrap64 (x10 * x287001)) + x2)) bt296.1 x287000 x287001 (x287002.set ((wrap64 ((wrap64 (x10 * x287001)) + x2)) : Int).toNat (⟨(rd_T89 x287002 (wrap64 ((wrap64 (x10 * x287001)) + x2))).f0, wrap64 (1 - ((rd_T89 x287002 (wrap64 ((wrap64 (x10 * x287001)) + x2))).f1))⟩ : S89)) ((rd_T89 x287002 (wrap64 ((wrap64 (x10 * x287001)) + x2))).f0) ((rd_T89 x287002 (wrap64 ((wrap64 (x10 * x287001)) + x2))).f1)) else (impl_drop.j1 k x1 x2 y291 x10 (wrap64 ((wrap64 (x10 * x287001)) + x2)) bt296.1 x287000 x287001 x287002 ((rd_T89 x287002 (wrap64 ((wrap64 (x10 * x287001)) + x2))).f0) ((rd_T89 x287002 (wrap64 ((wrap64 (x10 * x287001)) + x2))).f1))) else (some (2, x10, x2, y291, x287002)))) else (none)) else (none))) else (none)) else (some (1, x287000, x2, x8, x287002))
def impl_drop.j1 : Nat → List Int → Int → List Int → Int → Int → Int → Int → Int → List (S89) → Int → Int → Option (Int × Int × Int × List Int × (List (S89)))
 | 0, _, _, _, _, _, _, _, _, _, _, _ => none
 | k + 1, x1, x2, x8, x10, x11, x13, x287000, x287001, x287002, x296000, x296001 => if x296000 = 6 then ((impl_turnGroup.f k x287000 x287001 x287002 x1 x11).bind fun t299 => (if (wrap64 (x2 + x13)) < 0 then (some (3, x10, wrap64 (x2 + x13), x8, t299)) else (if (wrap64 (x2 + x13)) ≥ x287001 then (some (3, x10, wrap64 (x2 + x13), x8, t299)) else (impl_drop.l0 k x1 (wrap64 (x2 + x13)) x8 (wrap64 (-x13)) (wrap64 (x10 + 1)) x287000 x287001 t299)))) else (if (wrap64 (x2 + x13)) < 0 then (some (3, x10, wrap64 (x2 + x13), x8, x287002)) else (if (wrap64 (x2 + x13)) ≥ x287001 then (some (3, x10, wrap64 (x2 + x13), x8, x287002)) else (impl_drop.l0 k x1 (wrap64 (x2 + x13)) x8 (wrap64 (-x13)) (wrap64 (x10 + 1)) x287000 x287001 x287002)))
end
def impl_drop.f (k : Nat) (a0_0 : Int) (a0_1 : Int) (l0_2 : List (S89)) (l1 : List Int) (a2 : Int) : Option (Int × Int × Int × List Int × (List (S89))) := impl_drop.l0 k l1 a2 (([] : List Int)) 0 0 a0_0 a0_1 l0_2
theorem impl_drop.mono_l : ∀ k, (∀ y0 y1 y2 y3 y4 y5 y6 y7, LeO (impl_drop.l0 k y0 y1 y2 y3 y4 y5 y6 y7) (impl_drop.l0 (k + 1) y0 y1 y2 y3 y4 y5 y6 y7)) ∧ (∀ y0 y1 y2 y3 y4 y5 y6 y7 y8 y9 y10, LeO (impl_drop.j1 k y0 y1 y2 y3 y4 y5 y6 y7 y8 y9 y10) (impl_drop.j1 (k + 1) y0 y1 y2 y3 y4 y5 y6 y7 y8 y9 y10))
 | 0 => ⟨fun _ _ _ _ _ _ _ _ r h => by simp [impl_drop.l0] at h, fun _ _ _ _ _ _ _ _ _ _ _ r h => by simp [impl_drop.j1] at h⟩
 | k + 1 => by
  obtain ⟨ih0, ih1⟩ := impl_drop.mono_l k
  refine ⟨?_, ?_⟩
  ·intro y0 y1 y2 y3 y4 y5 y6 y7
   unfold impl_drop.l0
   repeat' first | (with_reducible first | exact ih0 _ _ _ _ _ _ _ _ | exact ih1 _ _ _ _ _ _ _ _ _ _ _ | exact impl_GoesTo.mono _ _ _ _ | exact impl_turnGroup.mono _ _ _ _ _ _ | exact LeO.refl _ | exact LeO.none _ | refine LeO.ite ?_ ?_ | refine LeO.bind ?_ (fun _ => ?_)) | exact ih0 _ _ _ _ _ _ _ _ | exact ih1 _ _ _ _ _ _ _ _ _ _ _ | exact impl_GoesTo.mono _ _ _ _ | exact impl_turnGroup.mono _ _ _ _ _ _ | exact LeO.none _ | refine LeO.ite ?_ ?_ | refine LeO.bind ?_ (fun _ => ?_)
  ·intro y0 y1 y2 y3 y4 y5 y6 y7 y8 y9 y10
   unfold impl_drop.j1
   repeat' first | (with_reducible first | exact ih0 _ _ _ _ _ _ _ _ | exact ih1 _ _ _ _ _ _ _ _ _ _ _ | exact impl_GoesTo.mono _ _ _ _ | exact impl_turnGroup.mono _ _ _ _ _ _ | exact LeO.refl _ | exact LeO.none _ | refine LeO.ite ?_ ?_ | refine LeO.bind ?_ (fun _ => ?_)) | exact ih0 _ _ _ _ _ _ _ _ | exact ih1 _ _ _ _ _ _ _ _ _ _ _ | exact impl_GoesTo.mono _ _ _ _ | exact impl_turnGroup.mono _ _ _ _ _ _ | exact LeO.none _ | refine LeO.ite ?_ ?_ | refine LeO.bind ?_ (fun _ => ?_)
theorem impl_drop.mono : ∀ a0 a1 a2 a3 a4 k, LeO (impl_drop.f k a0 a1 a2 a3 a4) (impl_drop.f (k + 1) a0 a1 a2 a3 a4) := by
 intro a0 a1 a2 a3 a4 k
 obtain ⟨ih0, ih1⟩ := impl_drop.mono_l k
 unfold impl_drop.f
 repeat' first | (with_reducible first | exact ih0 _ _ _ _ _ _ _ _ | exact ih1 _ _ _ _ _ _ _ _ _ _ _ | exact impl_GoesTo.mono _ _ _ _ | exact impl_turnGroup.mono _ _ _ _ _ _ | exact LeO.refl _ | exact LeO.none _ | refine LeO.ite ?_ ?_ | refine LeO.bind ?_ (fun _ => ?_)) | exact ih0 _ _ _ _ _ _ _ _ | exact ih1 _ _ _ _ _ _ _ _ _ _ _ | exact impl_GoesTo.mono _ _ _ _ | exact impl_turnGroup.mono _ _ _ _ _ _ | exact LeO.none _ | refine LeO.ite ?_ ?_ | refine LeO.bind ?_ (fun _ => ?_)
set_option maxHeartbeats 8000000 in
set_option maxRecDepth 100000 in
theorem impl_drop.calls (k : Nat) (a0_0 : Int) (a0_1 : Int) (P0_2_ : Nat → Prop) (u9000_ : Value) (l0_2 : List (S89)) (A1 : Option Addr) (c1 : Nat) (l1 : List Int) (a2 : Int) (r1 : Int) (r2 : Int) (r3 : Int) (r4 : List Int) (r5 : List (S89)) (w0 w : World) (hB : Below w0.heap.size w0 w) (ho0_2 : Kd.R k89 89 w w0.heap.size P0_2_ u9000_ l0_2) (hr1 : ∀ W_, Kept w W_ (fun k_ => P0_2_ k_) → Kd.C (Kd.int .i64) W_ A1 l1.length l1) (hc1 : l1.length ≤ c1) (h : impl_drop.f k a0_0 a0_1 l0_2 l1 a2 = some (r1, r2, r3, r4, r5)) :
  Calls Try.prog 54 #[.agg #[.int .i64 a0_0, .int .i64 a0_1, u9000_], .slice A1 l1.length c1, .int .i64 a2] w fun e w' => ∃ v3_ : Value, e = .returned (.tuple #[.agg #[.int .i64 r1, .int .i64 r2, .int .i64 r3], v3_]) ∧ Kd.R (Kd.int .i64) 3 w' w0.heap.size (fun k_ => (P0_2_ k_ ∨ w.heap.size ≤ k_)) v3_ r4 ∧ Kd.R k89 89 w' w0.heap.size (fun k_ => (P0_2_ k_ ∨ w.heap.size ≤ k_)) u9000_ r5 ∧ Below w0.heap.size w0 w' ∧ Kept w w' (fun k_ => P0_2_ k_) := by
 have hu32 := Try.underlying32
 have hu27 := Try.underlying27
 have hu89 := Try.underlying89
 have HO0_2 := Aside0.mk (show Kd.R k89 89 w w0.heap.size (fun k_ => (P0_2_ k_ ∨ w.heap.size ≤ k_)) u9000_ l0_2 from Kd.R_mono ho0_2 (fun k_ hk => (.inl hk)))
 have HR1 := Aside0.mk hr1
 have HC1 := Aside0.mk hc1
 clear hr1 hc1
 have HK := Aside0.mk (Kept.refl w (fun k_ => P0_2_ k_))
 have HW0 := Aside0.mk hB.size
 have HB := Aside0.mk hB
 clear hB
 have H : (impl_drop.l0 k l1 a2 (([] : List Int)) 0 0 a0_0 a0_1 l0_2) = some (r1, r2, r3, r4, r5) := h
 clear h
 obtain ⟨y288, hy288⟩ : ∃ y_ : List Int, y_ = (([] : List Int)) := ⟨_, rfl⟩
 replace H : (impl_drop.l0 k l1 a2 y288 0 0 a0_0 a0_1 l0_2) = some (r1, r2, r3, r4, r5) := by first | (rw [hy288]; with_reducible exact H) | (have H2_ := (Option.bind_some _ _).symm.trans H; rw [hy288]; with_reducible exact H2_) | (have H2_ := (Option.bind_some _ _).symm.trans H; with_reducible exact H2_) | with_reducible exact H | (rw [hy288]; exact H) | exact H
 have Ny288 := Aside0.mk hy288
 clear hy288
 have H' := Aside0.mk H
 clear H
 obtain ⟨Ao4, co4, eo4⟩ := Kd.R_slice HO0_2.out
 subst eo4
 go_enter Try.func54, Try.ntmps54
 go_wp2_with (first | ((with_reducible refine gate_dst (N := 3) rfl ?_); refine box_ev (N := 3) (cs := #[.int .i64 a0_0, .int .i64 a0_1, .slice Ao4 l0_2.length co4]) (t := 32) ?_; intro gb286 hg w5 hbox hb; have BK286 := Aside0.mk (hbox); have GW286 := Aside0.mk ((by rw [hg]; exact (by first | exact HK.out.1 | exact (show Kept w _ (fun k_ => P0_2_ k_) from viaT HK).1) : w.heap.size ≤ gb286)); have GE286 := gW (w := w0) HB hg; replace HO0_2 := Aside0.mk (Kd.R_below (viaR HO0_2) hb); replace HK := Aside0.mk (Kept.below (S := (fun k_ => P0_2_ k_)) (viaT HK) hb); replace HB := bB HB hb; clear hb hbox hg) | ((with_reducible refine gate_dst (N := 6) rfl ?_); refine box_ev (N := 6) (cs := #[.int .i64 0, .int .i64 0, .int .i64 0]) (t := 27) ?_; intro gb287 hg w6 hbox hb; have BK287 := Aside0.mk (hbox); have GW287 := Aside0.mk ((by rw [hg]; exact (by first | exact HK.out.1 | exact (show Kept w _ (fun k_ => P0_2_ k_) from viaT HK).1) : w.heap.size ≤ gb287)); have GE287 := gW (w := w0) HB hg; have NB286_287 := neL BK286 hg; have NB287_286 := neG BK286 hg; replace HO0_2 := Aside0.mk (Kd.R_below (viaR HO0_2) hb); replace BK286 := kB BK286 hb; replace HK := Aside0.mk (Kept.below (S := (fun k_ => P0_2_ k_)) (viaT HK) hb); replace HB := bB HB hb; clear hb hbox hg) | ((with_reducible refine gate_dst (N := 15) rfl ?_); refine Kd.R_lit (Kd.int .i64) _ 3 ?hg (N := 15) ?hd (xs := ([] : List Int)) (inner := []) (ok := fun _ => True) (okp := fun _ => True) ?hr ?hp (fun _ hk => hk) trivial (Below.refl _ _) (Nat.le_refl _) (by simp) ?_; (case hd => rfl); (case hg => rfl); (case hr => first | (go_simp; done) | (go_simp; rfl)); (case hp => exact (Reps.none _ _)); intro v289 w7 ho8 hb hg_ hnew_; clear hg_ hnew_; (first | rw [← Ny288.out] at ho8 | (simp only [Int.reduceToNat] at ho8; rw [← Ny288.out] at ho8)); have HO290 := Aside0.mk (Kd.R_lower (Kd.R_newM (M := fun k_ => (P0_2_ k_ ∨ w.heap.size ≤ k_)) ho8 (by first | exact HK.out.1 | exact (show Kept w _ (fun k_ => P0_2_ k_) from viaT HK).1) (fun k_ h_ => .inr h_)) (below_size (viaB HB))); replace HO0_2 := Aside0.mk (Kd.R_below (viaR HO0_2) hb); replace BK286 := kB BK286 hb; replace BK287 := kB BK287 hb; replace HK := Aside0.mk (Kept.below (S := (fun k_ => P0_2_ k_)) (viaT HK) hb); replace HB := bB HB hb; clear hb ho8))
 go_loopg [2, 8, 9, 10] k (fun kq v2 v8 v9 v10 w' => ∃ (x2_1 : Int) (x8_1 : List Int) (x9_1 : Int) (x10_1 : Int) (x287002_1 : List (S89)) (x288000_1 : Int) (x288001_1 : Int) (x288002_1 : Int), v2 = .int .i64 x2_1 ∧ v9 = .int .i64 x9_1 ∧ v10 = .int .i64 x10_1 ∧ Aside0 (impl_drop.l0 kq l1 x2_1 x8_1 x9_1 x10_1 a0_0 a0_1 x287002_1 = some (r1, r2, r3, r4, r5)) ∧ Aside0 (kq ≤ k) ∧ Aside0 (Kd.R (Kd.int .i64) 3 w' w0.heap.size (fun k_ => (P0_2_ k_ ∨ w.heap.size ≤ k_)) v8 x8_1) ∧ Aside0 (Kd.R k89 89 w' w0.heap.size (fun k_ => (P0_2_ k_ ∨ w.heap.size ≤ k_)) (.slice Ao4 l0_2.length co4) x287002_1) ∧ Aside0 (w'.heap[gb286]? = some (.cells #[.int .i64 a0_0, .int .i64 a0_1, (.slice Ao4 l0_2.length co4)] 32 (0, 0))) ∧ Aside0 (w'.heap[gb287]? = some (.cells #[.int .i64 x288000_1, .int .i64 x288001_1, .int .i64 x288002_1] 27 (0, 0))) ∧ Aside0 (Kept w w' (fun k_ => P0_2_ k_)) ∧ Aside0 (Below w0.heap.size w0 w'))
 case atStart => exact ⟨(a2), (y288), (0), (0), (l0_2), (0), (0), (0), (by first | rfl | (simp; done) | (simp [*]; done)), (by first | rfl | (simp; done) | (simp [*]; done)), (by first | rfl | (simp; done) | (simp [*]; done)), H', ⟨Nat.le_refl _⟩, ⟨by (with_reducible repeat (first | apply Kd.R_alloc | apply Kd.R_drewN | apply Kd.R_drew)); exact Kd.R_mono HO290.out (fun _ hk => hk.1)⟩, ⟨viaR HO0_2⟩, ⟨viaK BK286⟩, ⟨viaK BK287⟩, ⟨viaT HK⟩, ⟨viaB HB⟩⟩
 case round =>
  clear H'
  obtain ⟨x2_1, x8_1, x9_1, x10_1, x287002_1, x288000_1, x288001_1, x288002_1, rfl, rfl, rfl, HA, HK1, HO_8, HO_287002, BK286, BK287, HK, HB⟩ := hrel
  have hl287002_1 := (Kd.R_reads' HO_287002.out).1
  rw [hl287002_1] at HO_287002
  (try simp only [hl287002_1])
  (try simp only [hl287002_1] at BK286)
  (try simp only [hl287002_1] at BK287)
  (try simp only [hl287002_1] at HO_8)
  cases gk with
  | zero => exact absurd HA.out (by simp [impl_drop.l0])
  | succ k1 =>
   have H := HA.out
   clear HA
   simp only [impl_drop.l0] at H
   by_cases c9 : x10_1 < a0_0
   ·rw [if_pos c9] at H
    have c9b0 := decide_eq_true c9
    clear c9
    by_cases c10 : x8_1.length < 17592186044416
    ·rw [if_pos c10] at H
     have LMc10 := Aside0.mk c10
     clear c10
     obtain ⟨y291, hy291⟩ : ∃ y_ : List Int, y_ = (x8_1 ++ [wrap64 ((wrap64 (x10_1 * a0_1)) + x2_1)]) := ⟨_, rfl⟩
     replace H : (if 0 ≤ (wrap64 ((wrap64 (x10_1 * a0_1)) + x2_1)) then (if (wrap64 ((wrap64 (x10_1 * a0_1)) + x2_1)) < (x287002_1.length : Int) then ((impl_GoesTo.f k1 ((rd_T89 x287002_1 (wrap64 ((wrap64 (x10_1 * a0_1)) + x2_1))).f0) ((rd_T89 x287002_1 (wrap64 ((wrap64 (x10_1 * a0_1)) + x2_1))).f1) x9_1).bind fun bt296 => (if bt296.2 = true then (if ((rd_T89 x287002_1 (wrap64 ((wrap64 (x10_1 * a0_1)) + x2_1))).f0) = 3 then (impl_drop.j1 k1 l1 x2_1 y291 x10_1 (wrap64 ((wrap64 (x10_1 * a0_1)) + x2_1)) bt296.1 a0_0 a0_1 (x287002_1.set ((wrap64 ((wrap64 (x10_1 * a0_1)) + x2_1)) : Int).toNat (⟨(rd_T89 x287002_1 (wrap64 ((wrap64 (x10_1 * a0_1)) + x2_1))).f0, wrap64 (1 - ((rd_T89 x287002_1 (wrap64 ((wrap64 (x10_1 * a0_1)) + x2_1))).f1))⟩ : S89)) ((rd_T89 x287002_1 (wrap64 ((wrap64 (x10_1 * a0_1)) + x2_1))).f0) ((rd_T89 x287002_1 (wrap64 ((wrap64 (x10_1 * a0_1)) + x2_1))).f1)) else (impl_drop.j1 k1 l1 x2_1 y291 x10_1 (wrap64 ((wrap64 (x10_1 * a0_1)) + x2_1)) bt296.1 a0_0 a0_1 x287002_1 ((rd_T89 x287002_1 (wrap64 ((wrap64 (x10_1 * a0_1)) + x2_1))).f0) ((rd_T89 x287002_1 (wrap64 ((wrap64 (x10_1 * a0_1)) + x2_1))).f1))) else (some (2, x10_1, x2_1, y291, x287002_1)))) else (none)) else (none)) = some (r1, r2, r3, r4, r5) := by first | (rw [hy291]; with_reducible exact H) | (have H2_ := (Option.bind_some _ _).symm.trans H; rw [hy291]; with_reducible exact H2_) | (have H2_ := (Option.bind_some _ _).symm.trans H; with_reducible exact H2_) | with_reducible exact H | (rw [hy291]; exact H) | exact H
     have Ny291 := Aside0.mk hy291
     clear hy291
     obtain ⟨ji11, hji11⟩ : ∃ j_ : Int, (wrap64 ((wrap64 (x10_1 * a0_1)) + x2_1)) = j_ := ⟨_, rfl⟩
     replace H : (if 0 ≤ (ji11) then (if (ji11) < (x287002_1.length : Int) then ((impl_GoesTo.f k1 ((rd_T89 x287002_1 (ji11)).f0) ((rd_T89 x287002_1 (ji11)).f1) x9_1).bind fun bt296 => (if bt296.2 = true then (if ((rd_T89 x287002_1 (ji11)).f0) = 3 then (impl_drop.j1 k1 l1 x2_1 y291 x10_1 ji11 bt296.1 a0_0 a0_1 (x287002_1.set ((ji11) : Int).toNat (⟨(rd_T89 x287002_1 (ji11)).f0, wrap64 (1 - ((rd_T89 x287002_1 (ji11)).f1))⟩ : S89)) ((rd_T89 x287002_1 (ji11)).f0) ((rd_T89 x287002_1 (ji11)).f1)) else (impl_drop.j1 k1 l1 x2_1 y291 x10_1 ji11 bt296.1 a0_0 a0_1 x287002_1 ((rd_T89 x287002_1 (ji11)).f0) ((rd_T89 x287002_1 (ji11)).f1))) else (some (2, x10_1, x2_1, y291, x287002_1)))) else (none)) else (none)) = some (r1, r2, r3, r4, r5) := by first | (rw [hji11] at H; exact H) | (simp only [hji11] at H ⊢; exact H)
     (try rw [hji11] at Ny291)
     have hji11w : (IntKind.i64.wrap ((wrap64 (x10_1 * a0_1)) + x2_1)) = ji11 := (i64_w _).trans hji11
     by_cases c12 : 0 ≤ (ji11)
     ·rw [if_pos c12] at H
      have c12b0 := decide_eq_true c12
      clear c12
      by_cases c13 : (ji11) < (x287002_1.length : Int)
      ·rw [if_pos c13] at H
       have c13b0 := decide_eq_true c13
       clear c13
       replace H := Option.bind_eq_some_iff.mp H
       obtain ⟨⟨t296, t297⟩, A140, H⟩ := H
       replace H : (if t297 = true then (if ((rd_T89 x287002_1 (ji11)).f0) = 3 then (impl_drop.j1 k1 l1 x2_1 y291 x10_1 ji11 t296 a0_0 a0_1 (x287002_1.set ((ji11) : Int).toNat (⟨(rd_T89 x287002_1 (ji11)).f0, wrap64 (1 - ((rd_T89 x287002_1 (ji11)).f1))⟩ : S89)) ((rd_T89 x287002_1 (ji11)).f0) ((rd_T89 x287002_1 (ji11)).f1)) else (impl_drop.j1 k1 l1 x2_1 y291 x10_1 ji11 t296 a0_0 a0_1 x287002_1 ((rd_T89 x287002_1 (ji11)).f0) ((rd_T89 x287002_1 (ji11)).f1))) else (some (2, x10_1, x2_1, y291, x287002_1))) = some (r1, r2, r3, r4, r5) := H
       have A14 := Aside0.mk A140
       clear A140
       by_cases c15 : t297 = true
       ·subst c15
        have H1 : (if ((rd_T89 x287002_1 (ji11)).f0) = 3 then (impl_drop.j1 k1 l1 x2_1 y291 x10_1 ji11 t296 a0_0 a0_1 (x287002_1.set ((ji11) : Int).toNat (⟨(rd_T89 x287002_1 (ji11)).f0, wrap64 (1 - ((rd_T89 x287002_1 (ji11)).f1))⟩ : S89)) ((rd_T89 x287002_1 (ji11)).f0) ((rd_T89 x287002_1 (ji11)).f1)) else (impl_drop.j1 k1 l1 x2_1 y291 x10_1 ji11 t296 a0_0 a0_1 x287002_1 ((rd_T89 x287002_1 (ji11)).f0) ((rd_T89 x287002_1 (ji11)).f1))) = some (r1, r2, r3, r4, r5) := by rw [if_pos rfl] at H; exact H
        clear H
        have H := H1
        clear H1
        have HC16 := Aside0.mk H
        clear H
        have hnb17 := NB286_287.out
        have hnc17 := NB287_286.out
        have hcz18_0 := bc0 BK286
        have hcz18_1 := bc1 BK286
        have hcz18_2 := bc2 BK286
        have hfz18_0 := blk_frozen BK286.out 0
        have hfz18_1 := blk_frozen BK286.out 1
        have hfz18_2 := blk_frozen BK286.out 2
        go_upto_if 51 with (first | ((with_reducible refine gate_builtin (b := .append) (xs := #[.tmp 28, .tmp 30]) rfl ?_); at_builtin; refine Kd.R_append (Kd.int .i64) (w0 := w0) w0.heap.size rfl (.tmp 28) (.tmp 30) 43 3 (.int .i64 0) 8 rfl Try.underlying43 info3 rfl (by decide) (by omega) u8 x8_1 ji11 [.int .i64 ji11] (fun k_ => (P0_2_ k_ ∨ w.heap.size ≤ k_)) (fun _ => False) rfl rfl ?aP (fun _ hk => hk.elim) ?aF ?aO ?aB ?aS ?aL ?_; (case aP => exact rfl); (case aB => exact (viaB HB)); (case aF => exact (fun k_ hk => (.inr (Nat.le_trans (by first | exact HK.out.1 | exact (show Kept w _ (fun k_ => P0_2_ k_) from viaT HK).1) hk)))); (case aO => exact (viaR HO_8)); (case aS => exact (below_size (viaB HB))); (case aL => have := LMc10.out; omega); intro v292 w19 ho hb hg hat; rw [← Ny291.out] at ho; have HO293 := Aside0.mk (ho); replace HO_287002 := Aside0.mk (Kd.R_over' (viaR HO_287002) (Kd.R_typed (viaR HO_8)) (by decide) hg); replace BK286 := Aside0.mk (blk_grown (g := gb286) (o := .cells #[.int .i64 a0_0, .int .i64 a0_1, .slice Ao4 x287002_1.length co4] 32 (0, 0)) (viaK BK286) hg (Kd.R_ne HO_8.out BK286.out (by decide))); replace BK287 := Aside0.mk (blk_grown (g := gb287) (o := .cells #[.int .i64 x288000_1, .int .i64 x288001_1, .int .i64 x288002_1] 27 (0, 0)) (viaK BK287) hg (Kd.R_ne HO_8.out BK287.out (by decide))); replace HB := Aside0.mk (hb); replace HK := Aside0.mk (Kept.of_grown (S := (fun k_ => P0_2_ k_)) hg (viaT HK) (fun k_ e_ => (HO_8.out.1 k_ e_))); clear HO_8; clear ho hb hg hat; have hcz20_0 := bc0 BK286; have hcz20_1 := bc1 BK286; have hcz20_2 := bc2 BK286; have hfz20_0 := blk_frozen BK286.out 0; have hfz20_1 := blk_frozen BK286.out 1; have hfz20_2 := blk_frozen BK286.out 2; have p294 : 0 ≤ ((ji11) : Int) := ofD; have q294 : (ji11) < (x287002_1.length : Int) := ofD; obtain ⟨ad294, e294, hx294_0, hx294_1⟩ := at_T89 (Kd.R_reads' HO_287002.out).2.2 (ji11) p294 q294; cases e294; replace p294 := eq_true p294; replace q294 := eq_true q294) | ((with_reducible refine gate_dst (N := 12) rfl ?_); refine box_ev (N := 12) (cs := #[.int .i64 0, .int .i64 0]) (t := 89) ?_; intro gb295 hg w21 hbox hb; have BK295 := Aside0.mk (hbox); have GW295 := Aside0.mk ((by rw [hg]; exact (by first | exact HK.out.1 | exact (show Kept w _ (fun k_ => P0_2_ k_) from viaT HK).1) : w.heap.size ≤ gb295)); have GE295 := gW (w := w0) HB hg; have NB286_295 := neL BK286 hg; have NB295_286 := neG BK286 hg; have NB287_295 := neL BK287 hg; have NB295_287 := neG BK287 hg; replace HO_287002 := Aside0.mk (Kd.R_below (Kd.R_elderB (viaR HO_287002) gb295 (Nat.le_of_eq hg.symm)) hb); replace HO293 := Aside0.mk (Kd.R_below (viaR HO293) hb); replace BK286 := kB BK286 hb; replace BK287 := kB BK287 hb; replace HK := Aside0.mk (Kept.below (S := (fun k_ => P0_2_ k_)) (viaT HK) hb); replace HB := bB HB hb; clear hb hbox hg; have hnb22 := NB295_286.out; have hnc22 := NB286_295.out; have hnb23 := NB295_287.out; have hnc23 := NB287_295.out; have hcz24_0 := bc0 BK295; have hcz24_1 := bc1 BK295; have hfz24_0 := blk_frozen BK295.out 0; have hfz24_1 := blk_frozen BK295.out 1) | ((with_reducible refine gate_callee (f := 73) rfl ?_); refine goesL_ (some 40) rfl rfl Try.func73 (by kernel_rfl) rfl #[.agg #[.int .i64 ((rd_T89 x287002_1 (ji11)).f0), .int .i64 ((rd_T89 x287002_1 (ji11)).f1)], .int .i64 x9_1] rfl (by (try simp only [List.map_toArray, List.map_cons, List.map_nil]); first | done | (simp only [hji11]; rfl) | rfl | (simp only [List.length_drop, List.length_take]; rfl)) ?_; (with_reducible refine (impl_GoesTo.calls k1 ((rd_T89 x287002_1 (ji11)).f0) ((rd_T89 x287002_1 (ji11)).f1) x9_1 t296 true _ A14.out).mono ?_); rintro e w25 ⟨rfl, hb⟩; refine ⟨_, rfl, ?_⟩; replace HO_287002 := Aside0.mk (Kd.R_below (by (with_reducible repeat (first | apply Kd.R_alloc | apply Kd.R_drewN | apply Kd.R_drew)); exact (Kd.R_mono (Kd.R_far (p := ⟨gb295, 1, none⟩) (Kd.R_far (p := ⟨gb295, 0, none⟩) (Kd.R_mono HO_287002.out (fun k_ hk => (⟨hk, hk.2⟩ : _ ∧ k_ ≠ gb295))) (fun _ hk => hk.2) (.int .i64 ((rd_T89 x287002_1 (ji11)).f0))) (fun _ hk => hk.2) (.int .i64 ((rd_T89 x287002_1 (ji11)).f1))) (fun _ h_ => h_.1))) hb); replace HO293 := Aside0.mk (Kd.R_below (by (with_reducible repeat (first | apply Kd.R_alloc | apply Kd.R_drewN | apply Kd.R_drew)); exact (Kd.R_mono (Kd.R_far (p := ⟨gb295, 1, none⟩) (Kd.R_far (p := ⟨gb295, 0, none⟩) (Kd.R_types HO293.out BK295.out (by decide)) (fun _ hk => hk.2) (.int .i64 ((rd_T89 x287002_1 (ji11)).f0))) (fun _ hk => hk.2) (.int .i64 ((rd_T89 x287002_1 (ji11)).f1))) (fun _ h_ => h_.1))) hb); replace BK286 := Aside0.mk (blk_below (g := gb286) (o := .cells #[.int .i64 a0_0, .int .i64 a0_1, .slice (some ad294) x287002_1.length co4] 32 (0, 0)) (by (with_reducible repeat (first | refine blk_drewN ?_ _ | refine blk_drew ?_ | refine blk_alloc ?_ _)); refine blk_far ?_ NB286_295.out _; (with_reducible repeat (first | refine blk_drewN ?_ _ | refine blk_drew ?_ | refine blk_alloc ?_ _)); refine blk_far ?_ NB286_295.out _; (with_reducible repeat (first | refine blk_drewN ?_ _ | refine blk_drew ?_ | refine blk_alloc ?_ _)); exact BK286.out) hb); replace BK287 := Aside0.mk (blk_below (g := gb287) (o := .cells #[.int .i64 x288000_1, .int .i64 x288001_1, .int .i64 x288002_1] 27 (0, 0)) (by (with_reducible repeat (first | refine blk_drewN ?_ _ | refine blk_drew ?_ | refine blk_alloc ?_ _)); refine blk_far ?_ NB287_295.out _; (with_reducible repeat (first | refine blk_drewN ?_ _ | refine blk_drew ?_ | refine blk_alloc ?_ _)); refine blk_far ?_ NB287_295.out _; (with_reducible repeat (first | refine blk_drewN ?_ _ | refine blk_drew ?_ | refine blk_alloc ?_ _)); exact BK287.out) hb); replace BK295 := Aside0.mk (blk_below (g := gb295) (o := .cells #[.int .i64 ((rd_T89 x287002_1 (ji11)).f0), .int .i64 ((rd_T89 x287002_1 (ji11)).f1)] 89 (0, 0)) (by (with_reducible repeat (first | refine blk_drewN ?_ _ | refine blk_drew ?_ | refine blk_alloc ?_ _)); refine blk_put (cs := #[.int .i64 ((rd_T89 x287002_1 (ji11)).f0), .int .i64 0]) ?_ 1 _ rfl; (with_reducible repeat (first | refine blk_drewN ?_ _ | refine blk_drew ?_ | refine blk_alloc ?_ _)); refine blk_put (cs := #[.int .i64 0, .int .i64 0]) ?_ 0 _ rfl; (with_reducible repeat (first | refine blk_drewN ?_ _ | refine blk_drew ?_ | refine blk_alloc ?_ _)); exact BK295.out) hb); replace HK := Aside0.mk (Kept.below (S := (fun k_ => P0_2_ k_)) (viaT HK) hb); replace HB := bB HB hb; (try clear hb); (try clear hb2); (try clear hk); (try clear hi); have hcz26_0 := bc0 BK295; have hcz26_1 := bc1 BK295; have hfz26_0 := blk_frozen BK295.out 0; have hfz26_1 := blk_frozen BK295.out 1))
        (try simp only [Act.put, q1, q2, q3])
        go_cut [] (fun wc => ∃ (kq : Nat) (x287002_15 : List (S89)) (x296001_15 : Int), Aside0 (impl_drop.j1 kq l1 x2_1 y291 x10_1 ji11 t296 a0_0 a0_1 x287002_15 ((rd_T89 x287002_1 (ji11)).f0) x296001_15 = some (r1, r2, r3, r4, r5)) ∧ Aside0 (kq ≤ k1) ∧ Aside0 (Kd.R (Kd.int .i64) 3 wc w0.heap.size (fun k_ => (P0_2_ k_ ∨ w.heap.size ≤ k_)) v292 y291) ∧ Aside0 (Kd.R k89 89 wc w0.heap.size (fun k_ => (P0_2_ k_ ∨ w.heap.size ≤ k_) ∧ k_ ≠ gb295) (.slice (some ad294) x287002_1.length co4) x287002_15) ∧ Aside0 (wc.heap[gb286]? = some (.cells #[.int .i64 a0_0, .int .i64 a0_1, (.slice (some ad294) x287002_1.length co4)] 32 (0, 0))) ∧ Aside0 (wc.heap[gb287]? = some (.cells #[.int .i64 x288000_1, .int .i64 x288001_1, .int .i64 x288002_1] 27 (0, 0))) ∧ Aside0 (wc.heap[gb295]? = some (.cells #[.int .i64 ((rd_T89 x287002_1 (ji11)).f0), .int .i64 x296001_15] 89 (0, 0))) ∧ Aside0 (Kept w wc (fun k_ => P0_2_ k_)) ∧ Aside0 (Below w0.heap.size w0 wc))
        case first =>
         have H := HC16.out
         clear HC16
         by_cases c27 : ((rd_T89 x287002_1 (ji11)).f0) = 3
         ·rw [if_pos c27] at H
          have c27b0 := beq_iff_eq.mpr c27
          have c27b1 := bne_eq_false_iff_eq.mpr c27
          clear c27
          (first | rw [c27b0] | (simp only [i64_w, i32_w]; rw [c27b0]) | skip)
          obtain ⟨y298, hy298⟩ : ∃ y_ : List (S89), y_ = (x287002_1.set ((ji11) : Int).toNat (⟨(rd_T89 x287002_1 (ji11)).f0, wrap64 (1 - ((rd_T89 x287002_1 (ji11)).f1))⟩ : S89)) := ⟨_, rfl⟩
          replace H : (impl_drop.j1 k1 l1 x2_1 y291 x10_1 ji11 t296 a0_0 a0_1 y298 ((rd_T89 x287002_1 (ji11)).f0) ((rd_T89 x287002_1 (ji11)).f1)) = some (r1, r2, r3, r4, r5) := by first | (rw [hy298]; with_reducible exact H) | (have H2_ := (Option.bind_some _ _).symm.trans H; rw [hy298]; with_reducible exact H2_) | (have H2_ := (Option.bind_some _ _).symm.trans H; with_reducible exact H2_) | with_reducible exact H | (rw [hy298]; exact H) | exact H
          have Ny298 := Aside0.mk hy298
          clear hy298
          have H' := Aside0.mk H
          clear H
          have hnb29 := NB286_287.out
          have hnc29 := NB287_286.out
          have hnb30 := NB286_295.out
          have hnc30 := NB295_286.out
          have hcz31_0 := bc0 BK286
          have hcz31_1 := bc1 BK286
          have hcz31_2 := bc2 BK286
          have hfz31_0 := blk_frozen BK286.out 0
          have hfz31_1 := blk_frozen BK286.out 1
          have hfz31_2 := blk_frozen BK286.out 2
          have hnb32 := NB295_287.out
          have hnc32 := NB287_295.out
          have hcz33_0 := bc0 BK295
          have hcz33_1 := bc1 BK295
          have hfz33_0 := blk_frozen BK295.out 0
          have hfz33_1 := blk_frozen BK295.out 1
          have p28 : 0 ≤ ((ji11) : Int) := ofD
          have q28 : ((ji11) : Int) < ((x287002_1.length : Int) : Int) := ofD
          obtain ⟨go28, co28, eo28, gb28, gl28, cl28, HG28⟩ := Kd.R_form HO_287002.out (by omega)
          (first | cases eo28 | (injection eo28 with ea_ en_ ec_; (first | subst ea_ | (injection ea_ with ea_; subst ea_)); subst ec_; clear en_))
          have GB28 := Aside0.mk gb28
          have GG28 := Aside0.mk HG28
          clear gb28 gl28 HG28
          have HMgo28 := Aside0.mk (show (P0_2_ go28 ∨ w.heap.size ≤ go28) from (HO_287002.out.1 _ rfl).1)
          (first | simp only [add_plain] at hx294_0 | skip)
          (first | simp only [add_plain] at hx294_1 | skip)
          obtain ⟨ce28, hcl28, hM28, hcc28, hfr28⟩ := Kd.R_elem HO_287002.out z89 ((ji11) : Int) p28 q28
          obtain rfl := k89_openM hM28
          have hx28_0 : w25.cell? ⟨go28, ((ji11) : Int).toNat * 2, none⟩ = some (.int .i64 ((rd_T89 x287002_1 (ji11)).f0)) := hcc28 0 _ rfl
          have hx28_1 : w25.cell? ⟨go28, ((ji11) : Int).toNat * 2 + 1, none⟩ = some (.int .i64 ((rd_T89 x287002_1 (ji11)).f1)) := hcc28 1 _ rfl
          have hf28_0 : w25.frozen? ⟨go28, ((ji11) : Int).toNat * 2, none⟩ = false := hfr28 0
          have hf28_1 : w25.frozen? ⟨go28, ((ji11) : Int).toNat * 2 + 1, none⟩ = false := hfr28 1
          (try clear hcl28); (try clear hcc28); (try clear hfr28); (try clear hM28)
          replace p28 := eq_true p28
          replace q28 := eq_true q28
          have HX34 := Aside0.mk (show Kd.R k89 89 w25 w0.heap.size (fun k_ => (P0_2_ k_ ∨ w.heap.size ≤ k_) ∧ k_ ≠ gb295) (.slice (some ⟨go28, 0, none⟩) x287002_1.length co4) x287002_1 from (viaR HO_287002))
          obtain ⟨ce34, hcl34, hM34, hcc34, hfr34⟩ := Kd.R_elem HX34.out z89 ((ji11) : Int) (ofD) (by have h_ : ((ji11) : Int) < ((x287002_1.length : Int) : Int) := ofD; first | exact h_ | (have e_ := (Kd.R_reads' HO_287002.out).1; omega) | simpa using h_)
          obtain rfl := k89_openM hM34
          have HP34 := Kd.R_seg HX34.out ((ji11) : Int) (ofD) (by have h_ : ((ji11) : Int) < ((x287002_1.length : Int) : Int) := ofD; first | exact h_ | (have e_ := (Kd.R_reads' HO_287002.out).1; omega) | simpa using h_) (seg := [.int .i64 (wrap64 (1 - ((rd_T89 x287002_1 (ji11)).f1)))]) (j := 1) hcl34 hcc34 (show 2 ≤ 2 from by decide) (x' := (⟨(rd_T89 x287002_1 (ji11)).f0, wrap64 (1 - ((rd_T89 x287002_1 (ji11)).f1))⟩ : S89)) (k89_mkM _ _ _ (⟨(rd_T89 x287002_1 (ji11)).f0, wrap64 (1 - ((rd_T89 x287002_1 (ji11)).f1))⟩ : S89) ) (fun _ hk => hk)
          have hx34_1 := hcc34 1 _ rfl
          (try simp only [show (k89).sz = 2 from rfl, Nat.mul_one, Nat.add_zero] at hx34_1)
          have hf34_1 := hfr34 1
          (try simp only [show (k89).sz = 2 from rfl, Nat.mul_one, Nat.add_zero] at hf34_1)
          (try clear hcl34); (try clear hcc34); (try clear hfr34); (try clear hM34)
          go_wp2_with (first | ((with_reducible refine gate_store (t := 3) (p := 59) rfl ?_); refine store_event (t := 3) (p := 59) (v := ?vo_w35) (w1 := (w25.setCell ⟨go28, ((ji11) : Int).toNat * 2 + 1, none⟩ (.int .i64 (wrap64 (1 - ((rd_T89 x287002_1 (ji11)).f1)))))) ?hg ?ho ?hn ?hr ?_; (case ho => rfl); (case hg => rfl); (case hn => rfl); (case hr => first | (go_simp; done) | (go_simp; rfl)); intro w35 hw; have hg : w25.grownBy w35 (some go28) := (by rw [hw]; exact HP34.2); have hp_ : Kd.R k89 89 w35 w0.heap.size (fun k_ => (P0_2_ k_ ∨ w.heap.size ≤ k_) ∧ k_ ≠ gb295) (.slice (some ⟨go28, 0, none⟩) x287002_1.length co4) y298 := (by rw [hw, Ny298.out]; exact HP34.1); clear HP34; replace BK286 := Aside0.mk (blk_grown (g := gb286) (o := .cells #[.int .i64 a0_0, .int .i64 a0_1, .slice (some ⟨go28, 0, none⟩) x287002_1.length co4] 32 (0, 0)) (viaK BK286) hg (Kd.R_ne HO_287002.out BK286.out (by decide))); replace BK287 := Aside0.mk (blk_grown (g := gb287) (o := .cells #[.int .i64 x288000_1, .int .i64 x288001_1, .int .i64 x288002_1] 27 (0, 0)) (viaK BK287) hg (Kd.R_ne HO_287002.out BK287.out (by decide))); replace HO293 := Aside0.mk (Kd.R_over' (v := (.slice (some ⟨go28, 0, none⟩) x287002_1.length co4)) (viaR HO293) (Kd.R_typed HO_287002.out) (by decide) hg); replace BK295 := Aside0.mk (blk_grown (g := gb295) (o := .cells #[.int .i64 ((rd_T89 x287002_1 (ji11)).f0), .int .i64 ((rd_T89 x287002_1 (ji11)).f1)] 89 (0, 0)) (viaK BK295) hg (Kd.R_away HO_287002.out (fun _ hk => hk.2))); replace HB := Aside0.mk ((by rw [hw]; exact below_set (HB.out) GB28.out : Below w0.heap.size w0 w35)); replace HK := Aside0.mk (Kept.of_grown (S := (fun k_ => P0_2_ k_)) hg (viaT HK) (fun k_ e_ => (HO_287002.out.1 k_ e_).1)); replace HO_287002 := Aside0.mk (hp_); clear hg hw hp_))
          go_meet
          case rel => exact ⟨_, (y298), ((rd_T89 x287002_1 (ji11)).f1), H', ⟨by have := HK1.out; first | omega | exact Nat.le_refl _⟩, ⟨by (try simp only [hl287002_1]); (with_reducible repeat (first | apply Kd.R_alloc | apply Kd.R_drewN | apply Kd.R_drew)); exact HO293.out⟩, ⟨by (try simp only [hl287002_1]); (with_reducible repeat (first | apply Kd.R_alloc | apply Kd.R_drewN | apply Kd.R_drew)); exact HO_287002.out⟩, ⟨by (try simp only [hl287002_1]); (with_reducible repeat (first | refine blk_drewN ?_ _ | refine blk_drew ?_ | refine blk_alloc ?_ _)); exact BK286.out⟩, ⟨by (try simp only [hl287002_1]); (with_reducible repeat (first | refine blk_drewN ?_ _ | refine blk_drew ?_ | refine blk_alloc ?_ _)); exact BK287.out⟩, ⟨by (try simp only [hl287002_1]); (with_reducible repeat (first | refine blk_drewN ?_ _ | refine blk_drew ?_ | refine blk_alloc ?_ _)); exact BK295.out⟩, ⟨viaT HK⟩, ⟨viaB HB⟩⟩
         ·rw [if_neg c27] at H
          have c27b0 := beq_eq_false_iff_ne.mpr c27
          have c27b1 := bne_iff_ne.mpr c27
          (first | rw [c27b0] | (simp only [i64_w, i32_w]; rw [c27b0]) | skip)
          have H' := Aside0.mk H
          clear H
          go_wp2
          go_meet
          case rel => exact ⟨_, (x287002_1), ((rd_T89 x287002_1 (ji11)).f1), H', ⟨by have := HK1.out; first | omega | exact Nat.le_refl _⟩, ⟨by (try simp only [hl287002_1]); (with_reducible repeat (first | apply Kd.R_alloc | apply Kd.R_drewN | apply Kd.R_drew)); exact HO293.out⟩, ⟨by (try simp only [hl287002_1]); (with_reducible repeat (first | apply Kd.R_alloc | apply Kd.R_drewN | apply Kd.R_drew)); exact HO_287002.out⟩, ⟨by (try simp only [hl287002_1]); (with_reducible repeat (first | refine blk_drewN ?_ _ | refine blk_drew ?_ | refine blk_alloc ?_ _)); exact BK286.out⟩, ⟨by (try simp only [hl287002_1]); (with_reducible repeat (first | refine blk_drewN ?_ _ | refine blk_drew ?_ | refine blk_alloc ?_ _)); exact BK287.out⟩, ⟨by (try simp only [hl287002_1]); (with_reducible repeat (first | refine blk_drewN ?_ _ | refine blk_drew ?_ | refine blk_alloc ?_ _)); exact BK295.out⟩, ⟨viaT HK⟩, ⟨viaB HB⟩⟩
        case rest =>
         clear HC16
         (try clear c9b0); (try clear c12b0); (try clear c13b0); (try clear c15)
         (try clear hcz18_0); (try clear hcz18_1); (try clear hcz18_2); (try clear hcz20_0); (try clear hcz20_1); (try clear hcz20_2); (try clear hcz24_0); (try clear hcz24_1)
         (try clear hcz26_0); (try clear hcz26_1); (try clear hfz18_0); (try clear hfz18_1); (try clear hfz18_2); (try clear hfz20_0); (try clear hfz20_1); (try clear hfz20_2)
         (try clear hfz24_0); (try clear hfz24_1); (try clear hfz26_0); (try clear hfz26_1); (try clear hx294_0); (try clear hx294_1); (try clear p294); (try clear q294)
         obtain ⟨kq, x287002_15, x296001_15, HA, HJ15, HO_8, HO_287002, BK286, BK287, BK295, HK, HB⟩ := hcut
         have hl287002_15 := (Kd.R_reads' HO_287002.out).1
         rw [hl287002_15] at HO_287002
         (try simp only [hl287002_15])
         (try simp only [hl287002_15] at BK286)
         (try simp only [hl287002_15] at BK287)
         (try simp only [hl287002_15] at BK295)
         (try simp only [hl287002_15] at HO_8)
         cases kq with
         | zero => exact absurd HA.out (by simp [impl_drop.j1])
         | succ kj15 =>
          have H := HA.out
          clear HA
          simp only [impl_drop.j1] at H
          by_cases c36 : ((rd_T89 x287002_1 (ji11)).f0) = 6
          ·rw [if_pos c36] at H
           have c36b0 := beq_iff_eq.mpr c36
           have c36b1 := bne_eq_false_iff_eq.mpr c36
           clear c36
           replace H := Option.bind_eq_some_iff.mp H
           obtain ⟨t299, A370, H⟩ := H
           replace H : (if (wrap64 (x2_1 + t296)) < 0 then (some (3, x10_1, wrap64 (x2_1 + t296), y291, t299)) else (if (wrap64 (x2_1 + t296)) ≥ a0_1 then (some (3, x10_1, wrap64 (x2_1 + t296), y291, t299)) else (impl_drop.l0 kj15 l1 (wrap64 (x2_1 + t296)) y291 (wrap64 (-t296)) (wrap64 (x10_1 + 1)) a0_0 a0_1 t299))) = some (r1, r2, r3, r4, r5) := H
           have A37 := Aside0.mk A370
           clear A370
           by_cases c38 : (wrap64 (x2_1 + t296)) < 0
           ·rw [if_pos c38] at H
            have c38b0 := decide_eq_true c38
            clear c38
            simp only [Option.some.injEq, Prod.mk.injEq] at H
            obtain ⟨rfl, rfl, rfl, rfl, rfl⟩ := H
            have hnb39 := NB295_286.out
            have hnc39 := NB286_295.out
            have hnb40 := NB295_287.out
            have hnc40 := NB287_295.out
            have hcz41_0 := bc0 BK295
            have hcz41_1 := bc1 BK295
            have hfz41_0 := blk_frozen BK295.out 0
            have hfz41_1 := blk_frozen BK295.out 1
            have hnb42 := NB286_287.out
            have hnc42 := NB287_286.out
            have hcz43_0 := bc0 BK286
            have hcz43_1 := bc1 BK286
            have hcz43_2 := bc2 BK286
            have hfz43_0 := blk_frozen BK286.out 0
            have hfz43_1 := blk_frozen BK286.out 1
            have hfz43_2 := blk_frozen BK286.out 2
            go_wp2_with (first | ((with_reducible refine gate_callee (f := 74) rfl ?_); refine goesL_ (some 66) rfl rfl Try.func74 (by kernel_rfl) rfl #[.agg #[.int .i64 a0_0, .int .i64 a0_1, .slice (some ad294) x287002_15.length co4], .slice A1 l1.length c1, .int .i64 ji11] rfl (by (try simp only [List.map_toArray, List.map_cons, List.map_nil]); first | done | (simp only [hji11]; rfl) | rfl | (simp only [List.length_drop, List.length_take]; rfl)) ?_; (with_reducible refine (impl_turnGroup.calls kj15 a0_0 a0_1 (fun k_ => some k_ = (.slice (some ad294) x287002_15.length co4 : Value).ownBlock) (.slice (some ad294) x287002_15.length co4) x287002_15 _ _ l1 ji11 t299 w0 _ ?side1 ?side2 ?side3 ?side4 A37.out).mono ?_); (case side1 => repeat (first | (with_reducible first | exact HB.out | apply below_alloc | apply pw_below_drewN | apply below_drew1 | refine below_set ?_ GE286.out | refine below_set ?_ GE287.out | refine below_set ?_ GE295.out) | exact HB.out)); (case side2 => exact Kd.R_tight rfl HO_287002.out); (case side3 => exact Kd.C_kept_call HR1.out (viaT HK) (fun k_ hs_ => (fun e_ => (HO_287002.out.1 k_ e_.symm).1) hs_)); (case side4 => exact HC1.out); rintro e w44 ⟨rfl, hy0, hb, hkp⟩; refine ⟨_, rfl, ?_⟩; replace HO_8 := Aside0.mk (Kd.R_mono (ok' := fun k_ => (P0_2_ k_ ∨ w.heap.size ≤ k_)) (Kd.R_keptB ((Kd.R_apart' HO_8.out (Kd.R_typed HO_287002.out) (by decide))) hkp (fun k_ hk_ hs_ => (hk_.2) hs_)) (fun k_ hk_ => hk_.1.1)); replace BK286 := Aside0.mk (blk_kept (viaK BK286) hkp (fun hs_ => (fun e_ => (Kd.R_ne HO_287002.out BK286.out (by decide)) e_) hs_)); replace BK287 := Aside0.mk (blk_kept (viaK BK287) hkp (fun hs_ => (fun e_ => (Kd.R_ne HO_287002.out BK287.out (by decide)) e_) hs_)); replace BK295 := Aside0.mk (blk_kept (viaK BK295) hkp (fun hs_ => (fun e_ => (Kd.R_away HO_287002.out (fun _ hk => hk.2)) e_) hs_)); replace HK := Aside0.mk (Kept.then_ (S := (fun k_ => P0_2_ k_)) (viaT HK) hkp (fun k_ hs_ => (fun e_ => (HO_287002.out.1 k_ e_.symm).1) hs_)); replace HO_287002 := Aside0.mk (Kd.R_reok rfl hy0 (fun k_ e_ => HO_287002.out.1 k_ e_)); replace HB := Aside0.mk (hb); (try clear hb); (try clear hkp); (try clear hy0); have hcz45_0 := bc0 BK287; have hcz45_1 := bc1 BK287; have hcz45_2 := bc2 BK287; have hfz45_0 := blk_frozen BK287.out 0; have hfz45_1 := blk_frozen BK287.out 1; have hfz45_2 := blk_frozen BK287.out 2))
            refine bodyPost_ret (results_ct rfl _ _ gb287 27 #[.int .i64 3, .int .i64 x10_1, .int .i64 (wrap64 (x2_1 + t296))] (0, 0) _ rfl (by (with_reducible repeat (first | refine blk_drewN ?_ _ | refine blk_drew ?_ | refine blk_alloc ?_ _)); refine blk_put (cs := #[.int .i64 3, .int .i64 x10_1, .int .i64 x288002_1]) ?_ 2 _ rfl; (with_reducible repeat (first | refine blk_drewN ?_ _ | refine blk_drew ?_ | refine blk_alloc ?_ _)); refine blk_put (cs := #[.int .i64 3, .int .i64 x288001_1, .int .i64 x288002_1]) ?_ 1 _ rfl; (with_reducible repeat (first | refine blk_drewN ?_ _ | refine blk_drew ?_ | refine blk_alloc ?_ _)); refine blk_put (cs := #[.int .i64 x288000_1, .int .i64 x288001_1, .int .i64 x288002_1]) ?_ 0 _ rfl; (with_reducible repeat (first | refine blk_drewN ?_ _ | refine blk_drew ?_ | refine blk_alloc ?_ _)); exact BK287.out) Try.underlying27 rfl (by kernel_rfl)) rfl ?_
            exact ⟨_, by first | rfl | (simp [errW_none, errW_some] <;> rfl) | (simp only [← hji11]; first | rfl | (simp [errW_none, errW_some] <;> rfl)) | (simp [*, errW_none, errW_some] <;> rfl), by (with_reducible repeat (first | apply Kd.R_alloc | apply Kd.R_drewN | apply Kd.R_drew)); exact Kd.R_mono (Kd.R_far (p := ⟨gb287, 2, none⟩) (Kd.R_far (p := ⟨gb287, 1, none⟩) (Kd.R_far (p := ⟨gb287, 0, none⟩) (Kd.R_types HO_8.out BK287.out (by decide)) (fun _ hk => hk.2) (.int .i64 3)) (fun _ hk => hk.2) (.int .i64 x10_1)) (fun _ hk => hk.2) (.int .i64 (wrap64 (x2_1 + t296)))) (fun _ hk => hk.1), (by first | exact (by (with_reducible repeat (first | apply Kd.R_alloc | apply Kd.R_drewN | apply Kd.R_drew)); exact Kd.R_mono (Kd.R_far (p := ⟨gb287, 2, none⟩) (Kd.R_far (p := ⟨gb287, 1, none⟩) (Kd.R_far (p := ⟨gb287, 0, none⟩) (Kd.R_types HO_287002.out BK287.out (by decide)) (fun _ hk => hk.2) (.int .i64 3)) (fun _ hk => hk.2) (.int .i64 x10_1)) (fun _ hk => hk.2) (.int .i64 (wrap64 (x2_1 + t296)))) (fun _ hk => hk.1.1)) | (simp only [hl287002_1, hl287002_15]; exact (by (with_reducible repeat (first | apply Kd.R_alloc | apply Kd.R_drewN | apply Kd.R_drew)); exact Kd.R_mono (Kd.R_far (p := ⟨gb287, 2, none⟩) (Kd.R_far (p := ⟨gb287, 1, none⟩) (Kd.R_far (p := ⟨gb287, 0, none⟩) (Kd.R_types HO_287002.out BK287.out (by decide)) (fun _ hk => hk.2) (.int .i64 3)) (fun _ hk => hk.2) (.int .i64 x10_1)) (fun _ hk => hk.2) (.int .i64 (wrap64 (x2_1 + t296)))) (fun _ hk => hk.1.1)))), viaB HB, viaT HK⟩
           ·rw [if_neg c38] at H
            have c38b0 := decide_eq_false c38
            (try simp only [hl287002_1] at c38b0)
            (try simp only [hl287002_15] at c38b0)
            clear c38
            by_cases c46 : (wrap64 (x2_1 + t296)) ≥ a0_1
            ·rw [if_pos c46] at H
             have c46b0 := decide_eq_true c46
             clear c46
             simp only [Option.some.injEq, Prod.mk.injEq] at H
             obtain ⟨rfl, rfl, rfl, rfl, rfl⟩ := H
             have hnb47 := NB295_286.out
             have hnc47 := NB286_295.out
             have hnb48 := NB295_287.out
             have hnc48 := NB287_295.out
             have hcz49_0 := bc0 BK295
             have hcz49_1 := bc1 BK295
             have hfz49_0 := blk_frozen BK295.out 0
             have hfz49_1 := blk_frozen BK295.out 1
             have hnb50 := NB286_287.out
             have hnc50 := NB287_286.out
             have hcz51_0 := bc0 BK286
             have hcz51_1 := bc1 BK286
             have hcz51_2 := bc2 BK286
             have hfz51_0 := blk_frozen BK286.out 0
             have hfz51_1 := blk_frozen BK286.out 1
             have hfz51_2 := blk_frozen BK286.out 2
             go_wp2_with (first | ((with_reducible refine gate_callee (f := 74) rfl ?_); refine goesL_ (some 66) rfl rfl Try.func74 (by kernel_rfl) rfl #[.agg #[.int .i64 a0_0, .int .i64 a0_1, .slice (some ad294) x287002_15.length co4], .slice A1 l1.length c1, .int .i64 ji11] rfl (by (try simp only [List.map_toArray, List.map_cons, List.map_nil]); first | done | (simp only [hji11]; rfl) | rfl | (simp only [List.length_drop, List.length_take]; rfl)) ?_; (with_reducible refine (impl_turnGroup.calls kj15 a0_0 a0_1 (fun k_ => some k_ = (.slice (some ad294) x287002_15.length co4 : Value).ownBlock) (.slice (some ad294) x287002_15.length co4) x287002_15 _ _ l1 ji11 t299 w0 _ ?side1 ?side2 ?side3 ?side4 A37.out).mono ?_); (case side1 => repeat (first | (with_reducible first | exact HB.out | apply below_alloc | apply pw_below_drewN | apply below_drew1 | refine below_set ?_ GE286.out | refine below_set ?_ GE287.out | refine below_set ?_ GE295.out) | exact HB.out)); (case side2 => exact Kd.R_tight rfl HO_287002.out); (case side3 => exact Kd.C_kept_call HR1.out (viaT HK) (fun k_ hs_ => (fun e_ => (HO_287002.out.1 k_ e_.symm).1) hs_)); (case side4 => exact HC1.out); rintro e w52 ⟨rfl, hy0, hb, hkp⟩; refine ⟨_, rfl, ?_⟩; replace HO_8 := Aside0.mk (Kd.R_mono (ok' := fun k_ => (P0_2_ k_ ∨ w.heap.size ≤ k_)) (Kd.R_keptB ((Kd.R_apart' HO_8.out (Kd.R_typed HO_287002.out) (by decide))) hkp (fun k_ hk_ hs_ => (hk_.2) hs_)) (fun k_ hk_ => hk_.1.1)); replace BK286 := Aside0.mk (blk_kept (viaK BK286) hkp (fun hs_ => (fun e_ => (Kd.R_ne HO_287002.out BK286.out (by decide)) e_) hs_)); replace BK287 := Aside0.mk (blk_kept (viaK BK287) hkp (fun hs_ => (fun e_ => (Kd.R_ne HO_287002.out BK287.out (by decide)) e_) hs_)); replace BK295 := Aside0.mk (blk_kept (viaK BK295) hkp (fun hs_ => (fun e_ => (Kd.R_away HO_287002.out (fun _ hk => hk.2)) e_) hs_)); replace HK := Aside0.mk (Kept.then_ (S := (fun k_ => P0_2_ k_)) (viaT HK) hkp (fun k_ hs_ => (fun e_ => (HO_287002.out.1 k_ e_.symm).1) hs_)); replace HO_287002 := Aside0.mk (Kd.R_reok rfl hy0 (fun k_ e_ => HO_287002.out.1 k_ e_)); replace HB := Aside0.mk (hb); (try clear hb); (try clear hkp); (try clear hy0); have hcz53_0 := bc0 BK286; have hcz53_1 := bc1 BK286; have hcz53_2 := bc2 BK286; have hfz53_0 := blk_frozen BK286.out 0; have hfz53_1 := blk_frozen BK286.out 1; have hfz53_2 := blk_frozen BK286.out 2; have hcz54_0 := bc0 BK287; have hcz54_1 := bc1 BK287; have hcz54_2 := bc2 BK287; have hfz54_0 := blk_frozen BK287.out 0; have hfz54_1 := blk_frozen BK287.out 1; have hfz54_2 := blk_frozen BK287.out 2))
             refine bodyPost_ret (results_ct rfl _ _ gb287 27 #[.int .i64 3, .int .i64 x10_1, .int .i64 (wrap64 (x2_1 + t296))] (0, 0) _ rfl (by (with_reducible repeat (first | refine blk_drewN ?_ _ | refine blk_drew ?_ | refine blk_alloc ?_ _)); refine blk_put (cs := #[.int .i64 3, .int .i64 x10_1, .int .i64 x288002_1]) ?_ 2 _ rfl; (with_reducible repeat (first | refine blk_drewN ?_ _ | refine blk_drew ?_ | refine blk_alloc ?_ _)); refine blk_put (cs := #[.int .i64 3, .int .i64 x288001_1, .int .i64 x288002_1]) ?_ 1 _ rfl; (with_reducible repeat (first | refine blk_drewN ?_ _ | refine blk_drew ?_ | refine blk_alloc ?_ _)); refine blk_put (cs := #[.int .i64 x288000_1, .int .i64 x288001_1, .int .i64 x288002_1]) ?_ 0 _ rfl; (with_reducible repeat (first | refine blk_drewN ?_ _ | refine blk_drew ?_ | refine blk_alloc ?_ _)); exact BK287.out) Try.underlying27 rfl (by kernel_rfl)) rfl ?_
             exact ⟨_, by first | rfl | (simp [errW_none, errW_some] <;> rfl) | (simp only [← hji11]; first | rfl | (simp [errW_none, errW_some] <;> rfl)) | (simp [*, errW_none, errW_some] <;> rfl), by (with_reducible repeat (first | apply Kd.R_alloc | apply Kd.R_drewN | apply Kd.R_drew)); exact Kd.R_mono (Kd.R_far (p := ⟨gb287, 2, none⟩) (Kd.R_far (p := ⟨gb287, 1, none⟩) (Kd.R_far (p := ⟨gb287, 0, none⟩) (Kd.R_types HO_8.out BK287.out (by decide)) (fun _ hk => hk.2) (.int .i64 3)) (fun _ hk => hk.2) (.int .i64 x10_1)) (fun _ hk => hk.2) (.int .i64 (wrap64 (x2_1 + t296)))) (fun _ hk => hk.1), (by first | exact (by (with_reducible repeat (first | apply Kd.R_alloc | apply Kd.R_drewN | apply Kd.R_drew)); exact Kd.R_mono (Kd.R_far (p := ⟨gb287, 2, none⟩) (Kd.R_far (p := ⟨gb287, 1, none⟩) (Kd.R_far (p := ⟨gb287, 0, none⟩) (Kd.R_types HO_287002.out BK287.out (by decide)) (fun _ hk => hk.2) (.int .i64 3)) (fun _ hk => hk.2) (.int .i64 x10_1)) (fun _ hk => hk.2) (.int .i64 (wrap64 (x2_1 + t296)))) (fun _ hk => hk.1.1)) | (simp only [hl287002_1, hl287002_15]; exact (by (with_reducible repeat (first | apply Kd.R_alloc | apply Kd.R_drewN | apply Kd.R_drew)); exact Kd.R_mono (Kd.R_far (p := ⟨gb287, 2, none⟩) (Kd.R_far (p := ⟨gb287, 1, none⟩) (Kd.R_far (p := ⟨gb287, 0, none⟩) (Kd.R_types HO_287002.out BK287.out (by decide)) (fun _ hk => hk.2) (.int .i64 3)) (fun _ hk => hk.2) (.int .i64 x10_1)) (fun _ hk => hk.2) (.int .i64 (wrap64 (x2_1 + t296)))) (fun _ hk => hk.1.1)))), viaB HB, viaT HK⟩
            ·rw [if_neg c46] at H
             have c46b0 := decide_eq_false c46
             (try simp only [hl287002_1] at c46b0)
             (try simp only [hl287002_15] at c46b0)
             clear c46
             have H' := Aside0.mk H
             clear H
             have hnb55 := NB295_286.out
             have hnc55 := NB286_295.out
             have hnb56 := NB295_287.out
             have hnc56 := NB287_295.out
             have hcz57_0 := bc0 BK295
             have hcz57_1 := bc1 BK295
             have hfz57_0 := blk_frozen BK295.out 0
             have hfz57_1 := blk_frozen BK295.out 1
             have hnb58 := NB286_287.out
             have hnc58 := NB287_286.out
             have hcz59_0 := bc0 BK286
             have hcz59_1 := bc1 BK286
             have hcz59_2 := bc2 BK286
             have hfz59_0 := blk_frozen BK286.out 0
             have hfz59_1 := blk_frozen BK286.out 1
             have hfz59_2 := blk_frozen BK286.out 2
             go_wp2_with (first | ((with_reducible refine gate_callee (f := 74) rfl ?_); refine goesL_ (some 66) rfl rfl Try.func74 (by kernel_rfl) rfl #[.agg #[.int .i64 a0_0, .int .i64 a0_1, .slice (some ad294) x287002_15.length co4], .slice A1 l1.length c1, .int .i64 ji11] rfl (by (try simp only [List.map_toArray, List.map_cons, List.map_nil]); first | done | (simp only [hji11]; rfl) | rfl | (simp only [List.length_drop, List.length_take]; rfl)) ?_; (with_reducible refine (impl_turnGroup.calls kj15 a0_0 a0_1 (fun k_ => some k_ = (.slice (some ad294) x287002_15.length co4 : Value).ownBlock) (.slice (some ad294) x287002_15.length co4) x287002_15 _ _ l1 ji11 t299 w0 _ ?side1 ?side2 ?side3 ?side4 A37.out).mono ?_); (case side1 => repeat (first | (with_reducible first | exact HB.out | apply below_alloc | apply pw_below_drewN | apply below_drew1 | refine below_set ?_ GE286.out | refine below_set ?_ GE287.out | refine below_set ?_ GE295.out) | exact HB.out)); (case side2 => exact Kd.R_tight rfl HO_287002.out); (case side3 => exact Kd.C_kept_call HR1.out (viaT HK) (fun k_ hs_ => (fun e_ => (HO_287002.out.1 k_ e_.symm).1) hs_)); (case side4 => exact HC1.out); rintro e w60 ⟨rfl, hy0, hb, hkp⟩; refine ⟨_, rfl, ?_⟩; replace HO_8 := Aside0.mk (Kd.R_mono (ok' := fun k_ => (P0_2_ k_ ∨ w.heap.size ≤ k_)) (Kd.R_keptB ((Kd.R_apart' HO_8.out (Kd.R_typed HO_287002.out) (by decide))) hkp (fun k_ hk_ hs_ => (hk_.2) hs_)) (fun k_ hk_ => hk_.1.1)); replace BK286 := Aside0.mk (blk_kept (viaK BK286) hkp (fun hs_ => (fun e_ => (Kd.R_ne HO_287002.out BK286.out (by decide)) e_) hs_)); replace BK287 := Aside0.mk (blk_kept (viaK BK287) hkp (fun hs_ => (fun e_ => (Kd.R_ne HO_287002.out BK287.out (by decide)) e_) hs_)); replace BK295 := Aside0.mk (blk_kept (viaK BK295) hkp (fun hs_ => (fun e_ => (Kd.R_away HO_287002.out (fun _ hk => hk.2)) e_) hs_)); replace HK := Aside0.mk (Kept.then_ (S := (fun k_ => P0_2_ k_)) (viaT HK) hkp (fun k_ hs_ => (fun e_ => (HO_287002.out.1 k_ e_.symm).1) hs_)); replace HO_287002 := Aside0.mk (Kd.R_reok rfl hy0 (fun k_ e_ => HO_287002.out.1 k_ e_)); replace HB := Aside0.mk (hb); (try clear hb); (try clear hkp); (try clear hy0); have hcz61_0 := bc0 BK286; have hcz61_1 := bc1 BK286; have hcz61_2 := bc2 BK286; have hfz61_0 := blk_frozen BK286.out 0; have hfz61_1 := blk_frozen BK286.out 1; have hfz61_2 := blk_frozen BK286.out 2))
             (try simp only [← hl287002_1, ← hl287002_15])
             go_roundg kj15
             case measure => have := HK1.out; have := HJ15.out; omega
             case rel => exact ⟨(wrap64 (x2_1 + t296)), (y291), (wrap64 (-t296)), (wrap64 (x10_1 + 1)), (t299), (x288000_1), (x288001_1), (x288002_1), (by first | rfl | (simp; done) | (simp [*]; done)), (by first | rfl | (simp; done) | (simp [*]; done)), (by first | rfl | (simp; done) | (simp [*]; done)), H', ⟨by have := HK1.out; have := HJ15.out; omega⟩, ⟨by (try simp only [hl287002_1]); (try simp only [hl287002_15]); (with_reducible repeat (first | apply Kd.R_alloc | apply Kd.R_drewN | apply Kd.R_drew)); exact HO_8.out⟩, ⟨by (try simp only [hl287002_1]); (try simp only [hl287002_15]); (with_reducible repeat (first | apply Kd.R_alloc | apply Kd.R_drewN | apply Kd.R_drew)); exact Kd.R_mono HO_287002.out (fun _ hk => hk.1)⟩, ⟨by (try simp only [hl287002_1]); (try simp only [hl287002_15]); (with_reducible repeat (first | refine blk_drewN ?_ _ | refine blk_drew ?_ | refine blk_alloc ?_ _)); exact BK286.out⟩, ⟨by (try simp only [hl287002_1]); (try simp only [hl287002_15]); (with_reducible repeat (first | refine blk_drewN ?_ _ | refine blk_drew ?_ | refine blk_alloc ?_ _)); exact BK287.out⟩, ⟨viaT HK⟩, ⟨viaB HB⟩⟩
          ·rw [if_neg c36] at H
           have c36b0 := beq_eq_false_iff_ne.mpr c36
           have c36b1 := bne_iff_ne.mpr c36
           by_cases c62 : (wrap64 (x2_1 + t296)) < 0
           ·rw [if_pos c62] at H
            have c62b0 := decide_eq_true c62
            clear c62
            simp only [Option.some.injEq, Prod.mk.injEq] at H
            obtain ⟨rfl, rfl, rfl, rfl, rfl⟩ := H
            have hnb63 := NB295_286.out
            have hnc63 := NB286_295.out
            have hnb64 := NB295_287.out
            have hnc64 := NB287_295.out
            have hcz65_0 := bc0 BK295
            have hcz65_1 := bc1 BK295
            have hfz65_0 := blk_frozen BK295.out 0
            have hfz65_1 := blk_frozen BK295.out 1
            have hnb66 := NB287_286.out
            have hnc66 := NB286_287.out
            have hcz67_0 := bc0 BK287
            have hcz67_1 := bc1 BK287
            have hcz67_2 := bc2 BK287
            have hfz67_0 := blk_frozen BK287.out 0
            have hfz67_1 := blk_frozen BK287.out 1
            have hfz67_2 := blk_frozen BK287.out 2
            go_wp2
            refine bodyPost_ret (results_ct rfl _ _ gb287 27 #[.int .i64 3, .int .i64 x10_1, .int .i64 (wrap64 (x2_1 + t296))] (0, 0) _ rfl (by (with_reducible repeat (first | refine blk_drewN ?_ _ | refine blk_drew ?_ | refine blk_alloc ?_ _)); refine blk_put (cs := #[.int .i64 3, .int .i64 x10_1, .int .i64 x288002_1]) ?_ 2 _ rfl; (with_reducible repeat (first | refine blk_drewN ?_ _ | refine blk_drew ?_ | refine blk_alloc ?_ _)); refine blk_put (cs := #[.int .i64 3, .int .i64 x288001_1, .int .i64 x288002_1]) ?_ 1 _ rfl; (with_reducible repeat (first | refine blk_drewN ?_ _ | refine blk_drew ?_ | refine blk_alloc ?_ _)); refine blk_put (cs := #[.int .i64 x288000_1, .int .i64 x288001_1, .int .i64 x288002_1]) ?_ 0 _ rfl; (with_reducible repeat (first | refine blk_drewN ?_ _ | refine blk_drew ?_ | refine blk_alloc ?_ _)); exact BK287.out) Try.underlying27 rfl (by kernel_rfl)) rfl ?_
            exact ⟨_, by first | rfl | (simp [errW_none, errW_some] <;> rfl) | (simp only [← hji11]; first | rfl | (simp [errW_none, errW_some] <;> rfl)) | (simp [*, errW_none, errW_some] <;> rfl), by (with_reducible repeat (first | apply Kd.R_alloc | apply Kd.R_drewN | apply Kd.R_drew)); exact Kd.R_mono (Kd.R_far (p := ⟨gb287, 2, none⟩) (Kd.R_far (p := ⟨gb287, 1, none⟩) (Kd.R_far (p := ⟨gb287, 0, none⟩) (Kd.R_types HO_8.out BK287.out (by decide)) (fun _ hk => hk.2) (.int .i64 3)) (fun _ hk => hk.2) (.int .i64 x10_1)) (fun _ hk => hk.2) (.int .i64 (wrap64 (x2_1 + t296)))) (fun _ hk => hk.1), (by first | exact (by (with_reducible repeat (first | apply Kd.R_alloc | apply Kd.R_drewN | apply Kd.R_drew)); exact Kd.R_mono (Kd.R_far (p := ⟨gb287, 2, none⟩) (Kd.R_far (p := ⟨gb287, 1, none⟩) (Kd.R_far (p := ⟨gb287, 0, none⟩) (Kd.R_types HO_287002.out BK287.out (by decide)) (fun _ hk => hk.2) (.int .i64 3)) (fun _ hk => hk.2) (.int .i64 x10_1)) (fun _ hk => hk.2) (.int .i64 (wrap64 (x2_1 + t296)))) (fun _ hk => hk.1.1)) | (simp only [hl287002_1, hl287002_15]; exact (by (with_reducible repeat (first | apply Kd.R_alloc | apply Kd.R_drewN | apply Kd.R_drew)); exact Kd.R_mono (Kd.R_far (p := ⟨gb287, 2, none⟩) (Kd.R_far (p := ⟨gb287, 1, none⟩) (Kd.R_far (p := ⟨gb287, 0, none⟩) (Kd.R_types HO_287002.out BK287.out (by decide)) (fun _ hk => hk.2) (.int .i64 3)) (fun _ hk => hk.2) (.int .i64 x10_1)) (fun _ hk => hk.2) (.int .i64 (wrap64 (x2_1 + t296)))) (fun _ hk => hk.1.1)))), viaB HB, viaT HK⟩
           ·rw [if_neg c62] at H
            have c62b0 := decide_eq_false c62
            (try simp only [hl287002_1] at c62b0)
            (try simp only [hl287002_15] at c62b0)
            clear c62
            by_cases c68 : (wrap64 (x2_1 + t296)) ≥ a0_1
            ·rw [if_pos c68] at H
             have c68b0 := decide_eq_true c68
             clear c68
             simp only [Option.some.injEq, Prod.mk.injEq] at H
             obtain ⟨rfl, rfl, rfl, rfl, rfl⟩ := H
             have hnb69 := NB295_286.out
             have hnc69 := NB286_295.out
             have hnb70 := NB295_287.out
             have hnc70 := NB287_295.out
             have hcz71_0 := bc0 BK295
             have hcz71_1 := bc1 BK295
             have hfz71_0 := blk_frozen BK295.out 0
             have hfz71_1 := blk_frozen BK295.out 1
             have hnb72 := NB286_287.out
             have hnc72 := NB287_286.out
             have hcz73_0 := bc0 BK286
             have hcz73_1 := bc1 BK286
             have hcz73_2 := bc2 BK286
             have hfz73_0 := blk_frozen BK286.out 0
             have hfz73_1 := blk_frozen BK286.out 1
             have hfz73_2 := blk_frozen BK286.out 2
             have hcz74_0 := bc0 BK287
             have hcz74_1 := bc1 BK287
             have hcz74_2 := bc2 BK287
             have hfz74_0 := blk_frozen BK287.out 0
             have hfz74_1 := blk_frozen BK287.out 1
             have hfz74_2 := blk_frozen BK287.out 2
             go_wp2
             refine bodyPost_ret (results_ct rfl _ _ gb287 27 #[.int .i64 3, .int .i64 x10_1, .int .i64 (wrap64 (x2_1 + t296))] (0, 0) _ rfl (by (with_reducible repeat (first | refine blk_drewN ?_ _ | refine blk_drew ?_ | refine blk_alloc ?_ _)); refine blk_put (cs := #[.int .i64 3, .int .i64 x10_1, .int .i64 x288002_1]) ?_ 2 _ rfl; (with_reducible repeat (first | refine blk_drewN ?_ _ | refine blk_drew ?_ | refine blk_alloc ?_ _)); refine blk_put (cs := #[.int .i64 3, .int .i64 x288001_1, .int .i64 x288002_1]) ?_ 1 _ rfl; (with_reducible repeat (first | refine blk_drewN ?_ _ | refine blk_drew ?_ | refine blk_alloc ?_ _)); refine blk_put (cs := #[.int .i64 x288000_1, .int .i64 x288001_1, .int .i64 x288002_1]) ?_ 0 _ rfl; (with_reducible repeat (first | refine blk_drewN ?_ _ | refine blk_drew ?_ | refine blk_alloc ?_ _)); exact BK287.out) Try.underlying27 rfl (by kernel_rfl)) rfl ?_
             exact ⟨_, by first | rfl | (simp [errW_none, errW_some] <;> rfl) | (simp only [← hji11]; first | rfl | (simp [errW_none, errW_some] <;> rfl)) | (simp [*, errW_none, errW_some] <;> rfl), by (with_reducible repeat (first | apply Kd.R_alloc | apply Kd.R_drewN | apply Kd.R_drew)); exact Kd.R_mono (Kd.R_far (p := ⟨gb287, 2, none⟩) (Kd.R_far (p := ⟨gb287, 1, none⟩) (Kd.R_far (p := ⟨gb287, 0, none⟩) (Kd.R_types HO_8.out BK287.out (by decide)) (fun _ hk => hk.2) (.int .i64 3)) (fun _ hk => hk.2) (.int .i64 x10_1)) (fun _ hk => hk.2) (.int .i64 (wrap64 (x2_1 + t296)))) (fun _ hk => hk.1), (by first | exact (by (with_reducible repeat (first | apply Kd.R_alloc | apply Kd.R_drewN | apply Kd.R_drew)); exact Kd.R_mono (Kd.R_far (p := ⟨gb287, 2, none⟩) (Kd.R_far (p := ⟨gb287, 1, none⟩) (Kd.R_far (p := ⟨gb287, 0, none⟩) (Kd.R_types HO_287002.out BK287.out (by decide)) (fun _ hk => hk.2) (.int .i64 3)) (fun _ hk => hk.2) (.int .i64 x10_1)) (fun _ hk => hk.2) (.int .i64 (wrap64 (x2_1 + t296)))) (fun _ hk => hk.1.1)) | (simp only [hl287002_1, hl287002_15]; exact (by (with_reducible repeat (first | apply Kd.R_alloc | apply Kd.R_drewN | apply Kd.R_drew)); exact Kd.R_mono (Kd.R_far (p := ⟨gb287, 2, none⟩) (Kd.R_far (p := ⟨gb287, 1, none⟩) (Kd.R_far (p := ⟨gb287, 0, none⟩) (Kd.R_types HO_287002.out BK287.out (by decide)) (fun _ hk => hk.2) (.int .i64 3)) (fun _ hk => hk.2) (.int .i64 x10_1)) (fun _ hk => hk.2) (.int .i64 (wrap64 (x2_1 + t296)))) (fun _ hk => hk.1.1)))), viaB HB, viaT HK⟩
            ·rw [if_neg c68] at H
             have c68b0 := decide_eq_false c68
             (try simp only [hl287002_1] at c68b0)
             (try simp only [hl287002_15] at c68b0)
             clear c68
             have H' := Aside0.mk H
             clear H
             have hnb75 := NB295_286.out
             have hnc75 := NB286_295.out
             have hnb76 := NB295_287.out
             have hnc76 := NB287_295.out
             have hcz77_0 := bc0 BK295
             have hcz77_1 := bc1 BK295
             have hfz77_0 := blk_frozen BK295.out 0
             have hfz77_1 := blk_frozen BK295.out 1
             have hnb78 := NB286_287.out
             have hnc78 := NB287_286.out
             have hcz79_0 := bc0 BK286
             have hcz79_1 := bc1 BK286
             have hcz79_2 := bc2 BK286
             have hfz79_0 := blk_frozen BK286.out 0
             have hfz79_1 := blk_frozen BK286.out 1
             have hfz79_2 := blk_frozen BK286.out 2
             go_wp2
             (try simp only [← hl287002_1, ← hl287002_15])
             go_roundg kj15
             case measure => have := HK1.out; have := HJ15.out; omega
             case rel => exact ⟨(wrap64 (x2_1 + t296)), (y291), (wrap64 (-t296)), (wrap64 (x10_1 + 1)), (x287002_15), (x288000_1), (x288001_1), (x288002_1), (by first | rfl | (simp; done) | (simp [*]; done)), (by first | rfl | (simp; done) | (simp [*]; done)), (by first | rfl | (simp; done) | (simp [*]; done)), H', ⟨by have := HK1.out; have := HJ15.out; omega⟩, ⟨by (try simp only [hl287002_1]); (try simp only [hl287002_15]); (with_reducible repeat (first | apply Kd.R_alloc | apply Kd.R_drewN | apply Kd.R_drew)); exact HO_8.out⟩, ⟨by (try simp only [hl287002_1]); (try simp only [hl287002_15]); (with_reducible repeat (first | apply Kd.R_alloc | apply Kd.R_drewN | apply Kd.R_drew)); exact Kd.R_mono HO_287002.out (fun _ hk => hk.1)⟩, ⟨by (try simp only [hl287002_1]); (try simp only [hl287002_15]); (with_reducible repeat (first | refine blk_drewN ?_ _ | refine blk_drew ?_ | refine blk_alloc ?_ _)); exact BK286.out⟩, ⟨by (try simp only [hl287002_1]); (try simp only [hl287002_15]); (with_reducible repeat (first | refine blk_drewN ?_ _ | refine blk_drew ?_ | refine blk_alloc ?_ _)); exact BK287.out⟩, ⟨viaT HK⟩, ⟨viaB HB⟩⟩
       ·replace c15 := Bool.eq_false_iff.mpr c15
        subst c15
        have H1 : (some (2, x10_1, x2_1, y291, x287002_1)) = some (r1, r2, r3, r4, r5) := by rw [if_neg (show ¬ (false = true) by decide)] at H; exact H
        clear H
        have H := H1
        clear H1
        simp only [Option.some.injEq, Prod.mk.injEq] at H
        obtain ⟨rfl, rfl, rfl, rfl, rfl⟩ := H
        have hnb80 := NB286_287.out
        have hnc80 := NB287_286.out
        have hcz81_0 := bc0 BK286
        have hcz81_1 := bc1 BK286
        have hcz81_2 := bc2 BK286
        have hfz81_0 := blk_frozen BK286.out 0
        have hfz81_1 := blk_frozen BK286.out 1
        have hfz81_2 := blk_frozen BK286.out 2
        go_wp2_with (first | ((with_reducible refine gate_builtin (b := .append) (xs := #[.tmp 28, .tmp 30]) rfl ?_); at_builtin; refine Kd.R_append (Kd.int .i64) (w0 := w0) w0.heap.size rfl (.tmp 28) (.tmp 30) 43 3 (.int .i64 0) 8 rfl Try.underlying43 info3 rfl (by decide) (by omega) u8 x8_1 ji11 [.int .i64 ji11] (fun k_ => (P0_2_ k_ ∨ w.heap.size ≤ k_)) (fun _ => False) rfl rfl ?aP (fun _ hk => hk.elim) ?aF ?aO ?aB ?aS ?aL ?_; (case aP => exact rfl); (case aB => exact (viaB HB)); (case aF => exact (fun k_ hk => (.inr (Nat.le_trans (by first | exact HK.out.1 | exact (show Kept w _ (fun k_ => P0_2_ k_) from viaT HK).1) hk)))); (case aO => exact (viaR HO_8)); (case aS => exact (below_size (viaB HB))); (case aL => have := LMc10.out; omega); intro v292 w82 ho hb hg hat; rw [← Ny291.out] at ho; have HO293 := Aside0.mk (ho); replace HO_287002 := Aside0.mk (Kd.R_over' (viaR HO_287002) (Kd.R_typed (viaR HO_8)) (by decide) hg); replace BK286 := Aside0.mk (blk_grown (g := gb286) (o := .cells #[.int .i64 a0_0, .int .i64 a0_1, .slice Ao4 x287002_1.length co4] 32 (0, 0)) (viaK BK286) hg (Kd.R_ne HO_8.out BK286.out (by decide))); replace BK287 := Aside0.mk (blk_grown (g := gb287) (o := .cells #[.int .i64 x288000_1, .int .i64 x288001_1, .int .i64 x288002_1] 27 (0, 0)) (viaK BK287) hg (Kd.R_ne HO_8.out BK287.out (by decide))); replace HB := Aside0.mk (hb); replace HK := Aside0.mk (Kept.of_grown (S := (fun k_ => P0_2_ k_)) hg (viaT HK) (fun k_ e_ => (HO_8.out.1 k_ e_))); clear HO_8; clear ho hb hg hat; have hcz83_0 := bc0 BK286; have hcz83_1 := bc1 BK286; have hcz83_2 := bc2 BK286; have hfz83_0 := blk_frozen BK286.out 0; have hfz83_1 := blk_frozen BK286.out 1; have hfz83_2 := blk_frozen BK286.out 2; have p294 : 0 ≤ ((ji11) : Int) := ofD; have q294 : (ji11) < (x287002_1.length : Int) := ofD; obtain ⟨ad294, e294, hx294_0, hx294_1⟩ := at_T89 (Kd.R_reads' HO_287002.out).2.2 (ji11) p294 q294; cases e294; replace p294 := eq_true p294; replace q294 := eq_true q294) | ((with_reducible refine gate_dst (N := 12) rfl ?_); refine box_ev (N := 12) (cs := #[.int .i64 0, .int .i64 0]) (t := 89) ?_; intro gb295 hg w84 hbox hb; have BK295 := Aside0.mk (hbox); have GW295 := Aside0.mk ((by rw [hg]; exact (by first | exact HK.out.1 | exact (show Kept w _ (fun k_ => P0_2_ k_) from viaT HK).1) : w.heap.size ≤ gb295)); have GE295 := gW (w := w0) HB hg; have NB286_295 := neL BK286 hg; have NB295_286 := neG BK286 hg; have NB287_295 := neL BK287 hg; have NB295_287 := neG BK287 hg; replace HO_287002 := Aside0.mk (Kd.R_below (Kd.R_elderB (viaR HO_287002) gb295 (Nat.le_of_eq hg.symm)) hb); replace HO293 := Aside0.mk (Kd.R_below (viaR HO293) hb); replace BK286 := kB BK286 hb; replace BK287 := kB BK287 hb; replace HK := Aside0.mk (Kept.below (S := (fun k_ => P0_2_ k_)) (viaT HK) hb); replace HB := bB HB hb; clear hb hbox hg; have hnb85 := NB295_286.out; have hnc85 := NB286_295.out; have hnb86 := NB295_287.out; have hnc86 := NB287_295.out; have hcz87_0 := bc0 BK295; have hcz87_1 := bc1 BK295; have hfz87_0 := blk_frozen BK295.out 0; have hfz87_1 := blk_frozen BK295.out 1) | ((with_reducible refine gate_callee (f := 73) rfl ?_); refine goesL_ (some 40) rfl rfl Try.func73 (by kernel_rfl) rfl #[.agg #[.int .i64 ((rd_T89 x287002_1 (ji11)).f0), .int .i64 ((rd_T89 x287002_1 (ji11)).f1)], .int .i64 x9_1] rfl (by (try simp only [List.map_toArray, List.map_cons, List.map_nil]); first | done | (simp only [hji11]; rfl) | rfl | (simp only [List.length_drop, List.length_take]; rfl)) ?_; (with_reducible refine (impl_GoesTo.calls k1 ((rd_T89 x287002_1 (ji11)).f0) ((rd_T89 x287002_1 (ji11)).f1) x9_1 t296 false _ A14.out).mono ?_); rintro e w88 ⟨rfl, hb⟩; refine ⟨_, rfl, ?_⟩; replace HO_287002 := Aside0.mk (Kd.R_below (by (with_reducible repeat (first | apply Kd.R_alloc | apply Kd.R_drewN | apply Kd.R_drew)); exact (Kd.R_mono (Kd.R_far (p := ⟨gb295, 1, none⟩) (Kd.R_far (p := ⟨gb295, 0, none⟩) (Kd.R_mono HO_287002.out (fun k_ hk => (⟨hk, hk.2⟩ : _ ∧ k_ ≠ gb295))) (fun _ hk => hk.2) (.int .i64 ((rd_T89 x287002_1 (ji11)).f0))) (fun _ hk => hk.2) (.int .i64 ((rd_T89 x287002_1 (ji11)).f1))) (fun _ h_ => h_.1))) hb); replace HO293 := Aside0.mk (Kd.R_below (by (with_reducible repeat (first | apply Kd.R_alloc | apply Kd.R_drewN | apply Kd.R_drew)); exact (Kd.R_mono (Kd.R_far (p := ⟨gb295, 1, none⟩) (Kd.R_far (p := ⟨gb295, 0, none⟩) (Kd.R_types HO293.out BK295.out (by decide)) (fun _ hk => hk.2) (.int .i64 ((rd_T89 x287002_1 (ji11)).f0))) (fun _ hk => hk.2) (.int .i64 ((rd_T89 x287002_1 (ji11)).f1))) (fun _ h_ => h_.1))) hb); replace BK286 := Aside0.mk (blk_below (g := gb286) (o := .cells #[.int .i64 a0_0, .int .i64 a0_1, .slice (some ad294) x287002_1.length co4] 32 (0, 0)) (by (with_reducible repeat (first | refine blk_drewN ?_ _ | refine blk_drew ?_ | refine blk_alloc ?_ _)); refine blk_far ?_ NB286_295.out _; (with_reducible repeat (first | refine blk_drewN ?_ _ | refine blk_drew ?_ | refine blk_alloc ?_ _)); refine blk_far ?_ NB286_295.out _; (with_reducible repeat (first | refine blk_drewN ?_ _ | refine blk_drew ?_ | refine blk_alloc ?_ _)); exact BK286.out) hb); replace BK287 := Aside0.mk (blk_below (g := gb287) (o := .cells #[.int .i64 x288000_1, .int .i64 x288001_1, .int .i64 x288002_1] 27 (0, 0)) (by (with_reducible repeat (first | refine blk_drewN ?_ _ | refine blk_drew ?_ | refine blk_alloc ?_ _)); refine blk_far ?_ NB287_295.out _; (with_reducible repeat (first | refine blk_drewN ?_ _ | refine blk_drew ?_ | refine blk_alloc ?_ _)); refine blk_far ?_ NB287_295.out _; (with_reducible repeat (first | refine blk_drewN ?_ _ | refine blk_drew ?_ | refine blk_alloc ?_ _)); exact BK287.out) hb); replace BK295 := Aside0.mk (blk_below (g := gb295) (o := .cells #[.int .i64 ((rd_T89 x287002_1 (ji11)).f0), .int .i64 ((rd_T89 x287002_1 (ji11)).f1)] 89 (0, 0)) (by (with_reducible repeat (first | refine blk_drewN ?_ _ | refine blk_drew ?_ | refine blk_alloc ?_ _)); refine blk_put (cs := #[.int .i64 ((rd_T89 x287002_1 (ji11)).f0), .int .i64 0]) ?_ 1 _ rfl; (with_reducible repeat (first | refine blk_drewN ?_ _ | refine blk_drew ?_ | refine blk_alloc ?_ _)); refine blk_put (cs := #[.int .i64 0, .int .i64 0]) ?_ 0 _ rfl; (with_reducible repeat (first | refine blk_drewN ?_ _ | refine blk_drew ?_ | refine blk_alloc ?_ _)); exact BK295.out) hb); replace HK := Aside0.mk (Kept.below (S := (fun k_ => P0_2_ k_)) (viaT HK) hb); replace HB := bB HB hb; (try clear hb); (try clear hb2); (try clear hk); (try clear hi); have hcz89_0 := bc0 BK287; have hcz89_1 := bc1 BK287; have hcz89_2 := bc2 BK287; have hfz89_0 := blk_frozen BK287.out 0; have hfz89_1 := blk_frozen BK287.out 1; have hfz89_2 := blk_frozen BK287.out 2))
        refine bodyPost_ret (results_ct rfl _ _ gb287 27 #[.int .i64 2, .int .i64 x10_1, .int .i64 x2_1] (0, 0) _ rfl (by (with_reducible repeat (first | refine blk_drewN ?_ _ | refine blk_drew ?_ | refine blk_alloc ?_ _)); refine blk_put (cs := #[.int .i64 2, .int .i64 x10_1, .int .i64 x288002_1]) ?_ 2 _ rfl; (with_reducible repeat (first | refine blk_drewN ?_ _ | refine blk_drew ?_ | refine blk_alloc ?_ _)); refine blk_put (cs := #[.int .i64 2, .int .i64 x288001_1, .int .i64 x288002_1]) ?_ 1 _ rfl; (with_reducible repeat (first | refine blk_drewN ?_ _ | refine blk_drew ?_ | refine blk_alloc ?_ _)); refine blk_put (cs := #[.int .i64 x288000_1, .int .i64 x288001_1, .int .i64 x288002_1]) ?_ 0 _ rfl; (with_reducible repeat (first | refine blk_drewN ?_ _ | refine blk_drew ?_ | refine blk_alloc ?_ _)); exact BK287.out) Try.underlying27 rfl (by kernel_rfl)) rfl ?_
        exact ⟨_, by first | rfl | (simp [errW_none, errW_some] <;> rfl) | (simp only [← hji11]; first | rfl | (simp [errW_none, errW_some] <;> rfl)) | (simp [*, errW_none, errW_some] <;> rfl), by (with_reducible repeat (first | apply Kd.R_alloc | apply Kd.R_drewN | apply Kd.R_drew)); exact Kd.R_mono (Kd.R_far (p := ⟨gb287, 2, none⟩) (Kd.R_far (p := ⟨gb287, 1, none⟩) (Kd.R_far (p := ⟨gb287, 0, none⟩) (Kd.R_types HO293.out BK287.out (by decide)) (fun _ hk => hk.2) (.int .i64 2)) (fun _ hk => hk.2) (.int .i64 x10_1)) (fun _ hk => hk.2) (.int .i64 x2_1)) (fun _ hk => hk.1), (by first | exact (by (with_reducible repeat (first | apply Kd.R_alloc | apply Kd.R_drewN | apply Kd.R_drew)); exact Kd.R_mono (Kd.R_far (p := ⟨gb287, 2, none⟩) (Kd.R_far (p := ⟨gb287, 1, none⟩) (Kd.R_far (p := ⟨gb287, 0, none⟩) (Kd.R_types HO_287002.out BK287.out (by decide)) (fun _ hk => hk.2) (.int .i64 2)) (fun _ hk => hk.2) (.int .i64 x10_1)) (fun _ hk => hk.2) (.int .i64 x2_1)) (fun _ hk => hk.1.1)) | (simp only [hl287002_1]; exact (by (with_reducible repeat (first | apply Kd.R_alloc | apply Kd.R_drewN | apply Kd.R_drew)); exact Kd.R_mono (Kd.R_far (p := ⟨gb287, 2, none⟩) (Kd.R_far (p := ⟨gb287, 1, none⟩) (Kd.R_far (p := ⟨gb287, 0, none⟩) (Kd.R_types HO_287002.out BK287.out (by decide)) (fun _ hk => hk.2) (.int .i64 2)) (fun _ hk => hk.2) (.int .i64 x10_1)) (fun _ hk => hk.2) (.int .i64 x2_1)) (fun _ hk => hk.1.1)))), viaB HB, viaT HK⟩
      ·rw [if_neg c13] at H
       exact absurd H (by simp)
     ·rw [if_neg c12] at H
      exact absurd H (by simp)
    ·rw [if_neg c10] at H
     exact absurd H (by simp)
   ·rw [if_neg c9] at H
    have c9b0 := decide_eq_false c9
    (try simp only [hl287002_1] at c9b0)
    (try simp only [hl287002_15] at c9b0)
    clear c9
    simp only [Option.some.injEq, Prod.mk.injEq] at H
    obtain ⟨rfl, rfl, rfl, rfl, rfl⟩ := H
    have hnb90 := NB286_287.out
    have hnc90 := NB287_286.out
    have hcz91_0 := bc0 BK286
    have hcz91_1 := bc1 BK286
    have hcz91_2 := bc2 BK286
    have hfz91_0 := blk_frozen BK286.out 0
    have hfz91_1 := blk_frozen BK286.out 1
    have hfz91_2 := blk_frozen BK286.out 2
    have hcz92_0 := bc0 BK287
    have hcz92_1 := bc1 BK287
    have hcz92_2 := bc2 BK287
    have hfz92_0 := blk_frozen BK287.out 0
    have hfz92_1 := blk_frozen BK287.out 1
    have hfz92_2 := blk_frozen BK287.out 2
    go_wp2
    refine bodyPost_ret (results_ct rfl _ _ gb287 27 #[.int .i64 1, .int .i64 a0_0, .int .i64 x2_1] (0, 0) _ rfl (by (with_reducible repeat (first | refine blk_drewN ?_ _ | refine blk_drew ?_ | refine blk_alloc ?_ _)); refine blk_put (cs := #[.int .i64 1, .int .i64 a0_0, .int .i64 x288002_1]) ?_ 2 _ rfl; (with_reducible repeat (first | refine blk_drewN ?_ _ | refine blk_drew ?_ | refine blk_alloc ?_ _)); refine blk_put (cs := #[.int .i64 1, .int .i64 x288001_1, .int .i64 x288002_1]) ?_ 1 _ rfl; (with_reducible repeat (first | refine blk_drewN ?_ _ | refine blk_drew ?_ | refine blk_alloc ?_ _)); refine blk_put (cs := #[.int .i64 x288000_1, .int .i64 x288001_1, .int .i64 x288002_1]) ?_ 0 _ rfl; (with_reducible repeat (first | refine blk_drewN ?_ _ | refine blk_drew ?_ | refine blk_alloc ?_ _)); exact BK287.out) Try.underlying27 rfl (by kernel_rfl)) rfl ?_
    exact ⟨_, by first | rfl | (simp [errW_none, errW_some] <;> rfl) | (simp [*, errW_none, errW_some] <;> rfl), by (with_reducible repeat (first | apply Kd.R_alloc | apply Kd.R_drewN | apply Kd.R_drew)); exact Kd.R_mono (Kd.R_far (p := ⟨gb287, 2, none⟩) (Kd.R_far (p := ⟨gb287, 1, none⟩) (Kd.R_far (p := ⟨gb287, 0, none⟩) (Kd.R_types HO_8.out BK287.out (by decide)) (fun _ hk => hk.2) (.int .i64 1)) (fun _ hk => hk.2) (.int .i64 a0_0)) (fun _ hk => hk.2) (.int .i64 x2_1)) (fun _ hk => hk.1), (by first | exact (by (with_reducible repeat (first | apply Kd.R_alloc | apply Kd.R_drewN | apply Kd.R_drew)); exact Kd.R_mono (Kd.R_far (p := ⟨gb287, 2, none⟩) (Kd.R_far (p := ⟨gb287, 1, none⟩) (Kd.R_far (p := ⟨gb287, 0, none⟩) (Kd.R_types HO_287002.out BK287.out (by decide)) (fun _ hk => hk.2) (.int .i64 1)) (fun _ hk => hk.2) (.int .i64 a0_0)) (fun _ hk => hk.2) (.int .i64 x2_1)) (fun _ hk => hk.1)) | (simp only [hl287002_1]; exact (by (with_reducible repeat (first | apply Kd.R_alloc | apply Kd.R_drewN | apply Kd.R_drew)); exact Kd.R_mono (Kd.R_far (p := ⟨gb287, 2, none⟩) (Kd.R_far (p := ⟨gb287, 1, none⟩) (Kd.R_far (p := ⟨gb287, 0, none⟩) (Kd.R_types HO_287002.out BK287.out (by decide)) (fun _ hk => hk.2) (.int .i64 1)) (fun _ hk => hk.2) (.int .i64 a0_0)) (fun _ hk => hk.2) (.int .i64 x2_1)) (fun _ hk => hk.1)))), viaB HB, viaT HK⟩

end Go.Proofs.Ytoklfgjemfojgaa.PAll
