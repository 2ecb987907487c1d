/- This text began as one that print.sh wrote for this claim (of the functions named below); it is this session's own: turned where Lean did not take the printed proof, where it was too long for a claim, or only in what it imports. -/
import Derived.Test.YtoklfgjemfojgaaHFnExactBoardAfterx0
import Derived.Test.YtoklfgjemfojgaaHFnExactBoardAfterx8
import Derived.Test.YtoklfgjemfojgaaHFnExactBoardAfterx9
namespace Go.Proofs.Ytoklfgjemfojgaa.PFnExactBoardAfter
open Go.RowKit Go.Proofs.YtoklfgjemfojgaaW.PrintWords Go.Proofs.YtoklfgjemfojgaaW.PrintLast Go.Proofs.YtoklfgjemfojgaaW.PrintMore
attribute [local go_sem] max2_int min2_int max_two min_two max_three min_three max_four min_four   -- for this text's walks alone
set_option linter.unusedVariables false
set_option linter.unusedSimpArgs false

/-! ### impl_drop: function 54 -/
mutual
def impl_drop.l0 : Nat → List Int → Int → List Int → Int → Int → Int → Int → List (S89) → Option (Int × Int × Int × List Int × (List (S89)))
 | 0, _, _, _, _, _, _, _, _ => none
 | k + 1, x1, x2, x8, x9, x10, x279000, x279001, x279002 => if x10 < x279000 then (if x8.length < 17592186044416 then ((some (x8 ++ [wrap64 ((wrap64 (x10 * x279001)) + x2)] : List Int)).bind fun y283 => (if 0 ≤ (wrap64 ((wrap64 (x10 * x279001)) + x2)) then (if (wrap64 ((wrap64 (x10 * x279001)) + x2)) < (x279002.length : Int) then ((impl_GoesTo.f k ((rd_T89 x279002 (wrap64 ((wrap64 (x10 * x279001)) + x2))).f0) ((rd_T89 x279002 (wrap64 ((wrap64 (x10 * x279001)) + x2))).f1) x9).bind fun bt288 => (if bt288.2 = true then (if ((rd_T89 x279002 (wrap64 ((wrap64 (x10 * x279001)) + x2))).f0) = 3 then (impl_drop.j1 k x1 x2 y283 x10 (wrap64 ((wrap64 (x10 * x279001)) + x2)) bt288.1 x279000 x279001 (x279002.set ((wrap64 ((wrap64 (x10 * x279001)) + x2)) : Int).toNat (⟨(rd_T89 x279002 (wrap64 ((wrap64 (x10 * x279001)) + x2))).f0, wrap64 (1 - ((rd_T89 x279002 (wrap64 ((wrap64 (x10 * x279001)) + x2))).f1))⟩ : S89)) ((rd_T89 x279002 (wrap64 ((wrap64 (x10 * x279001)) + x2))).f0) ((rd_T89 x279002 (wrap64 ((wrap64 (x10 * x279001)) + x2))).f1)) else (impl_drop.j1 k x1 x2 y283 x10 (wrap64 ((wrap64 (x10 * x279001)) + x2)) bt288.1 x279000 x279001 x279002 ((rd_T89 x279002 (wrap64 ((wrap64 (x10 * x279001)) + x2))).f0) ((rd_T89 x279002 (wrap64 ((wrap64 (x10 * x279001)) + x2))).f1))) else (some (2, x10, x2, y283, x279002)))) else (none)) else (none))) else (none)) else (some (1, x279000, x2, x8, x279002))
def impl_drop.j1 : Nat → List Int → Int → List Int → Int → Int → Int → Int → Int → List (S89) → Int → Int → Option (Int × Int × Int × List Int × (List (S89)))
 | 0, _, _, _, _, _, _, _, _, _, _, _ => none
 | k + 1, x1, x2, x8, x10, x11, x13, x279000, x279001, x279002, x288000, x288001 => if x288000 = 6 then ((impl_turnGroup.f k x279000 x279001 x279002 x1 x11).bind fun t291 => (if (wrap64 (x2 + x13)) < 0 then (some (3, x10, wrap64 (x2 + x13), x8, t291)) else (if (wrap64 (x2 + x13)) ≥ x279001 then (some (3, x10, wrap64 (x2 + x13), x8, t291)) else (impl_drop.l0 k x1 (wrap64 (x2 + x13)) x8 (wrap64 (-x13)) (wrap64 (x10 + 1)) x279000 x279001 t291)))) else (if (wrap64 (x2 + x13)) < 0 then (some (3, x10, wrap64 (x2 + x13), x8, x279002)) else (if (wrap64 (x2 + x13)) ≥ x279001 then (some (3, x10, wrap64 (x2 + x13), x8, x279002)) else (impl_drop.l0 k x1 (wrap64 (x2 + x13)) x8 (wrap64 (-x13)) (wrap64 (x10 + 1)) x279000 x279001 x279002)))
end
def impl_drop.f (k : Nat) (a0_0 : Int) (a0_1 : Int) (l0_2 : List (S89)) (l1 : List Int) (a2 : Int) : Option (Int × Int × Int × List Int × (List (S89))) := impl_drop.l0 k l1 a2 (([] : List Int)) 0 0 a0_0 a0_1 l0_2
theorem impl_drop.mono_l : ∀ k, (∀ y0 y1 y2 y3 y4 y5 y6 y7, LeO (impl_drop.l0 k y0 y1 y2 y3 y4 y5 y6 y7) (impl_drop.l0 (k + 1) y0 y1 y2 y3 y4 y5 y6 y7)) ∧ (∀ y0 y1 y2 y3 y4 y5 y6 y7 y8 y9 y10, LeO (impl_drop.j1 k y0 y1 y2 y3 y4 y5 y6 y7 y8 y9 y10) (impl_drop.j1 (k + 1) y0 y1 y2 y3 y4 y5 y6 y7 y8 y9 y10))
 | 0 => ⟨fun _ _ _ _ _ _ _ _ r h => by simp [impl_drop.l0] at h, fun _ _ _ _ _ _ _ _ _ _ _ r h => by simp [impl_drop.j1] at h⟩
 | k + 1 => by
  obtain ⟨ih0, ih1⟩ := impl_drop.mono_l k
  refine ⟨?_, ?_⟩
  ·intro y0 y1 y2 y3 y4 y5 y6 y7
   unfold impl_drop.l0
   repeat' first
   | (with_reducible exact ih0 _ _ _ _ _ _ _ _)
   | (with_reducible exact ih1 _ _ _ _ _ _ _ _ _ _ _)
   | (with_reducible exact impl_GoesTo.mono _ _ _ _)
   | (with_reducible exact impl_turnGroup.mono _ _ _ _ _ _)
   | (with_reducible exact LeO.refl _)
   | (with_reducible exact LeO.none _)
   | (with_reducible refine LeO.ite ?_ ?_)
   | (with_reducible refine LeO.bind ?_ (fun _ => ?_))
   | exact ih0 _ _ _ _ _ _ _ _
   | exact ih1 _ _ _ _ _ _ _ _ _ _ _
   | exact impl_GoesTo.mono _ _ _ _
   | exact impl_turnGroup.mono _ _ _ _ _ _
   | exact LeO.none _
   | refine LeO.ite ?_ ?_
   | refine LeO.bind ?_ (fun _ => ?_)
  ·intro y0 y1 y2 y3 y4 y5 y6 y7 y8 y9 y10
   unfold impl_drop.j1
   repeat' first
   | (with_reducible exact ih0 _ _ _ _ _ _ _ _)
   | (with_reducible exact ih1 _ _ _ _ _ _ _ _ _ _ _)
   | (with_reducible exact impl_GoesTo.mono _ _ _ _)
   | (with_reducible exact impl_turnGroup.mono _ _ _ _ _ _)
   | (with_reducible exact LeO.refl _)
   | (with_reducible exact LeO.none _)
   | (with_reducible refine LeO.ite ?_ ?_)
   | (with_reducible refine LeO.bind ?_ (fun _ => ?_))
   | exact ih0 _ _ _ _ _ _ _ _
   | exact ih1 _ _ _ _ _ _ _ _ _ _ _
   | exact impl_GoesTo.mono _ _ _ _
   | exact impl_turnGroup.mono _ _ _ _ _ _
   | exact LeO.none _
   | refine LeO.ite ?_ ?_
   | refine LeO.bind ?_ (fun _ => ?_)
theorem impl_drop.mono : ∀ a0 a1 a2 a3 a4 k, LeO (impl_drop.f k a0 a1 a2 a3 a4) (impl_drop.f (k + 1) a0 a1 a2 a3 a4) := by
 intro a0 a1 a2 a3 a4 k
 obtain ⟨ih0, ih1⟩ := impl_drop.mono_l k
 unfold impl_drop.f
 repeat' first
   | (with_reducible exact ih0 _ _ _ _ _ _ _ _)
   | (with_reducible exact ih1 _ _ _ _ _ _ _ _ _ _ _)
   | (with_reducible exact impl_GoesTo.mono _ _ _ _)
   | (with_reducible exact impl_turnGroup.mono _ _ _ _ _ _)
   | (with_reducible exact LeO.refl _)
   | (with_reducible exact LeO.none _)
   | (with_reducible refine LeO.ite ?_ ?_)
   | (with_reducible refine LeO.bind ?_ (fun _ => ?_))
   | exact ih0 _ _ _ _ _ _ _ _
   | exact ih1 _ _ _ _ _ _ _ _ _ _ _
   | exact impl_GoesTo.mono _ _ _ _
   | exact impl_turnGroup.mono _ _ _ _ _ _
   | exact LeO.none _
   | refine LeO.ite ?_ ?_
   | refine LeO.bind ?_ (fun _ => ?_)
set_option maxHeartbeats 8000000 in
set_option maxRecDepth 100000 in
theorem impl_drop.calls (k : Nat) (a0_0 : Int) (a0_1 : Int) (P0_2_ : Nat → Prop) (u9000_ : Value) (l0_2 : List (S89)) (A1 : Option Addr) (c1 : Nat) (l1 : List Int) (a2 : Int) (r1 : Int) (r2 : Int) (r3 : Int) (r4 : List Int) (r5 : List (S89)) (w0 w : World) (hB : Below w0.heap.size w0 w) (ho0_2 : Kd.R k89 89 w w0.heap.size P0_2_ u9000_ l0_2) (hr1 : ∀ W_, Kept w W_ (fun k_ => P0_2_ k_) → Kd.C (Kd.int .i64) W_ A1 l1.length l1) (hc1 : l1.length ≤ c1) (h : impl_drop.f k a0_0 a0_1 l0_2 l1 a2 = some (r1, r2, r3, r4, r5)) :
  Calls Try.prog 54 #[.agg #[.int .i64 a0_0, .int .i64 a0_1, u9000_], .slice A1 l1.length c1, .int .i64 a2] w fun e w' => ∃ v3_ : Value, e = .returned (.tuple #[.agg #[.int .i64 r1, .int .i64 r2, .int .i64 r3], v3_]) ∧ Kd.R (Kd.int .i64) 3 w' w0.heap.size (fun k_ => (P0_2_ k_ ∨ w.heap.size ≤ k_)) v3_ r4 ∧ Kd.R k89 89 w' w0.heap.size (fun k_ => (P0_2_ k_ ∨ w.heap.size ≤ k_)) u9000_ r5 ∧ Below w0.heap.size w0 w' ∧ Kept w w' (fun k_ => P0_2_ k_) := by
 have hu32 := Try.underlying32
 have hu27 := Try.underlying27
 have hu89 := Try.underlying89
 have HO0_2 := Aside0.mk (show Kd.R k89 89 w w0.heap.size (fun k_ => (P0_2_ k_ ∨ w.heap.size ≤ k_)) u9000_ l0_2 from Kd.R_mono ho0_2 (fun k_ hk => (.inl hk)))
 have HR1 := Aside0.mk hr1
 have HC1 := Aside0.mk hc1
 clear hr1 hc1
 have HK := Aside0.mk (Kept.refl w (fun k_ => P0_2_ k_))
 have HW0 := Aside0.mk hB.size
 have HB := Aside0.mk hB
 clear hB
 have H : (impl_drop.l0 k l1 a2 (([] : List Int)) 0 0 a0_0 a0_1 l0_2) = some (r1, r2, r3, r4, r5) := h
 clear h
 obtain ⟨y280, hy280⟩ : ∃ y_ : List Int, y_ = (([] : List Int)) := ⟨_, rfl⟩
 replace H : (impl_drop.l0 k l1 a2 y280 0 0 a0_0 a0_1 l0_2) = some (r1, r2, r3, r4, r5) := by first | (rw [hy280]; with_reducible exact H) | (have H2_ := (Option.bind_some _ _).symm.trans H; rw [hy280]; with_reducible exact H2_) | (have H2_ := (Option.bind_some _ _).symm.trans H; with_reducible exact H2_) | with_reducible exact H | (rw [hy280]; exact H) | exact H
 have Ny280 := Aside0.mk hy280
 clear hy280
 have H' := Aside0.mk H
 clear H
 obtain ⟨Ao4, co4, eo4⟩ := Kd.R_slice HO0_2.out
 subst eo4
 go_enter Try.func54, Try.ntmps54
 go_wp2_with (first | ((with_reducible refine gate_dst (N := 3) rfl ?_); refine box_ev (N := 3) (cs := #[.int .i64 a0_0, .int .i64 a0_1, .slice Ao4 l0_2.length co4]) (t := 32) ?_; intro gb278 hg w5 hbox hb; have BK278 := Aside0.mk (hbox); have GW278 := Aside0.mk ((by rw [hg]; exact (by first | exact HK.out.1 | exact (show Kept w _ (fun k_ => P0_2_ k_) from viaT HK).1) : w.heap.size ≤ gb278)); have GE278 := gW (w := w0) HB hg; replace HO0_2 := Aside0.mk (Kd.R_below (viaR HO0_2) hb); replace HK := Aside0.mk (Kept.below (S := (fun k_ => P0_2_ k_)) (viaT HK) hb); replace HB := bB HB hb; clear hb hbox hg) | ((with_reducible refine gate_dst (N := 6) rfl ?_); refine box_ev (N := 6) (cs := #[.int .i64 0, .int .i64 0, .int .i64 0]) (t := 27) ?_; intro gb279 hg w6 hbox hb; have BK279 := Aside0.mk (hbox); have GW279 := Aside0.mk ((by rw [hg]; exact (by first | exact HK.out.1 | exact (show Kept w _ (fun k_ => P0_2_ k_) from viaT HK).1) : w.heap.size ≤ gb279)); have GE279 := gW (w := w0) HB hg; have NB278_279 := neL BK278 hg; have NB279_278 := neG BK278 hg; replace HO0_2 := Aside0.mk (Kd.R_below (viaR HO0_2) hb); replace BK278 := kB BK278 hb; replace HK := Aside0.mk (Kept.below (S := (fun k_ => P0_2_ k_)) (viaT HK) hb); replace HB := bB HB hb; clear hb hbox hg) | ((with_reducible refine gate_dst (N := 15) rfl ?_); refine Kd.R_lit (Kd.int .i64) _ 3 ?hg (N := 15) ?hd (xs := ([] : List Int)) (inner := []) (ok := fun _ => True) (okp := fun _ => True) ?hr ?hp (fun _ hk => hk) trivial (Below.refl _ _) (Nat.le_refl _) (by simp) ?_; (case hd => rfl); (case hg => rfl); (case hr => first | (go_simp; done) | (go_simp; rfl)); (case hp => exact (Reps.none _ _)); intro v281 w7 ho8 hb hg_ hnew_; clear hg_ hnew_; (first | rw [← Ny280.out] at ho8 | (simp only [Int.reduceToNat] at ho8; rw [← Ny280.out] at ho8)); have HO282 := Aside0.mk (Kd.R_lower (Kd.R_newM (M := fun k_ => (P0_2_ k_ ∨ w.heap.size ≤ k_)) ho8 (by first | exact HK.out.1 | exact (show Kept w _ (fun k_ => P0_2_ k_) from viaT HK).1) (fun k_ h_ => .inr h_)) (below_size (viaB HB))); replace HO0_2 := Aside0.mk (Kd.R_below (viaR HO0_2) hb); replace BK278 := kB BK278 hb; replace BK279 := kB BK279 hb; replace HK := Aside0.mk (Kept.below (S := (fun k_ => P0_2_ k_)) (viaT HK) hb); replace HB := bB HB hb; clear hb ho8))
 go_loopg [2, 8, 9, 10] k (fun kq v2 v8 v9 v10 w' => ∃ (x2_1 : Int) (x8_1 : List Int) (x9_1 : Int) (x10_1 : Int) (x279002_1 : List (S89)) (x280000_1 : Int) (x280001_1 : Int) (x280002_1 : Int), v2 = .int .i64 x2_1 ∧ v9 = .int .i64 x9_1 ∧ v10 = .int .i64 x10_1 ∧ Aside0 (impl_drop.l0 kq l1 x2_1 x8_1 x9_1 x10_1 a0_0 a0_1 x279002_1 = some (r1, r2, r3, r4, r5)) ∧ Aside0 (kq ≤ k) ∧ Aside0 (Kd.R (Kd.int .i64) 3 w' w0.heap.size (fun k_ => (P0_2_ k_ ∨ w.heap.size ≤ k_)) v8 x8_1) ∧ Aside0 (Kd.R k89 89 w' w0.heap.size (fun k_ => (P0_2_ k_ ∨ w.heap.size ≤ k_)) (.slice Ao4 l0_2.length co4) x279002_1) ∧ Aside0 (w'.heap[gb278]? = some (.cells #[.int .i64 a0_0, .int .i64 a0_1, (.slice Ao4 l0_2.length co4)] 32 (0, 0))) ∧ Aside0 (w'.heap[gb279]? = some (.cells #[.int .i64 x280000_1, .int .i64 x280001_1, .int .i64 x280002_1] 27 (0, 0))) ∧ Aside0 (Kept w w' (fun k_ => P0_2_ k_)) ∧ Aside0 (Below w0.heap.size w0 w'))
 case atStart => exact ⟨(a2), (y280), (0), (0), (l0_2), (0), (0), (0), (by first | rfl | (simp; done) | (simp [*]; done)), (by first | rfl | (simp; done) | (simp [*]; done)), (by first | rfl | (simp; done) | (simp [*]; done)), H', ⟨Nat.le_refl _⟩, ⟨by (with_reducible repeat (first | apply Kd.R_alloc | apply Kd.R_drewN | apply Kd.R_drew)); exact Kd.R_mono HO282.out (fun _ hk => hk.1)⟩, ⟨viaR HO0_2⟩, ⟨viaK BK278⟩, ⟨viaK BK279⟩, ⟨viaT HK⟩, ⟨viaB HB⟩⟩
 case round =>
  clear H'
  (try clear c1); (try clear p2); (try clear c5)
  obtain ⟨x2_1, x8_1, x9_1, x10_1, x279002_1, x280000_1, x280001_1, x280002_1, rfl, rfl, rfl, HA, HK1, HO_8, HO_279002, BK278, BK279, HK, HB⟩ := hrel
  have hl279002_1 := (Kd.R_reads' HO_279002.out).1
  rw [hl279002_1] at HO_279002
  (try simp only [hl279002_1])
  (try simp only [hl279002_1] at BK278)
  (try simp only [hl279002_1] at BK279)
  (try simp only [hl279002_1] at HO_8)
  cases gk with
  | zero => exact absurd HA.out (by simp [impl_drop.l0])
  | succ k1 =>
   have H := HA.out
   clear HA
   simp only [impl_drop.l0] at H
   by_cases c9 : x10_1 < a0_0
   ·rw [if_pos c9] at H
    have c9b0 := decide_eq_true c9
    clear c9
    by_cases c10 : x8_1.length < 17592186044416
    ·rw [if_pos c10] at H
     have LMc10 := Aside0.mk c10
     clear c10
     obtain ⟨y283, hy283⟩ : ∃ y_ : List Int, y_ = (x8_1 ++ [wrap64 ((wrap64 (x10_1 * a0_1)) + x2_1)]) := ⟨_, rfl⟩
     replace H : (if 0 ≤ (wrap64 ((wrap64 (x10_1 * a0_1)) + x2_1)) then (if (wrap64 ((wrap64 (x10_1 * a0_1)) + x2_1)) < (x279002_1.length : Int) then ((impl_GoesTo.f k1 ((rd_T89 x279002_1 (wrap64 ((wrap64 (x10_1 * a0_1)) + x2_1))).f0) ((rd_T89 x279002_1 (wrap64 ((wrap64 (x10_1 * a0_1)) + x2_1))).f1) x9_1).bind fun bt288 => (if bt288.2 = true then (if ((rd_T89 x279002_1 (wrap64 ((wrap64 (x10_1 * a0_1)) + x2_1))).f0) = 3 then (impl_drop.j1 k1 l1 x2_1 y283 x10_1 (wrap64 ((wrap64 (x10_1 * a0_1)) + x2_1)) bt288.1 a0_0 a0_1 (x279002_1.set ((wrap64 ((wrap64 (x10_1 * a0_1)) + x2_1)) : Int).toNat (⟨(rd_T89 x279002_1 (wrap64 ((wrap64 (x10_1 * a0_1)) + x2_1))).f0, wrap64 (1 - ((rd_T89 x279002_1 (wrap64 ((wrap64 (x10_1 * a0_1)) + x2_1))).f1))⟩ : S89)) ((rd_T89 x279002_1 (wrap64 ((wrap64 (x10_1 * a0_1)) + x2_1))).f0) ((rd_T89 x279002_1 (wrap64 ((wrap64 (x10_1 * a0_1)) + x2_1))).f1)) else (impl_drop.j1 k1 l1 x2_1 y283 x10_1 (wrap64 ((wrap64 (x10_1 * a0_1)) + x2_1)) bt288.1 a0_0 a0_1 x279002_1 ((rd_T89 x279002_1 (wrap64 ((wrap64 (x10_1 * a0_1)) + x2_1))).f0) ((rd_T89 x279002_1 (wrap64 ((wrap64 (x10_1 * a0_1)) + x2_1))).f1))) else (some (2, x10_1, x2_1, y283, x279002_1)))) else (none)) else (none)) = some (r1, r2, r3, r4, r5) := by first | (rw [hy283]; with_reducible exact H) | (have H2_ := (Option.bind_some _ _).symm.trans H; rw [hy283]; with_reducible exact H2_) | (have H2_ := (Option.bind_some _ _).symm.trans H; with_reducible exact H2_) | with_reducible exact H | (rw [hy283]; exact H) | exact H
     have Ny283 := Aside0.mk hy283
     clear hy283
     obtain ⟨ji11, hji11⟩ : ∃ j_ : Int, (wrap64 ((wrap64 (x10_1 * a0_1)) + x2_1)) = j_ := ⟨_, rfl⟩
     replace H : (if 0 ≤ (ji11) then (if (ji11) < (x279002_1.length : Int) then ((impl_GoesTo.f k1 ((rd_T89 x279002_1 (ji11)).f0) ((rd_T89 x279002_1 (ji11)).f1) x9_1).bind fun bt288 => (if bt288.2 = true then (if ((rd_T89 x279002_1 (ji11)).f0) = 3 then (impl_drop.j1 k1 l1 x2_1 y283 x10_1 ji11 bt288.1 a0_0 a0_1 (x279002_1.set ((ji11) : Int).toNat (⟨(rd_T89 x279002_1 (ji11)).f0, wrap64 (1 - ((rd_T89 x279002_1 (ji11)).f1))⟩ : S89)) ((rd_T89 x279002_1 (ji11)).f0) ((rd_T89 x279002_1 (ji11)).f1)) else (impl_drop.j1 k1 l1 x2_1 y283 x10_1 ji11 bt288.1 a0_0 a0_1 x279002_1 ((rd_T89 x279002_1 (ji11)).f0) ((rd_T89 x279002_1 (ji11)).f1))) else (some (2, x10_1, x2_1, y283, x279002_1)))) else (none)) else (none)) = some (r1, r2, r3, r4, r5) := by first | (rw [hji11] at H; exact H) | (simp only [hji11] at H ⊢; exact H)
     (try rw [hji11] at Ny283)
     have hji11w : (IntKind.i64.wrap ((wrap64 (x10_1 * a0_1)) + x2_1)) = ji11 := (i64_w _).trans hji11
     by_cases c12 : 0 ≤ (ji11)
     ·rw [if_pos c12] at H
      have c12b0 := decide_eq_true c12
      clear c12
      by_cases c13 : (ji11) < (x279002_1.length : Int)
      ·rw [if_pos c13] at H
       have c13b0 := decide_eq_true c13
       clear c13
       replace H := Option.bind_eq_some_iff.mp H
       obtain ⟨⟨t288, t289⟩, A140, H⟩ := H
       replace H : (if t289 = true then (if ((rd_T89 x279002_1 (ji11)).f0) = 3 then (impl_drop.j1 k1 l1 x2_1 y283 x10_1 ji11 t288 a0_0 a0_1 (x279002_1.set ((ji11) : Int).toNat (⟨(rd_T89 x279002_1 (ji11)).f0, wrap64 (1 - ((rd_T89 x279002_1 (ji11)).f1))⟩ : S89)) ((rd_T89 x279002_1 (ji11)).f0) ((rd_T89 x279002_1 (ji11)).f1)) else (impl_drop.j1 k1 l1 x2_1 y283 x10_1 ji11 t288 a0_0 a0_1 x279002_1 ((rd_T89 x279002_1 (ji11)).f0) ((rd_T89 x279002_1 (ji11)).f1))) else (some (2, x10_1, x2_1, y283, x279002_1))) = some (r1, r2, r3, r4, r5) := H
       have A14 := Aside0.mk A140
       clear A140
       by_cases c15 : t289 = true
       ·subst c15
        have H1 : (if ((rd_T89 x279002_1 (ji11)).f0) = 3 then (impl_drop.j1 k1 l1 x2_1 y283 x10_1 ji11 t288 a0_0 a0_1 (x279002_1.set ((ji11) : Int).toNat (⟨(rd_T89 x279002_1 (ji11)).f0, wrap64 (1 - ((rd_T89 x279002_1 (ji11)).f1))⟩ : S89)) ((rd_T89 x279002_1 (ji11)).f0) ((rd_T89 x279002_1 (ji11)).f1)) else (impl_drop.j1 k1 l1 x2_1 y283 x10_1 ji11 t288 a0_0 a0_1 x279002_1 ((rd_T89 x279002_1 (ji11)).f0) ((rd_T89 x279002_1 (ji11)).f1))) = some (r1, r2, r3, r4, r5) := by rw [if_pos rfl] at H; exact H
        clear H
        have H := H1
        clear H1
        have HC16 := Aside0.mk H
        clear H
        have hnb17 := NB278_279.out
        have hnc17 := NB279_278.out
        have hcz18_0 := bc0 BK278
        have hcz18_1 := bc1 BK278
        have hcz18_2 := bc2 BK278
        have hfz18_0 := blk_frozen BK278.out 0
        have hfz18_1 := blk_frozen BK278.out 1
        have hfz18_2 := blk_frozen BK278.out 2
        go_upto_if 51 with (first | ((with_reducible refine gate_builtin (b := .append) (xs := #[.tmp 28, .tmp 30]) rfl ?_); at_builtin; refine Kd.R_append (Kd.int .i64) (w0 := w0) w0.heap.size rfl (.tmp 28) (.tmp 30) 43 3 (.int .i64 0) 8 rfl Try.underlying43 info3 rfl (by decide) (by omega) u8 x8_1 ji11 [.int .i64 ji11] (fun k_ => (P0_2_ k_ ∨ w.heap.size ≤ k_)) (fun _ => False) rfl rfl ?aP (fun _ hk => hk.elim) ?aF ?aO ?aB ?aS ?aL ?_; (case aP => exact rfl); (case aB => exact (viaB HB)); (case aF => exact (fun k_ hk => (.inr (Nat.le_trans (by first | exact HK.out.1 | exact (show Kept w _ (fun k_ => P0_2_ k_) from viaT HK).1) hk)))); (case aO => exact (viaR HO_8)); (case aS => exact (below_size (viaB HB))); (case aL => have := LMc10.out; omega); intro v284 w19 ho hb hg hat; rw [← Ny283.out] at ho; have HO285 := Aside0.mk (ho); replace HO_279002 := Aside0.mk (Kd.R_over' (viaR HO_279002) (Kd.R_typed (viaR HO_8)) (by decide) hg); replace BK278 := Aside0.mk (blk_grown (g := gb278) (o := .cells #[.int .i64 a0_0, .int .i64 a0_1, .slice Ao4 x279002_1.length co4] 32 (0, 0)) (viaK BK278) hg (Kd.R_ne HO_8.out BK278.out (by decide))); replace BK279 := Aside0.mk (blk_grown (g := gb279) (o := .cells #[.int .i64 x280000_1, .int .i64 x280001_1, .int .i64 x280002_1] 27 (0, 0)) (viaK BK279) hg (Kd.R_ne HO_8.out BK279.out (by decide))); replace HB := Aside0.mk (hb); replace HK := Aside0.mk (Kept.of_grown (S := (fun k_ => P0_2_ k_)) hg (viaT HK) (fun k_ e_ => (HO_8.out.1 k_ e_))); clear HO_8; clear ho hb hg hat; have hcz20_0 := bc0 BK278; have hcz20_1 := bc1 BK278; have hcz20_2 := bc2 BK278; have hfz20_0 := blk_frozen BK278.out 0; have hfz20_1 := blk_frozen BK278.out 1; have hfz20_2 := blk_frozen BK278.out 2; have p286 : 0 ≤ ((ji11) : Int) := ofD; have q286 : (ji11) < (x279002_1.length : Int) := ofD; obtain ⟨ad286, e286, hx286_0, hx286_1⟩ := at_T89 (Kd.R_reads' HO_279002.out).2.2 (ji11) p286 q286; cases e286; replace p286 := eq_true p286; replace q286 := eq_true q286) | ((with_reducible refine gate_dst (N := 12) rfl ?_); refine box_ev (N := 12) (cs := #[.int .i64 0, .int .i64 0]) (t := 89) ?_; intro gb287 hg w21 hbox hb; have BK287 := Aside0.mk (hbox); have GW287 := Aside0.mk ((by rw [hg]; exact (by first | exact HK.out.1 | exact (show Kept w _ (fun k_ => P0_2_ k_) from viaT HK).1) : w.heap.size ≤ gb287)); have GE287 := gW (w := w0) HB hg; have NB278_287 := neL BK278 hg; have NB287_278 := neG BK278 hg; have NB279_287 := neL BK279 hg; have NB287_279 := neG BK279 hg; replace HO_279002 := Aside0.mk (Kd.R_below (Kd.R_elderB (viaR HO_279002) gb287 (Nat.le_of_eq hg.symm)) hb); replace HO285 := Aside0.mk (Kd.R_below (viaR HO285) hb); replace BK278 := kB BK278 hb; replace BK279 := kB BK279 hb; replace HK := Aside0.mk (Kept.below (S := (fun k_ => P0_2_ k_)) (viaT HK) hb); replace HB := bB HB hb; clear hb hbox hg; have hnb22 := NB287_278.out; have hnc22 := NB278_287.out; have hnb23 := NB287_279.out; have hnc23 := NB279_287.out; have hcz24_0 := bc0 BK287; have hcz24_1 := bc1 BK287; have hfz24_0 := blk_frozen BK287.out 0; have hfz24_1 := blk_frozen BK287.out 1) | ((with_reducible refine gate_callee (f := 73) rfl ?_); refine goesL_ (some 40) rfl rfl Try.func73 (by kernel_rfl) rfl #[.agg #[.int .i64 ((rd_T89 x279002_1 (ji11)).f0), .int .i64 ((rd_T89 x279002_1 (ji11)).f1)], .int .i64 x9_1] rfl (by (try simp only [List.map_toArray, List.map_cons, List.map_nil]); first | done | (simp only [hji11]; rfl) | rfl | (simp only [List.length_drop, List.length_take]; rfl)) ?_; (with_reducible refine (impl_GoesTo.calls k1 ((rd_T89 x279002_1 (ji11)).f0) ((rd_T89 x279002_1 (ji11)).f1) x9_1 t288 true _ A14.out).mono ?_); rintro e w25 ⟨rfl, hb⟩; refine ⟨_, rfl, ?_⟩; replace HO_279002 := Aside0.mk (Kd.R_below (by (with_reducible repeat (first | apply Kd.R_alloc | apply Kd.R_drewN | apply Kd.R_drew)); exact (Kd.R_mono (Kd.R_far (p := ⟨gb287, 1, none⟩) (Kd.R_far (p := ⟨gb287, 0, none⟩) (Kd.R_mono HO_279002.out (fun k_ hk => (⟨hk, hk.2⟩ : _ ∧ k_ ≠ gb287))) (fun _ hk => hk.2) (.int .i64 ((rd_T89 x279002_1 (ji11)).f0))) (fun _ hk => hk.2) (.int .i64 ((rd_T89 x279002_1 (ji11)).f1))) (fun _ h_ => h_.1))) hb); replace HO285 := Aside0.mk (Kd.R_below (by (with_reducible repeat (first | apply Kd.R_alloc | apply Kd.R_drewN | apply Kd.R_drew)); exact (Kd.R_mono (Kd.R_far (p := ⟨gb287, 1, none⟩) (Kd.R_far (p := ⟨gb287, 0, none⟩) (Kd.R_types HO285.out BK287.out (by decide)) (fun _ hk => hk.2) (.int .i64 ((rd_T89 x279002_1 (ji11)).f0))) (fun _ hk => hk.2) (.int .i64 ((rd_T89 x279002_1 (ji11)).f1))) (fun _ h_ => h_.1))) hb); replace BK278 := Aside0.mk (blk_below (g := gb278) (o := .cells #[.int .i64 a0_0, .int .i64 a0_1, .slice (some ad286) x279002_1.length co4] 32 (0, 0)) (by (with_reducible repeat (first | refine blk_drewN ?_ _ | refine blk_drew ?_ | refine blk_alloc ?_ _)); refine blk_far ?_ NB278_287.out _; (with_reducible repeat (first | refine blk_drewN ?_ _ | refine blk_drew ?_ | refine blk_alloc ?_ _)); refine blk_far ?_ NB278_287.out _; (with_reducible repeat (first | refine blk_drewN ?_ _ | refine blk_drew ?_ | refine blk_alloc ?_ _)); exact BK278.out) hb); replace BK279 := Aside0.mk (blk_below (g := gb279) (o := .cells #[.int .i64 x280000_1, .int .i64 x280001_1, .int .i64 x280002_1] 27 (0, 0)) (by (with_reducible repeat (first | refine blk_drewN ?_ _ | refine blk_drew ?_ | refine blk_alloc ?_ _)); refine blk_far ?_ NB279_287.out _; (with_reducible repeat (first | refine blk_drewN ?_ _ | refine blk_drew ?_ | refine blk_alloc ?_ _)); refine blk_far ?_ NB279_287.out _; (with_reducible repeat (first | refine blk_drewN ?_ _ | refine blk_drew ?_ | refine blk_alloc ?_ _)); exact BK279.out) hb); replace BK287 := Aside0.mk (blk_below (g := gb287) (o := .cells #[.int .i64 ((rd_T89 x279002_1 (ji11)).f0), .int .i64 ((rd_T89 x279002_1 (ji11)).f1)] 89 (0, 0)) (by (with_reducible repeat (first | refine blk_drewN ?_ _ | refine blk_drew ?_ | refine blk_alloc ?_ _)); refine blk_put (cs := #[.int .i64 ((rd_T89 x279002_1 (ji11)).f0), .int .i64 0]) ?_ 1 _ rfl; (with_reducible repeat (first | refine blk_drewN ?_ _ | refine blk_drew ?_ | refine blk_alloc ?_ _)); refine blk_put (cs := #[.int .i64 0, .int .i64 0]) ?_ 0 _ rfl; (with_reducible repeat (first | refine blk_drewN ?_ _ | refine blk_drew ?_ | refine blk_alloc ?_ _)); exact BK287.out) hb); replace HK := Aside0.mk (Kept.below (S := (fun k_ => P0_2_ k_)) (viaT HK) hb); replace HB := bB HB hb; (try clear hb); (try clear hb2); (try clear hk); (try clear hi); have hcz26_0 := bc0 BK287; have hcz26_1 := bc1 BK287; have hfz26_0 := blk_frozen BK287.out 0; have hfz26_1 := blk_frozen BK287.out 1))
        (try simp only [Act.put, q1, q2, q3])
        go_cut [] (fun wc => ∃ (kq : Nat) (x279002_15 : List (S89)) (x288001_15 : Int), Aside0 (impl_drop.j1 kq l1 x2_1 y283 x10_1 ji11 t288 a0_0 a0_1 x279002_15 ((rd_T89 x279002_1 (ji11)).f0) x288001_15 = some (r1, r2, r3, r4, r5)) ∧ Aside0 (kq ≤ k1) ∧ Aside0 (Kd.R (Kd.int .i64) 3 wc w0.heap.size (fun k_ => (P0_2_ k_ ∨ w.heap.size ≤ k_)) v284 y283) ∧ Aside0 (Kd.R k89 89 wc w0.heap.size (fun k_ => (P0_2_ k_ ∨ w.heap.size ≤ k_) ∧ k_ ≠ gb287) (.slice (some ad286) x279002_1.length co4) x279002_15) ∧ Aside0 (wc.heap[gb278]? = some (.cells #[.int .i64 a0_0, .int .i64 a0_1, (.slice (some ad286) x279002_1.length co4)] 32 (0, 0))) ∧ Aside0 (wc.heap[gb279]? = some (.cells #[.int .i64 x280000_1, .int .i64 x280001_1, .int .i64 x280002_1] 27 (0, 0))) ∧ Aside0 (wc.heap[gb287]? = some (.cells #[.int .i64 ((rd_T89 x279002_1 (ji11)).f0), .int .i64 x288001_15] 89 (0, 0))) ∧ Aside0 (Kept w wc (fun k_ => P0_2_ k_)) ∧ Aside0 (Below w0.heap.size w0 wc))
        case first =>
         have H := HC16.out
         clear HC16
         by_cases c27 : ((rd_T89 x279002_1 (ji11)).f0) = 3
         ·rw [if_pos c27] at H
          have c27b0 := beq_iff_eq.mpr c27
          have c27b1 := bne_eq_false_iff_eq.mpr c27
          clear c27
          (first | rw [c27b0] | (simp only [i64_w, i32_w]; rw [c27b0]) | skip)
          obtain ⟨y290, hy290⟩ : ∃ y_ : List (S89), y_ = (x279002_1.set ((ji11) : Int).toNat (⟨(rd_T89 x279002_1 (ji11)).f0, wrap64 (1 - ((rd_T89 x279002_1 (ji11)).f1))⟩ : S89)) := ⟨_, rfl⟩
          replace H : (impl_drop.j1 k1 l1 x2_1 y283 x10_1 ji11 t288 a0_0 a0_1 y290 ((rd_T89 x279002_1 (ji11)).f0) ((rd_T89 x279002_1 (ji11)).f1)) = some (r1, r2, r3, r4, r5) := by first | (rw [hy290]; with_reducible exact H) | (have H2_ := (Option.bind_some _ _).symm.trans H; rw [hy290]; with_reducible exact H2_) | (have H2_ := (Option.bind_some _ _).symm.trans H; with_reducible exact H2_) | with_reducible exact H | (rw [hy290]; exact H) | exact H
          have Ny290 := Aside0.mk hy290
          clear hy290
          have H' := Aside0.mk H
          clear H
          have hnb29 := NB278_279.out
          have hnc29 := NB279_278.out
          have hnb30 := NB278_287.out
          have hnc30 := NB287_278.out
          have hcz31_0 := bc0 BK278
          have hcz31_1 := bc1 BK278
          have hcz31_2 := bc2 BK278
          have hfz31_0 := blk_frozen BK278.out 0
          have hfz31_1 := blk_frozen BK278.out 1
          have hfz31_2 := blk_frozen BK278.out 2
          have hnb32 := NB287_279.out
          have hnc32 := NB279_287.out
          have hcz33_0 := bc0 BK287
          have hcz33_1 := bc1 BK287
          have hfz33_0 := blk_frozen BK287.out 0
          have hfz33_1 := blk_frozen BK287.out 1
          have p28 : 0 ≤ ((ji11) : Int) := ofD
          have q28 : ((ji11) : Int) < ((x279002_1.length : Int) : Int) := ofD
          obtain ⟨go28, co28, eo28, gb28, gl28, cl28, HG28⟩ := Kd.R_form HO_279002.out (by omega)
          (first | cases eo28 | (injection eo28 with ea_ en_ ec_; (first | subst ea_ | (injection ea_ with ea_; subst ea_)); subst ec_; clear en_))
          have GB28 := Aside0.mk gb28
          have GG28 := Aside0.mk HG28
          clear gb28 gl28 HG28
          have HMgo28 := Aside0.mk (show (P0_2_ go28 ∨ w.heap.size ≤ go28) from (HO_279002.out.1 _ rfl).1)
          (first | simp only [add_plain] at hx286_0 | skip)
          (first | simp only [add_plain] at hx286_1 | skip)
          obtain ⟨ce28, hcl28, hM28, hcc28, hfr28⟩ := Kd.R_elem HO_279002.out z89 ((ji11) : Int) p28 q28
          obtain rfl := k89_openM hM28
          have hx28_0 : w25.cell? ⟨go28, ((ji11) : Int).toNat * 2, none⟩ = some (.int .i64 ((rd_T89 x279002_1 (ji11)).f0)) := hcc28 0 _ rfl
          have hx28_1 : w25.cell? ⟨go28, ((ji11) : Int).toNat * 2 + 1, none⟩ = some (.int .i64 ((rd_T89 x279002_1 (ji11)).f1)) := hcc28 1 _ rfl
          have hf28_0 : w25.frozen? ⟨go28, ((ji11) : Int).toNat * 2, none⟩ = false := hfr28 0
          have hf28_1 : w25.frozen? ⟨go28, ((ji11) : Int).toNat * 2 + 1, none⟩ = false := hfr28 1
          (try clear hcl28); (try clear hcc28); (try clear hfr28); (try clear hM28)
          replace p28 := eq_true p28
          replace q28 := eq_true q28
          have HX34 := Aside0.mk (show Kd.R k89 89 w25 w0.heap.size (fun k_ => (P0_2_ k_ ∨ w.heap.size ≤ k_) ∧ k_ ≠ gb287) (.slice (some ⟨go28, 0, none⟩) x279002_1.length co4) x279002_1 from (viaR HO_279002))
          obtain ⟨ce34, hcl34, hM34, hcc34, hfr34⟩ := Kd.R_elem HX34.out z89 ((ji11) : Int) (ofD) (by have h_ : ((ji11) : Int) < ((x279002_1.length : Int) : Int) := ofD; first | exact h_ | (have e_ := (Kd.R_reads' HO_279002.out).1; omega) | simpa using h_)
          obtain rfl := k89_openM hM34
          have HP34 := Kd.R_seg HX34.out ((ji11) : Int) (ofD) (by have h_ : ((ji11) : Int) < ((x279002_1.length : Int) : Int) := ofD; first | exact h_ | (have e_ := (Kd.R_reads' HO_279002.out).1; omega) | simpa using h_) (seg := [.int .i64 (wrap64 (1 - ((rd_T89 x279002_1 (ji11)).f1)))]) (j := 1) hcl34 hcc34 (show 2 ≤ 2 from by decide) (x' := (⟨(rd_T89 x279002_1 (ji11)).f0, wrap64 (1 - ((rd_T89 x279002_1 (ji11)).f1))⟩ : S89)) (k89_mkM _ _ _ (⟨(rd_T89 x279002_1 (ji11)).f0, wrap64 (1 - ((rd_T89 x279002_1 (ji11)).f1))⟩ : S89) ) (fun _ hk => hk)
          have hx34_1 := hcc34 1 _ rfl
          (try simp only [show (k89).sz = 2 from rfl, Nat.mul_one, Nat.add_zero] at hx34_1)
          have hf34_1 := hfr34 1
          (try simp only [show (k89).sz = 2 from rfl, Nat.mul_one, Nat.add_zero] at hf34_1)
          (try clear hcl34); (try clear hcc34); (try clear hfr34); (try clear hM34)
          go_wp2_with (first | ((with_reducible refine gate_store (t := 3) (p := 59) rfl ?_); refine store_event (t := 3) (p := 59) (v := ?vo_w35) (w1 := (w25.setCell ⟨go28, ((ji11) : Int).toNat * 2 + 1, none⟩ (.int .i64 (wrap64 (1 - ((rd_T89 x279002_1 (ji11)).f1)))))) ?hg ?ho ?hn ?hr ?_; (case ho => rfl); (case hg => rfl); (case hn => rfl); (case hr => first | (go_simp; done) | (go_simp; rfl)); intro w35 hw; have hg : w25.grownBy w35 (some go28) := (by rw [hw]; exact HP34.2); have hp_ : Kd.R k89 89 w35 w0.heap.size (fun k_ => (P0_2_ k_ ∨ w.heap.size ≤ k_) ∧ k_ ≠ gb287) (.slice (some ⟨go28, 0, none⟩) x279002_1.length co4) y290 := (by rw [hw, Ny290.out]; exact HP34.1); clear HP34; replace BK278 := Aside0.mk (blk_grown (g := gb278) (o := .cells #[.int .i64 a0_0, .int .i64 a0_1, .slice (some ⟨go28, 0, none⟩) x279002_1.length co4] 32 (0, 0)) (viaK BK278) hg (Kd.R_ne HO_279002.out BK278.out (by decide))); replace BK279 := Aside0.mk (blk_grown (g := gb279) (o := .cells #[.int .i64 x280000_1, .int .i64 x280001_1, .int .i64 x280002_1] 27 (0, 0)) (viaK BK279) hg (Kd.R_ne HO_279002.out BK279.out (by decide))); replace HO285 := Aside0.mk (Kd.R_over' (v := (.slice (some ⟨go28, 0, none⟩) x279002_1.length co4)) (viaR HO285) (Kd.R_typed HO_279002.out) (by decide) hg); replace BK287 := Aside0.mk (blk_grown (g := gb287) (o := .cells #[.int .i64 ((rd_T89 x279002_1 (ji11)).f0), .int .i64 ((rd_T89 x279002_1 (ji11)).f1)] 89 (0, 0)) (viaK BK287) hg (Kd.R_away HO_279002.out (fun _ hk => hk.2))); replace HB := Aside0.mk ((by rw [hw]; exact below_set (HB.out) GB28.out : Below w0.heap.size w0 w35)); replace HK := Aside0.mk (Kept.of_grown (S := (fun k_ => P0_2_ k_)) hg (viaT HK) (fun k_ e_ => (HO_279002.out.1 k_ e_).1)); replace HO_279002 := Aside0.mk (hp_); clear hg hw hp_))
          go_meet
          case rel => exact ⟨_, (y290), ((rd_T89 x279002_1 (ji11)).f1), H', ⟨by have := HK1.out; first | omega | exact Nat.le_refl _⟩, ⟨by (try simp only [hl279002_1]); (with_reducible repeat (first | apply Kd.R_alloc | apply Kd.R_drewN | apply Kd.R_drew)); exact HO285.out⟩, ⟨by (try simp only [hl279002_1]); (with_reducible repeat (first | apply Kd.R_alloc | apply Kd.R_drewN | apply Kd.R_drew)); exact HO_279002.out⟩, ⟨by (try simp only [hl279002_1]); (with_reducible repeat (first | refine blk_drewN ?_ _ | refine blk_drew ?_ | refine blk_alloc ?_ _)); exact BK278.out⟩, ⟨by (try simp only [hl279002_1]); (with_reducible repeat (first | refine blk_drewN ?_ _ | refine blk_drew ?_ | refine blk_alloc ?_ _)); exact BK279.out⟩, ⟨by (try simp only [hl279002_1]); (with_reducible repeat (first | refine blk_drewN ?_ _ | refine blk_drew ?_ | refine blk_alloc ?_ _)); exact BK287.out⟩, ⟨viaT HK⟩, ⟨viaB HB⟩⟩
         ·rw [if_neg c27] at H
          have c27b0 := beq_eq_false_iff_ne.mpr c27
          have c27b1 := bne_iff_ne.mpr c27
          (first | rw [c27b0] | (simp only [i64_w, i32_w]; rw [c27b0]) | skip)
          have H' := Aside0.mk H
          clear H
          go_wp2
          go_meet
          case rel => exact ⟨_, (x279002_1), ((rd_T89 x279002_1 (ji11)).f1), H', ⟨by have := HK1.out; first | omega | exact Nat.le_refl _⟩, ⟨by (try simp only [hl279002_1]); (with_reducible repeat (first | apply Kd.R_alloc | apply Kd.R_drewN | apply Kd.R_drew)); exact HO285.out⟩, ⟨by (try simp only [hl279002_1]); (with_reducible repeat (first | apply Kd.R_alloc | apply Kd.R_drewN | apply Kd.R_drew)); exact HO_279002.out⟩, ⟨by (try simp only [hl279002_1]); (with_reducible repeat (first | refine blk_drewN ?_ _ | refine blk_drew ?_ | refine blk_alloc ?_ _)); exact BK278.out⟩, ⟨by (try simp only [hl279002_1]); (with_reducible repeat (first | refine blk_drewN ?_ _ | refine blk_drew ?_ | refine blk_alloc ?_ _)); exact BK279.out⟩, ⟨by (try simp only [hl279002_1]); (with_reducible repeat (first | refine blk_drewN ?_ _ | refine blk_drew ?_ | refine blk_alloc ?_ _)); exact BK287.out⟩, ⟨viaT HK⟩, ⟨viaB HB⟩⟩
        case rest =>
         clear HC16
         (try clear c1); (try clear c2); (try clear p2); (try clear q2); (try clear hx2); (try clear c3); (try clear hx3); (try clear hf3); (try clear c5); (try clear p6); (try clear c7); (try clear c9); (try clear c9b0); (try clear c10); (try clear c12); (try clear c12b0); (try clear c13); (try clear c13b0); (try clear c15); (try clear c17); (try clear c22); (try clear c23); (try clear c27); (try clear c27b0); (try clear c27b1); (try clear c28); (try clear p28); (try clear q28); (try clear hx28); (try clear hf28); (try clear c29); (try clear c30); (try clear c32); (try clear c34); (try clear hx34); (try clear hf34)
         (try clear hcz18_0 hcz18_1 hcz18_2); (try clear hcz20_0 hcz20_1 hcz20_2); (try clear hcz24_0 hcz24_1); (try clear hcz26_0 hcz26_1); (try clear hcz31_0 hcz31_1 hcz31_2); (try clear hcz33_0 hcz33_1); (try clear hfz18_0 hfz18_1 hfz18_2); (try clear hfz20_0 hfz20_1 hfz20_2); (try clear hfz24_0 hfz24_1); (try clear hfz26_0 hfz26_1); (try clear hfz31_0 hfz31_1 hfz31_2); (try clear hfz33_0 hfz33_1)
         (try clear hx286_0); (try clear hx286_1); (try clear hx28_0); (try clear hx28_1); (try clear hx34_1); (try clear p2); (try clear p28); (try clear p286); (try clear q28); (try clear q286)
         obtain ⟨kq, x279002_15, x288001_15, HA, HJ15, HO_8, HO_279002, BK278, BK279, BK287, HK, HB⟩ := hcut
         have hl279002_15 := (Kd.R_reads' HO_279002.out).1
         rw [hl279002_15] at HO_279002
         (try simp only [hl279002_15])
         (try simp only [hl279002_15] at BK278)
         (try simp only [hl279002_15] at BK279)
         (try simp only [hl279002_15] at BK287)
         (try simp only [hl279002_15] at HO_8)
         cases kq with
         | zero => exact absurd HA.out (by simp [impl_drop.j1])
         | succ kj15 =>
          have H := HA.out
          clear HA
          simp only [impl_drop.j1] at H
          by_cases c36 : ((rd_T89 x279002_1 (ji11)).f0) = 6
          ·rw [if_pos c36] at H
           have c36b0 := beq_iff_eq.mpr c36
           have c36b1 := bne_eq_false_iff_eq.mpr c36
           clear c36
           replace H := Option.bind_eq_some_iff.mp H
           obtain ⟨t291, A370, H⟩ := H
           replace H : (if (wrap64 (x2_1 + t288)) < 0 then (some (3, x10_1, wrap64 (x2_1 + t288), y283, t291)) else (if (wrap64 (x2_1 + t288)) ≥ a0_1 then (some (3, x10_1, wrap64 (x2_1 + t288), y283, t291)) else (impl_drop.l0 kj15 l1 (wrap64 (x2_1 + t288)) y283 (wrap64 (-t288)) (wrap64 (x10_1 + 1)) a0_0 a0_1 t291))) = some (r1, r2, r3, r4, r5) := H
           have A37 := Aside0.mk A370
           clear A370
           by_cases c38 : (wrap64 (x2_1 + t288)) < 0
           ·rw [if_pos c38] at H
            have c38b0 := decide_eq_true c38
            clear c38
            simp only [Option.some.injEq, Prod.mk.injEq] at H
            obtain ⟨rfl, rfl, rfl, rfl, rfl⟩ := H
            have hnb39 := NB287_278.out
            have hnc39 := NB278_287.out
            have hnb40 := NB287_279.out
            have hnc40 := NB279_287.out
            have hcz41_0 := bc0 BK287
            have hcz41_1 := bc1 BK287
            have hfz41_0 := blk_frozen BK287.out 0
            have hfz41_1 := blk_frozen BK287.out 1
            have hnb42 := NB278_279.out
            have hnc42 := NB279_278.out
            have hcz43_0 := bc0 BK278
            have hcz43_1 := bc1 BK278
            have hcz43_2 := bc2 BK278
            have hfz43_0 := blk_frozen BK278.out 0
            have hfz43_1 := blk_frozen BK278.out 1
            have hfz43_2 := blk_frozen BK278.out 2
            go_wp2_with (first | ((with_reducible refine gate_callee (f := 74) rfl ?_); refine goesL_ (some 66) rfl rfl Try.func74 (by kernel_rfl) rfl #[.agg #[.int .i64 a0_0, .int .i64 a0_1, .slice (some ad286) x279002_15.length co4], .slice A1 l1.length c1, .int .i64 ji11] rfl (by (try simp only [List.map_toArray, List.map_cons, List.map_nil]); first | done | (simp only [hji11]; rfl) | rfl | (simp only [List.length_drop, List.length_take]; rfl)) ?_; (with_reducible refine (impl_turnGroup.calls kj15 a0_0 a0_1 (fun k_ => some k_ = (.slice (some ad286) x279002_15.length co4 : Value).ownBlock) (.slice (some ad286) x279002_15.length co4) x279002_15 _ _ l1 ji11 t291 w0 _ ?side1 ?side2 ?side3 ?side4 A37.out).mono ?_); (case side1 => repeat (first | (with_reducible first | exact HB.out | apply below_alloc | apply pw_below_drewN | apply below_drew1 | refine below_set ?_ GE278.out | refine below_set ?_ GE279.out | refine below_set ?_ GE287.out) | exact HB.out)); (case side2 => exact Kd.R_tight rfl HO_279002.out); (case side3 => exact Kd.C_kept_call HR1.out (viaT HK) (fun k_ hs_ => (fun e_ => (HO_279002.out.1 k_ e_.symm).1) hs_)); (case side4 => exact HC1.out); rintro e w44 ⟨rfl, hy0, hb, hkp⟩; refine ⟨_, rfl, ?_⟩; replace HO_8 := Aside0.mk (Kd.R_mono (ok' := fun k_ => (P0_2_ k_ ∨ w.heap.size ≤ k_)) (Kd.R_keptB ((Kd.R_apart' HO_8.out (Kd.R_typed HO_279002.out) (by decide))) hkp (fun k_ hk_ hs_ => (hk_.2) hs_)) (fun k_ hk_ => hk_.1.1)); replace BK278 := Aside0.mk (blk_kept (viaK BK278) hkp (fun hs_ => (fun e_ => (Kd.R_ne HO_279002.out BK278.out (by decide)) e_) hs_)); replace BK279 := Aside0.mk (blk_kept (viaK BK279) hkp (fun hs_ => (fun e_ => (Kd.R_ne HO_279002.out BK279.out (by decide)) e_) hs_)); replace BK287 := Aside0.mk (blk_kept (viaK BK287) hkp (fun hs_ => (fun e_ => (Kd.R_away HO_279002.out (fun _ hk => hk.2)) e_) hs_)); replace HK := Aside0.mk (Kept.then_ (S := (fun k_ => P0_2_ k_)) (viaT HK) hkp (fun k_ hs_ => (fun e_ => (HO_279002.out.1 k_ e_.symm).1) hs_)); replace HO_279002 := Aside0.mk (Kd.R_reok rfl hy0 (fun k_ e_ => HO_279002.out.1 k_ e_)); replace HB := Aside0.mk (hb); (try clear hb); (try clear hkp); (try clear hy0); have hcz45_0 := bc0 BK279; have hcz45_1 := bc1 BK279; have hcz45_2 := bc2 BK279; have hfz45_0 := blk_frozen BK279.out 0; have hfz45_1 := blk_frozen BK279.out 1; have hfz45_2 := blk_frozen BK279.out 2))
            refine bodyPost_ret (results_ct rfl _ _ gb279 27 #[.int .i64 3, .int .i64 x10_1, .int .i64 (wrap64 (x2_1 + t288))] (0, 0) _ rfl (by (with_reducible repeat (first | refine blk_drewN ?_ _ | refine blk_drew ?_ | refine blk_alloc ?_ _)); refine blk_put (cs := #[.int .i64 3, .int .i64 x10_1, .int .i64 x280002_1]) ?_ 2 _ rfl; (with_reducible repeat (first | refine blk_drewN ?_ _ | refine blk_drew ?_ | refine blk_alloc ?_ _)); refine blk_put (cs := #[.int .i64 3, .int .i64 x280001_1, .int .i64 x280002_1]) ?_ 1 _ rfl; (with_reducible repeat (first | refine blk_drewN ?_ _ | refine blk_drew ?_ | refine blk_alloc ?_ _)); refine blk_put (cs := #[.int .i64 x280000_1, .int .i64 x280001_1, .int .i64 x280002_1]) ?_ 0 _ rfl; (with_reducible repeat (first | refine blk_drewN ?_ _ | refine blk_drew ?_ | refine blk_alloc ?_ _)); exact BK279.out) Try.underlying27 rfl (by kernel_rfl)) rfl ?_
            exact ⟨_, by first | rfl | (simp [errW_none, errW_some] <;> rfl) | (simp only [← hji11]; first | rfl | (simp [errW_none, errW_some] <;> rfl)) | (simp [*, errW_none, errW_some] <;> rfl), by (with_reducible repeat (first | apply Kd.R_alloc | apply Kd.R_drewN | apply Kd.R_drew)); exact Kd.R_mono (Kd.R_far (p := ⟨gb279, 2, none⟩) (Kd.R_far (p := ⟨gb279, 1, none⟩) (Kd.R_far (p := ⟨gb279, 0, none⟩) (Kd.R_types HO_8.out BK279.out (by decide)) (fun _ hk => hk.2) (.int .i64 3)) (fun _ hk => hk.2) (.int .i64 x10_1)) (fun _ hk => hk.2) (.int .i64 (wrap64 (x2_1 + t288)))) (fun _ hk => hk.1), (by first | exact (by (with_reducible repeat (first | apply Kd.R_alloc | apply Kd.R_drewN | apply Kd.R_drew)); exact Kd.R_mono (Kd.R_far (p := ⟨gb279, 2, none⟩) (Kd.R_far (p := ⟨gb279, 1, none⟩) (Kd.R_far (p := ⟨gb279, 0, none⟩) (Kd.R_types HO_279002.out BK279.out (by decide)) (fun _ hk => hk.2) (.int .i64 3)) (fun _ hk => hk.2) (.int .i64 x10_1)) (fun _ hk => hk.2) (.int .i64 (wrap64 (x2_1 + t288)))) (fun _ hk => hk.1.1)) | (simp only [hl279002_1, hl279002_15]; exact (by (with_reducible repeat (first | apply Kd.R_alloc | apply Kd.R_drewN | apply Kd.R_drew)); exact Kd.R_mono (Kd.R_far (p := ⟨gb279, 2, none⟩) (Kd.R_far (p := ⟨gb279, 1, none⟩) (Kd.R_far (p := ⟨gb279, 0, none⟩) (Kd.R_types HO_279002.out BK279.out (by decide)) (fun _ hk => hk.2) (.int .i64 3)) (fun _ hk => hk.2) (.int .i64 x10_1)) (fun _ hk => hk.2) (.int .i64 (wrap64 (x2_1 + t288)))) (fun _ hk => hk.1.1)))), viaB HB, viaT HK⟩
           ·rw [if_neg c38] at H
            have c38b0 := decide_eq_false c38
            (try simp only [hl279002_1] at c38b0)
            (try simp only [hl279002_15] at c38b0)
            clear c38
            by_cases c46 : (wrap64 (x2_1 + t288)) ≥ a0_1
            ·rw [if_pos c46] at H
             have c46b0 := decide_eq_true c46
             clear c46
             simp only [Option.some.injEq, Prod.mk.injEq] at H
             obtain ⟨rfl, rfl, rfl, rfl, rfl⟩ := H
             have hnb47 := NB287_278.out
             have hnc47 := NB278_287.out
             have hnb48 := NB287_279.out
             have hnc48 := NB279_287.out
             have hcz49_0 := bc0 BK287
             have hcz49_1 := bc1 BK287
             have hfz49_0 := blk_frozen BK287.out 0
             have hfz49_1 := blk_frozen BK287.out 1
             have hnb50 := NB278_279.out
             have hnc50 := NB279_278.out
             have hcz51_0 := bc0 BK278
             have hcz51_1 := bc1 BK278
             have hcz51_2 := bc2 BK278
             have hfz51_0 := blk_frozen BK278.out 0
             have hfz51_1 := blk_frozen BK278.out 1
             have hfz51_2 := blk_frozen BK278.out 2
             go_wp2_with (first | ((with_reducible refine gate_callee (f := 74) rfl ?_); refine goesL_ (some 66) rfl rfl Try.func74 (by kernel_rfl) rfl #[.agg #[.int .i64 a0_0, .int .i64 a0_1, .slice (some ad286) x279002_15.length co4], .slice A1 l1.length c1, .int .i64 ji11] rfl (by (try simp only [List.map_toArray, List.map_cons, List.map_nil]); first | done | (simp only [hji11]; rfl) | rfl | (simp only [List.length_drop, List.length_take]; rfl)) ?_; (with_reducible refine (impl_turnGroup.calls kj15 a0_0 a0_1 (fun k_ => some k_ = (.slice (some ad286) x279002_15.length co4 : Value).ownBlock) (.slice (some ad286) x279002_15.length co4) x279002_15 _ _ l1 ji11 t291 w0 _ ?side1 ?side2 ?side3 ?side4 A37.out).mono ?_); (case side1 => repeat (first | (with_reducible first | exact HB.out | apply below_alloc | apply pw_below_drewN | apply below_drew1 | refine below_set ?_ GE278.out | refine below_set ?_ GE279.out | refine below_set ?_ GE287.out) | exact HB.out)); (case side2 => exact Kd.R_tight rfl HO_279002.out); (case side3 => exact Kd.C_kept_call HR1.out (viaT HK) (fun k_ hs_ => (fun e_ => (HO_279002.out.1 k_ e_.symm).1) hs_)); (case side4 => exact HC1.out); rintro e w52 ⟨rfl, hy0, hb, hkp⟩; refine ⟨_, rfl, ?_⟩; replace HO_8 := Aside0.mk (Kd.R_mono (ok' := fun k_ => (P0_2_ k_ ∨ w.heap.size ≤ k_)) (Kd.R_keptB ((Kd.R_apart' HO_8.out (Kd.R_typed HO_279002.out) (by decide))) hkp (fun k_ hk_ hs_ => (hk_.2) hs_)) (fun k_ hk_ => hk_.1.1)); replace BK278 := Aside0.mk (blk_kept (viaK BK278) hkp (fun hs_ => (fun e_ => (Kd.R_ne HO_279002.out BK278.out (by decide)) e_) hs_)); replace BK279 := Aside0.mk (blk_kept (viaK BK279) hkp (fun hs_ => (fun e_ => (Kd.R_ne HO_279002.out BK279.out (by decide)) e_) hs_)); replace BK287 := Aside0.mk (blk_kept (viaK BK287) hkp (fun hs_ => (fun e_ => (Kd.R_away HO_279002.out (fun _ hk => hk.2)) e_) hs_)); replace HK := Aside0.mk (Kept.then_ (S := (fun k_ => P0_2_ k_)) (viaT HK) hkp (fun k_ hs_ => (fun e_ => (HO_279002.out.1 k_ e_.symm).1) hs_)); replace HO_279002 := Aside0.mk (Kd.R_reok rfl hy0 (fun k_ e_ => HO_279002.out.1 k_ e_)); replace HB := Aside0.mk (hb); (try clear hb); (try clear hkp); (try clear hy0); have hcz53_0 := bc0 BK278; have hcz53_1 := bc1 BK278; have hcz53_2 := bc2 BK278; have hfz53_0 := blk_frozen BK278.out 0; have hfz53_1 := blk_frozen BK278.out 1; have hfz53_2 := blk_frozen BK278.out 2; have hcz54_0 := bc0 BK279; have hcz54_1 := bc1 BK279; have hcz54_2 := bc2 BK279; have hfz54_0 := blk_frozen BK279.out 0; have hfz54_1 := blk_frozen BK279.out 1; have hfz54_2 := blk_frozen BK279.out 2))
             refine bodyPost_ret (results_ct rfl _ _ gb279 27 #[.int .i64 3, .int .i64 x10_1, .int .i64 (wrap64 (x2_1 + t288))] (0, 0) _ rfl (by (with_reducible repeat (first | refine blk_drewN ?_ _ | refine blk_drew ?_ | refine blk_alloc ?_ _)); refine blk_put (cs := #[.int .i64 3, .int .i64 x10_1, .int .i64 x280002_1]) ?_ 2 _ rfl; (with_reducible repeat (first | refine blk_drewN ?_ _ | refine blk_drew ?_ | refine blk_alloc ?_ _)); refine blk_put (cs := #[.int .i64 3, .int .i64 x280001_1, .int .i64 x280002_1]) ?_ 1 _ rfl; (with_reducible repeat (first | refine blk_drewN ?_ _ | refine blk_drew ?_ | refine blk_alloc ?_ _)); refine blk_put (cs := #[.int .i64 x280000_1, .int .i64 x280001_1, .int .i64 x280002_1]) ?_ 0 _ rfl; (with_reducible repeat (first | refine blk_drewN ?_ _ | refine blk_drew ?_ | refine blk_alloc ?_ _)); exact BK279.out) Try.underlying27 rfl (by kernel_rfl)) rfl ?_
             exact ⟨_, by first | rfl | (simp [errW_none, errW_some] <;> rfl) | (simp only [← hji11]; first | rfl | (simp [errW_none, errW_some] <;> rfl)) | (simp [*, errW_none, errW_some] <;> rfl), by (with_reducible repeat (first | apply Kd.R_alloc | apply Kd.R_drewN | apply Kd.R_drew)); exact Kd.R_mono (Kd.R_far (p := ⟨gb279, 2, none⟩) (Kd.R_far (p := ⟨gb279, 1, none⟩) (Kd.R_far (p := ⟨gb279, 0, none⟩) (Kd.R_types HO_8.out BK279.out (by decide)) (fun _ hk => hk.2) (.int .i64 3)) (fun _ hk => hk.2) (.int .i64 x10_1)) (fun _ hk => hk.2) (.int .i64 (wrap64 (x2_1 + t288)))) (fun _ hk => hk.1), (by first | exact (by (with_reducible repeat (first | apply Kd.R_alloc | apply Kd.R_drewN | apply Kd.R_drew)); exact Kd.R_mono (Kd.R_far (p := ⟨gb279, 2, none⟩) (Kd.R_far (p := ⟨gb279, 1, none⟩) (Kd.R_far (p := ⟨gb279, 0, none⟩) (Kd.R_types HO_279002.out BK279.out (by decide)) (fun _ hk => hk.2) (.int .i64 3)) (fun _ hk => hk.2) (.int .i64 x10_1)) (fun _ hk => hk.2) (.int .i64 (wrap64 (x2_1 + t288)))) (fun _ hk => hk.1.1)) | (simp only [hl279002_1, hl279002_15]; exact (by (with_reducible repeat (first | apply Kd.R_alloc | apply Kd.R_drewN | apply Kd.R_drew)); exact Kd.R_mono (Kd.R_far (p := ⟨gb279, 2, none⟩) (Kd.R_far (p := ⟨gb279, 1, none⟩) (Kd.R_far (p := ⟨gb279, 0, none⟩) (Kd.R_types HO_279002.out BK279.out (by decide)) (fun _ hk => hk.2) (.int .i64 3)) (fun _ hk => hk.2) (.int .i64 x10_1)) (fun _ hk => hk.2) (.int .i64 (wrap64 (x2_1 + t288)))) (fun _ hk => hk.1.1)))), viaB HB, viaT HK⟩
            ·rw [if_neg c46] at H
             have c46b0 := decide_eq_false c46
             (try simp only [hl279002_1] at c46b0)
             (try simp only [hl279002_15] at c46b0)
             clear c46
             have H' := Aside0.mk H
             clear H
             have hnb55 := NB287_278.out
             have hnc55 := NB278_287.out
             have hnb56 := NB287_279.out
             have hnc56 := NB279_287.out
             have hcz57_0 := bc0 BK287
             have hcz57_1 := bc1 BK287
             have hfz57_0 := blk_frozen BK287.out 0
             have hfz57_1 := blk_frozen BK287.out 1
             have hnb58 := NB278_279.out
             have hnc58 := NB279_278.out
             have hcz59_0 := bc0 BK278
             have hcz59_1 := bc1 BK278
             have hcz59_2 := bc2 BK278
             have hfz59_0 := blk_frozen BK278.out 0
             have hfz59_1 := blk_frozen BK278.out 1
             have hfz59_2 := blk_frozen BK278.out 2
             go_wp2_with (first | ((with_reducible refine gate_callee (f := 74) rfl ?_); refine goesL_ (some 66) rfl rfl Try.func74 (by kernel_rfl) rfl #[.agg #[.int .i64 a0_0, .int .i64 a0_1, .slice (some ad286) x279002_15.length co4], .slice A1 l1.length c1, .int .i64 ji11] rfl (by (try simp only [List.map_toArray, List.map_cons, List.map_nil]); first | done | (simp only [hji11]; rfl) | rfl | (simp only [List.length_drop, List.length_take]; rfl)) ?_; (with_reducible refine (impl_turnGroup.calls kj15 a0_0 a0_1 (fun k_ => some k_ = (.slice (some ad286) x279002_15.length co4 : Value).ownBlock) (.slice (some ad286) x279002_15.length co4) x279002_15 _ _ l1 ji11 t291 w0 _ ?side1 ?side2 ?side3 ?side4 A37.out).mono ?_); (case side1 => repeat (first | (with_reducible first | exact HB.out | apply below_alloc | apply pw_below_drewN | apply below_drew1 | refine below_set ?_ GE278.out | refine below_set ?_ GE279.out | refine below_set ?_ GE287.out) | exact HB.out)); (case side2 => exact Kd.R_tight rfl HO_279002.out); (case side3 => exact Kd.C_kept_call HR1.out (viaT HK) (fun k_ hs_ => (fun e_ => (HO_279002.out.1 k_ e_.symm).1) hs_)); (case side4 => exact HC1.out); rintro e w60 ⟨rfl, hy0, hb, hkp⟩; refine ⟨_, rfl, ?_⟩; replace HO_8 := Aside0.mk (Kd.R_mono (ok' := fun k_ => (P0_2_ k_ ∨ w.heap.size ≤ k_)) (Kd.R_keptB ((Kd.R_apart' HO_8.out (Kd.R_typed HO_279002.out) (by decide))) hkp (fun k_ hk_ hs_ => (hk_.2) hs_)) (fun k_ hk_ => hk_.1.1)); replace BK278 := Aside0.mk (blk_kept (viaK BK278) hkp (fun hs_ => (fun e_ => (Kd.R_ne HO_279002.out BK278.out (by decide)) e_) hs_)); replace BK279 := Aside0.mk (blk_kept (viaK BK279) hkp (fun hs_ => (fun e_ => (Kd.R_ne HO_279002.out BK279.out (by decide)) e_) hs_)); replace BK287 := Aside0.mk (blk_kept (viaK BK287) hkp (fun hs_ => (fun e_ => (Kd.R_away HO_279002.out (fun _ hk => hk.2)) e_) hs_)); replace HK := Aside0.mk (Kept.then_ (S := (fun k_ => P0_2_ k_)) (viaT HK) hkp (fun k_ hs_ => (fun e_ => (HO_279002.out.1 k_ e_.symm).1) hs_)); replace HO_279002 := Aside0.mk (Kd.R_reok rfl hy0 (fun k_ e_ => HO_279002.out.1 k_ e_)); replace HB := Aside0.mk (hb); (try clear hb); (try clear hkp); (try clear hy0); have hcz61_0 := bc0 BK278; have hcz61_1 := bc1 BK278; have hcz61_2 := bc2 BK278; have hfz61_0 := blk_frozen BK278.out 0; have hfz61_1 := blk_frozen BK278.out 1; have hfz61_2 := blk_frozen BK278.out 2))
             (try simp only [← hl279002_1, ← hl279002_15])
             go_roundg kj15
             case measure => have := HK1.out; have := HJ15.out; omega
             case rel => exact ⟨(wrap64 (x2_1 + t288)), (y283), (wrap64 (-t288)), (wrap64 (x10_1 + 1)), (t291), (x280000_1), (x280001_1), (x280002_1), (by first | rfl | (simp; done) | (simp [*]; done)), (by first | rfl | (simp; done) | (simp [*]; done)), (by first | rfl | (simp; done) | (simp [*]; done)), H', ⟨by have := HK1.out; have := HJ15.out; omega⟩, ⟨by (try simp only [hl279002_1]); (try simp only [hl279002_15]); (with_reducible repeat (first | apply Kd.R_alloc | apply Kd.R_drewN | apply Kd.R_drew)); exact HO_8.out⟩, ⟨by (try simp only [hl279002_1]); (try simp only [hl279002_15]); (with_reducible repeat (first | apply Kd.R_alloc | apply Kd.R_drewN | apply Kd.R_drew)); exact Kd.R_mono HO_279002.out (fun _ hk => hk.1)⟩, ⟨by (try simp only [hl279002_1]); (try simp only [hl279002_15]); (with_reducible repeat (first | refine blk_drewN ?_ _ | refine blk_drew ?_ | refine blk_alloc ?_ _)); exact BK278.out⟩, ⟨by (try simp only [hl279002_1]); (try simp only [hl279002_15]); (with_reducible repeat (first | refine blk_drewN ?_ _ | refine blk_drew ?_ | refine blk_alloc ?_ _)); exact BK279.out⟩, ⟨viaT HK⟩, ⟨viaB HB⟩⟩
          ·rw [if_neg c36] at H
           have c36b0 := beq_eq_false_iff_ne.mpr c36
           have c36b1 := bne_iff_ne.mpr c36
           by_cases c62 : (wrap64 (x2_1 + t288)) < 0
           ·rw [if_pos c62] at H
            have c62b0 := decide_eq_true c62
            clear c62
            simp only [Option.some.injEq, Prod.mk.injEq] at H
            obtain ⟨rfl, rfl, rfl, rfl, rfl⟩ := H
            have hnb63 := NB287_278.out
            have hnc63 := NB278_287.out
            have hnb64 := NB287_279.out
            have hnc64 := NB279_287.out
            have hcz65_0 := bc0 BK287
            have hcz65_1 := bc1 BK287
            have hfz65_0 := blk_frozen BK287.out 0
            have hfz65_1 := blk_frozen BK287.out 1
            have hnb66 := NB279_278.out
            have hnc66 := NB278_279.out
            have hcz67_0 := bc0 BK279
            have hcz67_1 := bc1 BK279
            have hcz67_2 := bc2 BK279
            have hfz67_0 := blk_frozen BK279.out 0
            have hfz67_1 := blk_frozen BK279.out 1
            have hfz67_2 := blk_frozen BK279.out 2
            go_wp2
            refine bodyPost_ret (results_ct rfl _ _ gb279 27 #[.int .i64 3, .int .i64 x10_1, .int .i64 (wrap64 (x2_1 + t288))] (0, 0) _ rfl (by (with_reducible repeat (first | refine blk_drewN ?_ _ | refine blk_drew ?_ | refine blk_alloc ?_ _)); refine blk_put (cs := #[.int .i64 3, .int .i64 x10_1, .int .i64 x280002_1]) ?_ 2 _ rfl; (with_reducible repeat (first | refine blk_drewN ?_ _ | refine blk_drew ?_ | refine blk_alloc ?_ _)); refine blk_put (cs := #[.int .i64 3, .int .i64 x280001_1, .int .i64 x280002_1]) ?_ 1 _ rfl; (with_reducible repeat (first | refine blk_drewN ?_ _ | refine blk_drew ?_ | refine blk_alloc ?_ _)); refine blk_put (cs := #[.int .i64 x280000_1, .int .i64 x280001_1, .int .i64 x280002_1]) ?_ 0 _ rfl; (with_reducible repeat (first | refine blk_drewN ?_ _ | refine blk_drew ?_ | refine blk_alloc ?_ _)); exact BK279.out) Try.underlying27 rfl (by kernel_rfl)) rfl ?_
            exact ⟨_, by first | rfl | (simp [errW_none, errW_some] <;> rfl) | (simp only [← hji11]; first | rfl | (simp [errW_none, errW_some] <;> rfl)) | (simp [*, errW_none, errW_some] <;> rfl), by (with_reducible repeat (first | apply Kd.R_alloc | apply Kd.R_drewN | apply Kd.R_drew)); exact Kd.R_mono (Kd.R_far (p := ⟨gb279, 2, none⟩) (Kd.R_far (p := ⟨gb279, 1, none⟩) (Kd.R_far (p := ⟨gb279, 0, none⟩) (Kd.R_types HO_8.out BK279.out (by decide)) (fun _ hk => hk.2) (.int .i64 3)) (fun _ hk => hk.2) (.int .i64 x10_1)) (fun _ hk => hk.2) (.int .i64 (wrap64 (x2_1 + t288)))) (fun _ hk => hk.1), (by first | exact (by (with_reducible repeat (first | apply Kd.R_alloc | apply Kd.R_drewN | apply Kd.R_drew)); exact Kd.R_mono (Kd.R_far (p := ⟨gb279, 2, none⟩) (Kd.R_far (p := ⟨gb279, 1, none⟩) (Kd.R_far (p := ⟨gb279, 0, none⟩) (Kd.R_types HO_279002.out BK279.out (by decide)) (fun _ hk => hk.2) (.int .i64 3)) (fun _ hk => hk.2) (.int .i64 x10_1)) (fun _ hk => hk.2) (.int .i64 (wrap64 (x2_1 + t288)))) (fun _ hk => hk.1.1)) | (simp only [hl279002_1, hl279002_15]; exact (by (with_reducible repeat (first | apply Kd.R_alloc | apply Kd.R_drewN | apply Kd.R_drew)); exact Kd.R_mono (Kd.R_far (p := ⟨gb279, 2, none⟩) (Kd.R_far (p := ⟨gb279, 1, none⟩) (Kd.R_far (p := ⟨gb279, 0, none⟩) (Kd.R_types HO_279002.out BK279.out (by decide)) (fun _ hk => hk.2) (.int .i64 3)) (fun _ hk => hk.2) (.int .i64 x10_1)) (fun _ hk => hk.2) (.int .i64 (wrap64 (x2_1 + t288)))) (fun _ hk => hk.1.1)))), viaB HB, viaT HK⟩
           ·rw [if_neg c62] at H
            have c62b0 := decide_eq_false c62
            (try simp only [hl279002_1] at c62b0)
            (try simp only [hl279002_15] at c62b0)
            clear c62
            by_cases c68 : (wrap64 (x2_1 + t288)) ≥ a0_1
            ·rw [if_pos c68] at H
             have c68b0 := decide_eq_true c68
             clear c68
             simp only [Option.some.injEq, Prod.mk.injEq] at H
             obtain ⟨rfl, rfl, rfl, rfl, rfl⟩ := H
             have hnb69 := NB287_278.out
             have hnc69 := NB278_287.out
             have hnb70 := NB287_279.out
             have hnc70 := NB279_287.out
             have hcz71_0 := bc0 BK287
             have hcz71_1 := bc1 BK287
             have hfz71_0 := blk_frozen BK287.out 0
             have hfz71_1 := blk_frozen BK287.out 1
             have hnb72 := NB278_279.out
             have hnc72 := NB279_278.out
             have hcz73_0 := bc0 BK278
             have hcz73_1 := bc1 BK278
             have hcz73_2 := bc2 BK278
             have hfz73_0 := blk_frozen BK278.out 0
             have hfz73_1 := blk_frozen BK278.out 1
             have hfz73_2 := blk_frozen BK278.out 2
             have hcz74_0 := bc0 BK279
             have hcz74_1 := bc1 BK279
             have hcz74_2 := bc2 BK279
             have hfz74_0 := blk_frozen BK279.out 0
             have hfz74_1 := blk_frozen BK279.out 1
             have hfz74_2 := blk_frozen BK279.out 2
             go_wp2
             refine bodyPost_ret (results_ct rfl _ _ gb279 27 #[.int .i64 3, .int .i64 x10_1, .int .i64 (wrap64 (x2_1 + t288))] (0, 0) _ rfl (by (with_reducible repeat (first | refine blk_drewN ?_ _ | refine blk_drew ?_ | refine blk_alloc ?_ _)); refine blk_put (cs := #[.int .i64 3, .int .i64 x10_1, .int .i64 x280002_1]) ?_ 2 _ rfl; (with_reducible repeat (first | refine blk_drewN ?_ _ | refine blk_drew ?_ | refine blk_alloc ?_ _)); refine blk_put (cs := #[.int .i64 3, .int .i64 x280001_1, .int .i64 x280002_1]) ?_ 1 _ rfl; (with_reducible repeat (first | refine blk_drewN ?_ _ | refine blk_drew ?_ | refine blk_alloc ?_ _)); refine blk_put (cs := #[.int .i64 x280000_1, .int .i64 x280001_1, .int .i64 x280002_1]) ?_ 0 _ rfl; (with_reducible repeat (first | refine blk_drewN ?_ _ | refine blk_drew ?_ | refine blk_alloc ?_ _)); exact BK279.out) Try.underlying27 rfl (by kernel_rfl)) rfl ?_
             exact ⟨_, by first | rfl | (simp [errW_none, errW_some] <;> rfl) | (simp only [← hji11]; first | rfl | (simp [errW_none, errW_some] <;> rfl)) | (simp [*, errW_none, errW_some] <;> rfl), by (with_reducible repeat (first | apply Kd.R_alloc | apply Kd.R_drewN | apply Kd.R_drew)); exact Kd.R_mono (Kd.R_far (p := ⟨gb279, 2, none⟩) (Kd.R_far (p := ⟨gb279, 1, none⟩) (Kd.R_far (p := ⟨gb279, 0, none⟩) (Kd.R_types HO_8.out BK279.out (by decide)) (fun _ hk => hk.2) (.int .i64 3)) (fun _ hk => hk.2) (.int .i64 x10_1)) (fun _ hk => hk.2) (.int .i64 (wrap64 (x2_1 + t288)))) (fun _ hk => hk.1), (by first | exact (by (with_reducible repeat (first | apply Kd.R_alloc | apply Kd.R_drewN | apply Kd.R_drew)); exact Kd.R_mono (Kd.R_far (p := ⟨gb279, 2, none⟩) (Kd.R_far (p := ⟨gb279, 1, none⟩) (Kd.R_far (p := ⟨gb279, 0, none⟩) (Kd.R_types HO_279002.out BK279.out (by decide)) (fun _ hk => hk.2) (.int .i64 3)) (fun _ hk => hk.2) (.int .i64 x10_1)) (fun _ hk => hk.2) (.int .i64 (wrap64 (x2_1 + t288)))) (fun _ hk => hk.1.1)) | (simp only [hl279002_1, hl279002_15]; exact (by (with_reducible repeat (first | apply Kd.R_alloc | apply Kd.R_drewN | apply Kd.R_drew)); exact Kd.R_mono (Kd.R_far (p := ⟨gb279, 2, none⟩) (Kd.R_far (p := ⟨gb279, 1, none⟩) (Kd.R_far (p := ⟨gb279, 0, none⟩) (Kd.R_types HO_279002.out BK279.out (by decide)) (fun _ hk => hk.2) (.int .i64 3)) (fun _ hk => hk.2) (.int .i64 x10_1)) (fun _ hk => hk.2) (.int .i64 (wrap64 (x2_1 + t288)))) (fun _ hk => hk.1.1)))), viaB HB, viaT HK⟩
            ·rw [if_neg c68] at H
             have c68b0 := decide_eq_false c68
             (try simp only [hl279002_1] at c68b0)
             (try simp only [hl279002_15] at c68b0)
             clear c68
             have H' := Aside0.mk H
             clear H
             have hnb75 := NB287_278.out
             have hnc75 := NB278_287.out
             have hnb76 := NB287_279.out
             have hnc76 := NB279_287.out
             have hcz77_0 := bc0 BK287
             have hcz77_1 := bc1 BK287
             have hfz77_0 := blk_frozen BK287.out 0
             have hfz77_1 := blk_frozen BK287.out 1
             have hnb78 := NB278_279.out
             have hnc78 := NB279_278.out
             have hcz79_0 := bc0 BK278
             have hcz79_1 := bc1 BK278
             have hcz79_2 := bc2 BK278
             have hfz79_0 := blk_frozen BK278.out 0
             have hfz79_1 := blk_frozen BK278.out 1
             have hfz79_2 := blk_frozen BK278.out 2
             go_wp2
             (try simp only [← hl279002_1, ← hl279002_15])
             go_roundg kj15
             case measure => have := HK1.out; have := HJ15.out; omega
             case rel => exact ⟨(wrap64 (x2_1 + t288)), (y283), (wrap64 (-t288)), (wrap64 (x10_1 + 1)), (x279002_15), (x280000_1), (x280001_1), (x280002_1), (by first | rfl | (simp; done) | (simp [*]; done)), (by first | rfl | (simp; done) | (simp [*]; done)), (by first | rfl | (simp; done) | (simp [*]; done)), H', ⟨by have := HK1.out; have := HJ15.out; omega⟩, ⟨by (try simp only [hl279002_1]); (try simp only [hl279002_15]); (with_reducible repeat (first | apply Kd.R_alloc | apply Kd.R_drewN | apply Kd.R_drew)); exact HO_8.out⟩, ⟨by (try simp only [hl279002_1]); (try simp only [hl279002_15]); (with_reducible repeat (first | apply Kd.R_alloc | apply Kd.R_drewN | apply Kd.R_drew)); exact Kd.R_mono HO_279002.out (fun _ hk => hk.1)⟩, ⟨by (try simp only [hl279002_1]); (try simp only [hl279002_15]); (with_reducible repeat (first | refine blk_drewN ?_ _ | refine blk_drew ?_ | refine blk_alloc ?_ _)); exact BK278.out⟩, ⟨by (try simp only [hl279002_1]); (try simp only [hl279002_15]); (with_reducible repeat (first | refine blk_drewN ?_ _ | refine blk_drew ?_ | refine blk_alloc ?_ _)); exact BK279.out⟩, ⟨viaT HK⟩, ⟨viaB HB⟩⟩
       ·replace c15 := Bool.eq_false_iff.mpr c15
        subst c15
        have H1 : (some (2, x10_1, x2_1, y283, x279002_1)) = some (r1, r2, r3, r4, r5) := by rw [if_neg (show ¬ (false = true) by decide)] at H; exact H
        clear H
        have H := H1
        clear H1
        simp only [Option.some.injEq, Prod.mk.injEq] at H
        obtain ⟨rfl, rfl, rfl, rfl, rfl⟩ := H
        have hnb80 := NB278_279.out
        have hnc80 := NB279_278.out
        have hcz81_0 := bc0 BK278
        have hcz81_1 := bc1 BK278
        have hcz81_2 := bc2 BK278
        have hfz81_0 := blk_frozen BK278.out 0
        have hfz81_1 := blk_frozen BK278.out 1
        have hfz81_2 := blk_frozen BK278.out 2
        go_wp2_with (first | ((with_reducible refine gate_builtin (b := .append) (xs := #[.tmp 28, .tmp 30]) rfl ?_); at_builtin; refine Kd.R_append (Kd.int .i64) (w0 := w0) w0.heap.size rfl (.tmp 28) (.tmp 30) 43 3 (.int .i64 0) 8 rfl Try.underlying43 info3 rfl (by decide) (by omega) u8 x8_1 ji11 [.int .i64 ji11] (fun k_ => (P0_2_ k_ ∨ w.heap.size ≤ k_)) (fun _ => False) rfl rfl ?aP (fun _ hk => hk.elim) ?aF ?aO ?aB ?aS ?aL ?_; (case aP => exact rfl); (case aB => exact (viaB HB)); (case aF => exact (fun k_ hk => (.inr (Nat.le_trans (by first | exact HK.out.1 | exact (show Kept w _ (fun k_ => P0_2_ k_) from viaT HK).1) hk)))); (case aO => exact (viaR HO_8)); (case aS => exact (below_size (viaB HB))); (case aL => have := LMc10.out; omega); intro v284 w82 ho hb hg hat; rw [← Ny283.out] at ho; have HO285 := Aside0.mk (ho); replace HO_279002 := Aside0.mk (Kd.R_over' (viaR HO_279002) (Kd.R_typed (viaR HO_8)) (by decide) hg); replace BK278 := Aside0.mk (blk_grown (g := gb278) (o := .cells #[.int .i64 a0_0, .int .i64 a0_1, .slice Ao4 x279002_1.length co4] 32 (0, 0)) (viaK BK278) hg (Kd.R_ne HO_8.out BK278.out (by decide))); replace BK279 := Aside0.mk (blk_grown (g := gb279) (o := .cells #[.int .i64 x280000_1, .int .i64 x280001_1, .int .i64 x280002_1] 27 (0, 0)) (viaK BK279) hg (Kd.R_ne HO_8.out BK279.out (by decide))); replace HB := Aside0.mk (hb); replace HK := Aside0.mk (Kept.of_grown (S := (fun k_ => P0_2_ k_)) hg (viaT HK) (fun k_ e_ => (HO_8.out.1 k_ e_))); clear HO_8; clear ho hb hg hat; have hcz83_0 := bc0 BK278; have hcz83_1 := bc1 BK278; have hcz83_2 := bc2 BK278; have hfz83_0 := blk_frozen BK278.out 0; have hfz83_1 := blk_frozen BK278.out 1; have hfz83_2 := blk_frozen BK278.out 2; have p286 : 0 ≤ ((ji11) : Int) := ofD; have q286 : (ji11) < (x279002_1.length : Int) := ofD; obtain ⟨ad286, e286, hx286_0, hx286_1⟩ := at_T89 (Kd.R_reads' HO_279002.out).2.2 (ji11) p286 q286; cases e286; replace p286 := eq_true p286; replace q286 := eq_true q286) | ((with_reducible refine gate_dst (N := 12) rfl ?_); refine box_ev (N := 12) (cs := #[.int .i64 0, .int .i64 0]) (t := 89) ?_; intro gb287 hg w84 hbox hb; have BK287 := Aside0.mk (hbox); have GW287 := Aside0.mk ((by rw [hg]; exact (by first | exact HK.out.1 | exact (show Kept w _ (fun k_ => P0_2_ k_) from viaT HK).1) : w.heap.size ≤ gb287)); have GE287 := gW (w := w0) HB hg; have NB278_287 := neL BK278 hg; have NB287_278 := neG BK278 hg; have NB279_287 := neL BK279 hg; have NB287_279 := neG BK279 hg; replace HO_279002 := Aside0.mk (Kd.R_below (Kd.R_elderB (viaR HO_279002) gb287 (Nat.le_of_eq hg.symm)) hb); replace HO285 := Aside0.mk (Kd.R_below (viaR HO285) hb); replace BK278 := kB BK278 hb; replace BK279 := kB BK279 hb; replace HK := Aside0.mk (Kept.below (S := (fun k_ => P0_2_ k_)) (viaT HK) hb); replace HB := bB HB hb; clear hb hbox hg; have hnb85 := NB287_278.out; have hnc85 := NB278_287.out; have hnb86 := NB287_279.out; have hnc86 := NB279_287.out; have hcz87_0 := bc0 BK287; have hcz87_1 := bc1 BK287; have hfz87_0 := blk_frozen BK287.out 0; have hfz87_1 := blk_frozen BK287.out 1) | ((with_reducible refine gate_callee (f := 73) rfl ?_); refine goesL_ (some 40) rfl rfl Try.func73 (by kernel_rfl) rfl #[.agg #[.int .i64 ((rd_T89 x279002_1 (ji11)).f0), .int .i64 ((rd_T89 x279002_1 (ji11)).f1)], .int .i64 x9_1] rfl (by (try simp only [List.map_toArray, List.map_cons, List.map_nil]); first | done | (simp only [hji11]; rfl) | rfl | (simp only [List.length_drop, List.length_take]; rfl)) ?_; (with_reducible refine (impl_GoesTo.calls k1 ((rd_T89 x279002_1 (ji11)).f0) ((rd_T89 x279002_1 (ji11)).f1) x9_1 t288 false _ A14.out).mono ?_); rintro e w88 ⟨rfl, hb⟩; refine ⟨_, rfl, ?_⟩; replace HO_279002 := Aside0.mk (Kd.R_below (by (with_reducible repeat (first | apply Kd.R_alloc | apply Kd.R_drewN | apply Kd.R_drew)); exact (Kd.R_mono (Kd.R_far (p := ⟨gb287, 1, none⟩) (Kd.R_far (p := ⟨gb287, 0, none⟩) (Kd.R_mono HO_279002.out (fun k_ hk => (⟨hk, hk.2⟩ : _ ∧ k_ ≠ gb287))) (fun _ hk => hk.2) (.int .i64 ((rd_T89 x279002_1 (ji11)).f0))) (fun _ hk => hk.2) (.int .i64 ((rd_T89 x279002_1 (ji11)).f1))) (fun _ h_ => h_.1))) hb); replace HO285 := Aside0.mk (Kd.R_below (by (with_reducible repeat (first | apply Kd.R_alloc | apply Kd.R_drewN | apply Kd.R_drew)); exact (Kd.R_mono (Kd.R_far (p := ⟨gb287, 1, none⟩) (Kd.R_far (p := ⟨gb287, 0, none⟩) (Kd.R_types HO285.out BK287.out (by decide)) (fun _ hk => hk.2) (.int .i64 ((rd_T89 x279002_1 (ji11)).f0))) (fun _ hk => hk.2) (.int .i64 ((rd_T89 x279002_1 (ji11)).f1))) (fun _ h_ => h_.1))) hb); replace BK278 := Aside0.mk (blk_below (g := gb278) (o := .cells #[.int .i64 a0_0, .int .i64 a0_1, .slice (some ad286) x279002_1.length co4] 32 (0, 0)) (by (with_reducible repeat (first | refine blk_drewN ?_ _ | refine blk_drew ?_ | refine blk_alloc ?_ _)); refine blk_far ?_ NB278_287.out _; (with_reducible repeat (first | refine blk_drewN ?_ _ | refine blk_drew ?_ | refine blk_alloc ?_ _)); refine blk_far ?_ NB278_287.out _; (with_reducible repeat (first | refine blk_drewN ?_ _ | refine blk_drew ?_ | refine blk_alloc ?_ _)); exact BK278.out) hb); replace BK279 := Aside0.mk (blk_below (g := gb279) (o := .cells #[.int .i64 x280000_1, .int .i64 x280001_1, .int .i64 x280002_1] 27 (0, 0)) (by (with_reducible repeat (first | refine blk_drewN ?_ _ | refine blk_drew ?_ | refine blk_alloc ?_ _)); refine blk_far ?_ NB279_287.out _; (with_reducible repeat (first | refine blk_drewN ?_ _ | refine blk_drew ?_ | refine blk_alloc ?_ _)); refine blk_far ?_ NB279_287.out _; (with_reducible repeat (first | refine blk_drewN ?_ _ | refine blk_drew ?_ | refine blk_alloc ?_ _)); exact BK279.out) hb); replace BK287 := Aside0.mk (blk_below (g := gb287) (o := .cells #[.int .i64 ((rd_T89 x279002_1 (ji11)).f0), .int .i64 ((rd_T89 x279002_1 (ji11)).f1)] 89 (0, 0)) (by (with_reducible repeat (first | refine blk_drewN ?_ _ | refine blk_drew ?_ | refine blk_alloc ?_ _)); refine blk_put (cs := #[.int .i64 ((rd_T89 x279002_1 (ji11)).f0), .int .i64 0]) ?_ 1 _ rfl; (with_reducible repeat (first | refine blk_drewN ?_ _ | refine blk_drew ?_ | refine blk_alloc ?_ _)); refine blk_put (cs := #[.int .i64 0, .int .i64 0]) ?_ 0 _ rfl; (with_reducible repeat (first | refine blk_drewN ?_ _ | refine blk_drew ?_ | refine blk_alloc ?_ _)); exact BK287.out) hb); replace HK := Aside0.mk (Kept.below (S := (fun k_ => P0_2_ k_)) (viaT HK) hb); replace HB := bB HB hb; (try clear hb); (try clear hb2); (try clear hk); (try clear hi); have hcz89_0 := bc0 BK279; have hcz89_1 := bc1 BK279; have hcz89_2 := bc2 BK279; have hfz89_0 := blk_frozen BK279.out 0; have hfz89_1 := blk_frozen BK279.out 1; have hfz89_2 := blk_frozen BK279.out 2))
        refine bodyPost_ret (results_ct rfl _ _ gb279 27 #[.int .i64 2, .int .i64 x10_1, .int .i64 x2_1] (0, 0) _ rfl (by (with_reducible repeat (first | refine blk_drewN ?_ _ | refine blk_drew ?_ | refine blk_alloc ?_ _)); refine blk_put (cs := #[.int .i64 2, .int .i64 x10_1, .int .i64 x280002_1]) ?_ 2 _ rfl; (with_reducible repeat (first | refine blk_drewN ?_ _ | refine blk_drew ?_ | refine blk_alloc ?_ _)); refine blk_put (cs := #[.int .i64 2, .int .i64 x280001_1, .int .i64 x280002_1]) ?_ 1 _ rfl; (with_reducible repeat (first | refine blk_drewN ?_ _ | refine blk_drew ?_ | refine blk_alloc ?_ _)); refine blk_put (cs := #[.int .i64 x280000_1, .int .i64 x280001_1, .int .i64 x280002_1]) ?_ 0 _ rfl; (with_reducible repeat (first | refine blk_drewN ?_ _ | refine blk_drew ?_ | refine blk_alloc ?_ _)); exact BK279.out) Try.underlying27 rfl (by kernel_rfl)) rfl ?_
        exact ⟨_, by first | rfl | (simp [errW_none, errW_some] <;> rfl) | (simp only [← hji11]; first | rfl | (simp [errW_none, errW_some] <;> rfl)) | (simp [*, errW_none, errW_some] <;> rfl), by (with_reducible repeat (first | apply Kd.R_alloc | apply Kd.R_drewN | apply Kd.R_drew)); exact Kd.R_mono (Kd.R_far (p := ⟨gb279, 2, none⟩) (Kd.R_far (p := ⟨gb279, 1, none⟩) (Kd.R_far (p := ⟨gb279, 0, none⟩) (Kd.R_types HO285.out BK279.out (by decide)) (fun _ hk => hk.2) (.int .i64 2)) (fun _ hk => hk.2) (.int .i64 x10_1)) (fun _ hk => hk.2) (.int .i64 x2_1)) (fun _ hk => hk.1), (by first | exact (by (with_reducible repeat (first | apply Kd.R_alloc | apply Kd.R_drewN | apply Kd.R_drew)); exact Kd.R_mono (Kd.R_far (p := ⟨gb279, 2, none⟩) (Kd.R_far (p := ⟨gb279, 1, none⟩) (Kd.R_far (p := ⟨gb279, 0, none⟩) (Kd.R_types HO_279002.out BK279.out (by decide)) (fun _ hk => hk.2) (.int .i64 2)) (fun _ hk => hk.2) (.int .i64 x10_1)) (fun _ hk => hk.2) (.int .i64 x2_1)) (fun _ hk => hk.1.1)) | (simp only [hl279002_1]; exact (by (with_reducible repeat (first | apply Kd.R_alloc | apply Kd.R_drewN | apply Kd.R_drew)); exact Kd.R_mono (Kd.R_far (p := ⟨gb279, 2, none⟩) (Kd.R_far (p := ⟨gb279, 1, none⟩) (Kd.R_far (p := ⟨gb279, 0, none⟩) (Kd.R_types HO_279002.out BK279.out (by decide)) (fun _ hk => hk.2) (.int .i64 2)) (fun _ hk => hk.2) (.int .i64 x10_1)) (fun _ hk => hk.2) (.int .i64 x2_1)) (fun _ hk => hk.1.1)))), viaB HB, viaT HK⟩
      ·rw [if_neg c13] at H
       exact absurd H (by simp)
     ·rw [if_neg c12] at H
      exact absurd H (by simp)
    ·rw [if_neg c10] at H
     exact absurd H (by simp)
   ·rw [if_neg c9] at H
    have c9b0 := decide_eq_false c9
    (try simp only [hl279002_1] at c9b0)
    (try simp only [hl279002_15] at c9b0)
    clear c9
    simp only [Option.some.injEq, Prod.mk.injEq] at H
    obtain ⟨rfl, rfl, rfl, rfl, rfl⟩ := H
    have hnb90 := NB278_279.out
    have hnc90 := NB279_278.out
    have hcz91_0 := bc0 BK278
    have hcz91_1 := bc1 BK278
    have hcz91_2 := bc2 BK278
    have hfz91_0 := blk_frozen BK278.out 0
    have hfz91_1 := blk_frozen BK278.out 1
    have hfz91_2 := blk_frozen BK278.out 2
    have hcz92_0 := bc0 BK279
    have hcz92_1 := bc1 BK279
    have hcz92_2 := bc2 BK279
    have hfz92_0 := blk_frozen BK279.out 0
    have hfz92_1 := blk_frozen BK279.out 1
    have hfz92_2 := blk_frozen BK279.out 2
    go_wp2
    refine bodyPost_ret (results_ct rfl _ _ gb279 27 #[.int .i64 1, .int .i64 a0_0, .int .i64 x2_1] (0, 0) _ rfl (by (with_reducible repeat (first | refine blk_drewN ?_ _ | refine blk_drew ?_ | refine blk_alloc ?_ _)); refine blk_put (cs := #[.int .i64 1, .int .i64 a0_0, .int .i64 x280002_1]) ?_ 2 _ rfl; (with_reducible repeat (first | refine blk_drewN ?_ _ | refine blk_drew ?_ | refine blk_alloc ?_ _)); refine blk_put (cs := #[.int .i64 1, .int .i64 x280001_1, .int .i64 x280002_1]) ?_ 1 _ rfl; (with_reducible repeat (first | refine blk_drewN ?_ _ | refine blk_drew ?_ | refine blk_alloc ?_ _)); refine blk_put (cs := #[.int .i64 x280000_1, .int .i64 x280001_1, .int .i64 x280002_1]) ?_ 0 _ rfl; (with_reducible repeat (first | refine blk_drewN ?_ _ | refine blk_drew ?_ | refine blk_alloc ?_ _)); exact BK279.out) Try.underlying27 rfl (by kernel_rfl)) rfl ?_
    exact ⟨_, by first | rfl | (simp [errW_none, errW_some] <;> rfl) | (simp [*, errW_none, errW_some] <;> rfl), by (with_reducible repeat (first | apply Kd.R_alloc | apply Kd.R_drewN | apply Kd.R_drew)); exact Kd.R_mono (Kd.R_far (p := ⟨gb279, 2, none⟩) (Kd.R_far (p := ⟨gb279, 1, none⟩) (Kd.R_far (p := ⟨gb279, 0, none⟩) (Kd.R_types HO_8.out BK279.out (by decide)) (fun _ hk => hk.2) (.int .i64 1)) (fun _ hk => hk.2) (.int .i64 a0_0)) (fun _ hk => hk.2) (.int .i64 x2_1)) (fun _ hk => hk.1), (by first | exact (by (with_reducible repeat (first | apply Kd.R_alloc | apply Kd.R_drewN | apply Kd.R_drew)); exact Kd.R_mono (Kd.R_far (p := ⟨gb279, 2, none⟩) (Kd.R_far (p := ⟨gb279, 1, none⟩) (Kd.R_far (p := ⟨gb279, 0, none⟩) (Kd.R_types HO_279002.out BK279.out (by decide)) (fun _ hk => hk.2) (.int .i64 1)) (fun _ hk => hk.2) (.int .i64 a0_0)) (fun _ hk => hk.2) (.int .i64 x2_1)) (fun _ hk => hk.1)) | (simp only [hl279002_1]; exact (by (with_reducible repeat (first | apply Kd.R_alloc | apply Kd.R_drewN | apply Kd.R_drew)); exact Kd.R_mono (Kd.R_far (p := ⟨gb279, 2, none⟩) (Kd.R_far (p := ⟨gb279, 1, none⟩) (Kd.R_far (p := ⟨gb279, 0, none⟩) (Kd.R_types HO_279002.out BK279.out (by decide)) (fun _ hk => hk.2) (.int .i64 1)) (fun _ hk => hk.2) (.int .i64 a0_0)) (fun _ hk => hk.2) (.int .i64 x2_1)) (fun _ hk => hk.1)))), viaB HB, viaT HK⟩

/-! ### impl_copyBoard: function 55 -/
def impl_copyBoard.f (a0_0 : Int) (a0_1 : Int) (l0_2 : List (S89)) : Option (Int × Int × (List (S89))) := (some (([] : List (S89)) : List (S89))).bind fun y294 => (if y294.length + l0_2.length < 8796093022208 then (some (a0_0, a0_1, (y294 ++ l0_2))) else (none))
def impl_copyBoard.T1 : Bool × List (List Nat × List Nat) := (true, [([], []), ([0], [0]), ([], []), ([2], [2]), ([], []), ([], []), ([5], [5]), ([4, 6], [4, 6]), ([1, 3, 7], [1, 3, 7]), ([8, 7, 0, 1, 2, 3, 4, 5, 6, 7, 8], [8])])
def impl_copyBoard.B1 : List Nat := [0, 1, 0, 4, 0, 0, 32, 112, 255, 511]
theorem impl_copyBoard.tab1 : rtab .any (opsOf Try.f55 1) = impl_copyBoard.T1 := by kernel_rfl
theorem impl_copyBoard.bits1 : waitsOk impl_copyBoard.T1.2 impl_copyBoard.B1 = true := by kernel_rfl
set_option maxHeartbeats 8000000 in
set_option maxRecDepth 100000 in
theorem impl_copyBoard.calls (a0_0 : Int) (a0_1 : Int) (A0_2 : Option Addr) (c0_2 : Nat) (l0_2 : List (S89)) (r1 : Int) (r2 : Int) (r3 : List (S89)) (w : World) (hr0_2 : Kd.C k89 w A0_2 l0_2.length l0_2) (hc0_2 : l0_2.length ≤ c0_2) (h : impl_copyBoard.f a0_0 a0_1 l0_2 = some (r1, r2, r3)) :
  Calls Try.prog 55 #[.agg #[.int .i64 a0_0, .int .i64 a0_1, .slice A0_2 l0_2.length c0_2]] w fun e w' => ∃ v2_ : Value, e = .returned (.agg #[.int .i64 r1, .int .i64 r2, v2_]) ∧ Kd.R k89 89 w' w.heap.size (fun _ => True) v2_ r3 ∧ Below w.heap.size w w' := by
 have hu32 := Try.underlying32
 have HR0_2 := Aside0.mk hr0_2
 have HC0_2 := Aside0.mk hc0_2
 clear hr0_2 hc0_2
 have HB := Aside0.mk (Below.refl w.heap.size w)
 have H : ((some (([] : List (S89)) : List (S89))).bind fun y294 => (if y294.length + l0_2.length < 8796093022208 then (some (a0_0, a0_1, (y294 ++ l0_2))) else (none))) = some (r1, r2, r3) := h
 clear h
 obtain ⟨y294, hy294⟩ : ∃ y_ : List (S89), y_ = (([] : List (S89))) := ⟨_, rfl⟩
 replace H : (if y294.length + l0_2.length < 8796093022208 then (some (a0_0, a0_1, (y294 ++ l0_2))) else (none)) = some (r1, r2, r3) := by first | (rw [hy294]; with_reducible exact H) | (have H2_ := (Option.bind_some _ _).symm.trans H; rw [hy294]; with_reducible exact H2_) | (have H2_ := (Option.bind_some _ _).symm.trans H; with_reducible exact H2_) | with_reducible exact H | (rw [hy294]; exact H) | exact H
 have Ny294 := Aside0.mk hy294
 clear hy294
 by_cases c2 : y294.length + l0_2.length < 8796093022208
 ·rw [if_pos c2] at H
  have LMc2 := Aside0.mk c2
  clear c2
  obtain ⟨y297, hy297⟩ : ∃ y_ : List (S89), y_ = (y294 ++ l0_2) := ⟨_, rfl⟩
  replace H : (some (a0_0, a0_1, y297)) = some (r1, r2, r3) := by first | (rw [hy297]; with_reducible exact H) | (have H2_ := (Option.bind_some _ _).symm.trans H; rw [hy297]; with_reducible exact H2_) | (have H2_ := (Option.bind_some _ _).symm.trans H; with_reducible exact H2_) | with_reducible exact H | (rw [hy297]; exact H) | exact H
  have Ny297 := Aside0.mk hy297
  clear hy297
  simp only [Option.some.injEq, Prod.mk.injEq] at H
  obtain ⟨rfl, rfl, rfl⟩ := H
  go_enter Try.func55, Try.ntmps55
  try go_wp2_with (first | ((with_reducible refine gate_dst (N := 1) rfl ?_); refine box_ev (N := 1) (cs := #[.int .i64 a0_0, .int .i64 a0_1, .slice A0_2 l0_2.length c0_2]) (t := 32) ?_; intro gb292 hg w3 hbox hb; have BK292 := Aside0.mk (hbox); have GW292 := gW (w := w) HB hg; have GE292 := gW (w := w) HB hg; replace HB := bB HB hb; clear hb hbox hg) | ((with_reducible refine gate_dst (N := 2) rfl ?_); refine box_ev (N := 2) (cs := #[.int .i64 0, .int .i64 0, .slice none 0 0]) (t := 32) ?_; intro gb293 hg w4 hbox hb; have BK293 := Aside0.mk (hbox); have GW293 := gW (w := w) HB hg; have GE293 := gW (w := w) HB hg; have NB292_293 := neL BK292 hg; have NB293_292 := neG BK292 hg; replace BK292 := kB BK292 hb; replace HB := bB HB hb; clear hb hbox hg))
  replace BK292 := Aside0.mk (blk_drew BK292.out)
  replace BK293 := Aside0.mk (blk_drew BK293.out)
  replace HB := Aside0.mk (below_drew1 HB.out)
  refine start_ (n := 10) (S := fun w' => w'.cell? ⟨gb292, 0, none⟩ = some (.int .i64 a0_0) ∧ w'.cell? ⟨gb292, 1, none⟩ = some (.int .i64 a0_1) ∧ w'.cell? ⟨gb292, 2, none⟩ = some (.slice A0_2 l0_2.length c0_2)) (ds := []) #[false, false, false, false, false, false, false, false, false, false] (by kernel_rfl) rfl rfl ⟨(blk_cell BK292.out 0).trans rfl, (blk_cell BK292.out 1).trans rfl, (blk_cell BK292.out 2).trans rfl⟩ (fun hHeld => ?_); refine with_tabW impl_copyBoard.tab1 impl_copyBoard.bits1 (fun HT_ HW_ => ?_)
  generalize w4.drew = w5 at BK292 BK293 HB hHeld ⊢
  refine pure_ (i := 0) (N := some 3) (v := ?_) (a' := ?_) #[true, false, false, false, false, false, false, false, false, false] rfl rfl (any_of HT_.out (by kernel_rfl)) (fun _ _ _ h => h) (Or.inl ⟨by rfl, ?_⟩) ?_ ?_
  rotate_left
  ·intro w'
   go_simp
   with_reducible rfl
  rotate_left
  ·simp only [Act.put, q1, q2, q3, i64_w, i32_w]
   rfl
  refine pure_ (i := 2) (N := some 5) (v := ?_) (a' := ?_) #[true, false, true, false, false, false, false, false, false, false] rfl rfl (any_of HT_.out (by kernel_rfl)) (fun _ _ _ h => h) (Or.inl ⟨by rfl, ?_⟩) ?_ ?_
  rotate_left
  ·intro w'
   go_simp
   with_reducible rfl
  rotate_left
  ·simp only [Act.put, q1, q2, q3, i64_w, i32_w]
   rfl
  refine pure_ (i := 5) (N := some 8) (v := ?_) (a' := ?_) #[true, false, true, false, false, true, false, false, false, false] rfl rfl (any_of HT_.out (by kernel_rfl)) (fun _ _ _ h => h) (Or.inl ⟨by rfl, ?_⟩) ?_ ?_
  rotate_left
  ·intro w'
   go_simp
   with_reducible rfl
  rotate_left
  ·simp only [Act.put, q1, q2, q3, i64_w, i32_w]
   rfl
  refine take_ (i := 1) (N := some 4) (v := ?_) (a' := ?_) #[true, true, true, false, false, true, false, false, false, false] rfl rfl (take_ofW HT_.out HW_.out (by kernel_rfl)) (fun _ _ _ h => h) (Or.inl ⟨by rfl, ?_⟩) hHeld ?_ ?_
  rotate_left
  ·rintro w' ⟨s0, s1, s2⟩
   go_simp
   with_reducible rfl
  rotate_left
  ·simp only [Act.put, q1, q2, q3, i64_w, i32_w]
   rfl
  refine take_ (i := 3) (N := some 6) (v := ?_) (a' := ?_) #[true, true, true, true, false, true, false, false, false, false] rfl rfl (take_ofW HT_.out HW_.out (by kernel_rfl)) (fun _ _ _ h => h) (Or.inl ⟨by rfl, ?_⟩) hHeld ?_ ?_
  rotate_left
  ·rintro w' ⟨s0, s1, s2⟩
   go_simp
   with_reducible rfl
  rotate_left
  ·simp only [Act.put, q1, q2, q3, i64_w, i32_w]
   rfl
  refine take_ (i := 6) (N := some 9) (v := ?_) (a' := ?_) #[true, true, true, true, false, true, true, false, false, false] rfl rfl (take_ofW HT_.out HW_.out (by kernel_rfl)) (fun _ _ _ h => h) (Or.inl ⟨by rfl, ?_⟩) hHeld ?_ ?_
  rotate_left
  ·rintro w' ⟨s0, s1, s2⟩
   go_simp
   with_reducible rfl
  rotate_left
  ·simp only [Act.put, q1, q2, q3, i64_w, i32_w]
   rfl
  refine one_ (i := 4) (N := some 7) #[true, true, true, true, true, true, true, false, false, false] rfl rfl (one_of HT_.out (by kernel_rfl)) (by decide) (fun K hK => ?_)
  refine Kd.R_lit_step k89 _ 89 ?hg (N := 7) ?hd (xs := ([] : List (S89))) (inner := []) (ok := fun _ => True) (okp := fun _ => True) ?hr ?hp (fun _ hk => hk) trivial (Below.refl _ _) (Nat.le_refl _) (by simp) ?_; (case hd => rfl); (case hg => rfl); (case hr => first | (go_simp; done) | (go_simp; rfl)); (case hp => exact (Reps.none _ _))
  intro v295 w6 ho7 hb hg_ hnew_
  clear hg_ hnew_
  (first | rw [← Ny294.out] at ho7 | (simp only [Int.reduceToNat] at ho7; rw [← Ny294.out] at ho7))
  have HO296 := Aside0.mk (Kd.R_lower ho7 (below_size (viaB HB)))
  replace BK292 := kB BK292 hb
  replace BK293 := kB BK293 hb
  replace HB := bB HB hb
  clear hb ho7
  refine hK.out _ _ ⟨(blk_cell BK292.out 0).trans rfl, (blk_cell BK292.out 1).trans rfl, (blk_cell BK292.out 2).trans rfl⟩ (fun hHeld => ?_)
  clear hK K
  refine norm_ (a' := ?_) ?_ ?_
  rotate_left
  ·show Act.put _ (some 7) _ = _
   simp only [Act.put, q1, q2, q3, i64_w, i32_w]
   rfl
  refine one_ (i := 7) (N := some 10) #[true, true, true, true, true, true, true, true, false, false] rfl rfl (one_of HT_.out (by kernel_rfl)) (by decide) (fun K hK => ?_)
  refine Kd.R_append_rows_step k89 (w0 := w) w.heap.size (by rfl) (.tmp 7) (.tmp 9) 30 89 (.agg #[(.int .i64 0), (.int .i64 0)]) 16 rfl Try.underlying30 info89 rfl (by decide) (by omega) v295 y294 l0_2 _ _ _ (fun _ => True) (fun _ => False) rfl rfl ?aO ?aR (fun _ _ h => h) (fun _ h => h.elim) ?aF ?aB ?aS ?aL ?_
  (case aR => repeat (first | exact (Kd.C_below HR0_2.out HB.out) | (with_reducible refine Kd.C_alloc ?_ _) | (with_reducible refine Kd.C_drewN ?_ _) | (with_reducible refine Kd.C_drew ?_)))
  (case aB => exact (viaB HB))
  (case aF => exact (fun _ _ => trivial))
  (case aO => exact (viaR HO296))
  (case aS => exact (below_size (viaB HB)))
  (case aL => have := LMc2.out; omega)
  intro v298 w8 ho hb hg hat
  rw [← Ny297.out] at ho
  have HO299 := Aside0.mk (ho)
  replace BK292 := Aside0.mk (blk_grown (g := gb292) (o := .cells #[.int .i64 a0_0, .int .i64 a0_1, .slice A0_2 l0_2.length c0_2] 32 (0, 0)) (viaK BK292) hg (Kd.R_ne HO296.out BK292.out (by decide)))
  replace BK293 := Aside0.mk (blk_grown (g := gb293) (o := .cells #[.int .i64 0, .int .i64 0, .slice none 0 0] 32 (0, 0)) (viaK BK293) hg (Kd.R_ne HO296.out BK293.out (by decide)))
  replace HB := Aside0.mk (hb)
  clear HO296
  clear ho hb hg hat
  obtain ⟨Ao9, co9, eo9⟩ := Kd.R_slice HO299.out
  (first | subst eo9 | (injection eo9 with f1_ f2_ f3_; have f4_ := f1_.symm; have f5_ := f3_.symm; clear f1_ f2_ f3_; subst f4_; subst f5_))
  refine hK.out _ _ ⟨(blk_cell BK292.out 0).trans rfl, (blk_cell BK292.out 1).trans rfl, (blk_cell BK292.out 2).trans rfl⟩ (fun hHeld => ?_)
  clear hK K
  refine norm_ (a' := ?_) ?_ ?_
  rotate_left
  ·show Act.put _ (some 10) _ = _
   simp only [Act.put, q1, q2, q3, i64_w, i32_w]
   rfl
  refine pure_ (i := 8) (N := some 11) (v := ?_) (a' := ?_) #[true, true, true, true, true, true, true, true, true, false] rfl rfl (any_of HT_.out (by kernel_rfl)) (fun _ _ _ h => h) (Or.inl ⟨by rfl, ?_⟩) ?_ ?_
  rotate_left
  ·intro w'
   go_simp
   with_reducible rfl
  rotate_left
  ·simp only [Act.put, q1, q2, q3, i64_w, i32_w]
   rfl
  refine one_ (i := 9) (N := none) #[true, true, true, true, true, true, true, true, true, true] rfl rfl (one_of HT_.out (by kernel_rfl)) (by decide) (fun K hK => ?_)
  have hs10 : w8.cell? ⟨gb293, 0, none⟩ = some (.int .i64 0) := (blk_cell BK293.out 0).trans rfl
  have hfs10 := blk_frozen BK293.out 0
  have hns10_0 := NB292_293.out
  have hms10_0 := NB293_292.out
  have hs11 : w8.cell? ⟨gb293, 1, none⟩ = some (.int .i64 0) := (blk_cell BK293.out 1).trans rfl
  have hfs11 := blk_frozen BK293.out 1
  have hns11_0 := NB292_293.out
  have hms11_0 := NB293_292.out
  have hs12 : w8.cell? ⟨gb293, 2, none⟩ = some (.slice none 0 0) := (blk_cell BK293.out 2).trans rfl
  have hfs12 := blk_frozen BK293.out 2
  have hns12_0 := NB292_293.out
  have hms12_0 := NB293_292.out
  refine skip_ (w1 := ?_) (by rfl) rfl ?_ ?_
  rotate_left
  ·go_simp
   rfl
  refine hK.out _ _ ⟨((cell_far (p := ⟨gb293, _, none⟩) NB292_293.out _).trans (((cell_far (p := ⟨gb293, _, none⟩) NB292_293.out _).trans (((cell_far (p := ⟨gb293, _, none⟩) NB292_293.out _).trans (hHeld.1)))))), ((cell_far (p := ⟨gb293, _, none⟩) NB292_293.out _).trans (((cell_far (p := ⟨gb293, _, none⟩) NB292_293.out _).trans (((cell_far (p := ⟨gb293, _, none⟩) NB292_293.out _).trans (hHeld.2.1)))))), ((cell_far (p := ⟨gb293, _, none⟩) NB292_293.out _).trans (((cell_far (p := ⟨gb293, _, none⟩) NB292_293.out _).trans (((cell_far (p := ⟨gb293, _, none⟩) NB292_293.out _).trans (hHeld.2.2))))))⟩ (fun hHeld => ?_)
  clear hK K
  refine done_ (done_of HT_.out (by kernel_rfl)) ?_
  try go_wp2
  refine bodyPost_ret (results_cell_row rfl _ _ gb293 32 #[.int .i64 a0_0, .int .i64 a0_1, .slice Ao9 y297.length co9] (0, 0) _ rfl (by (with_reducible repeat (first | refine blk_drewN ?_ _ | refine blk_drew ?_ | refine blk_alloc ?_ _)); refine blk_put (cs := #[.int .i64 a0_0, .int .i64 a0_1, .slice none 0 0]) ?_ 2 _ rfl; (with_reducible repeat (first | refine blk_drewN ?_ _ | refine blk_drew ?_ | refine blk_alloc ?_ _)); refine blk_put (cs := #[.int .i64 a0_0, .int .i64 0, .slice none 0 0]) ?_ 1 _ rfl; (with_reducible repeat (first | refine blk_drewN ?_ _ | refine blk_drew ?_ | refine blk_alloc ?_ _)); refine blk_put (cs := #[.int .i64 0, .int .i64 0, .slice none 0 0]) ?_ 0 _ rfl; (with_reducible repeat (first | refine blk_drewN ?_ _ | refine blk_drew ?_ | refine blk_alloc ?_ _)); exact BK293.out) Try.underlying32 rfl (by kernel_rfl)) rfl ?_
  exact ⟨_, by first | rfl | (simp [errW_none, errW_some] <;> rfl) | (simp [*, errW_none, errW_some] <;> rfl), by (with_reducible repeat (first | apply Kd.R_alloc | apply Kd.R_drewN | apply Kd.R_drew)); exact Kd.R_mono (Kd.R_far (p := ⟨gb293, 2, none⟩) (Kd.R_far (p := ⟨gb293, 1, none⟩) (Kd.R_far (p := ⟨gb293, 0, none⟩) (Kd.R_types HO299.out BK293.out (by decide)) (fun _ hk => hk.2) (.int .i64 a0_0)) (fun _ hk => hk.2) (.int .i64 a0_1)) (fun _ hk => hk.2) (.slice Ao9 y297.length co9)) (fun _ hk => trivial), viaB HB⟩
 ·rw [if_neg c2] at H
  exact absurd H (by simp)

/-! ### impl_isGeared: function 75 -/
def impl_isGeared.f (a0_0 : Int) (a0_1 : Int) : Option (Bool) := if a0_0 = 6 then (some true) else (some (a0_0 == 7))
set_option maxHeartbeats 8000000 in
set_option maxRecDepth 100000 in
theorem impl_isGeared.calls (a0_0 : Int) (a0_1 : Int) (r : Bool) (w : World) (h : impl_isGeared.f a0_0 a0_1 = some r) :
  Calls Try.prog 75 #[.agg #[.int .i64 a0_0, .int .i64 a0_1]] w fun e w' => e = .returned (.bool r) ∧ Below w.heap.size w w' := by
 have hu89 := Try.underlying89
 have HB := Aside0.mk (Below.refl w.heap.size w)
 have H : (if a0_0 = 6 then (some true) else (some (a0_0 == 7))) = some r := h
 clear h
 by_cases c2 : a0_0 = 6
 ·rw [if_pos c2] at H
  have c2b0 := beq_iff_eq.mpr c2
  have c2b1 := bne_eq_false_iff_eq.mpr c2
  clear c2
  obtain rfl := Option.some.inj H
  go_enter Try.func75, Try.ntmps75
  go_wp2_with (first | ((with_reducible refine gate_dst (N := 1) rfl ?_); refine box_ev (N := 1) (cs := #[.int .i64 a0_0, .int .i64 a0_1]) (t := 89) ?_; intro gb300 hg w3 hbox hb; have BK300 := Aside0.mk (hbox); have GW300 := gW (w := w) HB hg; have GE300 := gW (w := w) HB hg; replace HB := bB HB hb; clear hb hbox hg; have hcz4_0 := bc0 BK300; have hcz4_1 := bc1 BK300; have hfz4_0 := blk_frozen BK300.out 0; have hfz4_1 := blk_frozen BK300.out 1))
  go_ret
  exact ⟨by first | rfl | (simp [errW_none, errW_some] <;> rfl) | (simp [*, errW_none, errW_some] <;> rfl), viaB HB⟩
 ·rw [if_neg c2] at H
  have c2b0 := beq_eq_false_iff_ne.mpr c2
  have c2b1 := bne_iff_ne.mpr c2
  obtain rfl := Option.some.inj H
  go_enter Try.func75, Try.ntmps75
  go_wp2_with (first | ((with_reducible refine gate_dst (N := 1) rfl ?_); refine box_ev (N := 1) (cs := #[.int .i64 a0_0, .int .i64 a0_1]) (t := 89) ?_; intro gb300 hg w5 hbox hb; have BK300 := Aside0.mk (hbox); have GW300 := gW (w := w) HB hg; have GE300 := gW (w := w) HB hg; replace HB := bB HB hb; clear hb hbox hg; have hcz6_0 := bc0 BK300; have hcz6_1 := bc1 BK300; have hfz6_0 := blk_frozen BK300.out 0; have hfz6_1 := blk_frozen BK300.out 1))
  go_ret
  exact ⟨by first | rfl | (simp [errW_none, errW_some] <;> rfl) | (simp [*, errW_none, errW_some] <;> rfl), viaB HB⟩

end Go.Proofs.Ytoklfgjemfojgaa.PFnExactBoardAfter
