/- This text began as one that print.sh wrote for this seat (of the functions named below); it is this session's own: turned where Lean did not take the printed proof, where it was too long for a claim, or only in what it imports. -/
import Derived.Test.YtoklfgjemfojgaaG0
import Derived.Test.YtoklfgjemfojgaaG3
import Derived.Test.YtoklfgjemfojgaaG4
namespace Go.Proofs.Ytoklfgjemfojgaa.PAll
open Go.RowKit Go.Proofs.YtoklfgjemfojgaaW.PrintWords Go.Proofs.YtoklfgjemfojgaaW.PrintLast Go.Proofs.YtoklfgjemfojgaaW.PrintMore
attribute [local go_sem] max2_int min2_int max_two min_two max_three min_three max_four min_four   -- for this text's walks alone
set_option linter.unusedVariables false
set_option linter.unusedSimpArgs false

/-! ### spec_ggGroups: function 62 -/
mutual
def spec_ggGroups.l0 : Nat → List Int → Int → Int → Int → Int → List (S89) → Option (List Int)
 | 0, _, _, _, _, _, _ => none
 | k + 1, x3, x17, x18, x145000, x145001, x145002 => if x18 < x17 then (if 0 ≤ x18 then (if x18 < (x3.length : Int) then (spec_ggGroups.l0 k (x3.set (x18 : Int).toNat (-1)) x17 (wrap64 (x18 + 1)) x145000 x145001 x145002) else (none)) else (none)) else (spec_ggGroups.l1 k x3 0 x145002 (x145002.length : Int) 0 x145000 x145001 x145002)
def spec_ggGroups.l1 : Nat → List Int → Int → List (S89) → Int → Int → Int → Int → List (S89) → Option (List Int)
 | 0, _, _, _, _, _, _, _, _ => none
 | k + 1, x3, x5, x26, x27, x28, x145000, x145001, x145002 => if x28 < x27 then (if 0 ≤ x28 then (if x28 < (x26.length : Int) then ((spec_ggGear.f ((rd_T89 x26 x28).f0) ((rd_T89 x26 x28).f1)).bind fun t151 => (if t151 = true then (if x28 < (x3.length : Int) then (spec_ggGroups.j2 k x3 x5 x28 x26 x27 x28 (decide ((rd x3 x28) ≥ 0)) x145000 x145001 x145002) else (none)) else (spec_ggGroups.j2 k x3 x5 x28 x26 x27 x28 true x145000 x145001 x145002))) else (none)) else (none)) else (some x3)
def spec_ggGroups.j2 : Nat → List Int → Int → Int → List (S89) → Int → Int → Bool → Int → Int → List (S89) → Option (List Int)
 | 0, _, _, _, _, _, _, _, _, _, _ => none
 | k + 1, x3, x5, x6, x26, x27, x28, x42, x145000, x145001, x145002 => if x42 = true then (spec_ggGroups.l1 k x3 x5 x26 x27 (wrap64 (x28 + 1)) x145000 x145001 x145002) else (if 0 ≤ x6 then (if x6 < (x3.length : Int) then (spec_ggGroups.l2 k (x3.set (x6 : Int).toNat x5) x5 (([x6] : List Int)) 0 x26 x27 x28 x145000 x145001 x145002) else (none)) else (none))
def spec_ggGroups.l2 : Nat → List Int → Int → List Int → Int → List (S89) → Int → Int → Int → Int → List (S89) → Option (List Int)
 | 0, _, _, _, _, _, _, _, _, _, _ => none
 | k + 1, x3, x5, x8, x9, x26, x27, x28, x145000, x145001, x145002 => if x9 < (x8.length : Int) then (if 0 ≤ x9 then ((spec_ggNear.f k x145000 x145001 x145002 (rd x8 x9)).bind fun t158 => (spec_ggGroups.l3 k x3 x5 x8 x9 x26 x27 x28 t158 (t158.length : Int) 0 x145000 x145001 x145002)) else (none)) else (spec_ggGroups.l1 k x3 (wrap64 (x5 + 1)) x26 x27 (wrap64 (x28 + 1)) x145000 x145001 x145002)
def spec_ggGroups.l3 : Nat → List Int → Int → List Int → Int → List (S89) → Int → Int → List Int → Int → Int → Int → Int → List (S89) → Option (List Int)
 | 0, _, _, _, _, _, _, _, _, _, _, _, _, _ => none
 | k + 1, x3, x5, x8, x9, x26, x27, x28, x60, x61, x62, x145000, x145001, x145002 => if x62 < x61 then (if 0 ≤ x62 then (if x62 < (x60.length : Int) then (if 0 ≤ (rd x60 x62) then (if (rd x60 x62) < (x145002.length : Int) then ((spec_ggGear.f ((rd_T89 x145002 (rd x60 x62)).f0) ((rd_T89 x145002 (rd x60 x62)).f1)).bind fun t163 => (if t163 = true then (if (rd x60 x62) < (x3.length : Int) then (if (rd x3 (rd x60 x62)) < 0 then (if x8.length < 17592186044416 then (spec_ggGroups.l3 k (x3.set ((rd x60 x62) : Int).toNat x5) x5 (x8 ++ [rd x60 x62]) x9 x26 x27 x28 x60 x61 (wrap64 (x62 + 1)) x145000 x145001 x145002) else (none)) else (spec_ggGroups.l3 k x3 x5 x8 x9 x26 x27 x28 x60 x61 (wrap64 (x62 + 1)) x145000 x145001 x145002)) else (none)) else (spec_ggGroups.l3 k x3 x5 x8 x9 x26 x27 x28 x60 x61 (wrap64 (x62 + 1)) x145000 x145001 x145002))) else (none)) else (none)) else (none)) else (none)) else (spec_ggGroups.l2 k x3 x5 x8 (wrap64 (x9 + 1)) x26 x27 x28 x145000 x145001 x145002)
end
def spec_ggGroups.f (k : Nat) (a0_0 : Int) (a0_1 : Int) (l0_2 : List (S89)) : Option (List Int) := if 0 ≤ (l0_2.length : Int) then (if ((l0_2.length : Int) : Int).toNat ≤ 35184372088832 then ((some (List.replicate ((l0_2.length : Int) : Int).toNat 0 : List Int)).bind fun y145 => (spec_ggGroups.l0 k y145 (y145.length : Int) 0 a0_0 a0_1 l0_2)) else (none)) else (none)
theorem spec_ggGroups.mono_l : ∀ k, (∀ y0 y1 y2 y3 y4 y5, LeO (spec_ggGroups.l0 k y0 y1 y2 y3 y4 y5) (spec_ggGroups.l0 (k + 1) y0 y1 y2 y3 y4 y5)) ∧ (∀ y0 y1 y2 y3 y4 y5 y6 y7, LeO (spec_ggGroups.l1 k y0 y1 y2 y3 y4 y5 y6 y7) (spec_ggGroups.l1 (k + 1) y0 y1 y2 y3 y4 y5 y6 y7)) ∧ (∀ y0 y1 y2 y3 y4 y5 y6 y7 y8 y9, LeO (spec_ggGroups.j2 k y0 y1 y2 y3 y4 y5 y6 y7 y8 y9) (spec_ggGroups.j2 (k + 1) y0 y1 y2 y3 y4 y5 y6 y7 y8 y9)) ∧ (∀ y0 y1 y2 y3 y4 y5 y6 y7 y8 y9, LeO (spec_ggGroups.l2 k y0 y1 y2 y3 y4 y5 y6 y7 y8 y9) (spec_ggGroups.l2 (k + 1) y0 y1 y2 y3 y4 y5 y6 y7 y8 y9)) ∧ (∀ y0 y1 y2 y3 y4 y5 y6 y7 y8 y9 y10 y11 y12, LeO (spec_ggGroups.l3 k y0 y1 y2 y3 y4 y5 y6 y7 y8 y9 y10 y11 y12) (spec_ggGroups.l3 (k + 1) y0 y1 y2 y3 y4 y5 y6 y7 y8 y9 y10 y11 y12))
 | 0 => ⟨fun _ _ _ _ _ _ r h => by simp [spec_ggGroups.l0] at h, fun _ _ _ _ _ _ _ _ r h => by simp [spec_ggGroups.l1] at h, fun _ _ _ _ _ _ _ _ _ _ r h => by simp [spec_ggGroups.j2] at h, fun _ _ _ _ _ _ _ _ _ _ r h => by simp [spec_ggGroups.l2] at h, fun _ _ _ _ _ _ _ _ _ _ _ _ _ r h => by simp [spec_ggGroups.l3] at h⟩
 | k + 1 => by
  obtain ⟨ih0, ih1, ih2, ih3, ih4⟩ := spec_ggGroups.mono_l k
  refine ⟨?_, ?_, ?_, ?_, ?_⟩
  ·intro y0 y1 y2 y3 y4 y5
   unfold spec_ggGroups.l0
   repeat' first | (with_reducible first | exact ih0 _ _ _ _ _ _ | exact ih1 _ _ _ _ _ _ _ _ | exact ih2 _ _ _ _ _ _ _ _ _ _ | exact ih3 _ _ _ _ _ _ _ _ _ _ | exact ih4 _ _ _ _ _ _ _ _ _ _ _ _ _ | exact spec_ggNear.mono _ _ _ _ _ | exact LeO.refl _ | exact LeO.none _ | refine LeO.ite ?_ ?_ | refine LeO.bind ?_ (fun _ => ?_)) | exact ih0 _ _ _ _ _ _ | exact ih1 _ _ _ _ _ _ _ _ | exact ih2 _ _ _ _ _ _ _ _ _ _ | exact ih3 _ _ _ _ _ _ _ _ _ _ | exact ih4 _ _ _ _ _ _ _ _ _ _ _ _ _ | exact spec_ggNear.mono _ _ _ _ _ | exact LeO.none _ | refine LeO.ite ?_ ?_ | refine LeO.bind ?_ (fun _ => ?_)
  ·intro y0 y1 y2 y3 y4 y5 y6 y7
   unfold spec_ggGroups.l1
   repeat' first | (with_reducible first | exact ih0 _ _ _ _ _ _ | exact ih1 _ _ _ _ _ _ _ _ | exact ih2 _ _ _ _ _ _ _ _ _ _ | exact ih3 _ _ _ _ _ _ _ _ _ _ | exact ih4 _ _ _ _ _ _ _ _ _ _ _ _ _ | exact spec_ggNear.mono _ _ _ _ _ | exact LeO.refl _ | exact LeO.none _ | refine LeO.ite ?_ ?_ | refine LeO.bind ?_ (fun _ => ?_)) | exact ih0 _ _ _ _ _ _ | exact ih1 _ _ _ _ _ _ _ _ | exact ih2 _ _ _ _ _ _ _ _ _ _ | exact ih3 _ _ _ _ _ _ _ _ _ _ | exact ih4 _ _ _ _ _ _ _ _ _ _ _ _ _ | exact spec_ggNear.mono _ _ _ _ _ | exact LeO.none _ | refine LeO.ite ?_ ?_ | refine LeO.bind ?_ (fun _ => ?_)
  ·intro y0 y1 y2 y3 y4 y5 y6 y7 y8 y9
   unfold spec_ggGroups.j2
   repeat' first | (with_reducible first | exact ih0 _ _ _ _ _ _ | exact ih1 _ _ _ _ _ _ _ _ | exact ih2 _ _ _ _ _ _ _ _ _ _ | exact ih3 _ _ _ _ _ _ _ _ _ _ | exact ih4 _ _ _ _ _ _ _ _ _ _ _ _ _ | exact spec_ggNear.mono _ _ _ _ _ | exact LeO.refl _ | exact LeO.none _ | refine LeO.ite ?_ ?_ | refine LeO.bind ?_ (fun _ => ?_)) | exact ih0 _ _ _ _ _ _ | exact ih1 _ _ _ _ _ _ _ _ | exact ih2 _ _ _ _ _ _ _ _ _ _ | exact ih3 _ _ _ _ _ _ _ _ _ _ | exact ih4 _ _ _ _ _ _ _ _ _ _ _ _ _ | exact spec_ggNear.mono _ _ _ _ _ | exact LeO.none _ | refine LeO.ite ?_ ?_ | refine LeO.bind ?_ (fun _ => ?_)
  ·intro y0 y1 y2 y3 y4 y5 y6 y7 y8 y9
   unfold spec_ggGroups.l2
   repeat' first | (with_reducible first | exact ih0 _ _ _ _ _ _ | exact ih1 _ _ _ _ _ _ _ _ | exact ih2 _ _ _ _ _ _ _ _ _ _ | exact ih3 _ _ _ _ _ _ _ _ _ _ | exact ih4 _ _ _ _ _ _ _ _ _ _ _ _ _ | exact spec_ggNear.mono _ _ _ _ _ | exact LeO.refl _ | exact LeO.none _ | refine LeO.ite ?_ ?_ | refine LeO.bind ?_ (fun _ => ?_)) | exact ih0 _ _ _ _ _ _ | exact ih1 _ _ _ _ _ _ _ _ | exact ih2 _ _ _ _ _ _ _ _ _ _ | exact ih3 _ _ _ _ _ _ _ _ _ _ | exact ih4 _ _ _ _ _ _ _ _ _ _ _ _ _ | exact spec_ggNear.mono _ _ _ _ _ | exact LeO.none _ | refine LeO.ite ?_ ?_ | refine LeO.bind ?_ (fun _ => ?_)
  ·intro y0 y1 y2 y3 y4 y5 y6 y7 y8 y9 y10 y11 y12
   unfold spec_ggGroups.l3
   repeat' first | (with_reducible first | exact ih0 _ _ _ _ _ _ | exact ih1 _ _ _ _ _ _ _ _ | exact ih2 _ _ _ _ _ _ _ _ _ _ | exact ih3 _ _ _ _ _ _ _ _ _ _ | exact ih4 _ _ _ _ _ _ _ _ _ _ _ _ _ | exact spec_ggNear.mono _ _ _ _ _ | exact LeO.refl _ | exact LeO.none _ | refine LeO.ite ?_ ?_ | refine LeO.bind ?_ (fun _ => ?_)) | exact ih0 _ _ _ _ _ _ | exact ih1 _ _ _ _ _ _ _ _ | exact ih2 _ _ _ _ _ _ _ _ _ _ | exact ih3 _ _ _ _ _ _ _ _ _ _ | exact ih4 _ _ _ _ _ _ _ _ _ _ _ _ _ | exact spec_ggNear.mono _ _ _ _ _ | exact LeO.none _ | refine LeO.ite ?_ ?_ | refine LeO.bind ?_ (fun _ => ?_)
theorem spec_ggGroups.mono : ∀ a0 a1 a2 k, LeO (spec_ggGroups.f k a0 a1 a2) (spec_ggGroups.f (k + 1) a0 a1 a2) := by
 intro a0 a1 a2 k
 obtain ⟨ih0, ih1, ih2, ih3, ih4⟩ := spec_ggGroups.mono_l k
 unfold spec_ggGroups.f
 repeat' first | (with_reducible first | exact ih0 _ _ _ _ _ _ | exact ih1 _ _ _ _ _ _ _ _ | exact ih2 _ _ _ _ _ _ _ _ _ _ | exact ih3 _ _ _ _ _ _ _ _ _ _ | exact ih4 _ _ _ _ _ _ _ _ _ _ _ _ _ | exact spec_ggNear.mono _ _ _ _ _ | exact LeO.refl _ | exact LeO.none _ | refine LeO.ite ?_ ?_ | refine LeO.bind ?_ (fun _ => ?_)) | exact ih0 _ _ _ _ _ _ | exact ih1 _ _ _ _ _ _ _ _ | exact ih2 _ _ _ _ _ _ _ _ _ _ | exact ih3 _ _ _ _ _ _ _ _ _ _ | exact ih4 _ _ _ _ _ _ _ _ _ _ _ _ _ | exact spec_ggNear.mono _ _ _ _ _ | exact LeO.none _ | refine LeO.ite ?_ ?_ | refine LeO.bind ?_ (fun _ => ?_)
def spec_ggGroups.T17 : Bool × List (List Nat × List Nat) := (true, [([], []), ([], []), ([], []), ([1, 2], [1, 2]), ([3], [3]), ([0, 4], [0, 4]), ([5], [5]), ([], [])])
def spec_ggGroups.B17 : List Nat := [0, 0, 0, 6, 14, 31, 63, 0]
theorem spec_ggGroups.tab17 : rtab .any (opsOf Try.f62 17) = spec_ggGroups.T17 := by kernel_rfl
theorem spec_ggGroups.bits17 : waitsOk spec_ggGroups.T17.2 spec_ggGroups.B17 = true := by kernel_rfl
set_option maxHeartbeats 8000000 in
set_option maxRecDepth 100000 in
theorem spec_ggGroups.calls (k : Nat) (a0_0 : Int) (a0_1 : Int) (A0_2 : Option Addr) (c0_2 : Nat) (l0_2 : List (S89)) (r : List Int) (w : World) (hr0_2 : Kd.C k89 w A0_2 l0_2.length l0_2) (hc0_2 : l0_2.length ≤ c0_2) (h : spec_ggGroups.f k a0_0 a0_1 l0_2 = some r) :
  Calls Try.prog 62 #[.agg #[.int .i64 a0_0, .int .i64 a0_1, .slice A0_2 l0_2.length c0_2]] w fun e w' => ∃ v0_ : Value, e = .returned (v0_) ∧ Kd.R (Kd.int .i64) 3 w' w.heap.size (fun _ => True) v0_ r ∧ Below w.heap.size w w' := by
 have hu32 := Try.underlying32
 have hu89 := Try.underlying89
 have HR0_2 := Aside0.mk hr0_2
 have HC0_2 := Aside0.mk hc0_2
 clear hr0_2 hc0_2
 have HB := Aside0.mk (Below.refl w.heap.size w)
 have H : (if 0 ≤ (l0_2.length : Int) then (if ((l0_2.length : Int) : Int).toNat ≤ 35184372088832 then ((some (List.replicate ((l0_2.length : Int) : Int).toNat 0 : List Int)).bind fun y145 => (spec_ggGroups.l0 k y145 (y145.length : Int) 0 a0_0 a0_1 l0_2)) else (none)) else (none)) = some r := h
 clear h
 by_cases c2 : 0 ≤ (l0_2.length : Int)
 ·rw [if_pos c2] at H
  have c2b0 := eq_true c2
  have c2b1 := decide_eq_true c2
  clear c2
  by_cases c3 : ((l0_2.length : Int) : Int).toNat ≤ 35184372088832
  ·rw [if_pos c3] at H
   have c3b0 := eq_true c3
   have c3b1 := decide_eq_true c3
   clear c3
   obtain ⟨y145, hy145⟩ : ∃ y_ : List Int, y_ = (List.replicate ((l0_2.length : Int) : Int).toNat 0) := ⟨_, rfl⟩
   replace H : (spec_ggGroups.l0 k y145 (y145.length : Int) 0 a0_0 a0_1 l0_2) = some r := by first | (rw [hy145]; with_reducible exact H) | (have H2_ := (Option.bind_some _ _).symm.trans H; rw [hy145]; with_reducible exact H2_) | (have H2_ := (Option.bind_some _ _).symm.trans H; with_reducible exact H2_) | with_reducible exact H | (rw [hy145]; exact H) | exact H
   have Ny145 := Aside0.mk hy145
   clear hy145
   have H' := Aside0.mk H
   clear H
   go_enter Try.func62, Try.ntmps62
   go_wp2_with (first | ((with_reducible refine gate_dst (N := 1) rfl ?_); refine box_ev (N := 1) (cs := #[.int .i64 a0_0, .int .i64 a0_1, .slice A0_2 l0_2.length c0_2]) (t := 32) ?_; intro gb144 hg w4 hbox hb; have BK144 := Aside0.mk (hbox); have GW144 := gW (w := w) HB hg; have GE144 := gW (w := w) HB hg; replace HB := bB HB hb; clear hb hbox hg; have hcz5_0 := bc0 BK144; have hcz5_1 := bc1 BK144; have hcz5_2 := bc2 BK144; have hfz5_0 := blk_frozen BK144.out 0; have hfz5_1 := blk_frozen BK144.out 1; have hfz5_2 := blk_frozen BK144.out 2) | ((with_reducible refine gate_dst (N := 15) rfl ?_); refine Kd.R_make (Kd.int .i64) _ 3 rfl (N := 15) rfl 43 _ _ rfl (l0_2.length : Int) rfl rfl Try.underlying43 (.int .i64 0) 8 info3 rfl (by decide) (by omega) 0 (ok := fun _ => True) (okp := fun _ => True) rfl (fun _ hk => hk) trivial (ofD) (Nat.le_trans (Nat.mul_le_mul_right _ (ofD : (l0_2.length : Int).toNat ≤ 35184372088832)) (by omega)) (Below.refl _ _) (Nat.le_refl _) ?_; intro v146 w6 ho7 hb hg_ hnew_; clear hg_ hnew_; (first | rw [← Ny145.out] at ho7 | (simp only [Int.reduceToNat] at ho7; rw [← Ny145.out] at ho7)); have HO147 := Aside0.mk (Kd.R_lower ho7 (below_size (viaB HB))); replace BK144 := kB BK144 hb; replace HB := bB HB hb; clear hb ho7; obtain ⟨Ao8, co8, eo8⟩ := Kd.R_slice HO147.out; subst eo8))
   go_loopg [18] k (fun kq v18 w' => ∃ (x3_1 : List Int) (x18_1 : Int), v18 = .int .i64 x18_1 ∧ Aside0 (spec_ggGroups.l0 kq x3_1 (y145.length : Int) x18_1 a0_0 a0_1 l0_2 = some r) ∧ Aside0 (kq ≤ k) ∧ Aside0 (Kd.R (Kd.int .i64) 3 w' w.heap.size (fun _ => True) (.slice Ao8 y145.length co8) x3_1) ∧ Aside0 (w'.heap[gb144]? = some (.cells #[.int .i64 a0_0, .int .i64 a0_1, (.slice A0_2 l0_2.length c0_2)] 32 (0, 0))) ∧ Aside0 (Below w.heap.size w w'))
   case atStart => exact ⟨(y145), (0), (by first | rfl | (simp; done) | (simp [*]; done)), H', ⟨Nat.le_refl _⟩, ⟨viaR HO147⟩, ⟨viaK BK144⟩, ⟨viaB HB⟩⟩
   case round =>
    clear H'
    (try clear c2b0); (try clear c2b1); (try clear c3b0); (try clear c3b1)
    (try clear hcz5_0); (try clear hcz5_1); (try clear hcz5_2); (try clear hfz5_0); (try clear hfz5_1); (try clear hfz5_2)
    obtain ⟨x3_1, x18_1, rfl, HA, HK1, HO_3, BK144, HB⟩ := hrel
    have hl3_1 := (Kd.R_reads' HO_3.out).1
    rw [hl3_1] at HO_3
    (try simp only [hl3_1])
    (try simp only [hl3_1] at BK144)
    cases gk with
    | zero => exact absurd HA.out (by simp [spec_ggGroups.l0])
    | succ k1 =>
     have H := HA.out
     clear HA
     simp only [spec_ggGroups.l0] at H
     by_cases c9 : x18_1 < (y145.length : Int)
     ·rw [if_pos c9] at H
      have c9b0 := decide_eq_true c9
      clear c9
      by_cases c10 : 0 ≤ x18_1
      ·rw [if_pos c10] at H
       have c10b0 := decide_eq_true c10
       clear c10
       by_cases c11 : x18_1 < (x3_1.length : Int)
       ·rw [if_pos c11] at H
        have c11b0 := decide_eq_true c11
        clear c11
        obtain ⟨y148, hy148⟩ : ∃ y_ : List Int, y_ = (x3_1.set (x18_1 : Int).toNat (-1)) := ⟨_, rfl⟩
        replace H : (spec_ggGroups.l0 k1 y148 (y145.length : Int) (wrap64 (x18_1 + 1)) a0_0 a0_1 l0_2) = some r := by first | (rw [hy148]; with_reducible exact H) | (have H2_ := (Option.bind_some _ _).symm.trans H; rw [hy148]; with_reducible exact H2_) | (have H2_ := (Option.bind_some _ _).symm.trans H; with_reducible exact H2_) | with_reducible exact H | (rw [hy148]; exact H) | exact H
        have Ny148 := Aside0.mk hy148
        clear hy148
        have H' := Aside0.mk H
        clear H
        have p12 : 0 ≤ (x18_1 : Int) := ofD
        have q12 : (x18_1 : Int) < ((x3_1.length : Int) : Int) := ofD
        obtain ⟨go12, co12, eo12, gb12, gl12, cl12, HG12⟩ := Kd.R_form HO_3.out (by omega)
        (first | cases eo12 | (injection eo12 with ea_ en_ ec_; (first | subst ea_ | (injection ea_ with ea_; subst ea_)); subst ec_; clear en_))
        have GB12 := Aside0.mk gb12
        have GG12 := Aside0.mk HG12
        clear gb12 gl12 HG12
        obtain ⟨hx12_0, hf12_0⟩ := Kd.R_celln 0 HO_3.out (x18_1 : Int) p12 q12
        replace p12 := eq_true p12
        replace q12 := eq_true q12
        have HP13 := Kd.R_putg HO_3.out (x18_1 : Int) (-1)
        go_wp2_with (first | ((with_reducible refine gate_store (t := 3) (p := 23) rfl ?_); refine store_event (t := 3) (p := 23) (v := ?vo_w14) (w1 := (wr.setCell ⟨go12, (x18_1 : Int).toNat, none⟩ (.int .i64 (-1)))) ?hg ?ho ?hn ?hr ?_; (case ho => rfl); (case hg => rfl); (case hn => rfl); (case hr => first | (go_simp; done) | (go_simp; rfl)); intro w14 hw; have hg : wr.grownBy w14 (some go12) := (by rw [hw]; exact HP13.2); have hp_ : Kd.R (Kd.int .i64) 3 w14 w.heap.size (fun _ => True) (.slice (some ⟨go12, 0, none⟩) x3_1.length co8) y148 := (by rw [hw, Ny148.out]; exact HP13.1); clear HP13; replace BK144 := Aside0.mk (blk_grown (g := gb144) (o := .cells #[.int .i64 a0_0, .int .i64 a0_1, .slice A0_2 l0_2.length c0_2] 32 (0, 0)) (viaK BK144) hg (Kd.R_ne HO_3.out BK144.out (by decide))); replace HO_3 := Aside0.mk (hp_); replace HB := Aside0.mk ((by rw [hw]; exact below_set (HB.out) GB12.out : Below w.heap.size w w14)); clear hg hw hp_))
        (try simp only [← hl3_1])
        go_roundg k1
        case measure => have := HK1.out; omega
        case rel => exact ⟨(y148), (wrap64 (x18_1 + 1)), (by first | rfl | (simp; done) | (simp [*]; done)), H', ⟨by have := HK1.out; omega⟩, ⟨by (try simp only [hl3_1]); (with_reducible repeat (first | apply Kd.R_alloc | apply Kd.R_drewN | apply Kd.R_drew)); exact HO_3.out⟩, ⟨by (try simp only [hl3_1]); (with_reducible repeat (first | refine blk_drewN ?_ _ | refine blk_drew ?_ | refine blk_alloc ?_ _)); exact BK144.out⟩, ⟨viaB HB⟩⟩
       ·rw [if_neg c11] at H
        exact absurd H (by simp)
      ·rw [if_neg c10] at H
       exact absurd H (by simp)
     ·rw [if_neg c9] at H
      have c9b0 := decide_eq_false c9
      (try simp only [hl3_1] at c9b0)
      clear c9
      have H' := Aside0.mk H
      clear H
      have hcz15_0 := bc0 BK144
      have hcz15_1 := bc1 BK144
      have hcz15_2 := bc2 BK144
      have hfz15_0 := blk_frozen BK144.out 0
      have hfz15_1 := blk_frozen BK144.out 1
      have hfz15_2 := blk_frozen BK144.out 2
      go_wp2
      go_loopg [5, 28] k1 (fun kq v5 v28 w' => ∃ (x3_2 : List Int) (x5_2 : Int) (x28_2 : Int), v5 = .int .i64 x5_2 ∧ v28 = .int .i64 x28_2 ∧ Aside0 (spec_ggGroups.l1 kq x3_2 x5_2 l0_2 (l0_2.length : Int) x28_2 a0_0 a0_1 l0_2 = some r) ∧ Aside0 (kq ≤ k1) ∧ Aside0 (Kd.R (Kd.int .i64) 3 w' w.heap.size (fun _ => True) (.slice Ao8 x3_1.length co8) x3_2) ∧ Aside0 (w'.heap[gb144]? = some (.cells #[.int .i64 a0_0, .int .i64 a0_1, (.slice A0_2 l0_2.length c0_2)] 32 (0, 0))) ∧ Aside0 (Below w.heap.size w w'))
      case atStart => exact ⟨(x3_1), (0), (0), (by first | rfl | (simp; done) | (simp [*]; done)), (by first | rfl | (simp; done) | (simp [*]; done)), H', ⟨Nat.le_refl _⟩, ⟨by (try simp only [hl3_1]); (with_reducible repeat (first | apply Kd.R_alloc | apply Kd.R_drewN | apply Kd.R_drew)); exact HO_3.out⟩, ⟨by (try simp only [hl3_1]); (with_reducible repeat (first | refine blk_drewN ?_ _ | refine blk_drew ?_ | refine blk_alloc ?_ _)); exact BK144.out⟩, ⟨viaB HB⟩⟩
      case round =>
       clear H'
       (try clear c9b0)
       (try clear hcz15_0); (try clear hcz15_1); (try clear hcz15_2); (try clear hfz15_0); (try clear hfz15_1); (try clear hfz15_2)
       obtain ⟨x3_2, x5_2, x28_2, rfl, rfl, HA, HK2, HO_3, BK144, HB⟩ := hrel
       have hl3_2 := (Kd.R_reads' HO_3.out).1
       rw [hl3_2] at HO_3
       (try simp only [hl3_2])
       (try simp only [hl3_2] at BK144)
       cases gk with
       | zero => exact absurd HA.out (by simp [spec_ggGroups.l1])
       | succ k2 =>
        have H := HA.out
        clear HA
        simp only [spec_ggGroups.l1] at H
        by_cases c16 : x28_2 < (l0_2.length : Int)
        ·rw [if_pos c16] at H
         have c16b0 := decide_eq_true c16
         clear c16
         by_cases c17 : 0 ≤ x28_2
         ·rw [if_pos c17] at H
          have c17b0 := decide_eq_true c17
          clear c17
          by_cases c18 : x28_2 < (l0_2.length : Int)
          ·rw [if_pos c18] at H
           have c18b0 := decide_eq_true c18
           clear c18
           have HC19 := Aside0.mk H
           clear H
           have p149 : 0 ≤ (x28_2 : Int) := ofD
           have q149 : x28_2 < (l0_2.length : Int) := ofD
           obtain ⟨ad149, e149, hx149_0, hx149_1⟩ := at_T89 HR0_2.out x28_2 p149 q149
           cases e149
           replace hx149_0 := (HB.out.cell (World.block_lt_of_cell? w _ hx149_0)).trans hx149_0
           replace hx149_1 := (HB.out.cell (World.block_lt_of_cell? w _ hx149_1)).trans hx149_1
           replace p149 := eq_true p149
           replace q149 := eq_true q149
           go_upto_region 11 with (first | ((with_reducible refine gate_dst (N := 7) rfl ?_); refine box_ev (N := 7) (cs := #[.int .i64 0, .int .i64 0]) (t := 89) ?_; intro gb150 hg w20 hbox hb; have BK150 := Aside0.mk (hbox); have GW150 := gW (w := w) HB hg; have GE150 := gW (w := w) HB hg; have NB144_150 := neL BK144 hg; have NB150_144 := neG BK144 hg; replace HO_3 := Aside0.mk (Kd.R_below (viaR HO_3) hb); replace BK144 := kB BK144 hb; replace HB := bB HB hb; clear hb hbox hg; have hnb21 := NB150_144.out; have hnc21 := NB144_150.out; have hcz22_0 := bc0 BK150; have hcz22_1 := bc1 BK150; have hfz22_0 := blk_frozen BK150.out 0; have hfz22_1 := blk_frozen BK150.out 1))
           (try simp only [Act.put, q1, q2, q3])
           go_cut [42] (fun v42 wc => ∃ (kq : Nat) (x42_18 : Bool), v42 = .bool x42_18 ∧ Aside0 (spec_ggGroups.j2 kq x3_2 x5_2 x28_2 l0_2 (l0_2.length : Int) x28_2 x42_18 a0_0 a0_1 l0_2 = some r) ∧ Aside0 (kq ≤ k2) ∧ Aside0 (Kd.R (Kd.int .i64) 3 wc w.heap.size (fun _ => True) (.slice Ao8 x3_2.length co8) x3_2) ∧ Aside0 (wc.heap[gb144]? = some (.cells #[.int .i64 a0_0, .int .i64 a0_1, (.slice (some ad149) l0_2.length c0_2)] 32 (0, 0))) ∧ Aside0 (wc.heap[gb150]? = some (.cells #[.int .i64 ((rd_T89 l0_2 x28_2).f0), .int .i64 ((rd_T89 l0_2 x28_2).f1)] 89 (0, 0))) ∧ Aside0 (Below w.heap.size w wc))
           case first =>
            have H := HC19.out
            clear HC19
            replace H := Option.bind_eq_some_iff.mp H
            obtain ⟨t151, A230, H⟩ := H
            replace H : (if t151 = true then (if x28_2 < (x3_2.length : Int) then (spec_ggGroups.j2 k2 x3_2 x5_2 x28_2 l0_2 (l0_2.length : Int) x28_2 (decide ((rd x3_2 x28_2) ≥ 0)) a0_0 a0_1 l0_2) else (none)) else (spec_ggGroups.j2 k2 x3_2 x5_2 x28_2 l0_2 (l0_2.length : Int) x28_2 true a0_0 a0_1 l0_2)) = some r := H
            have A23 := Aside0.mk A230
            clear A230
            by_cases c24 : t151 = true
            ·subst c24
             have H1 : (if x28_2 < (x3_2.length : Int) then (spec_ggGroups.j2 k2 x3_2 x5_2 x28_2 l0_2 (l0_2.length : Int) x28_2 (decide ((rd x3_2 x28_2) ≥ 0)) a0_0 a0_1 l0_2) else (none)) = some r := by rw [if_pos rfl] at H; exact H
             clear H
             have H := H1
             clear H1
             by_cases c25 : x28_2 < (x3_2.length : Int)
             ·rw [if_pos c25] at H
              have c25b0 := decide_eq_true c25
              clear c25
              (first | rw [c25b0] | (simp only [i64_w, i32_w]; rw [c25b0]) | skip)
              have H' := Aside0.mk H
              clear H
              have hnb26 := NB150_144.out
              have hnc26 := NB144_150.out
              have hcz27_0 := bc0 BK150
              have hcz27_1 := bc1 BK150
              have hfz27_0 := blk_frozen BK150.out 0
              have hfz27_1 := blk_frozen BK150.out 1
              go_wp2_with (first | ((with_reducible refine gate_callee (f := 80) rfl ?_); refine goesA (some 34) _ #[.agg #[.int .i64 ((rd_T89 l0_2 x28_2).f0), .int .i64 ((rd_T89 l0_2 x28_2).f1)]] ?_ Try.func80; (with_reducible refine (spec_ggGear.calls ((rd_T89 l0_2 x28_2).f0) ((rd_T89 l0_2 x28_2).f1) true _ A23.out).mono ?_); rintro e w28 ⟨rfl, hb⟩; refine ⟨_, rfl, ?_⟩; replace HO_3 := Aside0.mk (Kd.R_below (by (with_reducible repeat (first | apply Kd.R_alloc | apply Kd.R_drewN | apply Kd.R_drew)); exact (Kd.R_mono (Kd.R_far (p := ⟨gb150, 1, none⟩) (Kd.R_far (p := ⟨gb150, 0, none⟩) (Kd.R_types HO_3.out BK150.out (by decide)) (fun _ hk => hk.2) (.int .i64 ((rd_T89 l0_2 x28_2).f0))) (fun _ hk => hk.2) (.int .i64 ((rd_T89 l0_2 x28_2).f1))) (fun _ h_ => h_.1))) hb); replace BK144 := Aside0.mk (blk_below (g := gb144) (o := .cells #[.int .i64 a0_0, .int .i64 a0_1, .slice (some ad149) l0_2.length c0_2] 32 (0, 0)) (by (with_reducible repeat (first | refine blk_drewN ?_ _ | refine blk_drew ?_ | refine blk_alloc ?_ _)); refine blk_far ?_ NB144_150.out _; (with_reducible repeat (first | refine blk_drewN ?_ _ | refine blk_drew ?_ | refine blk_alloc ?_ _)); refine blk_far ?_ NB144_150.out _; (with_reducible repeat (first | refine blk_drewN ?_ _ | refine blk_drew ?_ | refine blk_alloc ?_ _)); exact BK144.out) hb); replace BK150 := Aside0.mk (blk_below (g := gb150) (o := .cells #[.int .i64 ((rd_T89 l0_2 x28_2).f0), .int .i64 ((rd_T89 l0_2 x28_2).f1)] 89 (0, 0)) (by (with_reducible repeat (first | refine blk_drewN ?_ _ | refine blk_drew ?_ | refine blk_alloc ?_ _)); refine blk_put (cs := #[.int .i64 ((rd_T89 l0_2 x28_2).f0), .int .i64 0]) ?_ 1 _ rfl; (with_reducible repeat (first | refine blk_drewN ?_ _ | refine blk_drew ?_ | refine blk_alloc ?_ _)); refine blk_put (cs := #[.int .i64 0, .int .i64 0]) ?_ 0 _ rfl; (with_reducible repeat (first | refine blk_drewN ?_ _ | refine blk_drew ?_ | refine blk_alloc ?_ _)); exact BK150.out) hb); replace HB := bB HB hb; (try clear hb); (try clear hb2); (try clear hk); (try clear hi); have p152 : 0 ≤ (x28_2 : Int) := ofD; have q152 : x28_2 < (x3_2.length : Int) := ofD; obtain ⟨ad152, e152, hx152_0⟩ := Kd.at_int (Kd.R_reads' HO_3.out).2.2 x28_2 p152 q152; cases e152; replace p152 := eq_true p152; replace q152 := eq_true q152))
              go_meet
              case rel => exact ⟨_, (decide ((rd x3_2 x28_2) ≥ 0)), (by first | rfl | (simp; done) | (simp [*]; done)), H', ⟨by have := HK1.out; have := HK2.out; first | omega | exact Nat.le_refl _⟩, ⟨by (try simp only [hl3_1]); (try simp only [hl3_2]); (with_reducible repeat (first | apply Kd.R_alloc | apply Kd.R_drewN | apply Kd.R_drew)); exact HO_3.out⟩, ⟨by (try simp only [hl3_1]); (try simp only [hl3_2]); (with_reducible repeat (first | refine blk_drewN ?_ _ | refine blk_drew ?_ | refine blk_alloc ?_ _)); exact BK144.out⟩, ⟨by (try simp only [hl3_1]); (try simp only [hl3_2]); (with_reducible repeat (first | refine blk_drewN ?_ _ | refine blk_drew ?_ | refine blk_alloc ?_ _)); exact BK150.out⟩, ⟨viaB HB⟩⟩
             ·rw [if_neg c25] at H
              exact absurd H (by simp)
            ·replace c24 := Bool.eq_false_iff.mpr c24
             subst c24
             have H1 : (spec_ggGroups.j2 k2 x3_2 x5_2 x28_2 l0_2 (l0_2.length : Int) x28_2 true a0_0 a0_1 l0_2) = some r := by rw [if_neg (show ¬ (false = true) by decide)] at H; exact H
             clear H
             have H := H1
             clear H1
             have H' := Aside0.mk H
             clear H
             have hnb29 := NB150_144.out
             have hnc29 := NB144_150.out
             have hcz30_0 := bc0 BK150
             have hcz30_1 := bc1 BK150
             have hfz30_0 := blk_frozen BK150.out 0
             have hfz30_1 := blk_frozen BK150.out 1
             go_wp2_with (first | ((with_reducible refine gate_callee (f := 80) rfl ?_); refine goesA (some 34) _ #[.agg #[.int .i64 ((rd_T89 l0_2 x28_2).f0), .int .i64 ((rd_T89 l0_2 x28_2).f1)]] ?_ Try.func80; (with_reducible refine (spec_ggGear.calls ((rd_T89 l0_2 x28_2).f0) ((rd_T89 l0_2 x28_2).f1) false _ A23.out).mono ?_); rintro e w31 ⟨rfl, hb⟩; refine ⟨_, rfl, ?_⟩; replace HO_3 := Aside0.mk (Kd.R_below (by (with_reducible repeat (first | apply Kd.R_alloc | apply Kd.R_drewN | apply Kd.R_drew)); exact (Kd.R_mono (Kd.R_far (p := ⟨gb150, 1, none⟩) (Kd.R_far (p := ⟨gb150, 0, none⟩) (Kd.R_types HO_3.out BK150.out (by decide)) (fun _ hk => hk.2) (.int .i64 ((rd_T89 l0_2 x28_2).f0))) (fun _ hk => hk.2) (.int .i64 ((rd_T89 l0_2 x28_2).f1))) (fun _ h_ => h_.1))) hb); replace BK144 := Aside0.mk (blk_below (g := gb144) (o := .cells #[.int .i64 a0_0, .int .i64 a0_1, .slice (some ad149) l0_2.length c0_2] 32 (0, 0)) (by (with_reducible repeat (first | refine blk_drewN ?_ _ | refine blk_drew ?_ | refine blk_alloc ?_ _)); refine blk_far ?_ NB144_150.out _; (with_reducible repeat (first | refine blk_drewN ?_ _ | refine blk_drew ?_ | refine blk_alloc ?_ _)); refine blk_far ?_ NB144_150.out _; (with_reducible repeat (first | refine blk_drewN ?_ _ | refine blk_drew ?_ | refine blk_alloc ?_ _)); exact BK144.out) hb); replace BK150 := Aside0.mk (blk_below (g := gb150) (o := .cells #[.int .i64 ((rd_T89 l0_2 x28_2).f0), .int .i64 ((rd_T89 l0_2 x28_2).f1)] 89 (0, 0)) (by (with_reducible repeat (first | refine blk_drewN ?_ _ | refine blk_drew ?_ | refine blk_alloc ?_ _)); refine blk_put (cs := #[.int .i64 ((rd_T89 l0_2 x28_2).f0), .int .i64 0]) ?_ 1 _ rfl; (with_reducible repeat (first | refine blk_drewN ?_ _ | refine blk_drew ?_ | refine blk_alloc ?_ _)); refine blk_put (cs := #[.int .i64 0, .int .i64 0]) ?_ 0 _ rfl; (with_reducible repeat (first | refine blk_drewN ?_ _ | refine blk_drew ?_ | refine blk_alloc ?_ _)); exact BK150.out) hb); replace HB := bB HB hb; (try clear hb); (try clear hb2); (try clear hk); (try clear hi)))
             go_meet
             case rel => exact ⟨_, (true), (by first | rfl | (simp; done) | (simp [*]; done)), H', ⟨by have := HK1.out; have := HK2.out; first | omega | exact Nat.le_refl _⟩, ⟨by (try simp only [hl3_1]); (try simp only [hl3_2]); (with_reducible repeat (first | apply Kd.R_alloc | apply Kd.R_drewN | apply Kd.R_drew)); exact HO_3.out⟩, ⟨by (try simp only [hl3_1]); (try simp only [hl3_2]); (with_reducible repeat (first | refine blk_drewN ?_ _ | refine blk_drew ?_ | refine blk_alloc ?_ _)); exact BK144.out⟩, ⟨by (try simp only [hl3_1]); (try simp only [hl3_2]); (with_reducible repeat (first | refine blk_drewN ?_ _ | refine blk_drew ?_ | refine blk_alloc ?_ _)); exact BK150.out⟩, ⟨viaB HB⟩⟩
           case rest =>
            clear HC19
            (try clear c16b0); (try clear c17b0); (try clear c18b0)
            (try clear hcz22_0); (try clear hcz22_1); (try clear hfz22_0); (try clear hfz22_1); (try clear hx149_0); (try clear hx149_1); (try clear p149); (try clear q149)
            obtain ⟨kq, x42_18, rfl, HA, HJ18, HO_3, BK144, BK150, HB⟩ := hcut
            cases kq with
            | zero => exact absurd HA.out (by simp [spec_ggGroups.j2])
            | succ kj18 =>
             have H := HA.out
             clear HA
             simp only [spec_ggGroups.j2] at H
             by_cases c32 : x42_18 = true
             ·subst c32
              have H1 : (spec_ggGroups.l1 kj18 x3_2 x5_2 l0_2 (l0_2.length : Int) (wrap64 (x28_2 + 1)) a0_0 a0_1 l0_2) = some r := by rw [if_pos rfl] at H; exact H
              clear H
              have H := H1
              clear H1
              have H' := Aside0.mk H
              clear H
              go_wp2
              (try simp only [← hl3_2])
              go_roundg kj18
              case measure => have := HK1.out; have := HK2.out; have := HJ18.out; omega
              case rel => exact ⟨(x3_2), (x5_2), (wrap64 (x28_2 + 1)), (by first | rfl | (simp; done) | (simp [*]; done)), (by first | rfl | (simp; done) | (simp [*]; done)), H', ⟨by have := HK1.out; have := HK2.out; have := HJ18.out; omega⟩, ⟨by (try simp only [hl3_1]); (try simp only [hl3_2]); (with_reducible repeat (first | apply Kd.R_alloc | apply Kd.R_drewN | apply Kd.R_drew)); exact HO_3.out⟩, ⟨by (try simp only [hl3_1]); (try simp only [hl3_2]); (with_reducible repeat (first | refine blk_drewN ?_ _ | refine blk_drew ?_ | refine blk_alloc ?_ _)); exact BK144.out⟩, ⟨viaB HB⟩⟩
             ·replace c32 := Bool.eq_false_iff.mpr c32
              subst c32
              have H1 : (if 0 ≤ x28_2 then (if x28_2 < (x3_2.length : Int) then (spec_ggGroups.l2 kj18 (x3_2.set (x28_2 : Int).toNat x5_2) x5_2 (([x28_2] : List Int)) 0 l0_2 (l0_2.length : Int) x28_2 a0_0 a0_1 l0_2) else (none)) else (none)) = some r := by rw [if_neg (show ¬ (false = true) by decide)] at H; exact H
              clear H
              have H := H1
              clear H1
              by_cases c33 : 0 ≤ x28_2
              ·rw [if_pos c33] at H
               have c33b0 := decide_eq_true c33
               clear c33
               by_cases c34 : x28_2 < (x3_2.length : Int)
               ·rw [if_pos c34] at H
                have c34b0 := decide_eq_true c34
                clear c34
                obtain ⟨y153, hy153⟩ : ∃ y_ : List Int, y_ = (x3_2.set (x28_2 : Int).toNat x5_2) := ⟨_, rfl⟩
                replace H : (spec_ggGroups.l2 kj18 y153 x5_2 (([x28_2] : List Int)) 0 l0_2 (l0_2.length : Int) x28_2 a0_0 a0_1 l0_2) = some r := by first | (rw [hy153]; with_reducible exact H) | (have H2_ := (Option.bind_some _ _).symm.trans H; rw [hy153]; with_reducible exact H2_) | (have H2_ := (Option.bind_some _ _).symm.trans H; with_reducible exact H2_) | with_reducible exact H | (rw [hy153]; exact H) | exact H
                have Ny153 := Aside0.mk hy153
                clear hy153
                obtain ⟨y154, hy154⟩ : ∃ y_ : List Int, y_ = (([x28_2] : List Int)) := ⟨_, rfl⟩
                replace H : (spec_ggGroups.l2 kj18 y153 x5_2 y154 0 l0_2 (l0_2.length : Int) x28_2 a0_0 a0_1 l0_2) = some r := by first | (rw [hy154]; with_reducible exact H) | (have H2_ := (Option.bind_some _ _).symm.trans H; rw [hy154]; with_reducible exact H2_) | (have H2_ := (Option.bind_some _ _).symm.trans H; with_reducible exact H2_) | with_reducible exact H | (rw [hy154]; exact H) | exact H
                have Ny154 := Aside0.mk hy154
                clear hy154
                have H' := Aside0.mk H
                clear H
                have p35 : 0 ≤ (x28_2 : Int) := ofD
                have q35 : (x28_2 : Int) < ((x3_2.length : Int) : Int) := ofD
                obtain ⟨go35, co35, eo35, gb35, gl35, cl35, HG35⟩ := Kd.R_form HO_3.out (by omega)
                (first | cases eo35 | (injection eo35 with ea_ en_ ec_; (first | subst ea_ | (injection ea_ with ea_; subst ea_)); subst ec_; clear en_))
                have GB35 := Aside0.mk gb35
                have GG35 := Aside0.mk HG35
                clear gb35 gl35 HG35
                obtain ⟨hx35_0, hf35_0⟩ := Kd.R_celln 0 HO_3.out (x28_2 : Int) p35 q35
                replace p35 := eq_true p35
                replace q35 := eq_true q35
                have HP36 := Kd.R_putg HO_3.out (x28_2 : Int) x5_2
                go_wp2_with (first | ((with_reducible refine gate_store (t := 3) (p := 46) rfl ?_); refine store_event (t := 3) (p := 46) (v := ?vo_w37) (w1 := (wc.setCell ⟨go35, (x28_2 : Int).toNat, none⟩ (.int .i64 x5_2))) ?hg ?ho ?hn ?hr ?_; (case ho => rfl); (case hg => rfl); (case hn => rfl); (case hr => first | (go_simp; done) | (go_simp; rfl)); intro w37 hw; have hg : wc.grownBy w37 (some go35) := (by rw [hw]; exact HP36.2); have hp_ : Kd.R (Kd.int .i64) 3 w37 w.heap.size (fun _ => True) (.slice (some ⟨go35, 0, none⟩) x3_2.length co8) y153 := (by rw [hw, Ny153.out]; exact HP36.1); clear HP36; replace BK144 := Aside0.mk (blk_grown (g := gb144) (o := .cells #[.int .i64 a0_0, .int .i64 a0_1, .slice (some ad149) l0_2.length c0_2] 32 (0, 0)) (viaK BK144) hg (Kd.R_ne HO_3.out BK144.out (by decide))); replace BK150 := Aside0.mk (blk_grown (g := gb150) (o := .cells #[.int .i64 ((rd_T89 l0_2 x28_2).f0), .int .i64 ((rd_T89 l0_2 x28_2).f1)] 89 (0, 0)) (viaK BK150) hg (Kd.R_ne HO_3.out BK150.out (by decide))); replace HO_3 := Aside0.mk (hp_); replace HB := Aside0.mk ((by rw [hw]; exact below_set (HB.out) GB35.out : Below w.heap.size w w37)); clear hg hw hp_) | ((with_reducible refine gate_dst (N := 48) rfl ?_); refine Kd.R_lit (Kd.int .i64) _ 3 ?hg (N := 48) ?hd (xs := ([x28_2] : List Int)) (inner := [.int .i64 x28_2]) (ok := fun _ => True) (okp := fun _ => True) ?hr ?hp (fun _ hk => hk) trivial (Below.refl _ _) (Nat.le_refl _) (by simp) ?_; (case hd => rfl); (case hg => rfl); (case hr => first | (go_simp; done) | (go_simp; rfl)); (case hp => exact (Reps.one (show Kd.M (Kd.int .i64) _ _ _ x28_2 [.int .i64 x28_2] from rfl) (Reps.none _ _))); intro v155 w38 ho39 hb hg_ hnew_; clear hg_ hnew_; (first | rw [← Ny154.out] at ho39 | (simp only [Int.reduceToNat] at ho39; rw [← Ny154.out] at ho39)); have HO156 := Aside0.mk (Kd.R_lower (Kd.R_new' ho39 (Kd.R_lt (viaR HO_3))) (below_size (viaB HB))); replace HO_3 := Aside0.mk (Kd.R_elder' (viaR HO_3) (Kd.R_base ho39) hb); replace BK144 := kB BK144 hb; replace BK150 := kB BK150 hb; replace HB := bB HB hb; clear hb ho39))
                go_loopg [8, 9] kj18 (fun kq v8 v9 w' => ∃ (x3_4 : List Int) (x8_4 : List Int) (x9_4 : Int), v9 = .int .i64 x9_4 ∧ Aside0 (spec_ggGroups.l2 kq x3_4 x5_2 x8_4 x9_4 l0_2 (l0_2.length : Int) x28_2 a0_0 a0_1 l0_2 = some r) ∧ Aside0 (kq ≤ kj18) ∧ Aside0 (Kd.R (Kd.int .i64) 3 w' w.heap.size (fun k_ => some k_ ≠ (v8 : Value).ownBlock) (.slice (some ⟨go35, 0, none⟩) x3_2.length co8) x3_4) ∧ Aside0 (Kd.R (Kd.int .i64) 3 w' w.heap.size (fun k_ => some k_ ≠ ((.slice (some ⟨go35, 0, none⟩) x3_2.length co8) : Value).ownBlock) v8 x8_4) ∧ Aside0 (w'.heap[gb144]? = some (.cells #[.int .i64 a0_0, .int .i64 a0_1, (.slice (some ad149) l0_2.length c0_2)] 32 (0, 0))) ∧ Aside0 (w'.heap[gb150]? = some (.cells #[.int .i64 ((rd_T89 l0_2 x28_2).f0), .int .i64 ((rd_T89 l0_2 x28_2).f1)] 89 (0, 0))) ∧ Aside0 (Below w.heap.size w w'))
                case atStart => exact ⟨(y153), (y154), (0), (by first | rfl | (simp; done) | (simp [*]; done)), H', ⟨Nat.le_refl _⟩, ⟨by (try simp only [hl3_1]); (try simp only [hl3_2]); (with_reducible repeat (first | apply Kd.R_alloc | apply Kd.R_drewN | apply Kd.R_drew)); exact Kd.R_mono HO_3.out (fun _ hk => hk.2)⟩, ⟨by (try simp only [hl3_1]); (try simp only [hl3_2]); (with_reducible repeat (first | apply Kd.R_alloc | apply Kd.R_drewN | apply Kd.R_drew)); exact Kd.R_mono HO156.out (fun _ hk => hk.2)⟩, ⟨by (try simp only [hl3_1]); (try simp only [hl3_2]); (with_reducible repeat (first | refine blk_drewN ?_ _ | refine blk_drew ?_ | refine blk_alloc ?_ _)); exact BK144.out⟩, ⟨by (try simp only [hl3_1]); (try simp only [hl3_2]); (with_reducible repeat (first | refine blk_drewN ?_ _ | refine blk_drew ?_ | refine blk_alloc ?_ _)); exact BK150.out⟩, ⟨viaB HB⟩⟩
                case round =>
                 clear H'
                 (try clear c32); (try clear c33b0); (try clear c34b0); (try clear p35); (try clear q35); (try clear hx35_0)
                 obtain ⟨x3_4, x8_4, x9_4, rfl, HA, HK4, HO_3, HO_8, BK144, BK150, HB⟩ := hrel
                 have hl3_4 := (Kd.R_reads' HO_3.out).1
                 rw [hl3_4] at HO_3
                 (try simp only [hl3_4])
                 (try simp only [hl3_4] at BK144)
                 (try simp only [hl3_4] at BK150)
                 (try simp only [hl3_4] at HO_8)
                 cases gk with
                 | zero => exact absurd HA.out (by simp [spec_ggGroups.l2])
                 | succ k4 =>
                  have H := HA.out
                  clear HA
                  simp only [spec_ggGroups.l2] at H
                  by_cases c40 : x9_4 < (x8_4.length : Int)
                  ·rw [if_pos c40] at H
                   have c40b0 := decide_eq_true c40
                   clear c40
                   by_cases c41 : 0 ≤ x9_4
                   ·rw [if_pos c41] at H
                    have c41b0 := decide_eq_true c41
                    clear c41
                    replace H := Option.bind_eq_some_iff.mp H
                    obtain ⟨t158, A420, H⟩ := H
                    replace H : (spec_ggGroups.l3 k4 x3_4 x5_2 x8_4 x9_4 l0_2 (l0_2.length : Int) x28_2 t158 (t158.length : Int) 0 a0_0 a0_1 l0_2) = some r := H
                    have A42 := Aside0.mk A420
                    clear A420
                    have H' := Aside0.mk H
                    clear H
                    obtain ⟨Ao43, co43, eo43⟩ := Kd.R_slice HO_8.out
                    subst eo43
                    try go_wp2
                    replace HO_3 := Aside0.mk (Kd.R_drew HO_3.out)
                    replace HO_8 := Aside0.mk (Kd.R_drew HO_8.out)
                    replace BK144 := Aside0.mk (blk_drew BK144.out)
                    replace BK150 := Aside0.mk (blk_drew BK150.out)
                    replace HB := Aside0.mk (below_drew1 HB.out)
                    have p157 : 0 ≤ (x9_4 : Int) := ofD
                    have q157 : x9_4 < (x8_4.length : Int) := ofD
                    obtain ⟨ad157, e157, hx157_0⟩ := Kd.at_int (Kd.R_reads' HO_8.out).2.2 x9_4 p157 q157
                    cases e157
                    replace p157 := eq_true p157
                    replace q157 := eq_true q157
                    refine start_ (n := 8) (S := fun w' => w'.cell? ⟨gb144, 0, none⟩ = some (.int .i64 a0_0) ∧ w'.cell? ⟨gb144, 1, none⟩ = some (.int .i64 a0_1) ∧ w'.cell? ⟨gb144, 2, none⟩ = some (.slice (some ad149) l0_2.length c0_2) ∧ w'.cell? (ad157.add (x9_4).toNat) = some (.int .i64 (rd x8_4 x9_4))) (ds := []) #[false, false, false, false, false, false, false, false] (by kernel_rfl) rfl rfl ⟨(blk_cell BK144.out 0).trans rfl, (blk_cell BK144.out 1).trans rfl, (blk_cell BK144.out 2).trans rfl, hx157_0⟩ (fun hHeld => ?_); refine with_tabW spec_ggGroups.tab17 spec_ggGroups.bits17 (fun HT_ HW_ => ?_)
                    generalize wr.drew = w44 at HO_3 HO_8 BK144 BK150 HB hx157_0 hHeld ⊢
                    refine pure_ (i := 1) (N := some 56) (v := ?_) (a' := ?_) #[false, true, false, false, false, false, false, false] rfl rfl (any_of HT_.out (by kernel_rfl)) (fun _ _ _ h => h) (Or.inl ⟨by rfl, ?_⟩) ?_ ?_
                    rotate_left
                    ·intro w'
                     go_simp
                     with_reducible rfl
                    rotate_left
                    ·simp only [Act.put, q1, q2, q3, i64_w, i32_w]
                     rfl
                    refine pure_ (i := 2) (N := some 57) (v := ?_) (a' := ?_) #[false, true, true, false, false, false, false, false] rfl rfl (any_of HT_.out (by kernel_rfl)) (fun _ _ _ h => h) (Or.inl ⟨by rfl, ?_⟩) ?_ ?_
                    rotate_left
                    ·intro w'
                     go_simp
                     with_reducible rfl
                    rotate_left
                    ·simp only [Act.put, q1, q2, q3, i64_w, i32_w]
                     rfl
                    refine pure_ (i := 3) (N := some 58) (v := ?_) (a' := ?_) #[false, true, true, true, false, false, false, false] rfl rfl (any_of HT_.out (by kernel_rfl)) (fun _ _ _ h => h) (Or.inl ⟨by rfl, ?_⟩) ?_ ?_
                    rotate_left
                    ·intro w'
                     go_simp
                     with_reducible rfl
                    rotate_left
                    ·simp only [Act.put, q1, q2, q3, i64_w, i32_w]
                     rfl
                    refine pure_ (i := 7) (N := some 62) (v := ?_) (a' := ?_) #[false, true, true, true, false, false, false, true] rfl rfl (any_of HT_.out (by kernel_rfl)) (fun _ _ _ h => h) (Or.inl ⟨by rfl, ?_⟩) ?_ ?_
                    rotate_left
                    ·intro w'
                     go_simp
                     with_reducible rfl
                    rotate_left
                    ·simp only [Act.put, q1, q2, q3, i64_w, i32_w]
                     rfl
                    refine take_ (i := 0) (N := some 55) (v := ?_) (a' := ?_) #[true, true, true, true, false, false, false, true] rfl rfl (take_ofW HT_.out HW_.out (by kernel_rfl)) (fun _ _ _ h => h) (Or.inl ⟨by rfl, ?_⟩) hHeld ?_ ?_
                    rotate_left
                    ·rintro w' ⟨s0, s1, s2, s3⟩
                     go_simp
                     with_reducible rfl
                    rotate_left
                    ·simp only [Act.put, q1, q2, q3, i64_w, i32_w]
                     rfl
                    refine take_ (i := 4) (N := some 59) (v := ?_) (a' := ?_) #[true, true, true, true, true, false, false, true] rfl rfl (take_ofW HT_.out HW_.out (by kernel_rfl)) (fun _ _ _ h => h) (Or.inl ⟨by rfl, ?_⟩) hHeld ?_ ?_
                    rotate_left
                    ·rintro w' ⟨s0, s1, s2, s3⟩
                     go_simp
                     with_reducible rfl
                    rotate_left
                    ·simp only [Act.put, q1, q2, q3, i64_w, i32_w]
                     rfl
                    refine one_ (i := 5) (N := some 60) #[true, true, true, true, true, true, false, true] rfl rfl (one_of HT_.out (by kernel_rfl)) (by decide) (fun K hK => ?_)
                    refine goes_ Try.func81 (by kernel_rfl) rfl #[.agg #[.int .i64 a0_0, .int .i64 a0_1, .slice (some ad149) l0_2.length c0_2], .int .i64 (rd x8_4 x9_4)] (by rfl) rfl rfl (by (try simp only [List.map_toArray, List.map_cons, List.map_nil]); first | done | rfl | (simp only [List.length_drop, List.length_take]; rfl)) ?_
                    with_reducible refine (spec_ggNear.calls k4 a0_0 a0_1 _ _ l0_2 (rd x8_4 x9_4) t158 _ ?side1 ?side2 A42.out).mono ?_
                    (case side1 => repeat (first | exact (Kd.C_below HR0_2.out HB.out) | (with_reducible refine Kd.C_alloc ?_ _) | (with_reducible refine Kd.C_drewN ?_ _) | (with_reducible refine Kd.C_drew ?_)))
                    (case side2 => exact HC0_2.out)
                    rintro e w45 ⟨v159, rfl, ho0, hb⟩
                    have HS3_ := (hb.cell (World.block_lt_of_cell? _ _ (hHeld.2.2.2))).trans (hHeld.2.2.2)
                    refine ⟨_, rfl, ?_⟩
                    have HO160 := Aside0.mk (Kd.R_lower (Kd.R_new' (Kd.R_new' ho0 (Kd.R_lt (viaR HO_3))) (Kd.R_lt (viaR HO_8))) (below_size (viaB HB)))
                    replace HO_3 := Aside0.mk (Kd.R_elder' (viaR HO_3) (Kd.R_base ho0) hb)
                    replace HO_8 := Aside0.mk (Kd.R_elder' (viaR HO_8) (Kd.R_base ho0) hb)
                    replace BK144 := kB BK144 hb
                    replace BK150 := kB BK150 hb
                    replace HB := bB HB hb
                    (try clear hb); (try clear ho0)
                    obtain ⟨Ao46, co46, eo46⟩ := Kd.R_slice HO160.out
                    (first | subst eo46 | (injection eo46 with f1_ f2_ f3_; have f4_ := f1_.symm; have f5_ := f3_.symm; clear f1_ f2_ f3_; subst f4_; subst f5_))
                    refine hK.out _ _ ⟨(blk_cell BK144.out 0).trans rfl, (blk_cell BK144.out 1).trans rfl, (blk_cell BK144.out 2).trans rfl, HS3_⟩ (fun hHeld => ?_)
                    clear hK K
                    refine norm_ (a' := ?_) ?_ ?_
                    rotate_left
                    ·show Act.put _ (some 60) _ = _
                     simp only [Act.put, q1, q2, q3, i64_w, i32_w]
                     rfl
                    refine pure_ (i := 6) (N := some 61) (v := ?_) (a' := ?_) #[true, true, true, true, true, true, true, true] rfl rfl (any_of HT_.out (by kernel_rfl)) (fun _ _ _ h => h) (Or.inl ⟨by rfl, ?_⟩) ?_ ?_
                    rotate_left
                    ·intro w'
                     go_simp
                     with_reducible rfl
                    rotate_left
                    ·simp only [Act.put, q1, q2, q3, i64_w, i32_w]
                     rfl
                    refine done_ (done_of HT_.out (by kernel_rfl)) ?_
                    try go_wp2
                    go_loopg [8, 62] k4 (fun kq v8 v62 w' => ∃ (x3_5 : List Int) (x8_5 : List Int) (x62_5 : Int), v62 = .int .i64 x62_5 ∧ Aside0 (spec_ggGroups.l3 kq x3_5 x5_2 x8_5 x9_4 l0_2 (l0_2.length : Int) x28_2 t158 (t158.length : Int) x62_5 a0_0 a0_1 l0_2 = some r) ∧ Aside0 (kq ≤ k4) ∧ Aside0 (Kd.R (Kd.int .i64) 3 w' w.heap.size (fun k_ => some k_ ≠ (v8 : Value).ownBlock ∧ some k_ ≠ ((.slice Ao46 t158.length co46) : Value).ownBlock) (.slice (some ⟨go35, 0, none⟩) x3_4.length co8) x3_5) ∧ Aside0 (Kd.R (Kd.int .i64) 3 w' w.heap.size (fun k_ => some k_ ≠ ((.slice (some ⟨go35, 0, none⟩) x3_4.length co8) : Value).ownBlock ∧ some k_ ≠ ((.slice Ao46 t158.length co46) : Value).ownBlock) v8 x8_5) ∧ Aside0 (Kd.R (Kd.int .i64) 3 w' w.heap.size (fun k_ => some k_ ≠ ((.slice (some ⟨go35, 0, none⟩) x3_4.length co8) : Value).ownBlock ∧ some k_ ≠ (v8 : Value).ownBlock) (.slice Ao46 t158.length co46) t158) ∧ Aside0 (w'.heap[gb144]? = some (.cells #[.int .i64 a0_0, .int .i64 a0_1, (.slice (some ad149) l0_2.length c0_2)] 32 (0, 0))) ∧ Aside0 (w'.heap[gb150]? = some (.cells #[.int .i64 ((rd_T89 l0_2 x28_2).f0), .int .i64 ((rd_T89 l0_2 x28_2).f1)] 89 (0, 0))) ∧ Aside0 (Below w.heap.size w w'))
                    case atStart => exact ⟨(x3_4), (x8_4), (0), (by first | rfl | (simp; done) | (simp [*]; done)), H', ⟨Nat.le_refl _⟩, ⟨by (try simp only [hl3_1]); (try simp only [hl3_2]); (try simp only [hl3_4]); (with_reducible repeat (first | apply Kd.R_alloc | apply Kd.R_drewN | apply Kd.R_drew)); exact HO_3.out⟩, ⟨by (try simp only [hl3_1]); (try simp only [hl3_2]); (try simp only [hl3_4]); (with_reducible repeat (first | apply Kd.R_alloc | apply Kd.R_drewN | apply Kd.R_drew)); exact HO_8.out⟩, ⟨by (try simp only [hl3_1]); (try simp only [hl3_2]); (try simp only [hl3_4]); (with_reducible repeat (first | apply Kd.R_alloc | apply Kd.R_drewN | apply Kd.R_drew)); exact Kd.R_mono HO160.out (fun _ hk => ⟨hk.1.2, hk.2⟩)⟩, ⟨by (try simp only [hl3_1]); (try simp only [hl3_2]); (try simp only [hl3_4]); (with_reducible repeat (first | refine blk_drewN ?_ _ | refine blk_drew ?_ | refine blk_alloc ?_ _)); exact BK144.out⟩, ⟨by (try simp only [hl3_1]); (try simp only [hl3_2]); (try simp only [hl3_4]); (with_reducible repeat (first | refine blk_drewN ?_ _ | refine blk_drew ?_ | refine blk_alloc ?_ _)); exact BK150.out⟩, ⟨viaB HB⟩⟩
                    case round =>
                     clear H'
                     (try clear c40b0); (try clear c41b0); (try clear hx157_0); (try clear p157); (try clear q157)
                     obtain ⟨x3_5, x8_5, x62_5, rfl, HA, HK5, HO_3, HO_8, HO_60, BK144, BK150, HB⟩ := hrel
                     have hl3_5 := (Kd.R_reads' HO_3.out).1
                     rw [hl3_5] at HO_3
                     (try simp only [hl3_5])
                     (try simp only [hl3_5] at BK144)
                     (try simp only [hl3_5] at BK150)
                     (try simp only [hl3_5] at HO_8)
                     (try simp only [hl3_5] at HO_60)
                     cases gk with
                     | zero => exact absurd HA.out (by simp [spec_ggGroups.l3])
                     | succ k5 =>
                      have H := HA.out
                      clear HA
                      simp only [spec_ggGroups.l3] at H
                      by_cases c47 : x62_5 < (t158.length : Int)
                      ·rw [if_pos c47] at H
                       have c47b0 := decide_eq_true c47
                       clear c47
                       by_cases c48 : 0 ≤ x62_5
                       ·rw [if_pos c48] at H
                        have c48b0 := decide_eq_true c48
                        clear c48
                        by_cases c49 : x62_5 < (t158.length : Int)
                        ·rw [if_pos c49] at H
                         have c49b0 := decide_eq_true c49
                         clear c49
                         by_cases c50 : 0 ≤ (rd t158 x62_5)
                         ·rw [if_pos c50] at H
                          have c50b0 := decide_eq_true c50
                          clear c50
                          by_cases c51 : (rd t158 x62_5) < (l0_2.length : Int)
                          ·rw [if_pos c51] at H
                           have c51b0 := decide_eq_true c51
                           clear c51
                           replace H := Option.bind_eq_some_iff.mp H
                           obtain ⟨t163, A520, H⟩ := H
                           replace H : (if t163 = true then (if (rd t158 x62_5) < (x3_5.length : Int) then (if (rd x3_5 (rd t158 x62_5)) < 0 then (if x8_5.length < 17592186044416 then (spec_ggGroups.l3 k5 (x3_5.set ((rd t158 x62_5) : Int).toNat x5_2) x5_2 (x8_5 ++ [rd t158 x62_5]) x9_4 l0_2 (l0_2.length : Int) x28_2 t158 (t158.length : Int) (wrap64 (x62_5 + 1)) a0_0 a0_1 l0_2) else (none)) else (spec_ggGroups.l3 k5 x3_5 x5_2 x8_5 x9_4 l0_2 (l0_2.length : Int) x28_2 t158 (t158.length : Int) (wrap64 (x62_5 + 1)) a0_0 a0_1 l0_2)) else (none)) else (spec_ggGroups.l3 k5 x3_5 x5_2 x8_5 x9_4 l0_2 (l0_2.length : Int) x28_2 t158 (t158.length : Int) (wrap64 (x62_5 + 1)) a0_0 a0_1 l0_2)) = some r := H
                           have A52 := Aside0.mk A520
                           clear A520
                           by_cases c53 : t163 = true
                           ·subst c53
                            have H1 : (if (rd t158 x62_5) < (x3_5.length : Int) then (if (rd x3_5 (rd t158 x62_5)) < 0 then (if x8_5.length < 17592186044416 then (spec_ggGroups.l3 k5 (x3_5.set ((rd t158 x62_5) : Int).toNat x5_2) x5_2 (x8_5 ++ [rd t158 x62_5]) x9_4 l0_2 (l0_2.length : Int) x28_2 t158 (t158.length : Int) (wrap64 (x62_5 + 1)) a0_0 a0_1 l0_2) else (none)) else (spec_ggGroups.l3 k5 x3_5 x5_2 x8_5 x9_4 l0_2 (l0_2.length : Int) x28_2 t158 (t158.length : Int) (wrap64 (x62_5 + 1)) a0_0 a0_1 l0_2)) else (none)) = some r := by rw [if_pos rfl] at H; exact H
                            clear H
                            have H := H1
                            clear H1
                            by_cases c54 : (rd t158 x62_5) < (x3_5.length : Int)
                            ·rw [if_pos c54] at H
                             have c54b0 := decide_eq_true c54
                             clear c54
                             by_cases c55 : (rd x3_5 (rd t158 x62_5)) < 0
                             ·rw [if_pos c55] at H
                              have c55b0 := decide_eq_true c55
                              clear c55
                              obtain ⟨y165, hy165⟩ : ∃ y_ : List Int, y_ = (x3_5.set ((rd t158 x62_5) : Int).toNat x5_2) := ⟨_, rfl⟩
                              replace H : (if x8_5.length < 17592186044416 then (spec_ggGroups.l3 k5 y165 x5_2 (x8_5 ++ [rd t158 x62_5]) x9_4 l0_2 (l0_2.length : Int) x28_2 t158 (t158.length : Int) (wrap64 (x62_5 + 1)) a0_0 a0_1 l0_2) else (none)) = some r := by first | (rw [hy165]; with_reducible exact H) | (have H2_ := (Option.bind_some _ _).symm.trans H; rw [hy165]; with_reducible exact H2_) | (have H2_ := (Option.bind_some _ _).symm.trans H; with_reducible exact H2_) | with_reducible exact H | (rw [hy165]; exact H) | exact H
                              have Ny165 := Aside0.mk hy165
                              clear hy165
                              by_cases c57 : x8_5.length < 17592186044416
                              ·rw [if_pos c57] at H
                               have LMc57 := Aside0.mk c57
                               clear c57
                               obtain ⟨y166, hy166⟩ : ∃ y_ : List Int, y_ = (x8_5 ++ [rd t158 x62_5]) := ⟨_, rfl⟩
                               replace H : (spec_ggGroups.l3 k5 y165 x5_2 y166 x9_4 l0_2 (l0_2.length : Int) x28_2 t158 (t158.length : Int) (wrap64 (x62_5 + 1)) a0_0 a0_1 l0_2) = some r := by first | (rw [hy166]; with_reducible exact H) | (have H2_ := (Option.bind_some _ _).symm.trans H; rw [hy166]; with_reducible exact H2_) | (have H2_ := (Option.bind_some _ _).symm.trans H; with_reducible exact H2_) | with_reducible exact H | (rw [hy166]; exact H) | exact H
                               have Ny166 := Aside0.mk hy166
                               clear hy166
                               have H' := Aside0.mk H
                               clear H
                               have p161 : 0 ≤ (x62_5 : Int) := ofD
                               have q161 : x62_5 < (t158.length : Int) := ofD
                               obtain ⟨ad161, e161, hx161_0⟩ := Kd.at_int (Kd.R_reads' HO_60.out).2.2 x62_5 p161 q161
                               cases e161
                               replace p161 := eq_true p161
                               replace q161 := eq_true q161
                               have hnb58 := NB144_150.out
                               have hnc58 := NB150_144.out
                               have hcz59_0 := bc0 BK144
                               have hcz59_1 := bc1 BK144
                               have hcz59_2 := bc2 BK144
                               have hfz59_0 := blk_frozen BK144.out 0
                               have hfz59_1 := blk_frozen BK144.out 1
                               have hfz59_2 := blk_frozen BK144.out 2
                               have p162 : 0 ≤ ((rd t158 x62_5) : Int) := ofD
                               have q162 : (rd t158 x62_5) < (l0_2.length : Int) := ofD
                               obtain ⟨ad162, e162, hx162_0, hx162_1⟩ := at_T89 HR0_2.out (rd t158 x62_5) p162 q162
                               obtain rfl : ad149 = ad162 := (by injection e162)
                               replace hx162_0 := (HB.out.cell (World.block_lt_of_cell? w _ hx162_0)).trans hx162_0
                               replace hx162_1 := (HB.out.cell (World.block_lt_of_cell? w _ hx162_1)).trans hx162_1
                               replace p162 := eq_true p162
                               replace q162 := eq_true q162
                               go_wp2_with (first | ((with_reducible refine gate_callee (f := 80) rfl ?_); refine goesA (some 71) _ #[.agg #[.int .i64 ((rd_T89 l0_2 (rd t158 x62_5)).f0), .int .i64 ((rd_T89 l0_2 (rd t158 x62_5)).f1)]] ?_ Try.func80; (with_reducible refine (spec_ggGear.calls ((rd_T89 l0_2 (rd t158 x62_5)).f0) ((rd_T89 l0_2 (rd t158 x62_5)).f1) true _ A52.out).mono ?_); rintro e w60 ⟨rfl, hb⟩; refine ⟨_, rfl, ?_⟩; replace HO_3 := Aside0.mk (Kd.R_below (viaR HO_3) hb); replace HO_8 := Aside0.mk (Kd.R_below (viaR HO_8) hb); replace HO_60 := Aside0.mk (Kd.R_below (viaR HO_60) hb); replace BK144 := kB BK144 hb; replace BK150 := kB BK150 hb; replace HB := bB HB hb; (try clear hb); (try clear hb2); (try clear hk); (try clear hi); have p164 : 0 ≤ ((rd t158 x62_5) : Int) := ofD; have q164 : (rd t158 x62_5) < (x3_5.length : Int) := ofD; obtain ⟨ad164, e164, hx164_0⟩ := Kd.at_int (Kd.R_reads' HO_3.out).2.2 (rd t158 x62_5) p164 q164; obtain rfl : (⟨go35, 0, none⟩ : Addr) = ad164 := (by injection e164); (first | simp only [add_plain] at hx164_0 | simp only [add_at] at hx164_0 | simp only [Addr.add, Nat.zero_add] at hx164_0 | skip); replace p164 := eq_true p164; replace q164 := eq_true q164; have p56 : 0 ≤ ((rd t158 x62_5) : Int) := ofD; have q56 : ((rd t158 x62_5) : Int) < ((x3_5.length : Int) : Int) := ofD; obtain ⟨hx56_0, hf56_0⟩ := Kd.R_celln 0 HO_3.out ((rd t158 x62_5) : Int) p56 q56; replace p56 := eq_true p56; replace q56 := eq_true q56; obtain ⟨hy61_, hz61_⟩ := Kd.R_celln 0 HO_3.out ((rd t158 x62_5) : Int) (ofD) (ofD); have HP61 := Kd.R_putg HO_3.out ((rd t158 x62_5) : Int) x5_2) | ((with_reducible refine gate_store (t := 3) (p := 82) rfl ?_); refine store_event (t := 3) (p := 82) (v := ?vo_w62) (w1 := (w60.setCell ⟨go35, ((rd t158 x62_5) : Int).toNat, none⟩ (.int .i64 x5_2))) ?hg ?ho ?hn ?hr ?_; (case ho => rfl); (case hg => rfl); (case hn => rfl); (case hr => first | (go_simp; done) | (go_simp; rfl)); intro w62 hw; have hg : w60.grownBy w62 (some go35) := (by rw [hw]; exact HP61.2); have hp_ : Kd.R (Kd.int .i64) 3 w62 w.heap.size (fun k_ => some k_ ≠ (u8 : Value).ownBlock ∧ some k_ ≠ (.slice (some ad161) t158.length co46 : Value).ownBlock) (.slice (some ⟨go35, 0, none⟩) x3_5.length co8) y165 := (by rw [hw, Ny165.out]; exact HP61.1); clear HP61; replace HO_8 := Aside0.mk (Kd.R_after (v := (.slice (some ⟨go35, 0, none⟩) x3_5.length co8)) (v1 := (.slice (some ⟨go35, 0, none⟩) x3_5.length co8)) (ok := (fun k_ => some k_ ≠ (.slice (some ad161) t158.length co46 : Value).ownBlock)) (by (with_reducible repeat (first | apply Kd.R_alloc | apply Kd.R_drewN | apply Kd.R_drew)); exact Kd.R_mono HO_8.out (fun _ hk => ⟨hk.2, hk.1⟩)) hg (.inl rfl)); replace HO_60 := Aside0.mk (Kd.R_after (v := (.slice (some ⟨go35, 0, none⟩) x3_5.length co8)) (v1 := (.slice (some ⟨go35, 0, none⟩) x3_5.length co8)) (ok := (fun k_ => some k_ ≠ (u8 : Value).ownBlock)) (by (with_reducible repeat (first | apply Kd.R_alloc | apply Kd.R_drewN | apply Kd.R_drew)); exact Kd.R_mono HO_60.out (fun _ hk => ⟨hk.2, hk.1⟩)) hg (.inl rfl)); replace BK144 := Aside0.mk (blk_grown (g := gb144) (o := .cells #[.int .i64 a0_0, .int .i64 a0_1, .slice (some ad149) l0_2.length c0_2] 32 (0, 0)) (viaK BK144) hg (Kd.R_ne HO_3.out BK144.out (by decide))); replace BK150 := Aside0.mk (blk_grown (g := gb150) (o := .cells #[.int .i64 ((rd_T89 l0_2 x28_2).f0), .int .i64 ((rd_T89 l0_2 x28_2).f1)] 89 (0, 0)) (viaK BK150) hg (Kd.R_ne HO_3.out BK150.out (by decide))); replace HO_3 := Aside0.mk (hp_); replace HB := Aside0.mk ((by rw [hw]; exact below_set (HB.out) GB35.out : Below w.heap.size w w62)); clear hg hw hp_) | ((with_reducible refine gate_builtin (b := .append) (xs := #[.tmp 83, .tmp 85]) rfl ?_); at_builtin; refine Kd.R_append (Kd.int .i64) (w0 := w) w.heap.size rfl (.tmp 83) (.tmp 85) 43 3 (.int .i64 0) 8 rfl Try.underlying43 info3 rfl (by decide) (by omega) u8 x8_5 (rd t158 x62_5) [.int .i64 (rd t158 x62_5)] (fun k_ => some k_ ≠ (.slice (some ⟨go35, 0, none⟩) x3_5.length co8 : Value).ownBlock ∧ some k_ ≠ (.slice (some ad161) t158.length co46 : Value).ownBlock) (fun _ => False) rfl rfl ?aP (fun _ hk => hk.elim) ?aF ?aO ?aB ?aS ?aL ?_; (case aP => exact rfl); (case aB => exact (viaB HB)); (case aF => exact (fun k_ hk => ⟨Kd.fresh' (Kd.R_lt (viaR HO_3)) k_ hk, Kd.fresh' (Kd.R_lt (viaR HO_60)) k_ hk⟩)); (case aO => exact (by (with_reducible repeat (first | apply Kd.R_alloc | apply Kd.R_drewN | apply Kd.R_drew)); exact Kd.R_mono HO_8.out (fun _ hk => ⟨hk.2, hk.1⟩))); (case aS => exact (below_size (viaB HB))); (case aL => have := LMc57.out; omega); intro v167 w63 ho hb hg hat; rw [← Ny166.out] at ho; have HO168 := Aside0.mk (ho); replace HO_3 := Aside0.mk (Kd.R_after (ok := (fun k_ => some k_ ≠ (.slice (some ad161) t158.length co46 : Value).ownBlock)) (by (with_reducible repeat (first | apply Kd.R_alloc | apply Kd.R_drewN | apply Kd.R_drew)); exact Kd.R_mono HO_3.out (fun _ hk => ⟨hk.2, hk.1⟩)) hg hat); replace HO_60 := Aside0.mk (Kd.R_after (ok := (fun k_ => some k_ ≠ (.slice (some ⟨go35, 0, none⟩) x3_5.length co8 : Value).ownBlock)) (by (with_reducible repeat (first | apply Kd.R_alloc | apply Kd.R_drewN | apply Kd.R_drew)); exact Kd.R_mono HO_60.out (fun _ hk => ⟨hk.2, hk.1⟩)) hg hat); replace BK144 := Aside0.mk (blk_grown (g := gb144) (o := .cells #[.int .i64 a0_0, .int .i64 a0_1, .slice (some ad149) l0_2.length c0_2] 32 (0, 0)) (viaK BK144) hg (Kd.R_ne HO_8.out BK144.out (by decide))); replace BK150 := Aside0.mk (blk_grown (g := gb150) (o := .cells #[.int .i64 ((rd_T89 l0_2 x28_2).f0), .int .i64 ((rd_T89 l0_2 x28_2).f1)] 89 (0, 0)) (viaK BK150) hg (Kd.R_ne HO_8.out BK150.out (by decide))); replace HB := Aside0.mk (hb); clear HO_8; clear ho hb hg hat))
                               (try simp only [← hl3_5])
                               go_roundg k5
                               case measure => have := HK1.out; have := HK2.out; have := HJ18.out; have := HK4.out; have := HK5.out; omega
                               case rel => exact ⟨(y165), (y166), (wrap64 (x62_5 + 1)), (by first | rfl | (simp; done) | (simp [*]; done)), H', ⟨by have := HK1.out; have := HK2.out; have := HJ18.out; have := HK4.out; have := HK5.out; omega⟩, ⟨by (try simp only [hl3_1]); (try simp only [hl3_2]); (try simp only [hl3_4]); (try simp only [hl3_5]); (with_reducible repeat (first | apply Kd.R_alloc | apply Kd.R_drewN | apply Kd.R_drew)); exact Kd.R_mono HO_3.out (fun _ hk => ⟨hk.2, hk.1⟩)⟩, ⟨by (try simp only [hl3_1]); (try simp only [hl3_2]); (try simp only [hl3_4]); (try simp only [hl3_5]); (with_reducible repeat (first | apply Kd.R_alloc | apply Kd.R_drewN | apply Kd.R_drew)); exact HO168.out⟩, ⟨by (try simp only [hl3_1]); (try simp only [hl3_2]); (try simp only [hl3_4]); (try simp only [hl3_5]); (with_reducible repeat (first | apply Kd.R_alloc | apply Kd.R_drewN | apply Kd.R_drew)); exact HO_60.out⟩, ⟨by (try simp only [hl3_1]); (try simp only [hl3_2]); (try simp only [hl3_4]); (try simp only [hl3_5]); (with_reducible repeat (first | refine blk_drewN ?_ _ | refine blk_drew ?_ | refine blk_alloc ?_ _)); exact BK144.out⟩, ⟨by (try simp only [hl3_1]); (try simp only [hl3_2]); (try simp only [hl3_4]); (try simp only [hl3_5]); (with_reducible repeat (first | refine blk_drewN ?_ _ | refine blk_drew ?_ | refine blk_alloc ?_ _)); exact BK150.out⟩, ⟨viaB HB⟩⟩
                              ·rw [if_neg c57] at H
                               exact absurd H (by simp)
                             ·rw [if_neg c55] at H
                              have c55b0 := decide_eq_false c55
                              (try simp only [hl3_1] at c55b0)
                              (try simp only [hl3_2] at c55b0)
                              (try simp only [hl3_4] at c55b0)
                              (try simp only [hl3_5] at c55b0)
                              clear c55
                              have H' := Aside0.mk H
                              clear H
                              have p161 : 0 ≤ (x62_5 : Int) := ofD
                              have q161 : x62_5 < (t158.length : Int) := ofD
                              obtain ⟨ad161, e161, hx161_0⟩ := Kd.at_int (Kd.R_reads' HO_60.out).2.2 x62_5 p161 q161
                              cases e161
                              replace p161 := eq_true p161
                              replace q161 := eq_true q161
                              have hnb64 := NB144_150.out
                              have hnc64 := NB150_144.out
                              have hcz65_0 := bc0 BK144
                              have hcz65_1 := bc1 BK144
                              have hcz65_2 := bc2 BK144
                              have hfz65_0 := blk_frozen BK144.out 0
                              have hfz65_1 := blk_frozen BK144.out 1
                              have hfz65_2 := blk_frozen BK144.out 2
                              have p162 : 0 ≤ ((rd t158 x62_5) : Int) := ofD
                              have q162 : (rd t158 x62_5) < (l0_2.length : Int) := ofD
                              obtain ⟨ad162, e162, hx162_0, hx162_1⟩ := at_T89 HR0_2.out (rd t158 x62_5) p162 q162
                              obtain rfl : ad149 = ad162 := (by injection e162)
                              replace hx162_0 := (HB.out.cell (World.block_lt_of_cell? w _ hx162_0)).trans hx162_0
                              replace hx162_1 := (HB.out.cell (World.block_lt_of_cell? w _ hx162_1)).trans hx162_1
                              replace p162 := eq_true p162
                              replace q162 := eq_true q162
                              go_wp2_with (first | ((with_reducible refine gate_callee (f := 80) rfl ?_); refine goesA (some 71) _ #[.agg #[.int .i64 ((rd_T89 l0_2 (rd t158 x62_5)).f0), .int .i64 ((rd_T89 l0_2 (rd t158 x62_5)).f1)]] ?_ Try.func80; (with_reducible refine (spec_ggGear.calls ((rd_T89 l0_2 (rd t158 x62_5)).f0) ((rd_T89 l0_2 (rd t158 x62_5)).f1) true _ A52.out).mono ?_); rintro e w66 ⟨rfl, hb⟩; refine ⟨_, rfl, ?_⟩; replace HO_3 := Aside0.mk (Kd.R_below (viaR HO_3) hb); replace HO_8 := Aside0.mk (Kd.R_below (viaR HO_8) hb); replace HO_60 := Aside0.mk (Kd.R_below (viaR HO_60) hb); replace BK144 := kB BK144 hb; replace BK150 := kB BK150 hb; replace HB := bB HB hb; (try clear hb); (try clear hb2); (try clear hk); (try clear hi); have p164 : 0 ≤ ((rd t158 x62_5) : Int) := ofD; have q164 : (rd t158 x62_5) < (x3_5.length : Int) := ofD; obtain ⟨ad164, e164, hx164_0⟩ := Kd.at_int (Kd.R_reads' HO_3.out).2.2 (rd t158 x62_5) p164 q164; obtain rfl : (⟨go35, 0, none⟩ : Addr) = ad164 := (by injection e164); (first | simp only [add_plain] at hx164_0 | simp only [add_at] at hx164_0 | simp only [Addr.add, Nat.zero_add] at hx164_0 | skip); replace p164 := eq_true p164; replace q164 := eq_true q164))
                              (try simp only [← hl3_5])
                              go_roundg k5
                              case measure => have := HK1.out; have := HK2.out; have := HJ18.out; have := HK4.out; have := HK5.out; omega
                              case rel => exact ⟨(x3_5), (x8_5), (wrap64 (x62_5 + 1)), (by first | rfl | (simp; done) | (simp [*]; done)), H', ⟨by have := HK1.out; have := HK2.out; have := HJ18.out; have := HK4.out; have := HK5.out; omega⟩, ⟨by (try simp only [hl3_1]); (try simp only [hl3_2]); (try simp only [hl3_4]); (try simp only [hl3_5]); (with_reducible repeat (first | apply Kd.R_alloc | apply Kd.R_drewN | apply Kd.R_drew)); exact HO_3.out⟩, ⟨by (try simp only [hl3_1]); (try simp only [hl3_2]); (try simp only [hl3_4]); (try simp only [hl3_5]); (with_reducible repeat (first | apply Kd.R_alloc | apply Kd.R_drewN | apply Kd.R_drew)); exact HO_8.out⟩, ⟨by (try simp only [hl3_1]); (try simp only [hl3_2]); (try simp only [hl3_4]); (try simp only [hl3_5]); (with_reducible repeat (first | apply Kd.R_alloc | apply Kd.R_drewN | apply Kd.R_drew)); exact HO_60.out⟩, ⟨by (try simp only [hl3_1]); (try simp only [hl3_2]); (try simp only [hl3_4]); (try simp only [hl3_5]); (with_reducible repeat (first | refine blk_drewN ?_ _ | refine blk_drew ?_ | refine blk_alloc ?_ _)); exact BK144.out⟩, ⟨by (try simp only [hl3_1]); (try simp only [hl3_2]); (try simp only [hl3_4]); (try simp only [hl3_5]); (with_reducible repeat (first | refine blk_drewN ?_ _ | refine blk_drew ?_ | refine blk_alloc ?_ _)); exact BK150.out⟩, ⟨viaB HB⟩⟩
                            ·rw [if_neg c54] at H
                             exact absurd H (by simp)
                           ·replace c53 := Bool.eq_false_iff.mpr c53
                            subst c53
                            have H1 : (spec_ggGroups.l3 k5 x3_5 x5_2 x8_5 x9_4 l0_2 (l0_2.length : Int) x28_2 t158 (t158.length : Int) (wrap64 (x62_5 + 1)) a0_0 a0_1 l0_2) = some r := by rw [if_neg (show ¬ (false = true) by decide)] at H; exact H
                            clear H
                            have H := H1
                            clear H1
                            have H' := Aside0.mk H
                            clear H
                            have p161 : 0 ≤ (x62_5 : Int) := ofD
                            have q161 : x62_5 < (t158.length : Int) := ofD
                            obtain ⟨ad161, e161, hx161_0⟩ := Kd.at_int (Kd.R_reads' HO_60.out).2.2 x62_5 p161 q161
                            cases e161
                            replace p161 := eq_true p161
                            replace q161 := eq_true q161
                            have hnb67 := NB144_150.out
                            have hnc67 := NB150_144.out
                            have hcz68_0 := bc0 BK144
                            have hcz68_1 := bc1 BK144
                            have hcz68_2 := bc2 BK144
                            have hfz68_0 := blk_frozen BK144.out 0
                            have hfz68_1 := blk_frozen BK144.out 1
                            have hfz68_2 := blk_frozen BK144.out 2
                            have p162 : 0 ≤ ((rd t158 x62_5) : Int) := ofD
                            have q162 : (rd t158 x62_5) < (l0_2.length : Int) := ofD
                            obtain ⟨ad162, e162, hx162_0, hx162_1⟩ := at_T89 HR0_2.out (rd t158 x62_5) p162 q162
                            obtain rfl : ad149 = ad162 := (by injection e162)
                            replace hx162_0 := (HB.out.cell (World.block_lt_of_cell? w _ hx162_0)).trans hx162_0
                            replace hx162_1 := (HB.out.cell (World.block_lt_of_cell? w _ hx162_1)).trans hx162_1
                            replace p162 := eq_true p162
                            replace q162 := eq_true q162
                            go_wp2_with (first | ((with_reducible refine gate_callee (f := 80) rfl ?_); refine goesA (some 71) _ #[.agg #[.int .i64 ((rd_T89 l0_2 (rd t158 x62_5)).f0), .int .i64 ((rd_T89 l0_2 (rd t158 x62_5)).f1)]] ?_ Try.func80; (with_reducible refine (spec_ggGear.calls ((rd_T89 l0_2 (rd t158 x62_5)).f0) ((rd_T89 l0_2 (rd t158 x62_5)).f1) false _ A52.out).mono ?_); rintro e w69 ⟨rfl, hb⟩; refine ⟨_, rfl, ?_⟩; replace HO_3 := Aside0.mk (Kd.R_below (viaR HO_3) hb); replace HO_8 := Aside0.mk (Kd.R_below (viaR HO_8) hb); replace HO_60 := Aside0.mk (Kd.R_below (viaR HO_60) hb); replace BK144 := kB BK144 hb; replace BK150 := kB BK150 hb; replace HB := bB HB hb; (try clear hb); (try clear hb2); (try clear hk); (try clear hi)))
                            (try simp only [← hl3_5])
                            go_roundg k5
                            case measure => have := HK1.out; have := HK2.out; have := HJ18.out; have := HK4.out; have := HK5.out; omega
                            case rel => exact ⟨(x3_5), (x8_5), (wrap64 (x62_5 + 1)), (by first | rfl | (simp; done) | (simp [*]; done)), H', ⟨by have := HK1.out; have := HK2.out; have := HJ18.out; have := HK4.out; have := HK5.out; omega⟩, ⟨by (try simp only [hl3_1]); (try simp only [hl3_2]); (try simp only [hl3_4]); (try simp only [hl3_5]); (with_reducible repeat (first | apply Kd.R_alloc | apply Kd.R_drewN | apply Kd.R_drew)); exact HO_3.out⟩, ⟨by (try simp only [hl3_1]); (try simp only [hl3_2]); (try simp only [hl3_4]); (try simp only [hl3_5]); (with_reducible repeat (first | apply Kd.R_alloc | apply Kd.R_drewN | apply Kd.R_drew)); exact HO_8.out⟩, ⟨by (try simp only [hl3_1]); (try simp only [hl3_2]); (try simp only [hl3_4]); (try simp only [hl3_5]); (with_reducible repeat (first | apply Kd.R_alloc | apply Kd.R_drewN | apply Kd.R_drew)); exact HO_60.out⟩, ⟨by (try simp only [hl3_1]); (try simp only [hl3_2]); (try simp only [hl3_4]); (try simp only [hl3_5]); (with_reducible repeat (first | refine blk_drewN ?_ _ | refine blk_drew ?_ | refine blk_alloc ?_ _)); exact BK144.out⟩, ⟨by (try simp only [hl3_1]); (try simp only [hl3_2]); (try simp only [hl3_4]); (try simp only [hl3_5]); (with_reducible repeat (first | refine blk_drewN ?_ _ | refine blk_drew ?_ | refine blk_alloc ?_ _)); exact BK150.out⟩, ⟨viaB HB⟩⟩
                          ·rw [if_neg c51] at H
                           exact absurd H (by simp)
                         ·rw [if_neg c50] at H
                          exact absurd H (by simp)
                        ·rw [if_neg c49] at H
                         exact absurd H (by simp)
                       ·rw [if_neg c48] at H
                        exact absurd H (by simp)
                      ·rw [if_neg c47] at H
                       have c47b0 := decide_eq_false c47
                       (try simp only [hl3_1] at c47b0)
                       (try simp only [hl3_2] at c47b0)
                       (try simp only [hl3_4] at c47b0)
                       (try simp only [hl3_5] at c47b0)
                       clear c47
                       have H' := Aside0.mk H
                       clear H
                       go_wp2
                       (try simp only [← hl3_4, ← hl3_5])
                       go_roundg k5
                       case measure => have := HK1.out; have := HK2.out; have := HJ18.out; have := HK4.out; have := HK5.out; omega
                       case rel => exact ⟨(x3_5), (x8_5), (wrap64 (x9_4 + 1)), (by first | rfl | (simp; done) | (simp [*]; done)), H', ⟨by have := HK1.out; have := HK2.out; have := HJ18.out; have := HK4.out; have := HK5.out; omega⟩, ⟨by (try simp only [hl3_1]); (try simp only [hl3_2]); (try simp only [hl3_4]); (try simp only [hl3_5]); (with_reducible repeat (first | apply Kd.R_alloc | apply Kd.R_drewN | apply Kd.R_drew)); exact Kd.R_mono HO_3.out (fun _ hk => hk.1)⟩, ⟨by (try simp only [hl3_1]); (try simp only [hl3_2]); (try simp only [hl3_4]); (try simp only [hl3_5]); (with_reducible repeat (first | apply Kd.R_alloc | apply Kd.R_drewN | apply Kd.R_drew)); exact Kd.R_mono HO_8.out (fun _ hk => hk.1)⟩, ⟨by (try simp only [hl3_1]); (try simp only [hl3_2]); (try simp only [hl3_4]); (try simp only [hl3_5]); (with_reducible repeat (first | refine blk_drewN ?_ _ | refine blk_drew ?_ | refine blk_alloc ?_ _)); exact BK144.out⟩, ⟨by (try simp only [hl3_1]); (try simp only [hl3_2]); (try simp only [hl3_4]); (try simp only [hl3_5]); (with_reducible repeat (first | refine blk_drewN ?_ _ | refine blk_drew ?_ | refine blk_alloc ?_ _)); exact BK150.out⟩, ⟨viaB HB⟩⟩
                   ·rw [if_neg c41] at H
                    exact absurd H (by simp)
                  ·rw [if_neg c40] at H
                   have c40b0 := decide_eq_false c40
                   (try simp only [hl3_1] at c40b0)
                   (try simp only [hl3_2] at c40b0)
                   (try simp only [hl3_4] at c40b0)
                   (try simp only [hl3_5] at c40b0)
                   clear c40
                   have H' := Aside0.mk H
                   clear H
                   obtain ⟨Ao70, co70, eo70⟩ := Kd.R_slice HO_8.out
                   subst eo70
                   go_wp2
                   (try simp only [← hl3_2, ← hl3_4])
                   go_roundg k4
                   case measure => have := HK1.out; have := HK2.out; have := HJ18.out; have := HK4.out; omega
                   case rel => exact ⟨(x3_4), (wrap64 (x5_2 + 1)), (wrap64 (x28_2 + 1)), (by first | rfl | (simp; done) | (simp [*]; done)), (by first | rfl | (simp; done) | (simp [*]; done)), H', ⟨by have := HK1.out; have := HK2.out; have := HJ18.out; have := HK4.out; omega⟩, ⟨by (try simp only [hl3_1]); (try simp only [hl3_2]); (try simp only [hl3_4]); (with_reducible repeat (first | apply Kd.R_alloc | apply Kd.R_drewN | apply Kd.R_drew)); exact Kd.R_mono HO_3.out (fun _ hk => trivial)⟩, ⟨by (try simp only [hl3_1]); (try simp only [hl3_2]); (try simp only [hl3_4]); (with_reducible repeat (first | refine blk_drewN ?_ _ | refine blk_drew ?_ | refine blk_alloc ?_ _)); exact BK144.out⟩, ⟨viaB HB⟩⟩
               ·rw [if_neg c34] at H
                exact absurd H (by simp)
              ·rw [if_neg c33] at H
               exact absurd H (by simp)
          ·rw [if_neg c18] at H
           exact absurd H (by simp)
         ·rw [if_neg c17] at H
          exact absurd H (by simp)
        ·rw [if_neg c16] at H
         have c16b0 := decide_eq_false c16
         (try simp only [hl3_1] at c16b0)
         (try simp only [hl3_2] at c16b0)
         (try simp only [hl3_4] at c16b0)
         (try simp only [hl3_5] at c16b0)
         clear c16
         obtain rfl := Option.some.inj H
         go_wp2
         go_ret
         exact ⟨_, by first | rfl | (simp [errW_none, errW_some] <;> rfl) | (simp [*, errW_none, errW_some] <;> rfl), viaR HO_3, viaB HB⟩
  ·rw [if_neg c3] at H
   exact absurd H (by simp)
 ·rw [if_neg c2] at H
  exact absurd H (by simp)

end Go.Proofs.Ytoklfgjemfojgaa.PAll
