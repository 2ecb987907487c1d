/- This text began as one that print.sh wrote for this seat (of the functions named below); it is this session's own: turned where Lean did not take the printed proof, where it was too long for a claim, or only in what it imports. -/
import Derived.Test.YtoklfgjemfojgaaG0
import Derived.Test.YtoklfgjemfojgaaG16
namespace Go.Proofs.Ytoklfgjemfojgaa.PAll
open Go.RowKit Go.Proofs.YtoklfgjemfojgaaW.PrintWords Go.Proofs.YtoklfgjemfojgaaW.PrintLast Go.Proofs.YtoklfgjemfojgaaW.PrintMore
attribute [local go_sem] max2_int min2_int max_two min_two max_three min_three max_four min_four   -- for this text's walks alone
set_option linter.unusedVariables false
set_option linter.unusedSimpArgs false

/-! ### impl_groupNumbers: function 56 -/
mutual
def impl_groupNumbers.l0 : Nat → List Int → Int → Int → Int → Int → List (S89) → Option (List Int)
 | 0, _, _, _, _, _, _ => none
 | k + 1, x3, x17, x18, x329000, x329001, x329002 => if x18 < x17 then (if 0 ≤ x18 then (if x18 < (x3.length : Int) then (impl_groupNumbers.l0 k (x3.set (x18 : Int).toNat (-1)) x17 (wrap64 (x18 + 1)) x329000 x329001 x329002) else (none)) else (none)) else (impl_groupNumbers.l1 k x3 0 x329002 (x329002.length : Int) 0 x329000 x329001 x329002)
def impl_groupNumbers.l1 : Nat → List Int → Int → List (S89) → Int → Int → Int → Int → List (S89) → Option (List Int)
 | 0, _, _, _, _, _, _, _, _ => none
 | k + 1, x3, x5, x26, x27, x28, x329000, x329001, x329002 => if x28 < x27 then (if 0 ≤ x28 then (if x28 < (x26.length : Int) then ((impl_isGeared.f ((rd_T89 x26 x28).f0) ((rd_T89 x26 x28).f1)).bind fun t335 => (if t335 = true then (if x28 < (x3.length : Int) then (impl_groupNumbers.j2 k x3 x5 x28 x26 x27 x28 (decide ((rd x3 x28) ≥ 0)) x329000 x329001 x329002) else (none)) else (impl_groupNumbers.j2 k x3 x5 x28 x26 x27 x28 true x329000 x329001 x329002))) else (none)) else (none)) else (some x3)
def impl_groupNumbers.j2 : Nat → List Int → Int → Int → List (S89) → Int → Int → Bool → Int → Int → List (S89) → Option (List Int)
 | 0, _, _, _, _, _, _, _, _, _, _ => none
 | k + 1, x3, x5, x6, x26, x27, x28, x42, x329000, x329001, x329002 => if x42 = true then (impl_groupNumbers.l1 k x3 x5 x26 x27 (wrap64 (x28 + 1)) x329000 x329001 x329002) else (if 0 ≤ x6 then (if x6 < (x3.length : Int) then (impl_groupNumbers.l2 k (x3.set (x6 : Int).toNat x5) x5 (([x6] : List Int)) x26 x27 x28 x329000 x329001 x329002) else (none)) else (none))
def impl_groupNumbers.l2 : Nat → List Int → Int → List Int → List (S89) → Int → Int → Int → Int → List (S89) → Option (List Int)
 | 0, _, _, _, _, _, _, _, _, _ => none
 | k + 1, x3, x5, x8, x26, x27, x28, x329000, x329001, x329002 => if (x8.length : Int) > 0 then (if 0 < (x8.length : Int) then (if 1 ≤ (x8.length : Int) then ((impl_besideOf.f k x329000 x329001 x329002 (rd x8 0)).bind fun t345 => (impl_groupNumbers.l3 k x3 x5 (x8.drop (1 : Int).toNat) x26 x27 x28 t345 (t345.length : Int) 0 x329000 x329001 x329002)) else (none)) else (none)) else (impl_groupNumbers.l1 k x3 (wrap64 (x5 + 1)) x26 x27 (wrap64 (x28 + 1)) x329000 x329001 x329002)
def impl_groupNumbers.l3 : Nat → List Int → Int → List Int → List (S89) → Int → Int → List Int → Int → Int → Int → Int → List (S89) → Option (List Int)
 | 0, _, _, _, _, _, _, _, _, _, _, _, _ => none
 | k + 1, x3, x5, x8, x26, x27, x28, x59, x60, x61, x329000, x329001, x329002 => if x61 < x60 then (if 0 ≤ x61 then (if x61 < (x59.length : Int) then (if 0 ≤ (rd x59 x61) then (if (rd x59 x61) < (x329002.length : Int) then ((impl_isGeared.f ((rd_T89 x329002 (rd x59 x61)).f0) ((rd_T89 x329002 (rd x59 x61)).f1)).bind fun t350 => (if t350 = true then (if (rd x59 x61) < (x3.length : Int) then (if (rd x3 (rd x59 x61)) < 0 then (if x8.length < 17592186044416 then (impl_groupNumbers.l3 k (x3.set ((rd x59 x61) : Int).toNat x5) x5 (x8 ++ [rd x59 x61]) x26 x27 x28 x59 x60 (wrap64 (x61 + 1)) x329000 x329001 x329002) else (none)) else (impl_groupNumbers.l3 k x3 x5 x8 x26 x27 x28 x59 x60 (wrap64 (x61 + 1)) x329000 x329001 x329002)) else (none)) else (impl_groupNumbers.l3 k x3 x5 x8 x26 x27 x28 x59 x60 (wrap64 (x61 + 1)) x329000 x329001 x329002))) else (none)) else (none)) else (none)) else (none)) else (impl_groupNumbers.l2 k x3 x5 x8 x26 x27 x28 x329000 x329001 x329002)
end
def impl_groupNumbers.f (k : Nat) (a0_0 : Int) (a0_1 : Int) (l0_2 : List (S89)) : Option (List Int) := if 0 ≤ (l0_2.length : Int) then (if ((l0_2.length : Int) : Int).toNat ≤ 35184372088832 then ((some (List.replicate ((l0_2.length : Int) : Int).toNat 0 : List Int)).bind fun y329 => (impl_groupNumbers.l0 k y329 (y329.length : Int) 0 a0_0 a0_1 l0_2)) else (none)) else (none)
theorem impl_groupNumbers.mono_l : ∀ k, (∀ y0 y1 y2 y3 y4 y5, LeO (impl_groupNumbers.l0 k y0 y1 y2 y3 y4 y5) (impl_groupNumbers.l0 (k + 1) y0 y1 y2 y3 y4 y5)) ∧ (∀ y0 y1 y2 y3 y4 y5 y6 y7, LeO (impl_groupNumbers.l1 k y0 y1 y2 y3 y4 y5 y6 y7) (impl_groupNumbers.l1 (k + 1) y0 y1 y2 y3 y4 y5 y6 y7)) ∧ (∀ y0 y1 y2 y3 y4 y5 y6 y7 y8 y9, LeO (impl_groupNumbers.j2 k y0 y1 y2 y3 y4 y5 y6 y7 y8 y9) (impl_groupNumbers.j2 (k + 1) y0 y1 y2 y3 y4 y5 y6 y7 y8 y9)) ∧ (∀ y0 y1 y2 y3 y4 y5 y6 y7 y8, LeO (impl_groupNumbers.l2 k y0 y1 y2 y3 y4 y5 y6 y7 y8) (impl_groupNumbers.l2 (k + 1) y0 y1 y2 y3 y4 y5 y6 y7 y8)) ∧ (∀ y0 y1 y2 y3 y4 y5 y6 y7 y8 y9 y10 y11, LeO (impl_groupNumbers.l3 k y0 y1 y2 y3 y4 y5 y6 y7 y8 y9 y10 y11) (impl_groupNumbers.l3 (k + 1) y0 y1 y2 y3 y4 y5 y6 y7 y8 y9 y10 y11))
 | 0 => ⟨fun _ _ _ _ _ _ r h => by simp [impl_groupNumbers.l0] at h, fun _ _ _ _ _ _ _ _ r h => by simp [impl_groupNumbers.l1] at h, fun _ _ _ _ _ _ _ _ _ _ r h => by simp [impl_groupNumbers.j2] at h, fun _ _ _ _ _ _ _ _ _ r h => by simp [impl_groupNumbers.l2] at h, fun _ _ _ _ _ _ _ _ _ _ _ _ r h => by simp [impl_groupNumbers.l3] at h⟩
 | k + 1 => by
  obtain ⟨ih0, ih1, ih2, ih3, ih4⟩ := impl_groupNumbers.mono_l k
  refine ⟨?_, ?_, ?_, ?_, ?_⟩
  ·intro y0 y1 y2 y3 y4 y5
   unfold impl_groupNumbers.l0
   repeat' first | (with_reducible first | exact ih0 _ _ _ _ _ _ | exact ih1 _ _ _ _ _ _ _ _ | exact ih2 _ _ _ _ _ _ _ _ _ _ | exact ih3 _ _ _ _ _ _ _ _ _ | exact ih4 _ _ _ _ _ _ _ _ _ _ _ _ | exact impl_besideOf.mono _ _ _ _ _ | exact LeO.refl _ | exact LeO.none _ | refine LeO.ite ?_ ?_ | refine LeO.bind ?_ (fun _ => ?_)) | exact ih0 _ _ _ _ _ _ | exact ih1 _ _ _ _ _ _ _ _ | exact ih2 _ _ _ _ _ _ _ _ _ _ | exact ih3 _ _ _ _ _ _ _ _ _ | exact ih4 _ _ _ _ _ _ _ _ _ _ _ _ | exact impl_besideOf.mono _ _ _ _ _ | exact LeO.none _ | refine LeO.ite ?_ ?_ | refine LeO.bind ?_ (fun _ => ?_)
  ·intro y0 y1 y2 y3 y4 y5 y6 y7
   unfold impl_groupNumbers.l1
   repeat' first | (with_reducible first | exact ih0 _ _ _ _ _ _ | exact ih1 _ _ _ _ _ _ _ _ | exact ih2 _ _ _ _ _ _ _ _ _ _ | exact ih3 _ _ _ _ _ _ _ _ _ | exact ih4 _ _ _ _ _ _ _ _ _ _ _ _ | exact impl_besideOf.mono _ _ _ _ _ | exact LeO.refl _ | exact LeO.none _ | refine LeO.ite ?_ ?_ | refine LeO.bind ?_ (fun _ => ?_)) | exact ih0 _ _ _ _ _ _ | exact ih1 _ _ _ _ _ _ _ _ | exact ih2 _ _ _ _ _ _ _ _ _ _ | exact ih3 _ _ _ _ _ _ _ _ _ | exact ih4 _ _ _ _ _ _ _ _ _ _ _ _ | exact impl_besideOf.mono _ _ _ _ _ | exact LeO.none _ | refine LeO.ite ?_ ?_ | refine LeO.bind ?_ (fun _ => ?_)
  ·intro y0 y1 y2 y3 y4 y5 y6 y7 y8 y9
   unfold impl_groupNumbers.j2
   repeat' first | (with_reducible first | exact ih0 _ _ _ _ _ _ | exact ih1 _ _ _ _ _ _ _ _ | exact ih2 _ _ _ _ _ _ _ _ _ _ | exact ih3 _ _ _ _ _ _ _ _ _ | exact ih4 _ _ _ _ _ _ _ _ _ _ _ _ | exact impl_besideOf.mono _ _ _ _ _ | exact LeO.refl _ | exact LeO.none _ | refine LeO.ite ?_ ?_ | refine LeO.bind ?_ (fun _ => ?_)) | exact ih0 _ _ _ _ _ _ | exact ih1 _ _ _ _ _ _ _ _ | exact ih2 _ _ _ _ _ _ _ _ _ _ | exact ih3 _ _ _ _ _ _ _ _ _ | exact ih4 _ _ _ _ _ _ _ _ _ _ _ _ | exact impl_besideOf.mono _ _ _ _ _ | exact LeO.none _ | refine LeO.ite ?_ ?_ | refine LeO.bind ?_ (fun _ => ?_)
  ·intro y0 y1 y2 y3 y4 y5 y6 y7 y8
   unfold impl_groupNumbers.l2
   repeat' first | (with_reducible first | exact ih0 _ _ _ _ _ _ | exact ih1 _ _ _ _ _ _ _ _ | exact ih2 _ _ _ _ _ _ _ _ _ _ | exact ih3 _ _ _ _ _ _ _ _ _ | exact ih4 _ _ _ _ _ _ _ _ _ _ _ _ | exact impl_besideOf.mono _ _ _ _ _ | exact LeO.refl _ | exact LeO.none _ | refine LeO.ite ?_ ?_ | refine LeO.bind ?_ (fun _ => ?_)) | exact ih0 _ _ _ _ _ _ | exact ih1 _ _ _ _ _ _ _ _ | exact ih2 _ _ _ _ _ _ _ _ _ _ | exact ih3 _ _ _ _ _ _ _ _ _ | exact ih4 _ _ _ _ _ _ _ _ _ _ _ _ | exact impl_besideOf.mono _ _ _ _ _ | exact LeO.none _ | refine LeO.ite ?_ ?_ | refine LeO.bind ?_ (fun _ => ?_)
  ·intro y0 y1 y2 y3 y4 y5 y6 y7 y8 y9 y10 y11
   unfold impl_groupNumbers.l3
   repeat' first | (with_reducible first | exact ih0 _ _ _ _ _ _ | exact ih1 _ _ _ _ _ _ _ _ | exact ih2 _ _ _ _ _ _ _ _ _ _ | exact ih3 _ _ _ _ _ _ _ _ _ | exact ih4 _ _ _ _ _ _ _ _ _ _ _ _ | exact impl_besideOf.mono _ _ _ _ _ | exact LeO.refl _ | exact LeO.none _ | refine LeO.ite ?_ ?_ | refine LeO.bind ?_ (fun _ => ?_)) | exact ih0 _ _ _ _ _ _ | exact ih1 _ _ _ _ _ _ _ _ | exact ih2 _ _ _ _ _ _ _ _ _ _ | exact ih3 _ _ _ _ _ _ _ _ _ | exact ih4 _ _ _ _ _ _ _ _ _ _ _ _ | exact impl_besideOf.mono _ _ _ _ _ | exact LeO.none _ | refine LeO.ite ?_ ?_ | refine LeO.bind ?_ (fun _ => ?_)
theorem impl_groupNumbers.mono : ∀ a0 a1 a2 k, LeO (impl_groupNumbers.f k a0 a1 a2) (impl_groupNumbers.f (k + 1) a0 a1 a2) := by
 intro a0 a1 a2 k
 obtain ⟨ih0, ih1, ih2, ih3, ih4⟩ := impl_groupNumbers.mono_l k
 unfold impl_groupNumbers.f
 repeat' first | (with_reducible first | exact ih0 _ _ _ _ _ _ | exact ih1 _ _ _ _ _ _ _ _ | exact ih2 _ _ _ _ _ _ _ _ _ _ | exact ih3 _ _ _ _ _ _ _ _ _ | exact ih4 _ _ _ _ _ _ _ _ _ _ _ _ | exact impl_besideOf.mono _ _ _ _ _ | exact LeO.refl _ | exact LeO.none _ | refine LeO.ite ?_ ?_ | refine LeO.bind ?_ (fun _ => ?_)) | exact ih0 _ _ _ _ _ _ | exact ih1 _ _ _ _ _ _ _ _ | exact ih2 _ _ _ _ _ _ _ _ _ _ | exact ih3 _ _ _ _ _ _ _ _ _ | exact ih4 _ _ _ _ _ _ _ _ _ _ _ _ | exact impl_besideOf.mono _ _ _ _ _ | exact LeO.none _ | refine LeO.ite ?_ ?_ | refine LeO.bind ?_ (fun _ => ?_)
set_option maxHeartbeats 8000000 in
set_option maxRecDepth 100000 in
theorem impl_groupNumbers.calls (k : Nat) (a0_0 : Int) (a0_1 : Int) (A0_2 : Option Addr) (c0_2 : Nat) (l0_2 : List (S89)) (r : List Int) (w : World) (hr0_2 : Kd.C k89 w A0_2 l0_2.length l0_2) (hc0_2 : l0_2.length ≤ c0_2) (h : impl_groupNumbers.f k a0_0 a0_1 l0_2 = some r) :
  Calls Try.prog 56 #[.agg #[.int .i64 a0_0, .int .i64 a0_1, .slice A0_2 l0_2.length c0_2]] w fun e w' => ∃ v0_ : Value, e = .returned (v0_) ∧ Kd.R (Kd.int .i64) 3 w' w.heap.size (fun _ => True) v0_ r ∧ Below w.heap.size w w' := by
 have hu32 := Try.underlying32
 have hu89 := Try.underlying89
 have HR0_2 := Aside0.mk hr0_2
 have HC0_2 := Aside0.mk hc0_2
 clear hr0_2 hc0_2
 have HB := Aside0.mk (Below.refl w.heap.size w)
 have H : (if 0 ≤ (l0_2.length : Int) then (if ((l0_2.length : Int) : Int).toNat ≤ 35184372088832 then ((some (List.replicate ((l0_2.length : Int) : Int).toNat 0 : List Int)).bind fun y329 => (impl_groupNumbers.l0 k y329 (y329.length : Int) 0 a0_0 a0_1 l0_2)) else (none)) else (none)) = some r := h
 clear h
 by_cases c2 : 0 ≤ (l0_2.length : Int)
 ·rw [if_pos c2] at H
  have c2b0 := eq_true c2
  have c2b1 := decide_eq_true c2
  clear c2
  by_cases c3 : ((l0_2.length : Int) : Int).toNat ≤ 35184372088832
  ·rw [if_pos c3] at H
   have c3b0 := eq_true c3
   have c3b1 := decide_eq_true c3
   clear c3
   obtain ⟨y329, hy329⟩ : ∃ y_ : List Int, y_ = (List.replicate ((l0_2.length : Int) : Int).toNat 0) := ⟨_, rfl⟩
   replace H : (impl_groupNumbers.l0 k y329 (y329.length : Int) 0 a0_0 a0_1 l0_2) = some r := by first | (rw [hy329]; with_reducible exact H) | (have H2_ := (Option.bind_some _ _).symm.trans H; rw [hy329]; with_reducible exact H2_) | (have H2_ := (Option.bind_some _ _).symm.trans H; with_reducible exact H2_) | with_reducible exact H | (rw [hy329]; exact H) | exact H
   have Ny329 := Aside0.mk hy329
   clear hy329
   have H' := Aside0.mk H
   clear H
   go_enter Try.func56, Try.ntmps56
   go_wp2_with (first | ((with_reducible refine gate_dst (N := 1) rfl ?_); refine box_ev (N := 1) (cs := #[.int .i64 a0_0, .int .i64 a0_1, .slice A0_2 l0_2.length c0_2]) (t := 32) ?_; intro gb328 hg w4 hbox hb; have BK328 := Aside0.mk (hbox); have GW328 := gW (w := w) HB hg; have GE328 := gW (w := w) HB hg; replace HB := bB HB hb; clear hb hbox hg; have hcz5_0 := bc0 BK328; have hcz5_1 := bc1 BK328; have hcz5_2 := bc2 BK328; have hfz5_0 := blk_frozen BK328.out 0; have hfz5_1 := blk_frozen BK328.out 1; have hfz5_2 := blk_frozen BK328.out 2) | ((with_reducible refine gate_dst (N := 15) rfl ?_); refine Kd.R_make (Kd.int .i64) _ 3 rfl (N := 15) rfl 43 _ _ rfl (l0_2.length : Int) rfl rfl Try.underlying43 (.int .i64 0) 8 info3 rfl (by decide) (by omega) 0 (ok := fun _ => True) (okp := fun _ => True) rfl (fun _ hk => hk) trivial (ofD) (Nat.le_trans (Nat.mul_le_mul_right _ (ofD : (l0_2.length : Int).toNat ≤ 35184372088832)) (by omega)) (Below.refl _ _) (Nat.le_refl _) ?_; intro v330 w6 ho7 hb hg_ hnew_; clear hg_ hnew_; (first | rw [← Ny329.out] at ho7 | (simp only [Int.reduceToNat] at ho7; rw [← Ny329.out] at ho7)); have HO331 := Aside0.mk (Kd.R_lower ho7 (below_size (viaB HB))); replace BK328 := kB BK328 hb; replace HB := bB HB hb; clear hb ho7; obtain ⟨Ao8, co8, eo8⟩ := Kd.R_slice HO331.out; subst eo8))
   go_loopg [18] k (fun kq v18 w' => ∃ (x3_1 : List Int) (x18_1 : Int), v18 = .int .i64 x18_1 ∧ Aside0 (impl_groupNumbers.l0 kq x3_1 (y329.length : Int) x18_1 a0_0 a0_1 l0_2 = some r) ∧ Aside0 (kq ≤ k) ∧ Aside0 (Kd.R (Kd.int .i64) 3 w' w.heap.size (fun _ => True) (.slice Ao8 y329.length co8) x3_1) ∧ Aside0 (w'.heap[gb328]? = some (.cells #[.int .i64 a0_0, .int .i64 a0_1, (.slice A0_2 l0_2.length c0_2)] 32 (0, 0))) ∧ Aside0 (Below w.heap.size w w'))
   case atStart => exact ⟨(y329), (0), (by first | rfl | (simp; done) | (simp [*]; done)), H', ⟨Nat.le_refl _⟩, ⟨viaR HO331⟩, ⟨viaK BK328⟩, ⟨viaB HB⟩⟩
   case round =>
    clear H'
    (try clear c2b0); (try clear c2b1); (try clear c3b0); (try clear c3b1)
    (try clear hcz5_0); (try clear hcz5_1); (try clear hcz5_2); (try clear hfz5_0); (try clear hfz5_1); (try clear hfz5_2)
    obtain ⟨x3_1, x18_1, rfl, HA, HK1, HO_3, BK328, HB⟩ := hrel
    have hl3_1 := (Kd.R_reads' HO_3.out).1
    rw [hl3_1] at HO_3
    (try simp only [hl3_1])
    (try simp only [hl3_1] at BK328)
    cases gk with
    | zero => exact absurd HA.out (by simp [impl_groupNumbers.l0])
    | succ k1 =>
     have H := HA.out
     clear HA
     simp only [impl_groupNumbers.l0] at H
     by_cases c9 : x18_1 < (y329.length : Int)
     ·rw [if_pos c9] at H
      have c9b0 := decide_eq_true c9
      clear c9
      by_cases c10 : 0 ≤ x18_1
      ·rw [if_pos c10] at H
       have c10b0 := decide_eq_true c10
       clear c10
       by_cases c11 : x18_1 < (x3_1.length : Int)
       ·rw [if_pos c11] at H
        have c11b0 := decide_eq_true c11
        clear c11
        obtain ⟨y332, hy332⟩ : ∃ y_ : List Int, y_ = (x3_1.set (x18_1 : Int).toNat (-1)) := ⟨_, rfl⟩
        replace H : (impl_groupNumbers.l0 k1 y332 (y329.length : Int) (wrap64 (x18_1 + 1)) a0_0 a0_1 l0_2) = some r := by first | (rw [hy332]; with_reducible exact H) | (have H2_ := (Option.bind_some _ _).symm.trans H; rw [hy332]; with_reducible exact H2_) | (have H2_ := (Option.bind_some _ _).symm.trans H; with_reducible exact H2_) | with_reducible exact H | (rw [hy332]; exact H) | exact H
        have Ny332 := Aside0.mk hy332
        clear hy332
        have H' := Aside0.mk H
        clear H
        have p12 : 0 ≤ (x18_1 : Int) := ofD
        have q12 : (x18_1 : Int) < ((x3_1.length : Int) : Int) := ofD
        obtain ⟨go12, co12, eo12, gb12, gl12, cl12, HG12⟩ := Kd.R_form HO_3.out (by omega)
        (first | cases eo12 | (injection eo12 with ea_ en_ ec_; (first | subst ea_ | (injection ea_ with ea_; subst ea_)); subst ec_; clear en_))
        have GB12 := Aside0.mk gb12
        have GG12 := Aside0.mk HG12
        clear gb12 gl12 HG12
        obtain ⟨hx12_0, hf12_0⟩ := Kd.R_celln 0 HO_3.out (x18_1 : Int) p12 q12
        replace p12 := eq_true p12
        replace q12 := eq_true q12
        have HP13 := Kd.R_putg HO_3.out (x18_1 : Int) (-1)
        go_wp2_with (first | ((with_reducible refine gate_store (t := 3) (p := 23) rfl ?_); refine store_event (t := 3) (p := 23) (v := ?vo_w14) (w1 := (wr.setCell ⟨go12, (x18_1 : Int).toNat, none⟩ (.int .i64 (-1)))) ?hg ?ho ?hn ?hr ?_; (case ho => rfl); (case hg => rfl); (case hn => rfl); (case hr => first | (go_simp; done) | (go_simp; rfl)); intro w14 hw; have hg : wr.grownBy w14 (some go12) := (by rw [hw]; exact HP13.2); have hp_ : Kd.R (Kd.int .i64) 3 w14 w.heap.size (fun _ => True) (.slice (some ⟨go12, 0, none⟩) x3_1.length co8) y332 := (by rw [hw, Ny332.out]; exact HP13.1); clear HP13; replace BK328 := Aside0.mk (blk_grown (g := gb328) (o := .cells #[.int .i64 a0_0, .int .i64 a0_1, .slice A0_2 l0_2.length c0_2] 32 (0, 0)) (viaK BK328) hg (Kd.R_ne HO_3.out BK328.out (by decide))); replace HO_3 := Aside0.mk (hp_); replace HB := Aside0.mk ((by rw [hw]; exact below_set (HB.out) GB12.out : Below w.heap.size w w14)); clear hg hw hp_))
        (try simp only [← hl3_1])
        go_roundg k1
        case measure => have := HK1.out; omega
        case rel => exact ⟨(y332), (wrap64 (x18_1 + 1)), (by first | rfl | (simp; done) | (simp [*]; done)), H', ⟨by have := HK1.out; omega⟩, ⟨by (try simp only [hl3_1]); (with_reducible repeat (first | apply Kd.R_alloc | apply Kd.R_drewN | apply Kd.R_drew)); exact HO_3.out⟩, ⟨by (try simp only [hl3_1]); (with_reducible repeat (first | refine blk_drewN ?_ _ | refine blk_drew ?_ | refine blk_alloc ?_ _)); exact BK328.out⟩, ⟨viaB HB⟩⟩
       ·rw [if_neg c11] at H
        exact absurd H (by simp)
      ·rw [if_neg c10] at H
       exact absurd H (by simp)
     ·rw [if_neg c9] at H
      have c9b0 := decide_eq_false c9
      (try simp only [hl3_1] at c9b0)
      clear c9
      have H' := Aside0.mk H
      clear H
      have hcz15_0 := bc0 BK328
      have hcz15_1 := bc1 BK328
      have hcz15_2 := bc2 BK328
      have hfz15_0 := blk_frozen BK328.out 0
      have hfz15_1 := blk_frozen BK328.out 1
      have hfz15_2 := blk_frozen BK328.out 2
      go_wp2
      go_loopg [5, 28] k1 (fun kq v5 v28 w' => ∃ (x3_2 : List Int) (x5_2 : Int) (x28_2 : Int), v5 = .int .i64 x5_2 ∧ v28 = .int .i64 x28_2 ∧ Aside0 (impl_groupNumbers.l1 kq x3_2 x5_2 l0_2 (l0_2.length : Int) x28_2 a0_0 a0_1 l0_2 = some r) ∧ Aside0 (kq ≤ k1) ∧ Aside0 (Kd.R (Kd.int .i64) 3 w' w.heap.size (fun _ => True) (.slice Ao8 x3_1.length co8) x3_2) ∧ Aside0 (w'.heap[gb328]? = some (.cells #[.int .i64 a0_0, .int .i64 a0_1, (.slice A0_2 l0_2.length c0_2)] 32 (0, 0))) ∧ Aside0 (Below w.heap.size w w'))
      case atStart => exact ⟨(x3_1), (0), (0), (by first | rfl | (simp; done) | (simp [*]; done)), (by first | rfl | (simp; done) | (simp [*]; done)), H', ⟨Nat.le_refl _⟩, ⟨by (try simp only [hl3_1]); (with_reducible repeat (first | apply Kd.R_alloc | apply Kd.R_drewN | apply Kd.R_drew)); exact HO_3.out⟩, ⟨by (try simp only [hl3_1]); (with_reducible repeat (first | refine blk_drewN ?_ _ | refine blk_drew ?_ | refine blk_alloc ?_ _)); exact BK328.out⟩, ⟨viaB HB⟩⟩
      case round =>
       clear H'
       (try clear c9b0)
       (try clear hcz15_0); (try clear hcz15_1); (try clear hcz15_2); (try clear hfz15_0); (try clear hfz15_1); (try clear hfz15_2)
       obtain ⟨x3_2, x5_2, x28_2, rfl, rfl, HA, HK2, HO_3, BK328, HB⟩ := hrel
       have hl3_2 := (Kd.R_reads' HO_3.out).1
       rw [hl3_2] at HO_3
       (try simp only [hl3_2])
       (try simp only [hl3_2] at BK328)
       cases gk with
       | zero => exact absurd HA.out (by simp [impl_groupNumbers.l1])
       | succ k2 =>
        have H := HA.out
        clear HA
        simp only [impl_groupNumbers.l1] at H
        by_cases c16 : x28_2 < (l0_2.length : Int)
        ·rw [if_pos c16] at H
         have c16b0 := decide_eq_true c16
         clear c16
         by_cases c17 : 0 ≤ x28_2
         ·rw [if_pos c17] at H
          have c17b0 := decide_eq_true c17
          clear c17
          by_cases c18 : x28_2 < (l0_2.length : Int)
          ·rw [if_pos c18] at H
           have c18b0 := decide_eq_true c18
           clear c18
           have HC19 := Aside0.mk H
           clear H
           have p333 : 0 ≤ (x28_2 : Int) := ofD
           have q333 : x28_2 < (l0_2.length : Int) := ofD
           obtain ⟨ad333, e333, hx333_0, hx333_1⟩ := at_T89 HR0_2.out x28_2 p333 q333
           cases e333
           replace hx333_0 := (HB.out.cell (World.block_lt_of_cell? w _ hx333_0)).trans hx333_0
           replace hx333_1 := (HB.out.cell (World.block_lt_of_cell? w _ hx333_1)).trans hx333_1
           replace p333 := eq_true p333
           replace q333 := eq_true q333
           go_upto_region 11 with (first | ((with_reducible refine gate_dst (N := 7) rfl ?_); refine box_ev (N := 7) (cs := #[.int .i64 0, .int .i64 0]) (t := 89) ?_; intro gb334 hg w20 hbox hb; have BK334 := Aside0.mk (hbox); have GW334 := gW (w := w) HB hg; have GE334 := gW (w := w) HB hg; have NB328_334 := neL BK328 hg; have NB334_328 := neG BK328 hg; replace HO_3 := Aside0.mk (Kd.R_below (viaR HO_3) hb); replace BK328 := kB BK328 hb; replace HB := bB HB hb; clear hb hbox hg; have hnb21 := NB334_328.out; have hnc21 := NB328_334.out; have hcz22_0 := bc0 BK334; have hcz22_1 := bc1 BK334; have hfz22_0 := blk_frozen BK334.out 0; have hfz22_1 := blk_frozen BK334.out 1))
           (try simp only [Act.put, q1, q2, q3])
           go_cut [42] (fun v42 wc => ∃ (kq : Nat) (x42_18 : Bool), v42 = .bool x42_18 ∧ Aside0 (impl_groupNumbers.j2 kq x3_2 x5_2 x28_2 l0_2 (l0_2.length : Int) x28_2 x42_18 a0_0 a0_1 l0_2 = some r) ∧ Aside0 (kq ≤ k2) ∧ Aside0 (Kd.R (Kd.int .i64) 3 wc w.heap.size (fun _ => True) (.slice Ao8 x3_2.length co8) x3_2) ∧ Aside0 (wc.heap[gb328]? = some (.cells #[.int .i64 a0_0, .int .i64 a0_1, (.slice (some ad333) l0_2.length c0_2)] 32 (0, 0))) ∧ Aside0 (wc.heap[gb334]? = some (.cells #[.int .i64 ((rd_T89 l0_2 x28_2).f0), .int .i64 ((rd_T89 l0_2 x28_2).f1)] 89 (0, 0))) ∧ Aside0 (Below w.heap.size w wc))
           case first =>
            have H := HC19.out
            clear HC19
            replace H := Option.bind_eq_some_iff.mp H
            obtain ⟨t335, A230, H⟩ := H
            replace H : (if t335 = true then (if x28_2 < (x3_2.length : Int) then (impl_groupNumbers.j2 k2 x3_2 x5_2 x28_2 l0_2 (l0_2.length : Int) x28_2 (decide ((rd x3_2 x28_2) ≥ 0)) a0_0 a0_1 l0_2) else (none)) else (impl_groupNumbers.j2 k2 x3_2 x5_2 x28_2 l0_2 (l0_2.length : Int) x28_2 true a0_0 a0_1 l0_2)) = some r := H
            have A23 := Aside0.mk A230
            clear A230
            by_cases c24 : t335 = true
            ·subst c24
             have H1 : (if x28_2 < (x3_2.length : Int) then (impl_groupNumbers.j2 k2 x3_2 x5_2 x28_2 l0_2 (l0_2.length : Int) x28_2 (decide ((rd x3_2 x28_2) ≥ 0)) a0_0 a0_1 l0_2) else (none)) = some r := by rw [if_pos rfl] at H; exact H
             clear H
             have H := H1
             clear H1
             by_cases c25 : x28_2 < (x3_2.length : Int)
             ·rw [if_pos c25] at H
              have c25b0 := decide_eq_true c25
              clear c25
              (first | rw [c25b0] | (simp only [i64_w, i32_w]; rw [c25b0]) | skip)
              have H' := Aside0.mk H
              clear H
              have hnb26 := NB334_328.out
              have hnc26 := NB328_334.out
              have hcz27_0 := bc0 BK334
              have hcz27_1 := bc1 BK334
              have hfz27_0 := blk_frozen BK334.out 0
              have hfz27_1 := blk_frozen BK334.out 1
              go_wp2_with (first | ((with_reducible refine gate_callee (f := 75) rfl ?_); refine goesA (some 34) _ #[.agg #[.int .i64 ((rd_T89 l0_2 x28_2).f0), .int .i64 ((rd_T89 l0_2 x28_2).f1)]] ?_ Try.func75; (with_reducible refine (impl_isGeared.calls ((rd_T89 l0_2 x28_2).f0) ((rd_T89 l0_2 x28_2).f1) true _ A23.out).mono ?_); rintro e w28 ⟨rfl, hb⟩; refine ⟨_, rfl, ?_⟩; replace HO_3 := Aside0.mk (Kd.R_below (by (with_reducible repeat (first | apply Kd.R_alloc | apply Kd.R_drewN | apply Kd.R_drew)); exact (Kd.R_mono (Kd.R_far (p := ⟨gb334, 1, none⟩) (Kd.R_far (p := ⟨gb334, 0, none⟩) (Kd.R_types HO_3.out BK334.out (by decide)) (fun _ hk => hk.2) (.int .i64 ((rd_T89 l0_2 x28_2).f0))) (fun _ hk => hk.2) (.int .i64 ((rd_T89 l0_2 x28_2).f1))) (fun _ h_ => h_.1))) hb); replace BK328 := Aside0.mk (blk_below (g := gb328) (o := .cells #[.int .i64 a0_0, .int .i64 a0_1, .slice (some ad333) l0_2.length c0_2] 32 (0, 0)) (by (with_reducible repeat (first | refine blk_drewN ?_ _ | refine blk_drew ?_ | refine blk_alloc ?_ _)); refine blk_far ?_ NB328_334.out _; (with_reducible repeat (first | refine blk_drewN ?_ _ | refine blk_drew ?_ | refine blk_alloc ?_ _)); refine blk_far ?_ NB328_334.out _; (with_reducible repeat (first | refine blk_drewN ?_ _ | refine blk_drew ?_ | refine blk_alloc ?_ _)); exact BK328.out) hb); replace BK334 := Aside0.mk (blk_below (g := gb334) (o := .cells #[.int .i64 ((rd_T89 l0_2 x28_2).f0), .int .i64 ((rd_T89 l0_2 x28_2).f1)] 89 (0, 0)) (by (with_reducible repeat (first | refine blk_drewN ?_ _ | refine blk_drew ?_ | refine blk_alloc ?_ _)); refine blk_put (cs := #[.int .i64 ((rd_T89 l0_2 x28_2).f0), .int .i64 0]) ?_ 1 _ rfl; (with_reducible repeat (first | refine blk_drewN ?_ _ | refine blk_drew ?_ | refine blk_alloc ?_ _)); refine blk_put (cs := #[.int .i64 0, .int .i64 0]) ?_ 0 _ rfl; (with_reducible repeat (first | refine blk_drewN ?_ _ | refine blk_drew ?_ | refine blk_alloc ?_ _)); exact BK334.out) hb); replace HB := bB HB hb; (try clear hb); (try clear hb2); (try clear hk); (try clear hi); have p336 : 0 ≤ (x28_2 : Int) := ofD; have q336 : x28_2 < (x3_2.length : Int) := ofD; obtain ⟨ad336, e336, hx336_0⟩ := Kd.at_int (Kd.R_reads' HO_3.out).2.2 x28_2 p336 q336; cases e336; replace p336 := eq_true p336; replace q336 := eq_true q336))
              go_meet
              case rel => exact ⟨_, (decide ((rd x3_2 x28_2) ≥ 0)), (by first | rfl | (simp; done) | (simp [*]; done)), H', ⟨by have := HK1.out; have := HK2.out; first | omega | exact Nat.le_refl _⟩, ⟨by (try simp only [hl3_1]); (try simp only [hl3_2]); (with_reducible repeat (first | apply Kd.R_alloc | apply Kd.R_drewN | apply Kd.R_drew)); exact HO_3.out⟩, ⟨by (try simp only [hl3_1]); (try simp only [hl3_2]); (with_reducible repeat (first | refine blk_drewN ?_ _ | refine blk_drew ?_ | refine blk_alloc ?_ _)); exact BK328.out⟩, ⟨by (try simp only [hl3_1]); (try simp only [hl3_2]); (with_reducible repeat (first | refine blk_drewN ?_ _ | refine blk_drew ?_ | refine blk_alloc ?_ _)); exact BK334.out⟩, ⟨viaB HB⟩⟩
             ·rw [if_neg c25] at H
              exact absurd H (by simp)
            ·replace c24 := Bool.eq_false_iff.mpr c24
             subst c24
             have H1 : (impl_groupNumbers.j2 k2 x3_2 x5_2 x28_2 l0_2 (l0_2.length : Int) x28_2 true a0_0 a0_1 l0_2) = some r := by rw [if_neg (show ¬ (false = true) by decide)] at H; exact H
             clear H
             have H := H1
             clear H1
             have H' := Aside0.mk H
             clear H
             have hnb29 := NB334_328.out
             have hnc29 := NB328_334.out
             have hcz30_0 := bc0 BK334
             have hcz30_1 := bc1 BK334
             have hfz30_0 := blk_frozen BK334.out 0
             have hfz30_1 := blk_frozen BK334.out 1
             go_wp2_with (first | ((with_reducible refine gate_callee (f := 75) rfl ?_); refine goesA (some 34) _ #[.agg #[.int .i64 ((rd_T89 l0_2 x28_2).f0), .int .i64 ((rd_T89 l0_2 x28_2).f1)]] ?_ Try.func75; (with_reducible refine (impl_isGeared.calls ((rd_T89 l0_2 x28_2).f0) ((rd_T89 l0_2 x28_2).f1) false _ A23.out).mono ?_); rintro e w31 ⟨rfl, hb⟩; refine ⟨_, rfl, ?_⟩; replace HO_3 := Aside0.mk (Kd.R_below (by (with_reducible repeat (first | apply Kd.R_alloc | apply Kd.R_drewN | apply Kd.R_drew)); exact (Kd.R_mono (Kd.R_far (p := ⟨gb334, 1, none⟩) (Kd.R_far (p := ⟨gb334, 0, none⟩) (Kd.R_types HO_3.out BK334.out (by decide)) (fun _ hk => hk.2) (.int .i64 ((rd_T89 l0_2 x28_2).f0))) (fun _ hk => hk.2) (.int .i64 ((rd_T89 l0_2 x28_2).f1))) (fun _ h_ => h_.1))) hb); replace BK328 := Aside0.mk (blk_below (g := gb328) (o := .cells #[.int .i64 a0_0, .int .i64 a0_1, .slice (some ad333) l0_2.length c0_2] 32 (0, 0)) (by (with_reducible repeat (first | refine blk_drewN ?_ _ | refine blk_drew ?_ | refine blk_alloc ?_ _)); refine blk_far ?_ NB328_334.out _; (with_reducible repeat (first | refine blk_drewN ?_ _ | refine blk_drew ?_ | refine blk_alloc ?_ _)); refine blk_far ?_ NB328_334.out _; (with_reducible repeat (first | refine blk_drewN ?_ _ | refine blk_drew ?_ | refine blk_alloc ?_ _)); exact BK328.out) hb); replace BK334 := Aside0.mk (blk_below (g := gb334) (o := .cells #[.int .i64 ((rd_T89 l0_2 x28_2).f0), .int .i64 ((rd_T89 l0_2 x28_2).f1)] 89 (0, 0)) (by (with_reducible repeat (first | refine blk_drewN ?_ _ | refine blk_drew ?_ | refine blk_alloc ?_ _)); refine blk_put (cs := #[.int .i64 ((rd_T89 l0_2 x28_2).f0), .int .i64 0]) ?_ 1 _ rfl; (with_reducible repeat (first | refine blk_drewN ?_ _ | refine blk_drew ?_ | refine blk_alloc ?_ _)); refine blk_put (cs := #[.int .i64 0, .int .i64 0]) ?_ 0 _ rfl; (with_reducible repeat (first | refine blk_drewN ?_ _ | refine blk_drew ?_ | refine blk_alloc ?_ _)); exact BK334.out) hb); replace HB := bB HB hb; (try clear hb); (try clear hb2); (try clear hk); (try clear hi)))
             go_meet
             case rel => exact ⟨_, (true), (by first | rfl | (simp; done) | (simp [*]; done)), H', ⟨by have := HK1.out; have := HK2.out; first | omega | exact Nat.le_refl _⟩, ⟨by (try simp only [hl3_1]); (try simp only [hl3_2]); (with_reducible repeat (first | apply Kd.R_alloc | apply Kd.R_drewN | apply Kd.R_drew)); exact HO_3.out⟩, ⟨by (try simp only [hl3_1]); (try simp only [hl3_2]); (with_reducible repeat (first | refine blk_drewN ?_ _ | refine blk_drew ?_ | refine blk_alloc ?_ _)); exact BK328.out⟩, ⟨by (try simp only [hl3_1]); (try simp only [hl3_2]); (with_reducible repeat (first | refine blk_drewN ?_ _ | refine blk_drew ?_ | refine blk_alloc ?_ _)); exact BK334.out⟩, ⟨viaB HB⟩⟩
           case rest =>
            clear HC19
            (try clear c16b0); (try clear c17b0); (try clear c18b0)
            (try clear hcz22_0); (try clear hcz22_1); (try clear hfz22_0); (try clear hfz22_1); (try clear hx333_0); (try clear hx333_1); (try clear p333); (try clear q333)
            obtain ⟨kq, x42_18, rfl, HA, HJ18, HO_3, BK328, BK334, HB⟩ := hcut
            cases kq with
            | zero => exact absurd HA.out (by simp [impl_groupNumbers.j2])
            | succ kj18 =>
             have H := HA.out
             clear HA
             simp only [impl_groupNumbers.j2] at H
             by_cases c32 : x42_18 = true
             ·subst c32
              have H1 : (impl_groupNumbers.l1 kj18 x3_2 x5_2 l0_2 (l0_2.length : Int) (wrap64 (x28_2 + 1)) a0_0 a0_1 l0_2) = some r := by rw [if_pos rfl] at H; exact H
              clear H
              have H := H1
              clear H1
              have H' := Aside0.mk H
              clear H
              go_wp2
              (try simp only [← hl3_2])
              go_roundg kj18
              case measure => have := HK1.out; have := HK2.out; have := HJ18.out; omega
              case rel => exact ⟨(x3_2), (x5_2), (wrap64 (x28_2 + 1)), (by first | rfl | (simp; done) | (simp [*]; done)), (by first | rfl | (simp; done) | (simp [*]; done)), H', ⟨by have := HK1.out; have := HK2.out; have := HJ18.out; omega⟩, ⟨by (try simp only [hl3_1]); (try simp only [hl3_2]); (with_reducible repeat (first | apply Kd.R_alloc | apply Kd.R_drewN | apply Kd.R_drew)); exact HO_3.out⟩, ⟨by (try simp only [hl3_1]); (try simp only [hl3_2]); (with_reducible repeat (first | refine blk_drewN ?_ _ | refine blk_drew ?_ | refine blk_alloc ?_ _)); exact BK328.out⟩, ⟨viaB HB⟩⟩
             ·replace c32 := Bool.eq_false_iff.mpr c32
              subst c32
              have H1 : (if 0 ≤ x28_2 then (if x28_2 < (x3_2.length : Int) then (impl_groupNumbers.l2 kj18 (x3_2.set (x28_2 : Int).toNat x5_2) x5_2 (([x28_2] : List Int)) l0_2 (l0_2.length : Int) x28_2 a0_0 a0_1 l0_2) else (none)) else (none)) = some r := by rw [if_neg (show ¬ (false = true) by decide)] at H; exact H
              clear H
              have H := H1
              clear H1
              by_cases c33 : 0 ≤ x28_2
              ·rw [if_pos c33] at H
               have c33b0 := decide_eq_true c33
               clear c33
               by_cases c34 : x28_2 < (x3_2.length : Int)
               ·rw [if_pos c34] at H
                have c34b0 := decide_eq_true c34
                clear c34
                obtain ⟨y337, hy337⟩ : ∃ y_ : List Int, y_ = (x3_2.set (x28_2 : Int).toNat x5_2) := ⟨_, rfl⟩
                replace H : (impl_groupNumbers.l2 kj18 y337 x5_2 (([x28_2] : List Int)) l0_2 (l0_2.length : Int) x28_2 a0_0 a0_1 l0_2) = some r := by first | (rw [hy337]; with_reducible exact H) | (have H2_ := (Option.bind_some _ _).symm.trans H; rw [hy337]; with_reducible exact H2_) | (have H2_ := (Option.bind_some _ _).symm.trans H; with_reducible exact H2_) | with_reducible exact H | (rw [hy337]; exact H) | exact H
                have Ny337 := Aside0.mk hy337
                clear hy337
                obtain ⟨y338, hy338⟩ : ∃ y_ : List Int, y_ = (([x28_2] : List Int)) := ⟨_, rfl⟩
                replace H : (impl_groupNumbers.l2 kj18 y337 x5_2 y338 l0_2 (l0_2.length : Int) x28_2 a0_0 a0_1 l0_2) = some r := by first | (rw [hy338]; with_reducible exact H) | (have H2_ := (Option.bind_some _ _).symm.trans H; rw [hy338]; with_reducible exact H2_) | (have H2_ := (Option.bind_some _ _).symm.trans H; with_reducible exact H2_) | with_reducible exact H | (rw [hy338]; exact H) | exact H
                have Ny338 := Aside0.mk hy338
                clear hy338
                have H' := Aside0.mk H
                clear H
                have p35 : 0 ≤ (x28_2 : Int) := ofD
                have q35 : (x28_2 : Int) < ((x3_2.length : Int) : Int) := ofD
                obtain ⟨go35, co35, eo35, gb35, gl35, cl35, HG35⟩ := Kd.R_form HO_3.out (by omega)
                (first | cases eo35 | (injection eo35 with ea_ en_ ec_; (first | subst ea_ | (injection ea_ with ea_; subst ea_)); subst ec_; clear en_))
                have GB35 := Aside0.mk gb35
                have GG35 := Aside0.mk HG35
                clear gb35 gl35 HG35
                obtain ⟨hx35_0, hf35_0⟩ := Kd.R_celln 0 HO_3.out (x28_2 : Int) p35 q35
                replace p35 := eq_true p35
                replace q35 := eq_true q35
                have HP36 := Kd.R_putg HO_3.out (x28_2 : Int) x5_2
                go_wp2_with (first | ((with_reducible refine gate_store (t := 3) (p := 46) rfl ?_); refine store_event (t := 3) (p := 46) (v := ?vo_w37) (w1 := (wc.setCell ⟨go35, (x28_2 : Int).toNat, none⟩ (.int .i64 x5_2))) ?hg ?ho ?hn ?hr ?_; (case ho => rfl); (case hg => rfl); (case hn => rfl); (case hr => first | (go_simp; done) | (go_simp; rfl)); intro w37 hw; have hg : wc.grownBy w37 (some go35) := (by rw [hw]; exact HP36.2); have hp_ : Kd.R (Kd.int .i64) 3 w37 w.heap.size (fun _ => True) (.slice (some ⟨go35, 0, none⟩) x3_2.length co8) y337 := (by rw [hw, Ny337.out]; exact HP36.1); clear HP36; replace BK328 := Aside0.mk (blk_grown (g := gb328) (o := .cells #[.int .i64 a0_0, .int .i64 a0_1, .slice (some ad333) l0_2.length c0_2] 32 (0, 0)) (viaK BK328) hg (Kd.R_ne HO_3.out BK328.out (by decide))); replace BK334 := Aside0.mk (blk_grown (g := gb334) (o := .cells #[.int .i64 ((rd_T89 l0_2 x28_2).f0), .int .i64 ((rd_T89 l0_2 x28_2).f1)] 89 (0, 0)) (viaK BK334) hg (Kd.R_ne HO_3.out BK334.out (by decide))); replace HO_3 := Aside0.mk (hp_); replace HB := Aside0.mk ((by rw [hw]; exact below_set (HB.out) GB35.out : Below w.heap.size w w37)); clear hg hw hp_) | ((with_reducible refine gate_dst (N := 48) rfl ?_); refine Kd.R_lit (Kd.int .i64) _ 3 ?hg (N := 48) ?hd (xs := ([x28_2] : List Int)) (inner := [.int .i64 x28_2]) (ok := fun _ => True) (okp := fun _ => True) ?hr ?hp (fun _ hk => hk) trivial (Below.refl _ _) (Nat.le_refl _) (by simp) ?_; (case hd => rfl); (case hg => rfl); (case hr => first | (go_simp; done) | (go_simp; rfl)); (case hp => exact (Reps.one (show Kd.M (Kd.int .i64) _ _ _ x28_2 [.int .i64 x28_2] from rfl) (Reps.none _ _))); intro v339 w38 ho39 hb hg_ hnew_; clear hg_ hnew_; (first | rw [← Ny338.out] at ho39 | (simp only [Int.reduceToNat] at ho39; rw [← Ny338.out] at ho39)); have HO340 := Aside0.mk (Kd.R_lower (Kd.R_new' ho39 (Kd.R_lt (viaR HO_3))) (below_size (viaB HB))); replace HO_3 := Aside0.mk (Kd.R_elder' (viaR HO_3) (Kd.R_base ho39) hb); replace BK328 := kB BK328 hb; replace BK334 := kB BK334 hb; replace HB := bB HB hb; clear hb ho39))
                go_loopg [8] kj18 (fun kq v8 w' => ∃ (x3_4 : List Int) (x8_4 : List Int), Aside0 (impl_groupNumbers.l2 kq x3_4 x5_2 x8_4 l0_2 (l0_2.length : Int) x28_2 a0_0 a0_1 l0_2 = some r) ∧ Aside0 (kq ≤ kj18) ∧ Aside0 (Kd.R (Kd.int .i64) 3 w' w.heap.size (fun k_ => some k_ ≠ (v8 : Value).ownBlock) (.slice (some ⟨go35, 0, none⟩) x3_2.length co8) x3_4) ∧ Aside0 (Kd.Q (Kd.int .i64) 3 w' w.heap.size (fun k_ => some k_ ≠ ((.slice (some ⟨go35, 0, none⟩) x3_2.length co8) : Value).ownBlock) v8 x8_4) ∧ Aside0 (w'.heap[gb328]? = some (.cells #[.int .i64 a0_0, .int .i64 a0_1, (.slice (some ad333) l0_2.length c0_2)] 32 (0, 0))) ∧ Aside0 (w'.heap[gb334]? = some (.cells #[.int .i64 ((rd_T89 l0_2 x28_2).f0), .int .i64 ((rd_T89 l0_2 x28_2).f1)] 89 (0, 0))) ∧ Aside0 (Below w.heap.size w w'))
                case atStart => exact ⟨(y337), (y338), H', ⟨Nat.le_refl _⟩, ⟨by (try simp only [hl3_1]); (try simp only [hl3_2]); (with_reducible repeat (first | apply Kd.R_alloc | apply Kd.R_drewN | apply Kd.R_drew)); exact Kd.R_mono HO_3.out (fun _ hk => hk.2)⟩, ⟨Kd.Q_of_R (by (try simp only [hl3_1]); (try simp only [hl3_2]); (with_reducible repeat (first | apply Kd.R_alloc | apply Kd.R_drewN | apply Kd.R_drew)); exact Kd.R_mono HO340.out (fun _ hk => hk.2))⟩, ⟨by (try simp only [hl3_1]); (try simp only [hl3_2]); (with_reducible repeat (first | refine blk_drewN ?_ _ | refine blk_drew ?_ | refine blk_alloc ?_ _)); exact BK328.out⟩, ⟨by (try simp only [hl3_1]); (try simp only [hl3_2]); (with_reducible repeat (first | refine blk_drewN ?_ _ | refine blk_drew ?_ | refine blk_alloc ?_ _)); exact BK334.out⟩, ⟨viaB HB⟩⟩
                case round =>
                 clear H'
                 (try clear c32); (try clear c33b0); (try clear c34b0); (try clear p35); (try clear q35); (try clear hx35_0)
                 obtain ⟨x3_4, x8_4, HA, HK4, HO_3, HO_8, BK328, BK334, HB⟩ := hrel
                 have hl3_4 := (Kd.R_reads' HO_3.out).1
                 rw [hl3_4] at HO_3
                 (try simp only [hl3_4])
                 (try simp only [hl3_4] at BK328)
                 (try simp only [hl3_4] at BK334)
                 (try simp only [hl3_4] at HO_8)
                 cases gk with
                 | zero => exact absurd HA.out (by simp [impl_groupNumbers.l2])
                 | succ k4 =>
                  have H := HA.out
                  clear HA
                  simp only [impl_groupNumbers.l2] at H
                  by_cases c40 : (x8_4.length : Int) > 0
                  ·rw [if_pos c40] at H
                   have c40b0 := decide_eq_true c40
                   have c40b1 : decide (0 < x8_4.length) = true := decide_eq_true (by omega)
                   clear c40
                   by_cases c41 : 0 < (x8_4.length : Int)
                   ·rw [if_pos c41] at H
                    have c41b0 := decide_eq_true c41
                    have c41b1 : decide (0 < x8_4.length) = true := decide_eq_true (by omega)
                    clear c41
                    by_cases c42 : 1 ≤ (x8_4.length : Int)
                    ·rw [if_pos c42] at H
                     have c42b0 := eq_true c42
                     have c42b1 := decide_eq_true c42
                     clear c42
                     obtain ⟨y342, hy342⟩ : ∃ y_ : List Int, y_ = (x8_4.drop (1 : Int).toNat) := ⟨_, rfl⟩
                     replace H : ((impl_besideOf.f k4 a0_0 a0_1 l0_2 (rd x8_4 0)).bind fun t345 => (impl_groupNumbers.l3 k4 x3_4 x5_2 y342 l0_2 (l0_2.length : Int) x28_2 t345 (t345.length : Int) 0 a0_0 a0_1 l0_2)) = some r := by first | (rw [hy342]; with_reducible exact H) | (have H2_ := (Option.bind_some _ _).symm.trans H; rw [hy342]; with_reducible exact H2_) | (have H2_ := (Option.bind_some _ _).symm.trans H; with_reducible exact H2_) | with_reducible exact H | (rw [hy342]; exact H) | exact H
                     have Ny342 := Aside0.mk hy342
                     clear hy342
                     replace H := Option.bind_eq_some_iff.mp H
                     obtain ⟨t345, A430, H⟩ := H
                     replace H : (impl_groupNumbers.l3 k4 x3_4 x5_2 y342 l0_2 (l0_2.length : Int) x28_2 t345 (t345.length : Int) 0 a0_0 a0_1 l0_2) = some r := H
                     have A43 := Aside0.mk A430
                     clear A430
                     have H' := Aside0.mk H
                     clear H
                     obtain ⟨Ao44, co44, eo44, _⟩ := Kd.Q_slice HO_8.out
                     subst eo44
                     have p341 : 0 ≤ (0 : Int) := (by omega)
                     have q341 : 0 < (x8_4.length : Int) := ofD
                     obtain ⟨ad341, e341, hx341_0⟩ := Kd.at_int (Kd.Q_reads' HO_8.out).2.2 0 p341 q341
                     cases e341
                     have qi341 : (0 < x8_4.length) = True := eq_true (by omega)
                     (try rw [show ((0 : Int)).toNat = 0 from rfl] at hx341_0)
                     (try rw [Addr.add_zero'] at hx341_0)
                     replace p341 := eq_true p341
                     replace q341 := eq_true q341
                     have q45 : (1 : Int) ≤ ((x8_4.length : Int) : Int) := ofD
                     obtain ⟨i045, hi045, _, hsz45, _⟩ := info_parts info3
                     have hcut45 := cut_from (P := Try.prog) 43 3 .i64 Try.underlying43 hi045 1 hsz45 (some ad341) x8_4.length co44 1 (by omega) q45
                     have hr45 := Kd.Q_drop (k := (1 : Int).toNat) HO_8.out (by omega)
                     obtain ⟨A45, hA45⟩ : ∃ A1, A1 = (if co44 = (1 : Int).toNat then (some ad341) else ((some ad341) : Option Addr).map (·.add ((1 : Int).toNat * 1))) := ⟨_, rfl⟩
                     obtain ⟨c45, hc45⟩ : ∃ c1, c1 = co44 - (1 : Int).toNat := ⟨_, rfl⟩
                     have hy45 : y342.length = x8_4.length - (1 : Int).toNat := (by rw [Ny342.out, List.length_drop])
                     rw [← Ny342.out] at hr45
                     rw [← hy45, ← hA45, ← hc45] at hcut45
                     replace hr45 : Kd.Q (Kd.int .i64) 3 wr w.heap.size (fun k_ => some k_ ≠ (.slice (some ⟨go35, 0, none⟩) x3_4.length co8 : Value).ownBlock) (.slice A45 y342.length c45) y342 := (by rw [hA45, hc45, hy45]; exact hr45)
                     have HE45 : Aside0 ((Value.slice A45 y342.length c45).ownBlock = (.slice (some ad341) x8_4.length co44 : Value).ownBlock) := ⟨by rw [hA45]; split <;> (cases ((some ad341) : Option Addr) <;> rfl)⟩
                     clear hy45 hi045 hsz45 HO_8 hA45 hc45
                     have HO344 := Aside0.mk hr45
                     clear hr45
                     replace q45 := eq_true q45
                     have n_ := Aside0.mk (Kd.R_mono (ok' := fun k_ => some k_ ≠ (.slice A45 y342.length c45 : Value).ownBlock) HO_3.out (fun k_ hk => (by rw [HE45.out]; exact hk)))
                     clear HO_3
                     have HO_3 := n_
                     clear n_
                     have hnb46 := NB328_334.out
                     have hnc46 := NB334_328.out
                     have hcz47_0 := bc0 BK328
                     have hcz47_1 := bc1 BK328
                     have hcz47_2 := bc2 BK328
                     have hfz47_0 := blk_frozen BK328.out 0
                     have hfz47_1 := blk_frozen BK328.out 1
                     have hfz47_2 := blk_frozen BK328.out 2
                     go_wp2_with (first | ((with_reducible refine gate_callee (f := 76) rfl ?_); refine goesA (some 59) _ #[.agg #[.int .i64 a0_0, .int .i64 a0_1, .slice (some ad333) l0_2.length c0_2], .int .i64 (rd x8_4 0)] ?_ Try.func76; (with_reducible refine (impl_besideOf.calls k4 a0_0 a0_1 _ _ l0_2 (rd x8_4 0) t345 _ ?side1 ?side2 A43.out).mono ?_); (case side1 => repeat (first | exact (Kd.C_below HR0_2.out HB.out) | (with_reducible refine Kd.C_alloc ?_ _) | (with_reducible refine Kd.C_drewN ?_ _) | (with_reducible refine Kd.C_drew ?_))); (case side2 => exact HC0_2.out); rintro e w48 ⟨v346, rfl, ho0, hb⟩; refine ⟨_, rfl, ?_⟩; have HO347 := Aside0.mk (Kd.R_lower (Kd.R_new' (Kd.R_new' ho0 (Kd.R_lt (viaR HO_3))) (Kd.Q_lt (by (with_reducible repeat (first | apply Kd.Q_alloc | apply Kd.Q_drewN | apply Kd.Q_drew)); exact HO344.out))) (below_size (viaB HB))); replace HO_3 := Aside0.mk (Kd.R_elder' (viaR HO_3) (Kd.R_base ho0) hb); replace HO344 := Aside0.mk (Kd.Q_elder' (by (with_reducible repeat (first | apply Kd.Q_alloc | apply Kd.Q_drewN | apply Kd.Q_drew)); exact HO344.out) (Kd.R_base ho0) hb); replace BK328 := kB BK328 hb; replace BK334 := kB BK334 hb; replace HB := bB HB hb; (try clear hb); (try clear hb2); (try clear hk); (try clear hi); (try clear ho0); obtain ⟨Ao49, co49, eo49⟩ := Kd.R_slice HO347.out; subst eo49))
                     go_loopg [8, 61] k4 (fun kq v8 v61 w' => ∃ (x3_5 : List Int) (x8_5 : List Int) (x61_5 : Int), v61 = .int .i64 x61_5 ∧ Aside0 (impl_groupNumbers.l3 kq x3_5 x5_2 x8_5 l0_2 (l0_2.length : Int) x28_2 t345 (t345.length : Int) x61_5 a0_0 a0_1 l0_2 = some r) ∧ Aside0 (kq ≤ k4) ∧ Aside0 (Kd.R (Kd.int .i64) 3 w' w.heap.size (fun k_ => some k_ ≠ (v8 : Value).ownBlock ∧ some k_ ≠ ((.slice Ao49 t345.length co49) : Value).ownBlock) (.slice (some ⟨go35, 0, none⟩) x3_4.length co8) x3_5) ∧ Aside0 (Kd.Q (Kd.int .i64) 3 w' w.heap.size (fun k_ => some k_ ≠ ((.slice (some ⟨go35, 0, none⟩) x3_4.length co8) : Value).ownBlock ∧ some k_ ≠ ((.slice Ao49 t345.length co49) : Value).ownBlock) v8 x8_5) ∧ Aside0 (Kd.R (Kd.int .i64) 3 w' w.heap.size (fun k_ => some k_ ≠ ((.slice (some ⟨go35, 0, none⟩) x3_4.length co8) : Value).ownBlock ∧ some k_ ≠ (v8 : Value).ownBlock) (.slice Ao49 t345.length co49) t345) ∧ Aside0 (w'.heap[gb328]? = some (.cells #[.int .i64 a0_0, .int .i64 a0_1, (.slice (some ad333) l0_2.length c0_2)] 32 (0, 0))) ∧ Aside0 (w'.heap[gb334]? = some (.cells #[.int .i64 ((rd_T89 l0_2 x28_2).f0), .int .i64 ((rd_T89 l0_2 x28_2).f1)] 89 (0, 0))) ∧ Aside0 (Below w.heap.size w w'))
                     case atStart => exact ⟨(x3_4), (y342), (0), (by first | rfl | (simp; done) | (simp [*]; done)), H', ⟨Nat.le_refl _⟩, ⟨by (try simp only [hl3_1]); (try simp only [hl3_2]); (try simp only [hl3_4]); (with_reducible repeat (first | apply Kd.R_alloc | apply Kd.R_drewN | apply Kd.R_drew)); exact HO_3.out⟩, ⟨by (try simp only [hl3_1]); (try simp only [hl3_2]); (try simp only [hl3_4]); (with_reducible repeat (first | apply Kd.Q_alloc | apply Kd.Q_drewN | apply Kd.Q_drew)); exact HO344.out⟩, ⟨by (try simp only [hl3_1]); (try simp only [hl3_2]); (try simp only [hl3_4]); (with_reducible repeat (first | apply Kd.R_alloc | apply Kd.R_drewN | apply Kd.R_drew)); exact Kd.R_mono HO347.out (fun _ hk => ⟨hk.1.2, hk.2⟩)⟩, ⟨by (try simp only [hl3_1]); (try simp only [hl3_2]); (try simp only [hl3_4]); (with_reducible repeat (first | refine blk_drewN ?_ _ | refine blk_drew ?_ | refine blk_alloc ?_ _)); exact BK328.out⟩, ⟨by (try simp only [hl3_1]); (try simp only [hl3_2]); (try simp only [hl3_4]); (with_reducible repeat (first | refine blk_drewN ?_ _ | refine blk_drew ?_ | refine blk_alloc ?_ _)); exact BK334.out⟩, ⟨viaB HB⟩⟩
                     case round =>
                      clear H'
                      (try clear c40b0); (try clear c40b1); (try clear c41b0); (try clear c41b1); (try clear c42b0); (try clear c42b1); (try clear c45); (try clear q45)
                      (try clear hcz47_0); (try clear hcz47_1); (try clear hcz47_2); (try clear hfz47_0); (try clear hfz47_1); (try clear hfz47_2); (try clear hx341_0); (try clear p341); (try clear q341)
                      obtain ⟨x3_5, x8_5, x61_5, rfl, HA, HK5, HO_3, HO_8, HO_59, BK328, BK334, HB⟩ := hrel
                      have hl3_5 := (Kd.R_reads' HO_3.out).1
                      rw [hl3_5] at HO_3
                      (try simp only [hl3_5])
                      (try simp only [hl3_5] at BK328)
                      (try simp only [hl3_5] at BK334)
                      (try simp only [hl3_5] at HO_8)
                      (try simp only [hl3_5] at HO_59)
                      cases gk with
                      | zero => exact absurd HA.out (by simp [impl_groupNumbers.l3])
                      | succ k5 =>
                       have H := HA.out
                       clear HA
                       simp only [impl_groupNumbers.l3] at H
                       by_cases c50 : x61_5 < (t345.length : Int)
                       ·rw [if_pos c50] at H
                        have c50b0 := decide_eq_true c50
                        clear c50
                        by_cases c51 : 0 ≤ x61_5
                        ·rw [if_pos c51] at H
                         have c51b0 := decide_eq_true c51
                         clear c51
                         by_cases c52 : x61_5 < (t345.length : Int)
                         ·rw [if_pos c52] at H
                          have c52b0 := decide_eq_true c52
                          clear c52
                          by_cases c53 : 0 ≤ (rd t345 x61_5)
                          ·rw [if_pos c53] at H
                           have c53b0 := decide_eq_true c53
                           clear c53
                           by_cases c54 : (rd t345 x61_5) < (l0_2.length : Int)
                           ·rw [if_pos c54] at H
                            have c54b0 := decide_eq_true c54
                            clear c54
                            replace H := Option.bind_eq_some_iff.mp H
                            obtain ⟨t350, A550, H⟩ := H
                            replace H : (if t350 = true then (if (rd t345 x61_5) < (x3_5.length : Int) then (if (rd x3_5 (rd t345 x61_5)) < 0 then (if x8_5.length < 17592186044416 then (impl_groupNumbers.l3 k5 (x3_5.set ((rd t345 x61_5) : Int).toNat x5_2) x5_2 (x8_5 ++ [rd t345 x61_5]) l0_2 (l0_2.length : Int) x28_2 t345 (t345.length : Int) (wrap64 (x61_5 + 1)) a0_0 a0_1 l0_2) else (none)) else (impl_groupNumbers.l3 k5 x3_5 x5_2 x8_5 l0_2 (l0_2.length : Int) x28_2 t345 (t345.length : Int) (wrap64 (x61_5 + 1)) a0_0 a0_1 l0_2)) else (none)) else (impl_groupNumbers.l3 k5 x3_5 x5_2 x8_5 l0_2 (l0_2.length : Int) x28_2 t345 (t345.length : Int) (wrap64 (x61_5 + 1)) a0_0 a0_1 l0_2)) = some r := H
                            have A55 := Aside0.mk A550
                            clear A550
                            by_cases c56 : t350 = true
                            ·subst c56
                             have H1 : (if (rd t345 x61_5) < (x3_5.length : Int) then (if (rd x3_5 (rd t345 x61_5)) < 0 then (if x8_5.length < 17592186044416 then (impl_groupNumbers.l3 k5 (x3_5.set ((rd t345 x61_5) : Int).toNat x5_2) x5_2 (x8_5 ++ [rd t345 x61_5]) l0_2 (l0_2.length : Int) x28_2 t345 (t345.length : Int) (wrap64 (x61_5 + 1)) a0_0 a0_1 l0_2) else (none)) else (impl_groupNumbers.l3 k5 x3_5 x5_2 x8_5 l0_2 (l0_2.length : Int) x28_2 t345 (t345.length : Int) (wrap64 (x61_5 + 1)) a0_0 a0_1 l0_2)) else (none)) = some r := by rw [if_pos rfl] at H; exact H
                             clear H
                             have H := H1
                             clear H1
                             by_cases c57 : (rd t345 x61_5) < (x3_5.length : Int)
                             ·rw [if_pos c57] at H
                              have c57b0 := decide_eq_true c57
                              clear c57
                              by_cases c58 : (rd x3_5 (rd t345 x61_5)) < 0
                              ·rw [if_pos c58] at H
                               have c58b0 := decide_eq_true c58
                               clear c58
                               obtain ⟨y352, hy352⟩ : ∃ y_ : List Int, y_ = (x3_5.set ((rd t345 x61_5) : Int).toNat x5_2) := ⟨_, rfl⟩
                               replace H : (if x8_5.length < 17592186044416 then (impl_groupNumbers.l3 k5 y352 x5_2 (x8_5 ++ [rd t345 x61_5]) l0_2 (l0_2.length : Int) x28_2 t345 (t345.length : Int) (wrap64 (x61_5 + 1)) a0_0 a0_1 l0_2) else (none)) = some r := by first | (rw [hy352]; with_reducible exact H) | (have H2_ := (Option.bind_some _ _).symm.trans H; rw [hy352]; with_reducible exact H2_) | (have H2_ := (Option.bind_some _ _).symm.trans H; with_reducible exact H2_) | with_reducible exact H | (rw [hy352]; exact H) | exact H
                               have Ny352 := Aside0.mk hy352
                               clear hy352
                               by_cases c60 : x8_5.length < 17592186044416
                               ·rw [if_pos c60] at H
                                have LMc60 := Aside0.mk c60
                                clear c60
                                obtain ⟨y353, hy353⟩ : ∃ y_ : List Int, y_ = (x8_5 ++ [rd t345 x61_5]) := ⟨_, rfl⟩
                                replace H : (impl_groupNumbers.l3 k5 y352 x5_2 y353 l0_2 (l0_2.length : Int) x28_2 t345 (t345.length : Int) (wrap64 (x61_5 + 1)) a0_0 a0_1 l0_2) = some r := by first | (rw [hy353]; with_reducible exact H) | (have H2_ := (Option.bind_some _ _).symm.trans H; rw [hy353]; with_reducible exact H2_) | (have H2_ := (Option.bind_some _ _).symm.trans H; with_reducible exact H2_) | with_reducible exact H | (rw [hy353]; exact H) | exact H
                                have Ny353 := Aside0.mk hy353
                                clear hy353
                                have H' := Aside0.mk H
                                clear H
                                have p348 : 0 ≤ (x61_5 : Int) := ofD
                                have q348 : x61_5 < (t345.length : Int) := ofD
                                obtain ⟨ad348, e348, hx348_0⟩ := Kd.at_int (Kd.R_reads' HO_59.out).2.2 x61_5 p348 q348
                                cases e348
                                replace p348 := eq_true p348
                                replace q348 := eq_true q348
                                have hnb61 := NB328_334.out
                                have hnc61 := NB334_328.out
                                have hcz62_0 := bc0 BK328
                                have hcz62_1 := bc1 BK328
                                have hcz62_2 := bc2 BK328
                                have hfz62_0 := blk_frozen BK328.out 0
                                have hfz62_1 := blk_frozen BK328.out 1
                                have hfz62_2 := blk_frozen BK328.out 2
                                have p349 : 0 ≤ ((rd t345 x61_5) : Int) := ofD
                                have q349 : (rd t345 x61_5) < (l0_2.length : Int) := ofD
                                obtain ⟨ad349, e349, hx349_0, hx349_1⟩ := at_T89 HR0_2.out (rd t345 x61_5) p349 q349
                                obtain rfl : ad333 = ad349 := (by injection e349)
                                replace hx349_0 := (HB.out.cell (World.block_lt_of_cell? w _ hx349_0)).trans hx349_0
                                replace hx349_1 := (HB.out.cell (World.block_lt_of_cell? w _ hx349_1)).trans hx349_1
                                replace p349 := eq_true p349
                                replace q349 := eq_true q349
                                go_wp2_with (first | ((with_reducible refine gate_callee (f := 75) rfl ?_); refine goesA (some 70) _ #[.agg #[.int .i64 ((rd_T89 l0_2 (rd t345 x61_5)).f0), .int .i64 ((rd_T89 l0_2 (rd t345 x61_5)).f1)]] ?_ Try.func75; (with_reducible refine (impl_isGeared.calls ((rd_T89 l0_2 (rd t345 x61_5)).f0) ((rd_T89 l0_2 (rd t345 x61_5)).f1) true _ A55.out).mono ?_); rintro e w63 ⟨rfl, hb⟩; refine ⟨_, rfl, ?_⟩; replace HO_3 := Aside0.mk (Kd.R_below (viaR HO_3) hb); replace HO_8 := Aside0.mk (Kd.Q_below (by (with_reducible repeat (first | apply Kd.Q_alloc | apply Kd.Q_drewN | apply Kd.Q_drew)); exact HO_8.out) hb); replace HO_59 := Aside0.mk (Kd.R_below (viaR HO_59) hb); replace BK328 := kB BK328 hb; replace BK334 := kB BK334 hb; replace HB := bB HB hb; (try clear hb); (try clear hb2); (try clear hk); (try clear hi); have p351 : 0 ≤ ((rd t345 x61_5) : Int) := ofD; have q351 : (rd t345 x61_5) < (x3_5.length : Int) := ofD; obtain ⟨ad351, e351, hx351_0⟩ := Kd.at_int (Kd.R_reads' HO_3.out).2.2 (rd t345 x61_5) p351 q351; obtain rfl : (⟨go35, 0, none⟩ : Addr) = ad351 := (by injection e351); (first | simp only [add_plain] at hx351_0 | simp only [add_at] at hx351_0 | simp only [Addr.add, Nat.zero_add] at hx351_0 | skip); replace p351 := eq_true p351; replace q351 := eq_true q351; have p59 : 0 ≤ ((rd t345 x61_5) : Int) := ofD; have q59 : ((rd t345 x61_5) : Int) < ((x3_5.length : Int) : Int) := ofD; obtain ⟨hx59_0, hf59_0⟩ := Kd.R_celln 0 HO_3.out ((rd t345 x61_5) : Int) p59 q59; replace p59 := eq_true p59; replace q59 := eq_true q59; obtain ⟨hy64_, hz64_⟩ := Kd.R_celln 0 HO_3.out ((rd t345 x61_5) : Int) (ofD) (ofD); have HP64 := Kd.R_putg HO_3.out ((rd t345 x61_5) : Int) x5_2) | ((with_reducible refine gate_store (t := 3) (p := 81) rfl ?_); refine store_event (t := 3) (p := 81) (v := ?vo_w65) (w1 := (w63.setCell ⟨go35, ((rd t345 x61_5) : Int).toNat, none⟩ (.int .i64 x5_2))) ?hg ?ho ?hn ?hr ?_; (case ho => rfl); (case hg => rfl); (case hn => rfl); (case hr => first | (go_simp; done) | (go_simp; rfl)); intro w65 hw; have hg : w63.grownBy w65 (some go35) := (by rw [hw]; exact HP64.2); have hp_ : Kd.R (Kd.int .i64) 3 w65 w.heap.size (fun k_ => some k_ ≠ (u8 : Value).ownBlock ∧ some k_ ≠ (.slice (some ad348) t345.length co49 : Value).ownBlock) (.slice (some ⟨go35, 0, none⟩) x3_5.length co8) y352 := (by rw [hw, Ny352.out]; exact HP64.1); clear HP64; replace HO_8 := Aside0.mk (Kd.Q_after (v := (.slice (some ⟨go35, 0, none⟩) x3_5.length co8)) (v1 := (.slice (some ⟨go35, 0, none⟩) x3_5.length co8)) (ok := (fun k_ => some k_ ≠ (.slice (some ad348) t345.length co49 : Value).ownBlock)) (by (with_reducible repeat (first | apply Kd.Q_alloc | apply Kd.Q_drewN | apply Kd.Q_drew)); exact Kd.Q_mono HO_8.out (fun _ hk => ⟨hk.2, hk.1⟩)) hg (.inl rfl)); replace HO_59 := Aside0.mk (Kd.R_after (v := (.slice (some ⟨go35, 0, none⟩) x3_5.length co8)) (v1 := (.slice (some ⟨go35, 0, none⟩) x3_5.length co8)) (ok := (fun k_ => some k_ ≠ (u8 : Value).ownBlock)) (by (with_reducible repeat (first | apply Kd.R_alloc | apply Kd.R_drewN | apply Kd.R_drew)); exact Kd.R_mono HO_59.out (fun _ hk => ⟨hk.2, hk.1⟩)) hg (.inl rfl)); replace BK328 := Aside0.mk (blk_grown (g := gb328) (o := .cells #[.int .i64 a0_0, .int .i64 a0_1, .slice (some ad333) l0_2.length c0_2] 32 (0, 0)) (viaK BK328) hg (Kd.R_ne HO_3.out BK328.out (by decide))); replace BK334 := Aside0.mk (blk_grown (g := gb334) (o := .cells #[.int .i64 ((rd_T89 l0_2 x28_2).f0), .int .i64 ((rd_T89 l0_2 x28_2).f1)] 89 (0, 0)) (viaK BK334) hg (Kd.R_ne HO_3.out BK334.out (by decide))); replace HO_3 := Aside0.mk (hp_); replace HB := Aside0.mk ((by rw [hw]; exact below_set (HB.out) GB35.out : Below w.heap.size w w65)); clear hg hw hp_) | ((with_reducible refine gate_builtin (b := .append) (xs := #[.tmp 82, .tmp 84]) rfl ?_); at_builtin; refine Kd.Q_append (Kd.int .i64) (w0 := w) w.heap.size rfl (.tmp 82) (.tmp 84) 43 3 (.int .i64 0) 8 rfl Try.underlying43 info3 rfl (by decide) (by omega) u8 x8_5 (rd t345 x61_5) [.int .i64 (rd t345 x61_5)] (fun k_ => some k_ ≠ (.slice (some ⟨go35, 0, none⟩) x3_5.length co8 : Value).ownBlock ∧ some k_ ≠ (.slice (some ad348) t345.length co49 : Value).ownBlock) (fun _ => False) rfl rfl ?aP (fun _ hk => hk.elim) ?aF ?aO ?aB ?aS ?aL ?_; (case aP => exact rfl); (case aB => exact (viaB HB)); (case aF => exact (fun k_ hk => ⟨Kd.fresh' (Kd.R_lt (viaR HO_3)) k_ hk, Kd.fresh' (Kd.R_lt (viaR HO_59)) k_ hk⟩)); (case aO => exact (by (with_reducible repeat (first | apply Kd.Q_alloc | apply Kd.Q_drewN | apply Kd.Q_drew)); exact Kd.Q_mono HO_8.out (fun _ hk => ⟨hk.2, hk.1⟩))); (case aS => exact (below_size (viaB HB))); (case aL => have := LMc60.out; omega); intro v354 w66 ho hb hg hat; rw [← Ny353.out] at ho; have HO355 := Aside0.mk (ho); replace HO_3 := Aside0.mk (Kd.R_after (ok := (fun k_ => some k_ ≠ (.slice (some ad348) t345.length co49 : Value).ownBlock)) (by (with_reducible repeat (first | apply Kd.R_alloc | apply Kd.R_drewN | apply Kd.R_drew)); exact Kd.R_mono HO_3.out (fun _ hk => ⟨hk.2, hk.1⟩)) hg hat); replace HO_59 := Aside0.mk (Kd.R_after (ok := (fun k_ => some k_ ≠ (.slice (some ⟨go35, 0, none⟩) x3_5.length co8 : Value).ownBlock)) (by (with_reducible repeat (first | apply Kd.R_alloc | apply Kd.R_drewN | apply Kd.R_drew)); exact Kd.R_mono HO_59.out (fun _ hk => ⟨hk.2, hk.1⟩)) hg hat); replace BK328 := Aside0.mk (blk_grown (g := gb328) (o := .cells #[.int .i64 a0_0, .int .i64 a0_1, .slice (some ad333) l0_2.length c0_2] 32 (0, 0)) (viaK BK328) hg (Kd.Q_ne HO_8.out BK328.out (by decide))); replace BK334 := Aside0.mk (blk_grown (g := gb334) (o := .cells #[.int .i64 ((rd_T89 l0_2 x28_2).f0), .int .i64 ((rd_T89 l0_2 x28_2).f1)] 89 (0, 0)) (viaK BK334) hg (Kd.Q_ne HO_8.out BK334.out (by decide))); replace HB := Aside0.mk (hb); clear HO_8; clear ho hb hg hat))
                                (try simp only [← hl3_5])
                                go_roundg k5
                                case measure => have := HK1.out; have := HK2.out; have := HJ18.out; have := HK4.out; have := HK5.out; omega
                                case rel => exact ⟨(y352), (y353), (wrap64 (x61_5 + 1)), (by first | rfl | (simp; done) | (simp [*]; done)), H', ⟨by have := HK1.out; have := HK2.out; have := HJ18.out; have := HK4.out; have := HK5.out; omega⟩, ⟨by (try simp only [hl3_1]); (try simp only [hl3_2]); (try simp only [hl3_4]); (try simp only [hl3_5]); (with_reducible repeat (first | apply Kd.R_alloc | apply Kd.R_drewN | apply Kd.R_drew)); exact Kd.R_mono HO_3.out (fun _ hk => ⟨hk.2, hk.1⟩)⟩, ⟨by (try simp only [hl3_1]); (try simp only [hl3_2]); (try simp only [hl3_4]); (try simp only [hl3_5]); (with_reducible repeat (first | apply Kd.Q_alloc | apply Kd.Q_drewN | apply Kd.Q_drew)); exact HO355.out⟩, ⟨by (try simp only [hl3_1]); (try simp only [hl3_2]); (try simp only [hl3_4]); (try simp only [hl3_5]); (with_reducible repeat (first | apply Kd.R_alloc | apply Kd.R_drewN | apply Kd.R_drew)); exact HO_59.out⟩, ⟨by (try simp only [hl3_1]); (try simp only [hl3_2]); (try simp only [hl3_4]); (try simp only [hl3_5]); (with_reducible repeat (first | refine blk_drewN ?_ _ | refine blk_drew ?_ | refine blk_alloc ?_ _)); exact BK328.out⟩, ⟨by (try simp only [hl3_1]); (try simp only [hl3_2]); (try simp only [hl3_4]); (try simp only [hl3_5]); (with_reducible repeat (first | refine blk_drewN ?_ _ | refine blk_drew ?_ | refine blk_alloc ?_ _)); exact BK334.out⟩, ⟨viaB HB⟩⟩
                               ·rw [if_neg c60] at H
                                exact absurd H (by simp)
                              ·rw [if_neg c58] at H
                               have c58b0 := decide_eq_false c58
                               (try simp only [hl3_1] at c58b0)
                               (try simp only [hl3_2] at c58b0)
                               (try simp only [hl3_4] at c58b0)
                               (try simp only [hl3_5] at c58b0)
                               clear c58
                               have H' := Aside0.mk H
                               clear H
                               have p348 : 0 ≤ (x61_5 : Int) := ofD
                               have q348 : x61_5 < (t345.length : Int) := ofD
                               obtain ⟨ad348, e348, hx348_0⟩ := Kd.at_int (Kd.R_reads' HO_59.out).2.2 x61_5 p348 q348
                               cases e348
                               replace p348 := eq_true p348
                               replace q348 := eq_true q348
                               have hnb67 := NB328_334.out
                               have hnc67 := NB334_328.out
                               have hcz68_0 := bc0 BK328
                               have hcz68_1 := bc1 BK328
                               have hcz68_2 := bc2 BK328
                               have hfz68_0 := blk_frozen BK328.out 0
                               have hfz68_1 := blk_frozen BK328.out 1
                               have hfz68_2 := blk_frozen BK328.out 2
                               have p349 : 0 ≤ ((rd t345 x61_5) : Int) := ofD
                               have q349 : (rd t345 x61_5) < (l0_2.length : Int) := ofD
                               obtain ⟨ad349, e349, hx349_0, hx349_1⟩ := at_T89 HR0_2.out (rd t345 x61_5) p349 q349
                               obtain rfl : ad333 = ad349 := (by injection e349)
                               replace hx349_0 := (HB.out.cell (World.block_lt_of_cell? w _ hx349_0)).trans hx349_0
                               replace hx349_1 := (HB.out.cell (World.block_lt_of_cell? w _ hx349_1)).trans hx349_1
                               replace p349 := eq_true p349
                               replace q349 := eq_true q349
                               go_wp2_with (first | ((with_reducible refine gate_callee (f := 75) rfl ?_); refine goesA (some 70) _ #[.agg #[.int .i64 ((rd_T89 l0_2 (rd t345 x61_5)).f0), .int .i64 ((rd_T89 l0_2 (rd t345 x61_5)).f1)]] ?_ Try.func75; (with_reducible refine (impl_isGeared.calls ((rd_T89 l0_2 (rd t345 x61_5)).f0) ((rd_T89 l0_2 (rd t345 x61_5)).f1) true _ A55.out).mono ?_); rintro e w69 ⟨rfl, hb⟩; refine ⟨_, rfl, ?_⟩; replace HO_3 := Aside0.mk (Kd.R_below (viaR HO_3) hb); replace HO_8 := Aside0.mk (Kd.Q_below (by (with_reducible repeat (first | apply Kd.Q_alloc | apply Kd.Q_drewN | apply Kd.Q_drew)); exact HO_8.out) hb); replace HO_59 := Aside0.mk (Kd.R_below (viaR HO_59) hb); replace BK328 := kB BK328 hb; replace BK334 := kB BK334 hb; replace HB := bB HB hb; (try clear hb); (try clear hb2); (try clear hk); (try clear hi); have p351 : 0 ≤ ((rd t345 x61_5) : Int) := ofD; have q351 : (rd t345 x61_5) < (x3_5.length : Int) := ofD; obtain ⟨ad351, e351, hx351_0⟩ := Kd.at_int (Kd.R_reads' HO_3.out).2.2 (rd t345 x61_5) p351 q351; obtain rfl : (⟨go35, 0, none⟩ : Addr) = ad351 := (by injection e351); (first | simp only [add_plain] at hx351_0 | simp only [add_at] at hx351_0 | simp only [Addr.add, Nat.zero_add] at hx351_0 | skip); replace p351 := eq_true p351; replace q351 := eq_true q351))
                               (try simp only [← hl3_5])
                               go_roundg k5
                               case measure => have := HK1.out; have := HK2.out; have := HJ18.out; have := HK4.out; have := HK5.out; omega
                               case rel => exact ⟨(x3_5), (x8_5), (wrap64 (x61_5 + 1)), (by first | rfl | (simp; done) | (simp [*]; done)), H', ⟨by have := HK1.out; have := HK2.out; have := HJ18.out; have := HK4.out; have := HK5.out; omega⟩, ⟨by (try simp only [hl3_1]); (try simp only [hl3_2]); (try simp only [hl3_4]); (try simp only [hl3_5]); (with_reducible repeat (first | apply Kd.R_alloc | apply Kd.R_drewN | apply Kd.R_drew)); exact HO_3.out⟩, ⟨by (try simp only [hl3_1]); (try simp only [hl3_2]); (try simp only [hl3_4]); (try simp only [hl3_5]); (with_reducible repeat (first | apply Kd.Q_alloc | apply Kd.Q_drewN | apply Kd.Q_drew)); exact HO_8.out⟩, ⟨by (try simp only [hl3_1]); (try simp only [hl3_2]); (try simp only [hl3_4]); (try simp only [hl3_5]); (with_reducible repeat (first | apply Kd.R_alloc | apply Kd.R_drewN | apply Kd.R_drew)); exact HO_59.out⟩, ⟨by (try simp only [hl3_1]); (try simp only [hl3_2]); (try simp only [hl3_4]); (try simp only [hl3_5]); (with_reducible repeat (first | refine blk_drewN ?_ _ | refine blk_drew ?_ | refine blk_alloc ?_ _)); exact BK328.out⟩, ⟨by (try simp only [hl3_1]); (try simp only [hl3_2]); (try simp only [hl3_4]); (try simp only [hl3_5]); (with_reducible repeat (first | refine blk_drewN ?_ _ | refine blk_drew ?_ | refine blk_alloc ?_ _)); exact BK334.out⟩, ⟨viaB HB⟩⟩
                             ·rw [if_neg c57] at H
                              exact absurd H (by simp)
                            ·replace c56 := Bool.eq_false_iff.mpr c56
                             subst c56
                             have H1 : (impl_groupNumbers.l3 k5 x3_5 x5_2 x8_5 l0_2 (l0_2.length : Int) x28_2 t345 (t345.length : Int) (wrap64 (x61_5 + 1)) a0_0 a0_1 l0_2) = some r := by rw [if_neg (show ¬ (false = true) by decide)] at H; exact H
                             clear H
                             have H := H1
                             clear H1
                             have H' := Aside0.mk H
                             clear H
                             have p348 : 0 ≤ (x61_5 : Int) := ofD
                             have q348 : x61_5 < (t345.length : Int) := ofD
                             obtain ⟨ad348, e348, hx348_0⟩ := Kd.at_int (Kd.R_reads' HO_59.out).2.2 x61_5 p348 q348
                             cases e348
                             replace p348 := eq_true p348
                             replace q348 := eq_true q348
                             have hnb70 := NB328_334.out
                             have hnc70 := NB334_328.out
                             have hcz71_0 := bc0 BK328
                             have hcz71_1 := bc1 BK328
                             have hcz71_2 := bc2 BK328
                             have hfz71_0 := blk_frozen BK328.out 0
                             have hfz71_1 := blk_frozen BK328.out 1
                             have hfz71_2 := blk_frozen BK328.out 2
                             have p349 : 0 ≤ ((rd t345 x61_5) : Int) := ofD
                             have q349 : (rd t345 x61_5) < (l0_2.length : Int) := ofD
                             obtain ⟨ad349, e349, hx349_0, hx349_1⟩ := at_T89 HR0_2.out (rd t345 x61_5) p349 q349
                             obtain rfl : ad333 = ad349 := (by injection e349)
                             replace hx349_0 := (HB.out.cell (World.block_lt_of_cell? w _ hx349_0)).trans hx349_0
                             replace hx349_1 := (HB.out.cell (World.block_lt_of_cell? w _ hx349_1)).trans hx349_1
                             replace p349 := eq_true p349
                             replace q349 := eq_true q349
                             go_wp2_with (first | ((with_reducible refine gate_callee (f := 75) rfl ?_); refine goesA (some 70) _ #[.agg #[.int .i64 ((rd_T89 l0_2 (rd t345 x61_5)).f0), .int .i64 ((rd_T89 l0_2 (rd t345 x61_5)).f1)]] ?_ Try.func75; (with_reducible refine (impl_isGeared.calls ((rd_T89 l0_2 (rd t345 x61_5)).f0) ((rd_T89 l0_2 (rd t345 x61_5)).f1) false _ A55.out).mono ?_); rintro e w72 ⟨rfl, hb⟩; refine ⟨_, rfl, ?_⟩; replace HO_3 := Aside0.mk (Kd.R_below (viaR HO_3) hb); replace HO_8 := Aside0.mk (Kd.Q_below (by (with_reducible repeat (first | apply Kd.Q_alloc | apply Kd.Q_drewN | apply Kd.Q_drew)); exact HO_8.out) hb); replace HO_59 := Aside0.mk (Kd.R_below (viaR HO_59) hb); replace BK328 := kB BK328 hb; replace BK334 := kB BK334 hb; replace HB := bB HB hb; (try clear hb); (try clear hb2); (try clear hk); (try clear hi)))
                             (try simp only [← hl3_5])
                             go_roundg k5
                             case measure => have := HK1.out; have := HK2.out; have := HJ18.out; have := HK4.out; have := HK5.out; omega
                             case rel => exact ⟨(x3_5), (x8_5), (wrap64 (x61_5 + 1)), (by first | rfl | (simp; done) | (simp [*]; done)), H', ⟨by have := HK1.out; have := HK2.out; have := HJ18.out; have := HK4.out; have := HK5.out; omega⟩, ⟨by (try simp only [hl3_1]); (try simp only [hl3_2]); (try simp only [hl3_4]); (try simp only [hl3_5]); (with_reducible repeat (first | apply Kd.R_alloc | apply Kd.R_drewN | apply Kd.R_drew)); exact HO_3.out⟩, ⟨by (try simp only [hl3_1]); (try simp only [hl3_2]); (try simp only [hl3_4]); (try simp only [hl3_5]); (with_reducible repeat (first | apply Kd.Q_alloc | apply Kd.Q_drewN | apply Kd.Q_drew)); exact HO_8.out⟩, ⟨by (try simp only [hl3_1]); (try simp only [hl3_2]); (try simp only [hl3_4]); (try simp only [hl3_5]); (with_reducible repeat (first | apply Kd.R_alloc | apply Kd.R_drewN | apply Kd.R_drew)); exact HO_59.out⟩, ⟨by (try simp only [hl3_1]); (try simp only [hl3_2]); (try simp only [hl3_4]); (try simp only [hl3_5]); (with_reducible repeat (first | refine blk_drewN ?_ _ | refine blk_drew ?_ | refine blk_alloc ?_ _)); exact BK328.out⟩, ⟨by (try simp only [hl3_1]); (try simp only [hl3_2]); (try simp only [hl3_4]); (try simp only [hl3_5]); (with_reducible repeat (first | refine blk_drewN ?_ _ | refine blk_drew ?_ | refine blk_alloc ?_ _)); exact BK334.out⟩, ⟨viaB HB⟩⟩
                           ·rw [if_neg c54] at H
                            exact absurd H (by simp)
                          ·rw [if_neg c53] at H
                           exact absurd H (by simp)
                         ·rw [if_neg c52] at H
                          exact absurd H (by simp)
                        ·rw [if_neg c51] at H
                         exact absurd H (by simp)
                       ·rw [if_neg c50] at H
                        have c50b0 := decide_eq_false c50
                        (try simp only [hl3_1] at c50b0)
                        (try simp only [hl3_2] at c50b0)
                        (try simp only [hl3_4] at c50b0)
                        (try simp only [hl3_5] at c50b0)
                        clear c50
                        have H' := Aside0.mk H
                        clear H
                        go_wp2
                        (try simp only [← hl3_4, ← hl3_5])
                        go_roundg k5
                        case measure => have := HK1.out; have := HK2.out; have := HJ18.out; have := HK4.out; have := HK5.out; omega
                        case rel => exact ⟨(x3_5), (x8_5), H', ⟨by have := HK1.out; have := HK2.out; have := HJ18.out; have := HK4.out; have := HK5.out; omega⟩, ⟨by (try simp only [hl3_1]); (try simp only [hl3_2]); (try simp only [hl3_4]); (try simp only [hl3_5]); (with_reducible repeat (first | apply Kd.R_alloc | apply Kd.R_drewN | apply Kd.R_drew)); exact Kd.R_mono HO_3.out (fun _ hk => hk.1)⟩, ⟨by (try simp only [hl3_1]); (try simp only [hl3_2]); (try simp only [hl3_4]); (try simp only [hl3_5]); (with_reducible repeat (first | apply Kd.Q_alloc | apply Kd.Q_drewN | apply Kd.Q_drew)); exact Kd.Q_mono HO_8.out (fun _ hk => hk.1)⟩, ⟨by (try simp only [hl3_1]); (try simp only [hl3_2]); (try simp only [hl3_4]); (try simp only [hl3_5]); (with_reducible repeat (first | refine blk_drewN ?_ _ | refine blk_drew ?_ | refine blk_alloc ?_ _)); exact BK328.out⟩, ⟨by (try simp only [hl3_1]); (try simp only [hl3_2]); (try simp only [hl3_4]); (try simp only [hl3_5]); (with_reducible repeat (first | refine blk_drewN ?_ _ | refine blk_drew ?_ | refine blk_alloc ?_ _)); exact BK334.out⟩, ⟨viaB HB⟩⟩
                    ·rw [if_neg c42] at H
                     exact absurd H (by simp)
                   ·rw [if_neg c41] at H
                    exact absurd H (by simp)
                  ·rw [if_neg c40] at H
                   have c40b0 := decide_eq_false c40
                   (try simp only [hl3_1] at c40b0)
                   (try simp only [hl3_2] at c40b0)
                   (try simp only [hl3_4] at c40b0)
                   (try simp only [hl3_5] at c40b0)
                   have c40b1 : decide (0 < x8_4.length) = false := decide_eq_false (by omega)
                   (try simp only [hl3_1] at c40b1)
                   (try simp only [hl3_2] at c40b1)
                   (try simp only [hl3_4] at c40b1)
                   (try simp only [hl3_5] at c40b1)
                   clear c40
                   have H' := Aside0.mk H
                   clear H
                   obtain ⟨Ao73, co73, eo73, _⟩ := Kd.Q_slice HO_8.out
                   subst eo73
                   go_wp2
                   (try simp only [← hl3_2, ← hl3_4])
                   go_roundg k4
                   case measure => have := HK1.out; have := HK2.out; have := HJ18.out; have := HK4.out; omega
                   case rel => exact ⟨(x3_4), (wrap64 (x5_2 + 1)), (wrap64 (x28_2 + 1)), (by first | rfl | (simp; done) | (simp [*]; done)), (by first | rfl | (simp; done) | (simp [*]; done)), H', ⟨by have := HK1.out; have := HK2.out; have := HJ18.out; have := HK4.out; omega⟩, ⟨by (try simp only [hl3_1]); (try simp only [hl3_2]); (try simp only [hl3_4]); (with_reducible repeat (first | apply Kd.R_alloc | apply Kd.R_drewN | apply Kd.R_drew)); exact Kd.R_mono HO_3.out (fun _ hk => trivial)⟩, ⟨by (try simp only [hl3_1]); (try simp only [hl3_2]); (try simp only [hl3_4]); (with_reducible repeat (first | refine blk_drewN ?_ _ | refine blk_drew ?_ | refine blk_alloc ?_ _)); exact BK328.out⟩, ⟨viaB HB⟩⟩
               ·rw [if_neg c34] at H
                exact absurd H (by simp)
              ·rw [if_neg c33] at H
               exact absurd H (by simp)
          ·rw [if_neg c18] at H
           exact absurd H (by simp)
         ·rw [if_neg c17] at H
          exact absurd H (by simp)
        ·rw [if_neg c16] at H
         have c16b0 := decide_eq_false c16
         (try simp only [hl3_1] at c16b0)
         (try simp only [hl3_2] at c16b0)
         (try simp only [hl3_4] at c16b0)
         (try simp only [hl3_5] at c16b0)
         clear c16
         obtain rfl := Option.some.inj H
         go_wp2
         go_ret
         exact ⟨_, by first | rfl | (simp [errW_none, errW_some] <;> rfl) | (simp [*, errW_none, errW_some] <;> rfl), viaR HO_3, viaB HB⟩
  ·rw [if_neg c3] at H
   exact absurd H (by simp)
 ·rw [if_neg c2] at H
  exact absurd H (by simp)

end Go.Proofs.Ytoklfgjemfojgaa.PAll
