/- This text began as one that print.sh wrote for this seat (of the functions named below); it is this session's own: turned where Lean did not take the printed proof, where it was too long for a claim, or only in what it imports. -/
import Derived.Test.YtoklfgjemfojgaaG0
import Derived.Test.YtoklfgjemfojgaaG12
import Derived.Test.YtoklfgjemfojgaaG15
import Derived.Test.YtoklfgjemfojgaaG16
import Derived.Test.YtoklfgjemfojgaaG17
namespace Go.Proofs.Ytoklfgjemfojgaa.PAll
open Go.RowKit Go.Proofs.YtoklfgjemfojgaaW.PrintWords Go.Proofs.YtoklfgjemfojgaaW.PrintLast Go.Proofs.YtoklfgjemfojgaaW.PrintMore
attribute [local go_sem] max2_int min2_int max_two min_two max_three min_three max_four min_four   -- for this text's walks alone
set_option linter.unusedVariables false
set_option linter.unusedSimpArgs false

/-! ### laws_toIntS: function 33 -/
def laws_toIntS.l0 : Nat → List Int → List Int → Int → Option (List Int)
 | 0, _, _, _ => none
 | k + 1, x0, x3, x4 => if x4 < (x0.length : Int) then (if 0 ≤ x4 then (if x4 < (x3.length : Int) then (laws_toIntS.l0 k x0 (x3.set (x4 : Int).toNat (rd x0 x4)) (wrap64 (x4 + 1))) else (none)) else (none)) else (some x3)
def laws_toIntS.f (k : Nat) (l0 : List Int) : Option (List Int) := if 0 ≤ (l0.length : Int) then (if ((l0.length : Int) : Int).toNat ≤ 35184372088832 then (laws_toIntS.l0 k l0 (List.replicate ((l0.length : Int) : Int).toNat 0) 0) else (none)) else (none)
theorem laws_toIntS.mono_l : ∀ k, (∀ y0 y1 y2, LeO (laws_toIntS.l0 k y0 y1 y2) (laws_toIntS.l0 (k + 1) y0 y1 y2))
 | 0 => fun _ _ _ r h => by simp [laws_toIntS.l0] at h
 | k + 1 => by
  have ih0 := laws_toIntS.mono_l k
  ·intro y0 y1 y2
   unfold laws_toIntS.l0
   repeat' first | (with_reducible first | exact ih0 _ _ _ | exact LeO.refl _ | exact LeO.none _ | refine LeO.ite ?_ ?_ | refine LeO.bind ?_ (fun _ => ?_)) | exact ih0 _ _ _ | exact LeO.none _ | refine LeO.ite ?_ ?_ | refine LeO.bind ?_ (fun _ => ?_)
theorem laws_toIntS.mono : ∀ a0 k, LeO (laws_toIntS.f k a0) (laws_toIntS.f (k + 1) a0) := by
 intro a0 k
 have ih0 := laws_toIntS.mono_l k
 unfold laws_toIntS.f
 repeat' first | (with_reducible first | exact ih0 _ _ _ | exact LeO.refl _ | exact LeO.none _ | refine LeO.ite ?_ ?_ | refine LeO.bind ?_ (fun _ => ?_)) | exact ih0 _ _ _ | exact LeO.none _ | refine LeO.ite ?_ ?_ | refine LeO.bind ?_ (fun _ => ?_)
set_option maxHeartbeats 8000000 in
set_option maxRecDepth 100000 in
theorem laws_toIntS.calls (k : Nat) (A0 : Option Addr) (c0 : Nat) (l0 : List Int) (r : List Int) (w : World) (hr0 : Kd.C (Kd.int .i64) w A0 l0.length l0) (hc0 : l0.length ≤ c0) (h : laws_toIntS.f k l0 = some r) :
  Calls Try.prog 33 #[.slice A0 l0.length c0] w fun e w' => ∃ v0_ : Value, e = .returned (v0_) ∧ Kd.R (Kd.int .i64) 3 w' w.heap.size (fun _ => True) v0_ r ∧ Below w.heap.size w w' := by
 have HR0 := Aside0.mk hr0
 have HC0 := Aside0.mk hc0
 clear hr0 hc0
 have HB := Aside0.mk (Below.refl w.heap.size w)
 have H : (if 0 ≤ (l0.length : Int) then (if ((l0.length : Int) : Int).toNat ≤ 35184372088832 then (laws_toIntS.l0 k l0 (List.replicate ((l0.length : Int) : Int).toNat 0) 0) else (none)) else (none)) = some r := h
 clear h
 by_cases c2 : 0 ≤ (l0.length : Int)
 ·rw [if_pos c2] at H
  have c2b0 := eq_true c2
  have c2b1 := decide_eq_true c2
  clear c2
  by_cases c3 : ((l0.length : Int) : Int).toNat ≤ 35184372088832
  ·rw [if_pos c3] at H
   have c3b0 := eq_true c3
   have c3b1 := decide_eq_true c3
   clear c3
   obtain ⟨y715, hy715⟩ : ∃ y_ : List Int, y_ = (List.replicate ((l0.length : Int) : Int).toNat 0) := ⟨_, rfl⟩
   replace H : (laws_toIntS.l0 k l0 y715 0) = some r := by first | (rw [hy715]; with_reducible exact H) | (have H2_ := (Option.bind_some _ _).symm.trans H; rw [hy715]; with_reducible exact H2_) | (have H2_ := (Option.bind_some _ _).symm.trans H; with_reducible exact H2_) | with_reducible exact H | (rw [hy715]; exact H) | exact H
   have Ny715 := Aside0.mk hy715
   clear hy715
   have H' := Aside0.mk H
   clear H
   go_enter Try.func33, Try.ntmps33
   go_wp2_with (first | ((with_reducible refine gate_dst (N := 7) rfl ?_); refine Kd.R_make (Kd.int .i64) _ 3 rfl (N := 7) rfl 43 _ _ rfl (l0.length : Int) rfl rfl Try.underlying43 (.int .i64 0) 8 info3 rfl (by decide) (by omega) 0 (ok := fun _ => True) (okp := fun _ => True) rfl (fun _ hk => hk) trivial (ofD) (Nat.le_trans (Nat.mul_le_mul_right _ (ofD : (l0.length : Int).toNat ≤ 35184372088832)) (by omega)) (Below.refl _ _) (Nat.le_refl _) ?_; intro v716 w4 ho5 hb hg_ hnew_; clear hg_ hnew_; (first | rw [← Ny715.out] at ho5 | (simp only [Int.reduceToNat] at ho5; rw [← Ny715.out] at ho5)); have HO717 := Aside0.mk (Kd.R_lower ho5 (below_size (viaB HB))); replace HB := bB HB hb; clear hb ho5))
   go_loopg [4] k (fun kq v4 w' => ∃ (x3_1 : List Int) (x4_1 : Int), v4 = .int .i64 x4_1 ∧ Aside0 (laws_toIntS.l0 kq l0 x3_1 x4_1 = some r) ∧ Aside0 (kq ≤ k) ∧ Aside0 (Kd.R (Kd.int .i64) 3 w' w.heap.size (fun _ => True) v716 x3_1) ∧ Aside0 (Below w.heap.size w w'))
   case atStart => exact ⟨(y715), (0), (by first | rfl | (simp; done) | (simp [*]; done)), H', ⟨Nat.le_refl _⟩, ⟨viaR HO717⟩, ⟨viaB HB⟩⟩
   case round =>
    clear H'
    (try clear c2b0); (try clear c2b1); (try clear c3b0); (try clear c3b1)
    obtain ⟨x3_1, x4_1, rfl, HA, HK1, HO_3, HB⟩ := hrel
    cases gk with
    | zero => exact absurd HA.out (by simp [laws_toIntS.l0])
    | succ k1 =>
     have H := HA.out
     clear HA
     simp only [laws_toIntS.l0] at H
     by_cases c6 : x4_1 < (l0.length : Int)
     ·rw [if_pos c6] at H
      have c6b0 := decide_eq_true c6
      clear c6
      by_cases c7 : 0 ≤ x4_1
      ·rw [if_pos c7] at H
       have c7b0 := decide_eq_true c7
       clear c7
       by_cases c8 : x4_1 < (x3_1.length : Int)
       ·rw [if_pos c8] at H
        have c8b0 := decide_eq_true c8
        clear c8
        obtain ⟨y719, hy719⟩ : ∃ y_ : List Int, y_ = (x3_1.set (x4_1 : Int).toNat (rd l0 x4_1)) := ⟨_, rfl⟩
        replace H : (laws_toIntS.l0 k1 l0 y719 (wrap64 (x4_1 + 1))) = some r := by first | (rw [hy719]; with_reducible exact H) | (have H2_ := (Option.bind_some _ _).symm.trans H; rw [hy719]; with_reducible exact H2_) | (have H2_ := (Option.bind_some _ _).symm.trans H; with_reducible exact H2_) | with_reducible exact H | (rw [hy719]; exact H) | exact H
        have Ny719 := Aside0.mk hy719
        clear hy719
        have H' := Aside0.mk H
        clear H
        have p718 : 0 ≤ (x4_1 : Int) := ofD
        have q718 : x4_1 < (l0.length : Int) := ofD
        obtain ⟨ad718, e718, hx718_0⟩ := Kd.at_int HR0.out x4_1 p718 q718
        cases e718
        replace hx718_0 := (HB.out.cell (World.block_lt_of_cell? w _ hx718_0)).trans hx718_0
        replace p718 := eq_true p718
        replace q718 := eq_true q718
        have p9 : 0 ≤ (x4_1 : Int) := ofD
        have q9 : (x4_1 : Int) < ((x3_1.length : Int) : Int) := ofD
        obtain ⟨go9, co9, eo9, gb9, gl9, cl9, HG9⟩ := Kd.R_form HO_3.out (by omega)
        (first | cases eo9 | (injection eo9 with ea_ en_ ec_; (first | subst ea_ | (injection ea_ with ea_; subst ea_)); subst ec_; clear en_))
        have GB9 := Aside0.mk gb9
        have GG9 := Aside0.mk HG9
        clear gb9 gl9 HG9
        obtain ⟨hx9_0, hf9_0⟩ := Kd.R_celln 0 HO_3.out (x4_1 : Int) p9 q9
        replace p9 := eq_true p9
        replace q9 := eq_true q9
        have HP10 := Kd.R_putg HO_3.out (x4_1 : Int) (rd l0 x4_1)
        go_wp2_with (first | ((with_reducible refine gate_store (t := 3) (p := 20) rfl ?_); refine store_event (t := 3) (p := 20) (v := ?vo_w11) (w1 := (wr.setCell ⟨go9, (x4_1 : Int).toNat, none⟩ (.int .i64 (rd l0 x4_1)))) ?hg ?ho ?hn ?hr ?_; (case ho => rfl); (case hg => rfl); (case hn => rfl); (case hr => first | (go_simp; done) | (go_simp; rfl)); intro w11 hw; have hg : wr.grownBy w11 (some go9) := (by rw [hw]; exact HP10.2); have hp_ : Kd.R (Kd.int .i64) 3 w11 w.heap.size (fun _ => True) (.slice (some ⟨go9, 0, none⟩) x3_1.length co9) y719 := (by rw [hw, Ny719.out]; exact HP10.1); clear HP10; replace HO_3 := Aside0.mk (hp_); replace HB := Aside0.mk ((by rw [hw]; exact below_set (HB.out) GB9.out : Below w.heap.size w w11)); clear hg hw hp_))
        go_roundg k1
        case measure => have := HK1.out; omega
        case rel => exact ⟨(y719), (wrap64 (x4_1 + 1)), (by first | rfl | (simp; done) | (simp [*]; done)), H', ⟨by have := HK1.out; omega⟩, ⟨viaR HO_3⟩, ⟨viaB HB⟩⟩
       ·rw [if_neg c8] at H
        exact absurd H (by simp)
      ·rw [if_neg c7] at H
       exact absurd H (by simp)
     ·rw [if_neg c6] at H
      have c6b0 := decide_eq_false c6
      clear c6
      obtain rfl := Option.some.inj H
      go_wp2
      go_ret
      exact ⟨_, by first | rfl | (simp [errW_none, errW_some] <;> rfl) | (simp [*, errW_none, errW_some] <;> rfl), viaR HO_3, viaB HB⟩
  ·rw [if_neg c3] at H
   exact absurd H (by simp)
 ·rw [if_neg c2] at H
  exact absurd H (by simp)

/-! ### impl_validEntries: function 67 -/
mutual
def impl_validEntries.j0 : Nat → List Int → Bool → Int → Int → List (S89) → Option (Bool)
 | 0, _, _, _, _, _ => none
 | k + 1, x1, x14, x721000, x721001, x721002 => if x14 = true then (some false) else (impl_validEntries.l0 k x1 (x1.length : Int) 0 x721000 x721001 x721002)
def impl_validEntries.l0 : Nat → List Int → Int → Int → Int → Int → List (S89) → Option (Bool)
 | 0, _, _, _, _, _, _ => none
 | k + 1, x15, x16, x17, x721000, x721001, x721002 => if x17 < x16 then (if 0 ≤ x17 then (if x17 < (x15.length : Int) then (if (rd x15 x17) < 0 then (some false) else (if (rd x15 x17) ≥ x721001 then (some false) else (impl_validEntries.l0 k x15 x16 (wrap64 (x17 + 1)) x721000 x721001 x721002))) else (none)) else (none)) else (some true)
end
def impl_validEntries.f (k : Nat) (a0_0 : Int) (a0_1 : Int) (l0_2 : List (S89)) (l1 : List Int) : Option (Bool) := (impl_IsBoard.f k a0_0 a0_1 l0_2).bind fun t721 => (if t721 = true then (impl_validEntries.j0 k l1 (decide ((l1.length : Int) > 60)) a0_0 a0_1 l0_2) else (impl_validEntries.j0 k l1 true a0_0 a0_1 l0_2))
theorem impl_validEntries.mono_l : ∀ k, (∀ y0 y1 y2 y3 y4, LeO (impl_validEntries.j0 k y0 y1 y2 y3 y4) (impl_validEntries.j0 (k + 1) y0 y1 y2 y3 y4)) ∧ (∀ y0 y1 y2 y3 y4 y5, LeO (impl_validEntries.l0 k y0 y1 y2 y3 y4 y5) (impl_validEntries.l0 (k + 1) y0 y1 y2 y3 y4 y5))
 | 0 => ⟨fun _ _ _ _ _ r h => by simp [impl_validEntries.j0] at h, fun _ _ _ _ _ _ r h => by simp [impl_validEntries.l0] at h⟩
 | k + 1 => by
  obtain ⟨ih0, ih1⟩ := impl_validEntries.mono_l k
  refine ⟨?_, ?_⟩
  ·intro y0 y1 y2 y3 y4
   unfold impl_validEntries.j0
   repeat' first | (with_reducible first | exact ih0 _ _ _ _ _ | exact ih1 _ _ _ _ _ _ | exact impl_IsBoard.mono _ _ _ _ | exact LeO.refl _ | exact LeO.none _ | refine LeO.ite ?_ ?_ | refine LeO.bind ?_ (fun _ => ?_)) | exact ih0 _ _ _ _ _ | exact ih1 _ _ _ _ _ _ | exact impl_IsBoard.mono _ _ _ _ | exact LeO.none _ | refine LeO.ite ?_ ?_ | refine LeO.bind ?_ (fun _ => ?_)
  ·intro y0 y1 y2 y3 y4 y5
   unfold impl_validEntries.l0
   repeat' first | (with_reducible first | exact ih0 _ _ _ _ _ | exact ih1 _ _ _ _ _ _ | exact impl_IsBoard.mono _ _ _ _ | exact LeO.refl _ | exact LeO.none _ | refine LeO.ite ?_ ?_ | refine LeO.bind ?_ (fun _ => ?_)) | exact ih0 _ _ _ _ _ | exact ih1 _ _ _ _ _ _ | exact impl_IsBoard.mono _ _ _ _ | exact LeO.none _ | refine LeO.ite ?_ ?_ | refine LeO.bind ?_ (fun _ => ?_)
theorem impl_validEntries.mono : ∀ a0 a1 a2 a3 k, LeO (impl_validEntries.f k a0 a1 a2 a3) (impl_validEntries.f (k + 1) a0 a1 a2 a3) := by
 intro a0 a1 a2 a3 k
 obtain ⟨ih0, ih1⟩ := impl_validEntries.mono_l k
 unfold impl_validEntries.f
 repeat' first | (with_reducible first | exact ih0 _ _ _ _ _ | exact ih1 _ _ _ _ _ _ | exact impl_IsBoard.mono _ _ _ _ | exact LeO.refl _ | exact LeO.none _ | refine LeO.ite ?_ ?_ | refine LeO.bind ?_ (fun _ => ?_)) | exact ih0 _ _ _ _ _ | exact ih1 _ _ _ _ _ _ | exact impl_IsBoard.mono _ _ _ _ | exact LeO.none _ | refine LeO.ite ?_ ?_ | refine LeO.bind ?_ (fun _ => ?_)
set_option maxHeartbeats 8000000 in
set_option maxRecDepth 100000 in
theorem impl_validEntries.calls (k : Nat) (a0_0 : Int) (a0_1 : Int) (A0_2 : Option Addr) (c0_2 : Nat) (l0_2 : List (S89)) (A1 : Option Addr) (c1 : Nat) (l1 : List Int) (r : Bool) (w : World) (hr0_2 : Kd.C k89 w A0_2 l0_2.length l0_2) (hc0_2 : l0_2.length ≤ c0_2) (hr1 : Kd.C (Kd.int .i64) w A1 l1.length l1) (hc1 : l1.length ≤ c1) (h : impl_validEntries.f k a0_0 a0_1 l0_2 l1 = some r) :
  Calls Try.prog 67 #[.agg #[.int .i64 a0_0, .int .i64 a0_1, .slice A0_2 l0_2.length c0_2], .slice A1 l1.length c1] w fun e w' => e = .returned (.bool r) ∧ Below w.heap.size w w' := by
 have hu32 := Try.underlying32
 have HR0_2 := Aside0.mk hr0_2
 have HC0_2 := Aside0.mk hc0_2
 clear hr0_2 hc0_2
 have HR1 := Aside0.mk hr1
 have HC1 := Aside0.mk hc1
 clear hr1 hc1
 have HB := Aside0.mk (Below.refl w.heap.size w)
 have H : ((impl_IsBoard.f k a0_0 a0_1 l0_2).bind fun t721 => (if t721 = true then (impl_validEntries.j0 k l1 (decide ((l1.length : Int) > 60)) a0_0 a0_1 l0_2) else (impl_validEntries.j0 k l1 true a0_0 a0_1 l0_2))) = some r := h
 clear h
 have HC3 := Aside0.mk H
 clear H
 go_enter Try.func67, Try.ntmps67
 go_upto_region 1 with (first | ((with_reducible refine gate_dst (N := 2) rfl ?_); (try (refine gate_guard (by rfl) ?_; dsimp only)); refine box_ev (N := 2) (cs := #[.int .i64 a0_0, .int .i64 a0_1, .slice A0_2 l0_2.length c0_2]) (t := 32) ?_; intro gb720 hg w4 hbox hb; have BK720 := Aside0.mk (hbox); have GW720 := gW (w := w) HB hg; have GE720 := gW (w := w) HB hg; replace HB := bB HB hb; clear hb hbox hg))
 (try simp only [Act.put, q1, q2, q3])
 go_cut [14] (fun v14 wc => ∃ (kq : Nat) (x14_2 : Bool), v14 = .bool x14_2 ∧ Aside0 (impl_validEntries.j0 kq l1 x14_2 a0_0 a0_1 l0_2 = some r) ∧ Aside0 (kq ≤ k) ∧ Aside0 (wc.heap[gb720]? = some (.cells #[.int .i64 a0_0, .int .i64 a0_1, (.slice A0_2 l0_2.length c0_2)] 32 (0, 0))) ∧ Aside0 (Below w.heap.size w wc))
 case first =>
  have H := HC3.out
  clear HC3
  replace H := Option.bind_eq_some_iff.mp H
  obtain ⟨t721, A50, H⟩ := H
  replace H : (if t721 = true then (impl_validEntries.j0 k l1 (decide ((l1.length : Int) > 60)) a0_0 a0_1 l0_2) else (impl_validEntries.j0 k l1 true a0_0 a0_1 l0_2)) = some r := H
  have A5 := Aside0.mk A50
  clear A50
  by_cases c6 : t721 = true
  ·subst c6
   have H1 : (impl_validEntries.j0 k l1 (decide ((l1.length : Int) > 60)) a0_0 a0_1 l0_2) = some r := by rw [if_pos rfl] at H; exact H
   clear H
   have H := H1
   clear H1
   have H' := Aside0.mk H
   clear H
   have hcz7_0 := bc0 BK720
   have hcz7_1 := bc1 BK720
   have hcz7_2 := bc2 BK720
   have hfz7_0 := blk_frozen BK720.out 0
   have hfz7_1 := blk_frozen BK720.out 1
   have hfz7_2 := blk_frozen BK720.out 2
   go_wp2_with (first | ((with_reducible refine gate_callee (f := 59) rfl ?_); refine goesA (some 8) _ #[.agg #[.int .i64 a0_0, .int .i64 a0_1, .slice A0_2 l0_2.length c0_2]] ?_ Try.func59; (with_reducible refine (impl_IsBoard.calls k a0_0 a0_1 _ _ l0_2 true _ ?side1 ?side2 A5.out).mono ?_); (case side1 => repeat (first | exact (Kd.C_below HR0_2.out HB.out) | (with_reducible refine Kd.C_alloc ?_ _) | (with_reducible refine Kd.C_drewN ?_ _) | (with_reducible refine Kd.C_drew ?_))); (case side2 => exact HC0_2.out); rintro e w8 ⟨rfl, hb⟩; refine ⟨_, rfl, ?_⟩; replace BK720 := kB BK720 hb; replace HB := bB HB hb; (try clear hb); (try clear hb2); (try clear hk); (try clear hi)))
   go_meet
   case rel => exact ⟨_, (decide ((l1.length : Int) > 60)), (by first | rfl | (simp; done) | (simp [*]; done)), H', ⟨by first | omega | exact Nat.le_refl _⟩, ⟨viaK BK720⟩, ⟨viaB HB⟩⟩
  ·replace c6 := Bool.eq_false_iff.mpr c6
   subst c6
   have H1 : (impl_validEntries.j0 k l1 true a0_0 a0_1 l0_2) = some r := by rw [if_neg (show ¬ (false = true) by decide)] at H; exact H
   clear H
   have H := H1
   clear H1
   have H' := Aside0.mk H
   clear H
   have hcz9_0 := bc0 BK720
   have hcz9_1 := bc1 BK720
   have hcz9_2 := bc2 BK720
   have hfz9_0 := blk_frozen BK720.out 0
   have hfz9_1 := blk_frozen BK720.out 1
   have hfz9_2 := blk_frozen BK720.out 2
   go_wp2_with (first | ((with_reducible refine gate_callee (f := 59) rfl ?_); refine goesA (some 8) _ #[.agg #[.int .i64 a0_0, .int .i64 a0_1, .slice A0_2 l0_2.length c0_2]] ?_ Try.func59; (with_reducible refine (impl_IsBoard.calls k a0_0 a0_1 _ _ l0_2 false _ ?side1 ?side2 A5.out).mono ?_); (case side1 => repeat (first | exact (Kd.C_below HR0_2.out HB.out) | (with_reducible refine Kd.C_alloc ?_ _) | (with_reducible refine Kd.C_drewN ?_ _) | (with_reducible refine Kd.C_drew ?_))); (case side2 => exact HC0_2.out); rintro e w10 ⟨rfl, hb⟩; refine ⟨_, rfl, ?_⟩; replace BK720 := kB BK720 hb; replace HB := bB HB hb; (try clear hb); (try clear hb2); (try clear hk); (try clear hi)))
   go_meet
   case rel => exact ⟨_, (true), (by first | rfl | (simp; done) | (simp [*]; done)), H', ⟨by first | omega | exact Nat.le_refl _⟩, ⟨viaK BK720⟩, ⟨viaB HB⟩⟩
 case rest =>
  clear HC3
  obtain ⟨kq, x14_2, rfl, HA, HJ2, BK720, HB⟩ := hcut
  cases kq with
  | zero => exact absurd HA.out (by simp [impl_validEntries.j0])
  | succ kj2 =>
   have H := HA.out
   clear HA
   simp only [impl_validEntries.j0] at H
   by_cases c11 : x14_2 = true
   ·subst c11
    have H1 : (some false) = some r := by rw [if_pos rfl] at H; exact H
    clear H
    have H := H1
    clear H1
    obtain rfl := Option.some.inj H
    go_wp2
    go_ret
    exact ⟨by first | rfl | (simp [errW_none, errW_some] <;> rfl) | (simp [*, errW_none, errW_some] <;> rfl), viaB HB⟩
   ·replace c11 := Bool.eq_false_iff.mpr c11
    subst c11
    have H1 : (impl_validEntries.l0 kj2 l1 (l1.length : Int) 0 a0_0 a0_1 l0_2) = some r := by rw [if_neg (show ¬ (false = true) by decide)] at H; exact H
    clear H
    have H := H1
    clear H1
    have H' := Aside0.mk H
    clear H
    go_wp2
    go_loopg [17] kj2 (fun kq v17 w' => ∃ (x17_2 : Int), v17 = .int .i64 x17_2 ∧ Aside0 (impl_validEntries.l0 kq l1 (l1.length : Int) x17_2 a0_0 a0_1 l0_2 = some r) ∧ Aside0 (kq ≤ kj2) ∧ Aside0 (w'.heap[gb720]? = some (.cells #[.int .i64 a0_0, .int .i64 a0_1, (.slice A0_2 l0_2.length c0_2)] 32 (0, 0))) ∧ Aside0 (Below w.heap.size w w'))
    case atStart => exact ⟨(0), (by first | rfl | (simp; done) | (simp [*]; done)), H', ⟨Nat.le_refl _⟩, ⟨viaK BK720⟩, ⟨viaB HB⟩⟩
    case round =>
     clear H'
     (try clear c11)
     obtain ⟨x17_2, rfl, HA, HK2, BK720, HB⟩ := hrel
     cases gk with
     | zero => exact absurd HA.out (by simp [impl_validEntries.l0])
     | succ k2 =>
      have H := HA.out
      clear HA
      simp only [impl_validEntries.l0] at H
      by_cases c12 : x17_2 < (l1.length : Int)
      ·rw [if_pos c12] at H
       have c12b0 := decide_eq_true c12
       clear c12
       by_cases c13 : 0 ≤ x17_2
       ·rw [if_pos c13] at H
        have c13b0 := decide_eq_true c13
        clear c13
        by_cases c14 : x17_2 < (l1.length : Int)
        ·rw [if_pos c14] at H
         have c14b0 := decide_eq_true c14
         clear c14
         by_cases c15 : (rd l1 x17_2) < 0
         ·rw [if_pos c15] at H
          have c15b0 := decide_eq_true c15
          clear c15
          obtain rfl := Option.some.inj H
          have p722 : 0 ≤ (x17_2 : Int) := ofD
          have q722 : x17_2 < (l1.length : Int) := ofD
          obtain ⟨ad722, e722, hx722_0⟩ := Kd.at_int HR1.out x17_2 p722 q722
          cases e722
          replace hx722_0 := (HB.out.cell (World.block_lt_of_cell? w _ hx722_0)).trans hx722_0
          replace p722 := eq_true p722
          replace q722 := eq_true q722
          go_wp2
          go_ret
          exact ⟨by first | rfl | (simp [errW_none, errW_some] <;> rfl) | (simp [*, errW_none, errW_some] <;> rfl), viaB HB⟩
         ·rw [if_neg c15] at H
          have c15b0 := decide_eq_false c15
          clear c15
          by_cases c16 : (rd l1 x17_2) ≥ a0_1
          ·rw [if_pos c16] at H
           have c16b0 := decide_eq_true c16
           clear c16
           obtain rfl := Option.some.inj H
           have p722 : 0 ≤ (x17_2 : Int) := ofD
           have q722 : x17_2 < (l1.length : Int) := ofD
           obtain ⟨ad722, e722, hx722_0⟩ := Kd.at_int HR1.out x17_2 p722 q722
           cases e722
           replace hx722_0 := (HB.out.cell (World.block_lt_of_cell? w _ hx722_0)).trans hx722_0
           replace p722 := eq_true p722
           replace q722 := eq_true q722
           have hcz17_0 := bc0 BK720
           have hcz17_1 := bc1 BK720
           have hcz17_2 := bc2 BK720
           have hfz17_0 := blk_frozen BK720.out 0
           have hfz17_1 := blk_frozen BK720.out 1
           have hfz17_2 := blk_frozen BK720.out 2
           go_wp2
           go_ret
           exact ⟨by first | rfl | (simp [errW_none, errW_some] <;> rfl) | (simp [*, errW_none, errW_some] <;> rfl), viaB HB⟩
          ·rw [if_neg c16] at H
           have c16b0 := decide_eq_false c16
           clear c16
           have H' := Aside0.mk H
           clear H
           have p722 : 0 ≤ (x17_2 : Int) := ofD
           have q722 : x17_2 < (l1.length : Int) := ofD
           obtain ⟨ad722, e722, hx722_0⟩ := Kd.at_int HR1.out x17_2 p722 q722
           cases e722
           replace hx722_0 := (HB.out.cell (World.block_lt_of_cell? w _ hx722_0)).trans hx722_0
           replace p722 := eq_true p722
           replace q722 := eq_true q722
           have hcz18_0 := bc0 BK720
           have hcz18_1 := bc1 BK720
           have hcz18_2 := bc2 BK720
           have hfz18_0 := blk_frozen BK720.out 0
           have hfz18_1 := blk_frozen BK720.out 1
           have hfz18_2 := blk_frozen BK720.out 2
           go_wp2
           go_roundg k2
           case measure => have := HJ2.out; have := HK2.out; omega
           case rel => exact ⟨(wrap64 (x17_2 + 1)), (by first | rfl | (simp; done) | (simp [*]; done)), H', ⟨by have := HJ2.out; have := HK2.out; omega⟩, ⟨viaK BK720⟩, ⟨viaB HB⟩⟩
        ·rw [if_neg c14] at H
         exact absurd H (by simp)
       ·rw [if_neg c13] at H
        exact absurd H (by simp)
      ·rw [if_neg c12] at H
       have c12b0 := decide_eq_false c12
       clear c12
       obtain rfl := Option.some.inj H
       go_wp2
       go_ret
       exact ⟨by first | rfl | (simp [errW_none, errW_some] <;> rfl) | (simp [*, errW_none, errW_some] <;> rfl), viaB HB⟩

/-! ### impl_dropAll: function 68 -/
def impl_dropAll.l0 : Nat → List Int → List (S27) → List Int → Int → Int → Int → Int → List (S89) → Option ((List (S27)) × Int × Int × (List (S89)))
 | 0, _, _, _, _, _, _, _, _ => none
 | k + 1, x7, x8, x18, x19, x20, x731000, x731001, x731002 => if x20 < x19 then (if 0 ≤ x20 then (if x20 < (x18.length : Int) then ((impl_drop.f k x731000 x731001 x731002 x7 (rd x18 x20)).bind fun bt738 => (if x8.length < 5864062014805 then (impl_dropAll.l0 k x7 (x8 ++ [(⟨bt738.1, bt738.2.1, bt738.2.2.1⟩ : S27)]) x18 x19 (wrap64 (x20 + 1)) x731000 x731001 bt738.2.2.2.2) else (none))) else (none)) else (none)) else (some (x8, x731000, x731001, x731002))
def impl_dropAll.f (k : Nat) (a0_0 : Int) (a0_1 : Int) (l0_2 : List (S89)) (l1 : List Int) : Option ((List (S27)) × Int × Int × (List (S89))) := (impl_copyBoard.f a0_0 a0_1 l0_2).bind fun bt725 => ((impl_groupNumbers.f k a0_0 a0_1 l0_2).bind fun t731 => (impl_dropAll.l0 k t731 (([] : List (S27))) l1 (l1.length : Int) 0 bt725.1 bt725.2.1 bt725.2.2))
theorem impl_dropAll.mono_l : ∀ k, (∀ y0 y1 y2 y3 y4 y5 y6 y7, LeO (impl_dropAll.l0 k y0 y1 y2 y3 y4 y5 y6 y7) (impl_dropAll.l0 (k + 1) y0 y1 y2 y3 y4 y5 y6 y7))
 | 0 => fun _ _ _ _ _ _ _ _ r h => by simp [impl_dropAll.l0] at h
 | k + 1 => by
  have ih0 := impl_dropAll.mono_l k
  ·intro y0 y1 y2 y3 y4 y5 y6 y7
   unfold impl_dropAll.l0
   repeat' first | (with_reducible first | exact ih0 _ _ _ _ _ _ _ _ | exact impl_drop.mono _ _ _ _ _ _ | exact impl_groupNumbers.mono _ _ _ _ | exact LeO.refl _ | exact LeO.none _ | refine LeO.ite ?_ ?_ | refine LeO.bind ?_ (fun _ => ?_)) | exact ih0 _ _ _ _ _ _ _ _ | exact impl_drop.mono _ _ _ _ _ _ | exact impl_groupNumbers.mono _ _ _ _ | exact LeO.none _ | refine LeO.ite ?_ ?_ | refine LeO.bind ?_ (fun _ => ?_)
theorem impl_dropAll.mono : ∀ a0 a1 a2 a3 k, LeO (impl_dropAll.f k a0 a1 a2 a3) (impl_dropAll.f (k + 1) a0 a1 a2 a3) := by
 intro a0 a1 a2 a3 k
 have ih0 := impl_dropAll.mono_l k
 unfold impl_dropAll.f
 repeat' first | (with_reducible first | exact ih0 _ _ _ _ _ _ _ _ | exact impl_drop.mono _ _ _ _ _ _ | exact impl_groupNumbers.mono _ _ _ _ | exact LeO.refl _ | exact LeO.none _ | refine LeO.ite ?_ ?_ | refine LeO.bind ?_ (fun _ => ?_)) | exact ih0 _ _ _ _ _ _ _ _ | exact impl_drop.mono _ _ _ _ _ _ | exact impl_groupNumbers.mono _ _ _ _ | exact LeO.none _ | refine LeO.ite ?_ ?_ | refine LeO.bind ?_ (fun _ => ?_)
set_option maxHeartbeats 8000000 in
set_option maxRecDepth 100000 in
theorem impl_dropAll.calls (k : Nat) (a0_0 : Int) (a0_1 : Int) (A0_2 : Option Addr) (c0_2 : Nat) (l0_2 : List (S89)) (A1 : Option Addr) (c1 : Nat) (l1 : List Int) (r1 : List (S27)) (r2 : Int) (r3 : Int) (r4 : List (S89)) (w : World) (hr0_2 : Kd.C k89 w A0_2 l0_2.length l0_2) (hc0_2 : l0_2.length ≤ c0_2) (hr1 : Kd.C (Kd.int .i64) w A1 l1.length l1) (hc1 : l1.length ≤ c1) (h : impl_dropAll.f k a0_0 a0_1 l0_2 l1 = some (r1, r2, r3, r4)) :
  Calls Try.prog 68 #[.agg #[.int .i64 a0_0, .int .i64 a0_1, .slice A0_2 l0_2.length c0_2], .slice A1 l1.length c1] w fun e w' => ∃ v0_ v3_ : Value, e = .returned (.tuple #[v0_, .agg #[.int .i64 r2, .int .i64 r3, v3_]]) ∧ Kd.R k27 27 w' w.heap.size (fun _ => True) v0_ r1 ∧ Kd.R k89 89 w' w.heap.size (fun _ => True) v3_ r4 ∧ Below w.heap.size w w' := by
 have hu32 := Try.underlying32
 have hu27 := Try.underlying27
 have HR0_2 := Aside0.mk hr0_2
 have HC0_2 := Aside0.mk hc0_2
 clear hr0_2 hc0_2
 have HR1 := Aside0.mk hr1
 have HC1 := Aside0.mk hc1
 clear hr1 hc1
 have HB := Aside0.mk (Below.refl w.heap.size w)
 have H : ((impl_copyBoard.f a0_0 a0_1 l0_2).bind fun bt725 => ((impl_groupNumbers.f k a0_0 a0_1 l0_2).bind fun t731 => (impl_dropAll.l0 k t731 (([] : List (S27))) l1 (l1.length : Int) 0 bt725.1 bt725.2.1 bt725.2.2))) = some (r1, r2, r3, r4) := h
 clear h
 replace H := Option.bind_eq_some_iff.mp H
 obtain ⟨⟨t725, t726, t727⟩, A30, H⟩ := H
 replace H : ((impl_groupNumbers.f k a0_0 a0_1 l0_2).bind fun t731 => (impl_dropAll.l0 k t731 (([] : List (S27))) l1 (l1.length : Int) 0 t725 t726 t727)) = some (r1, r2, r3, r4) := H
 have A3 := Aside0.mk A30
 clear A30
 replace H := Option.bind_eq_some_iff.mp H
 obtain ⟨t731, A40, H⟩ := H
 replace H : (impl_dropAll.l0 k t731 (([] : List (S27))) l1 (l1.length : Int) 0 t725 t726 t727) = some (r1, r2, r3, r4) := H
 have A4 := Aside0.mk A40
 clear A40
 obtain ⟨y734, hy734⟩ : ∃ y_ : List (S27), y_ = (([] : List (S27))) := ⟨_, rfl⟩
 replace H : (impl_dropAll.l0 k t731 y734 l1 (l1.length : Int) 0 t725 t726 t727) = some (r1, r2, r3, r4) := by first | (rw [hy734]; with_reducible exact H) | (have H2_ := (Option.bind_some _ _).symm.trans H; rw [hy734]; with_reducible exact H2_) | (have H2_ := (Option.bind_some _ _).symm.trans H; with_reducible exact H2_) | with_reducible exact H | (rw [hy734]; exact H) | exact H
 have Ny734 := Aside0.mk hy734
 clear hy734
 have H' := Aside0.mk H
 clear H
 go_enter Try.func68, Try.ntmps68
 go_wp2_with (first | ((with_reducible refine gate_dst (N := 2) rfl ?_); refine box_ev (N := 2) (cs := #[.int .i64 a0_0, .int .i64 a0_1, .slice A0_2 l0_2.length c0_2]) (t := 32) ?_; intro gb723 hg w5 hbox hb; have BK723 := Aside0.mk (hbox); have GW723 := gW (w := w) HB hg; have GE723 := gW (w := w) HB hg; replace HB := bB HB hb; clear hb hbox hg) | ((with_reducible refine gate_dst (N := 5) rfl ?_); refine box_ev (N := 5) (cs := #[.int .i64 0, .int .i64 0, .slice none 0 0]) (t := 32) ?_; intro gb724 hg w6 hbox hb; have BK724 := Aside0.mk (hbox); have GW724 := gW (w := w) HB hg; have GE724 := gW (w := w) HB hg; have NB723_724 := neL BK723 hg; have NB724_723 := neG BK723 hg; replace BK723 := kB BK723 hb; replace HB := bB HB hb; clear hb hbox hg; have hnb7 := NB723_724.out; have hnc7 := NB724_723.out; have hcz8_0 := bc0 BK723; have hcz8_1 := bc1 BK723; have hcz8_2 := bc2 BK723; have hfz8_0 := blk_frozen BK723.out 0; have hfz8_1 := blk_frozen BK723.out 1; have hfz8_2 := blk_frozen BK723.out 2) | ((with_reducible refine gate_callee (f := 55) rfl ?_); refine goesA (some 14) _ #[.agg #[.int .i64 a0_0, .int .i64 a0_1, .slice A0_2 l0_2.length c0_2]] ?_ Try.func55; (with_reducible refine (impl_copyBoard.calls a0_0 a0_1 _ _ l0_2 t725 t726 t727 _ ?side1 ?side2 A3.out).mono ?_); (case side1 => repeat (first | exact (Kd.C_below HR0_2.out HB.out) | (with_reducible refine Kd.C_alloc ?_ _) | (with_reducible refine Kd.C_drewN ?_ _) | (with_reducible refine Kd.C_drew ?_))); (case side2 => exact HC0_2.out); rintro e w9 ⟨v728, rfl, ho0, hb⟩; refine ⟨_, rfl, ?_⟩; have HO729 := Aside0.mk (Kd.R_lower ho0 (below_size (viaB HB))); replace BK723 := kB BK723 hb; replace BK724 := kB BK724 hb; replace HB := bB HB hb; (try clear hb); (try clear hb2); (try clear hk); (try clear hi); (try clear ho0)) | ((with_reducible refine gate_dst (N := 6) rfl ?_); refine box_ev (N := 6) (cs := #[.int .i64 0, .int .i64 0, .slice none 0 0]) (t := 32) ?_; intro gb730 hg w10 hbox hb; have BK730 := Aside0.mk (hbox); have GW730 := gW (w := w) HB hg; have GE730 := gW (w := w) HB hg; have NB723_730 := neL BK723 hg; have NB730_723 := neG BK723 hg; have NB724_730 := neL BK724 hg; have NB730_724 := neG BK724 hg; replace HO729 := Aside0.mk (Kd.R_below (viaR HO729) hb); replace BK723 := kB BK723 hb; replace BK724 := kB BK724 hb; replace HB := bB HB hb; clear hb hbox hg; have hnb11 := NB730_723.out; have hnc11 := NB723_730.out; have hnb12 := NB730_724.out; have hnc12 := NB724_730.out; have hcz13_0 := bc0 BK730; have hcz13_1 := bc1 BK730; have hcz13_2 := bc2 BK730; have hfz13_0 := blk_frozen BK730.out 0; have hfz13_1 := blk_frozen BK730.out 1; have hfz13_2 := blk_frozen BK730.out 2; obtain ⟨Ao14, co14, eo14⟩ := Kd.R_slice HO729.out; subst eo14; have hcz15_0 := bc0 BK723; have hcz15_1 := bc1 BK723; have hcz15_2 := bc2 BK723; have hfz15_0 := blk_frozen BK723.out 0; have hfz15_1 := blk_frozen BK723.out 1; have hfz15_2 := blk_frozen BK723.out 2) | ((with_reducible refine gate_callee (f := 56) rfl ?_); refine goesA (some 16) _ #[.agg #[.int .i64 a0_0, .int .i64 a0_1, .slice A0_2 l0_2.length c0_2]] ?_ Try.func56; (with_reducible refine (impl_groupNumbers.calls k a0_0 a0_1 _ _ l0_2 t731 _ ?side1 ?side2 A4.out).mono ?_); (case side1 => exact Kd.C_below HR0_2.out (viaB HB)); (case side2 => exact HC0_2.out); rintro e w16 ⟨v732, rfl, ho0, hb⟩; refine ⟨_, rfl, ?_⟩; have HO733 := Aside0.mk (Kd.R_lower ho0 (below_size (viaB HB))); replace HO729 := Aside0.mk (Kd.R_below (by (with_reducible repeat (first | apply Kd.R_alloc | apply Kd.R_drewN | apply Kd.R_drew)); exact (Kd.R_mono (Kd.R_far (p := ⟨gb730, 2, none⟩) (Kd.R_far (p := ⟨gb730, 1, none⟩) (Kd.R_far (p := ⟨gb730, 0, none⟩) (Kd.R_types HO729.out BK730.out (by decide)) (fun _ hk => hk.2) (.int .i64 t725)) (fun _ hk => hk.2) (.int .i64 t726)) (fun _ hk => hk.2) (.slice Ao14 t727.length co14)) (fun _ h_ => h_.1))) hb); replace BK723 := Aside0.mk (blk_below (g := gb723) (o := .cells #[.int .i64 a0_0, .int .i64 a0_1, .slice A0_2 l0_2.length c0_2] 32 (0, 0)) (by (with_reducible repeat (first | refine blk_drewN ?_ _ | refine blk_drew ?_ | refine blk_alloc ?_ _)); refine blk_far ?_ NB723_730.out _; (with_reducible repeat (first | refine blk_drewN ?_ _ | refine blk_drew ?_ | refine blk_alloc ?_ _)); refine blk_far ?_ NB723_730.out _; (with_reducible repeat (first | refine blk_drewN ?_ _ | refine blk_drew ?_ | refine blk_alloc ?_ _)); refine blk_far ?_ NB723_730.out _; (with_reducible repeat (first | refine blk_drewN ?_ _ | refine blk_drew ?_ | refine blk_alloc ?_ _)); exact BK723.out) hb); replace BK724 := Aside0.mk (blk_below (g := gb724) (o := .cells #[.int .i64 0, .int .i64 0, .slice none 0 0] 32 (0, 0)) (by (with_reducible repeat (first | refine blk_drewN ?_ _ | refine blk_drew ?_ | refine blk_alloc ?_ _)); refine blk_far ?_ NB724_730.out _; (with_reducible repeat (first | refine blk_drewN ?_ _ | refine blk_drew ?_ | refine blk_alloc ?_ _)); refine blk_far ?_ NB724_730.out _; (with_reducible repeat (first | refine blk_drewN ?_ _ | refine blk_drew ?_ | refine blk_alloc ?_ _)); refine blk_far ?_ NB724_730.out _; (with_reducible repeat (first | refine blk_drewN ?_ _ | refine blk_drew ?_ | refine blk_alloc ?_ _)); exact BK724.out) hb); replace BK730 := Aside0.mk (blk_below (g := gb730) (o := .cells #[.int .i64 t725, .int .i64 t726, .slice Ao14 t727.length co14] 32 (0, 0)) (by (with_reducible repeat (first | refine blk_drewN ?_ _ | refine blk_drew ?_ | refine blk_alloc ?_ _)); refine blk_put (cs := #[.int .i64 t725, .int .i64 t726, .slice none 0 0]) ?_ 2 _ rfl; (with_reducible repeat (first | refine blk_drewN ?_ _ | refine blk_drew ?_ | refine blk_alloc ?_ _)); refine blk_put (cs := #[.int .i64 t725, .int .i64 0, .slice none 0 0]) ?_ 1 _ rfl; (with_reducible repeat (first | refine blk_drewN ?_ _ | refine blk_drew ?_ | refine blk_alloc ?_ _)); refine blk_put (cs := #[.int .i64 0, .int .i64 0, .slice none 0 0]) ?_ 0 _ rfl; (with_reducible repeat (first | refine blk_drewN ?_ _ | refine blk_drew ?_ | refine blk_alloc ?_ _)); exact BK730.out) hb); replace HB := bB HB hb; (try clear hb); (try clear hb2); (try clear hk); (try clear hi); (try clear ho0)) | ((with_reducible refine gate_dst (N := 17) rfl ?_); refine Kd.R_lit k27 _ 27 ?hg (N := 17) ?hd (xs := ([] : List (S27))) (inner := []) (ok := fun _ => True) (okp := fun _ => True) ?hr ?hp (fun _ hk => hk) trivial (Below.refl _ _) (Nat.le_refl _) (by simp) ?_; (case hd => rfl); (case hg => rfl); (case hr => first | (go_simp; done) | (go_simp; rfl)); (case hp => exact (Reps.none _ _)); intro v735 w17 ho18 hb hg_ hnew_; clear hg_ hnew_; (first | rw [← Ny734.out] at ho18 | (simp only [Int.reduceToNat] at ho18; rw [← Ny734.out] at ho18)); have HO736 := Aside0.mk (Kd.R_lower ho18 (below_size (viaB HB))); replace HO729 := Aside0.mk (Kd.R_below (viaR HO729) hb); replace HO733 := Aside0.mk (Kd.R_below (viaR HO733) hb); replace BK723 := kB BK723 hb; replace BK724 := kB BK724 hb; replace BK730 := kB BK730 hb; replace HB := bB HB hb; clear hb ho18))
 go_loopg [8, 20] k (fun kq v8 v20 w' => ∃ (x8_1 : List (S27)) (x20_1 : Int) (x731002_1 : List (S89)) (u731002 : Value), v20 = .int .i64 x20_1 ∧ Aside0 (impl_dropAll.l0 kq t731 x8_1 l1 (l1.length : Int) x20_1 t725 t726 x731002_1 = some (r1, r2, r3, r4)) ∧ Aside0 (kq ≤ k) ∧ Aside0 (Kd.R (Kd.int .i64) 3 w' w.heap.size (fun _ => True) v732 t731) ∧ Aside0 (Kd.R k27 27 w' w.heap.size (fun _ => True) v8 x8_1) ∧ Aside0 (Kd.R k89 89 w' w.heap.size (fun _ => True) u731002 x731002_1) ∧ Aside0 (w'.heap[gb723]? = some (.cells #[.int .i64 a0_0, .int .i64 a0_1, (.slice A0_2 l0_2.length c0_2)] 32 (0, 0))) ∧ Aside0 (w'.heap[gb724]? = some (.cells #[.int .i64 0, .int .i64 0, (.slice none 0 0)] 32 (0, 0))) ∧ Aside0 (w'.heap[gb730]? = some (.cells #[.int .i64 t725, .int .i64 t726, u731002] 32 (0, 0))) ∧ Aside0 (Below w.heap.size w w'))
 case atStart => exact ⟨(y734), (0), (t727), (.slice Ao14 t727.length co14), (by first | rfl | (simp; done) | (simp [*]; done)), H', ⟨Nat.le_refl _⟩, ⟨viaR HO733⟩, ⟨viaR HO736⟩, ⟨viaR HO729⟩, ⟨viaK BK723⟩, ⟨viaK BK724⟩, ⟨viaK BK730⟩, ⟨viaB HB⟩⟩
 case round =>
  clear H'
  (try clear hcz13_0); (try clear hcz13_1); (try clear hcz13_2); (try clear hcz15_0); (try clear hcz15_1); (try clear hcz15_2); (try clear hcz8_0); (try clear hcz8_1)
  (try clear hcz8_2); (try clear hfz13_0); (try clear hfz13_1); (try clear hfz13_2); (try clear hfz15_0); (try clear hfz15_1); (try clear hfz15_2); (try clear hfz8_0)
  (try clear hfz8_1); (try clear hfz8_2)
  obtain ⟨x8_1, x20_1, x731002_1, u731002, rfl, HA, HK1, HO_7, HO_8, HO_731002, BK723, BK724, BK730, HB⟩ := hrel
  cases gk with
  | zero => exact absurd HA.out (by simp [impl_dropAll.l0])
  | succ k1 =>
   have H := HA.out
   clear HA
   simp only [impl_dropAll.l0] at H
   by_cases c19 : x20_1 < (l1.length : Int)
   ·rw [if_pos c19] at H
    have c19b0 := decide_eq_true c19
    clear c19
    by_cases c20 : 0 ≤ x20_1
    ·rw [if_pos c20] at H
     have c20b0 := decide_eq_true c20
     clear c20
     by_cases c21 : x20_1 < (l1.length : Int)
     ·rw [if_pos c21] at H
      have c21b0 := decide_eq_true c21
      clear c21
      replace H := Option.bind_eq_some_iff.mp H
      obtain ⟨⟨t738, t739, t740, t741, t744⟩, A220, H⟩ := H
      replace H : (if x8_1.length < 5864062014805 then (impl_dropAll.l0 k1 t731 (x8_1 ++ [(⟨t738, t739, t740⟩ : S27)]) l1 (l1.length : Int) (wrap64 (x20_1 + 1)) t725 t726 t744) else (none)) = some (r1, r2, r3, r4) := H
      have A22 := Aside0.mk A220
      clear A220
      by_cases c23 : x8_1.length < 5864062014805
      ·rw [if_pos c23] at H
       have LMc23 := Aside0.mk c23
       clear c23
       obtain ⟨y746, hy746⟩ : ∃ y_ : List (S27), y_ = (x8_1 ++ [(⟨t738, t739, t740⟩ : S27)]) := ⟨_, rfl⟩
       replace H : (impl_dropAll.l0 k1 t731 y746 l1 (l1.length : Int) (wrap64 (x20_1 + 1)) t725 t726 t744) = some (r1, r2, r3, r4) := by first | (rw [hy746]; with_reducible exact H) | (have H2_ := (Option.bind_some _ _).symm.trans H; rw [hy746]; with_reducible exact H2_) | (have H2_ := (Option.bind_some _ _).symm.trans H; with_reducible exact H2_) | with_reducible exact H | (rw [hy746]; exact H) | exact H
       have Ny746 := Aside0.mk hy746
       clear hy746
       have H' := Aside0.mk H
       clear H
       have p737 : 0 ≤ (x20_1 : Int) := ofD
       have q737 : x20_1 < (l1.length : Int) := ofD
       obtain ⟨ad737, e737, hx737_0⟩ := Kd.at_int HR1.out x20_1 p737 q737
       cases e737
       replace hx737_0 := (HB.out.cell (World.block_lt_of_cell? w _ hx737_0)).trans hx737_0
       replace p737 := eq_true p737
       replace q737 := eq_true q737
       have hnb24 := NB730_723.out
       have hnc24 := NB723_730.out
       have hnb25 := NB730_724.out
       have hnc25 := NB724_730.out
       have hcz26_0 := bc0 BK730
       have hcz26_1 := bc1 BK730
       have hcz26_2 := bc2 BK730
       have hfz26_0 := blk_frozen BK730.out 0
       have hfz26_1 := blk_frozen BK730.out 1
       have hfz26_2 := blk_frozen BK730.out 2
       obtain ⟨Ao27, co27, eo27⟩ := Kd.R_slice HO_731002.out
       subst eo27
       obtain ⟨Ao28, co28, eo28⟩ := Kd.R_slice HO_7.out
       subst eo28
       go_wp2_with (first | ((with_reducible refine gate_callee (f := 54) rfl ?_); refine goesA (some 28) _ #[.agg #[.int .i64 t725, .int .i64 t726, .slice Ao27 x731002_1.length co27], .slice Ao28 t731.length co28, .int .i64 (rd l1 x20_1)] ?_ Try.func54; (with_reducible refine (impl_drop.calls k1 t725 t726 (fun k_ => some k_ = (.slice Ao27 x731002_1.length co27 : Value).ownBlock) (.slice Ao27 x731002_1.length co27) x731002_1 _ _ t731 (rd l1 x20_1) t738 t739 t740 t741 t744 w _ ?side1 ?side2 ?side3 ?side4 A22.out).mono ?_); (case side1 => repeat (first | (with_reducible first | exact HB.out | apply below_alloc | apply pw_below_drewN | apply below_drew1 | refine below_set ?_ GE723.out | refine below_set ?_ GE724.out | refine below_set ?_ GE730.out) | exact HB.out)); (case side2 => exact Kd.R_tight rfl HO_731002.out); (case side3 => exact Kd.C_kept_own ((Kd.R_apart' HO_7.out (Kd.R_typed HO_731002.out) (by decide))) (fun k_ hk_ hs_ => (hk_.2) hs_)); (case side4 => exact (Kd.R_reads' HO_7.out).2.1); rintro e w29 ⟨v742, rfl, ho0, hy0, hb, hkp⟩; refine ⟨_, rfl, ?_⟩; have HO743 := Aside0.mk (Kd.R_mono (ok' := fun k_ => some k_ ≠ (.slice Ao28 t731.length co28 : Value).ownBlock) ho0 (fun k_ hk_ => Or.elim hk_ (fun hs_ => fun e_ => ((((Kd.R_apart' HO_7.out (Kd.R_typed HO_731002.out) (by decide))).1 k_ e_.symm).2) hs_) (fun hn_ => (Kd.fresh' (Kd.R_lt (viaR HO_7)) k_ hn_)))); replace HO_7 := Aside0.mk (Kd.R_mono (ok' := fun k_ => some k_ ≠ (v742 : Value).ownBlock) (Kd.R_keptB ((Kd.R_apart' HO_7.out (Kd.R_typed HO_731002.out) (by decide))) hkp (fun k_ hk_ hs_ => (hk_.2) hs_)) (fun k_ hk_ => fun e_ => Or.elim (ho0.1 k_ e_.symm) (fun hs_ => hk_.2.1 hs_) (fun hn_ => Nat.not_le.2 hk_.2.2 hn_))); replace HO_8 := Aside0.mk (Kd.R_mono (ok' := fun k_ => True) (Kd.R_keptB ((Kd.R_apart' HO_8.out (Kd.R_typed HO_731002.out) (by decide))) hkp (fun k_ hk_ hs_ => (hk_.2) hs_)) (fun k_ hk_ => trivial)); replace BK723 := Aside0.mk (blk_kept (viaK BK723) hkp (fun hs_ => (fun e_ => (Kd.R_ne HO_731002.out BK723.out (by decide)) e_) hs_)); replace BK724 := Aside0.mk (blk_kept (viaK BK724) hkp (fun hs_ => (fun e_ => (Kd.R_ne HO_731002.out BK724.out (by decide)) e_) hs_)); replace BK730 := Aside0.mk (blk_kept (viaK BK730) hkp (fun hs_ => (fun e_ => (Kd.R_ne HO_731002.out BK730.out (by decide)) e_) hs_)); replace HO_731002 := Aside0.mk (Kd.R_reok rfl hy0 (fun k_ e_ => HO_731002.out.1 k_ e_)); replace HB := Aside0.mk (hb); (try clear hb); (try clear hkp); (try clear ho0); (try clear hy0)) | ((with_reducible refine gate_dst (N := 11) rfl ?_); refine box_ev (N := 11) (cs := #[.int .i64 0, .int .i64 0, .int .i64 0]) (t := 27) ?_; intro gb745 hg w30 hbox hb; have BK745 := Aside0.mk (hbox); have GW745 := gW (w := w) HB hg; have GE745 := gW (w := w) HB hg; have NB723_745 := neL BK723 hg; have NB745_723 := neG BK723 hg; have NB724_745 := neL BK724 hg; have NB745_724 := neG BK724 hg; have NB730_745 := neL BK730 hg; have NB745_730 := neG BK730 hg; replace HO_7 := Aside0.mk (Kd.R_below (viaR HO_7) hb); replace HO_8 := Aside0.mk (Kd.R_below (Kd.R_elderB (viaR HO_8) gb745 (Nat.le_of_eq hg.symm)) hb); replace HO_731002 := Aside0.mk (Kd.R_below (viaR HO_731002) hb); replace HO743 := Aside0.mk (Kd.R_below (viaR HO743) hb); replace BK723 := kB BK723 hb; replace BK724 := kB BK724 hb; replace BK730 := kB BK730 hb; replace HB := bB HB hb; clear hb hbox hg; have hnb31 := NB745_723.out; have hnc31 := NB723_745.out; have hnb32 := NB745_724.out; have hnc32 := NB724_745.out; have hnb33 := NB745_730.out; have hnc33 := NB730_745.out; have hcz34_0 := bc0 BK745; have hcz34_1 := bc1 BK745; have hcz34_2 := bc2 BK745; have hfz34_0 := blk_frozen BK745.out 0; have hfz34_1 := blk_frozen BK745.out 1; have hfz34_2 := blk_frozen BK745.out 2) | ((with_reducible refine gate_builtin (b := .append) (xs := #[.tmp 31, .tmp 33]) rfl ?_); at_builtin; refine Kd.R_append k27 (w0 := w) w.heap.size rfl (.tmp 31) (.tmp 33) 61 27 (.agg #[(.int .i64 0), (.int .i64 0), (.int .i64 0)]) 24 rfl Try.underlying61 info27 rfl (by decide) (by omega) u8 x8_1 (⟨t738, t739, t740⟩ : S27) [.int .i64 t738, .int .i64 t739, .int .i64 t740] (fun k_ => k_ ≠ gb745) (fun _ => False) rfl (by first | (go_simp; done) | (go_simp; rfl)) ?aP (fun _ hk => hk.elim) ?aF ?aO ?aB ?aS ?aL ?_; (case aP => exact k27_mkM _ _ _ (⟨t738, t739, t740⟩ : S27)); (case aB => exact (viaB HB)); (case aF => exact (fun k_ hk => Kd.freshB (g := gb745) (o := .cells #[.int .i64 t738, .int .i64 t739, .int .i64 t740] 27 (0, 0)) (by (with_reducible repeat (first | refine blk_drewN ?_ _ | refine blk_drew ?_ | refine blk_alloc ?_ _)); refine blk_put (cs := #[.int .i64 t738, .int .i64 t739, .int .i64 0]) ?_ 2 _ rfl; (with_reducible repeat (first | refine blk_drewN ?_ _ | refine blk_drew ?_ | refine blk_alloc ?_ _)); refine blk_put (cs := #[.int .i64 t738, .int .i64 0, .int .i64 0]) ?_ 1 _ rfl; (with_reducible repeat (first | refine blk_drewN ?_ _ | refine blk_drew ?_ | refine blk_alloc ?_ _)); refine blk_put (cs := #[.int .i64 0, .int .i64 0, .int .i64 0]) ?_ 0 _ rfl; (with_reducible repeat (first | refine blk_drewN ?_ _ | refine blk_drew ?_ | refine blk_alloc ?_ _)); exact BK745.out) k_ hk)); (case aO => exact (by (with_reducible repeat (first | apply Kd.R_alloc | apply Kd.R_drewN | apply Kd.R_drew)); exact Kd.R_mono (Kd.R_far (p := ⟨gb745, 2, none⟩) (Kd.R_far (p := ⟨gb745, 1, none⟩) (Kd.R_far (p := ⟨gb745, 0, none⟩) (Kd.R_mono HO_8.out (fun k_ hk => (⟨hk, hk.2⟩ : _ ∧ k_ ≠ gb745))) (fun _ hk => hk.2) (.int .i64 t738)) (fun _ hk => hk.2) (.int .i64 t739)) (fun _ hk => hk.2) (.int .i64 t740)) (fun _ hk => hk.1.2))); (case aS => exact (below_size (viaB HB))); (case aL => have := LMc23.out; omega); intro v747 w35 ho hb hg hat; rw [← Ny746.out] at ho; have HO748 := Aside0.mk (ho); replace HO_7 := Aside0.mk (Kd.R_over' (by (with_reducible repeat (first | apply Kd.R_alloc | apply Kd.R_drewN | apply Kd.R_drew)); exact (Kd.R_mono (Kd.R_far (p := ⟨gb745, 2, none⟩) (Kd.R_far (p := ⟨gb745, 1, none⟩) (Kd.R_far (p := ⟨gb745, 0, none⟩) (Kd.R_types HO_7.out BK745.out (by decide)) (fun _ hk => hk.2) (.int .i64 t738)) (fun _ hk => hk.2) (.int .i64 t739)) (fun _ hk => hk.2) (.int .i64 t740)) (fun _ h_ => h_.1))) (Kd.R_typed (by (with_reducible repeat (first | apply Kd.R_alloc | apply Kd.R_drewN | apply Kd.R_drew)); exact (Kd.R_mono (Kd.R_far (p := ⟨gb745, 2, none⟩) (Kd.R_far (p := ⟨gb745, 1, none⟩) (Kd.R_far (p := ⟨gb745, 0, none⟩) (Kd.R_mono HO_8.out (fun k_ hk => (⟨hk, hk.2⟩ : _ ∧ k_ ≠ gb745))) (fun _ hk => hk.2) (.int .i64 t738)) (fun _ hk => hk.2) (.int .i64 t739)) (fun _ hk => hk.2) (.int .i64 t740)) (fun _ h_ => h_.1)))) (by decide) hg); replace HO_731002 := Aside0.mk (Kd.R_over' (by (with_reducible repeat (first | apply Kd.R_alloc | apply Kd.R_drewN | apply Kd.R_drew)); exact (Kd.R_mono (Kd.R_far (p := ⟨gb745, 2, none⟩) (Kd.R_far (p := ⟨gb745, 1, none⟩) (Kd.R_far (p := ⟨gb745, 0, none⟩) (Kd.R_types HO_731002.out BK745.out (by decide)) (fun _ hk => hk.2) (.int .i64 t738)) (fun _ hk => hk.2) (.int .i64 t739)) (fun _ hk => hk.2) (.int .i64 t740)) (fun _ h_ => h_.1))) (Kd.R_typed (by (with_reducible repeat (first | apply Kd.R_alloc | apply Kd.R_drewN | apply Kd.R_drew)); exact (Kd.R_mono (Kd.R_far (p := ⟨gb745, 2, none⟩) (Kd.R_far (p := ⟨gb745, 1, none⟩) (Kd.R_far (p := ⟨gb745, 0, none⟩) (Kd.R_mono HO_8.out (fun k_ hk => (⟨hk, hk.2⟩ : _ ∧ k_ ≠ gb745))) (fun _ hk => hk.2) (.int .i64 t738)) (fun _ hk => hk.2) (.int .i64 t739)) (fun _ hk => hk.2) (.int .i64 t740)) (fun _ h_ => h_.1)))) (by decide) hg); replace BK723 := Aside0.mk (blk_grown (g := gb723) (o := .cells #[.int .i64 a0_0, .int .i64 a0_1, .slice A0_2 l0_2.length c0_2] 32 (0, 0)) (by (with_reducible repeat (first | refine blk_drewN ?_ _ | refine blk_drew ?_ | refine blk_alloc ?_ _)); refine blk_far ?_ NB723_745.out _; (with_reducible repeat (first | refine blk_drewN ?_ _ | refine blk_drew ?_ | refine blk_alloc ?_ _)); refine blk_far ?_ NB723_745.out _; (with_reducible repeat (first | refine blk_drewN ?_ _ | refine blk_drew ?_ | refine blk_alloc ?_ _)); refine blk_far ?_ NB723_745.out _; (with_reducible repeat (first | refine blk_drewN ?_ _ | refine blk_drew ?_ | refine blk_alloc ?_ _)); exact BK723.out) hg (Kd.R_ne HO_8.out BK723.out (by decide))); replace BK724 := Aside0.mk (blk_grown (g := gb724) (o := .cells #[.int .i64 0, .int .i64 0, .slice none 0 0] 32 (0, 0)) (by (with_reducible repeat (first | refine blk_drewN ?_ _ | refine blk_drew ?_ | refine blk_alloc ?_ _)); refine blk_far ?_ NB724_745.out _; (with_reducible repeat (first | refine blk_drewN ?_ _ | refine blk_drew ?_ | refine blk_alloc ?_ _)); refine blk_far ?_ NB724_745.out _; (with_reducible repeat (first | refine blk_drewN ?_ _ | refine blk_drew ?_ | refine blk_alloc ?_ _)); refine blk_far ?_ NB724_745.out _; (with_reducible repeat (first | refine blk_drewN ?_ _ | refine blk_drew ?_ | refine blk_alloc ?_ _)); exact BK724.out) hg (Kd.R_ne HO_8.out BK724.out (by decide))); replace BK730 := Aside0.mk (blk_grown (g := gb730) (o := .cells #[.int .i64 t725, .int .i64 t726, .slice Ao27 x731002_1.length co27] 32 (0, 0)) (by (with_reducible repeat (first | refine blk_drewN ?_ _ | refine blk_drew ?_ | refine blk_alloc ?_ _)); refine blk_far ?_ NB730_745.out _; (with_reducible repeat (first | refine blk_drewN ?_ _ | refine blk_drew ?_ | refine blk_alloc ?_ _)); refine blk_far ?_ NB730_745.out _; (with_reducible repeat (first | refine blk_drewN ?_ _ | refine blk_drew ?_ | refine blk_alloc ?_ _)); refine blk_far ?_ NB730_745.out _; (with_reducible repeat (first | refine blk_drewN ?_ _ | refine blk_drew ?_ | refine blk_alloc ?_ _)); exact BK730.out) hg (Kd.R_ne HO_8.out BK730.out (by decide))); replace HO743 := Aside0.mk (Kd.R_over' (by (with_reducible repeat (first | apply Kd.R_alloc | apply Kd.R_drewN | apply Kd.R_drew)); exact (Kd.R_mono (Kd.R_far (p := ⟨gb745, 2, none⟩) (Kd.R_far (p := ⟨gb745, 1, none⟩) (Kd.R_far (p := ⟨gb745, 0, none⟩) (Kd.R_types HO743.out BK745.out (by decide)) (fun _ hk => hk.2) (.int .i64 t738)) (fun _ hk => hk.2) (.int .i64 t739)) (fun _ hk => hk.2) (.int .i64 t740)) (fun _ h_ => h_.1))) (Kd.R_typed (by (with_reducible repeat (first | apply Kd.R_alloc | apply Kd.R_drewN | apply Kd.R_drew)); exact (Kd.R_mono (Kd.R_far (p := ⟨gb745, 2, none⟩) (Kd.R_far (p := ⟨gb745, 1, none⟩) (Kd.R_far (p := ⟨gb745, 0, none⟩) (Kd.R_mono HO_8.out (fun k_ hk => (⟨hk, hk.2⟩ : _ ∧ k_ ≠ gb745))) (fun _ hk => hk.2) (.int .i64 t738)) (fun _ hk => hk.2) (.int .i64 t739)) (fun _ hk => hk.2) (.int .i64 t740)) (fun _ h_ => h_.1)))) (by decide) hg); replace BK745 := Aside0.mk (blk_grown (g := gb745) (o := .cells #[.int .i64 t738, .int .i64 t739, .int .i64 t740] 27 (0, 0)) (by (with_reducible repeat (first | refine blk_drewN ?_ _ | refine blk_drew ?_ | refine blk_alloc ?_ _)); refine blk_put (cs := #[.int .i64 t738, .int .i64 t739, .int .i64 0]) ?_ 2 _ rfl; (with_reducible repeat (first | refine blk_drewN ?_ _ | refine blk_drew ?_ | refine blk_alloc ?_ _)); refine blk_put (cs := #[.int .i64 t738, .int .i64 0, .int .i64 0]) ?_ 1 _ rfl; (with_reducible repeat (first | refine blk_drewN ?_ _ | refine blk_drew ?_ | refine blk_alloc ?_ _)); refine blk_put (cs := #[.int .i64 0, .int .i64 0, .int .i64 0]) ?_ 0 _ rfl; (with_reducible repeat (first | refine blk_drewN ?_ _ | refine blk_drew ?_ | refine blk_alloc ?_ _)); exact BK745.out) hg (Kd.R_away HO_8.out (fun _ hk => hk.2))); replace HB := Aside0.mk (hb); clear HO_8; clear ho hb hg hat))
       go_roundg k1
       case measure => have := HK1.out; omega
       case rel => exact ⟨(y746), (wrap64 (x20_1 + 1)), (t744), (.slice Ao27 x731002_1.length co27), (by first | rfl | (simp; done) | (simp [*]; done)), H', ⟨by have := HK1.out; omega⟩, ⟨by (with_reducible repeat (first | apply Kd.R_alloc | apply Kd.R_drewN | apply Kd.R_drew)); exact Kd.R_mono HO_7.out (fun _ hk => trivial)⟩, ⟨by (with_reducible repeat (first | apply Kd.R_alloc | apply Kd.R_drewN | apply Kd.R_drew)); exact Kd.R_mono HO748.out (fun _ hk => trivial)⟩, ⟨viaR HO_731002⟩, ⟨viaK BK723⟩, ⟨viaK BK724⟩, ⟨viaK BK730⟩, ⟨viaB HB⟩⟩
      ·rw [if_neg c23] at H
       exact absurd H (by simp)
     ·rw [if_neg c21] at H
      exact absurd H (by simp)
    ·rw [if_neg c20] at H
     exact absurd H (by simp)
   ·rw [if_neg c19] at H
    have c19b0 := decide_eq_false c19
    clear c19
    simp only [Option.some.injEq, Prod.mk.injEq] at H
    obtain ⟨rfl, rfl, rfl, rfl⟩ := H
    try go_wp2
    replace HO_7 := Aside0.mk (Kd.R_drew HO_7.out)
    replace HO_8 := Aside0.mk (Kd.R_drew HO_8.out)
    replace HO_731002 := Aside0.mk (Kd.R_drew HO_731002.out)
    replace BK723 := Aside0.mk (blk_drew BK723.out)
    replace BK724 := Aside0.mk (blk_drew BK724.out)
    replace BK730 := Aside0.mk (blk_drew BK730.out)
    replace HB := Aside0.mk (below_drew1 HB.out)
    obtain ⟨Ao39, co39, eo39⟩ := Kd.R_slice HO_731002.out
    (first | subst eo39 | (injection eo39 with f1_ f2_ f3_; have f4_ := f1_.symm; have f5_ := f3_.symm; clear f1_ f2_ f3_; subst f4_; subst f5_))
    refine start_ (n := 4) (S := fun w' => w'.cell? ⟨gb730, 0, none⟩ = some (.int .i64 t725) ∧ w'.cell? ⟨gb730, 1, none⟩ = some (.int .i64 t726) ∧ w'.cell? ⟨gb730, 2, none⟩ = some (.slice Ao39 x731002_1.length co39)) (ds := []) #[false, false, false, false] (by kernel_rfl) rfl rfl ⟨(blk_cell BK730.out 0).trans rfl, (blk_cell BK730.out 1).trans rfl, (blk_cell BK730.out 2).trans rfl⟩ (fun hHeld => ?_)
    generalize wr.drew = w36 at HO_7 HO_8 HO_731002 BK723 BK724 BK730 HB hHeld ⊢
    refine pure_ (i := 0) (N := some 36) (v := ?_) (a' := ?_) #[true, false, false, false] rfl rfl (by kernel_rfl) (fun _ _ _ h => h) (Or.inl ⟨by rfl, ?_⟩) ?_ ?_
    rotate_left
    ·intro w'
     go_simp
     with_reducible rfl
    rotate_left
    ·simp only [Act.put, q1, q2, q3, i64_w, i32_w]
     rfl
    refine pure_ (i := 2) (N := some 4) (v := ?_) (a' := ?_) #[true, false, true, false] rfl rfl (by kernel_rfl) (fun _ _ _ h => h) (Or.inl ⟨by rfl, ?_⟩) ?_ ?_
    rotate_left
    ·intro w'
     go_simp
     with_reducible rfl
    rotate_left
    ·simp only [Act.put, q1, q2, q3, i64_w, i32_w]
     rfl
    refine take_ (i := 1) (N := some 37) (v := ?_) (a' := ?_) #[true, true, true, false] rfl rfl (by kernel_rfl) (fun _ _ _ h => h) (Or.inl ⟨by rfl, ?_⟩) hHeld ?_ ?_
    rotate_left
    ·rintro w' ⟨s0, s1, s2⟩
     go_simp
     with_reducible rfl
    rotate_left
    ·simp only [Act.put, q1, q2, q3, i64_w, i32_w]
     rfl
    refine one_ (i := 3) (N := none) #[true, true, true, true] rfl rfl (by kernel_rfl) (by decide) (fun K hK => ?_)
    have hs37 : w36.cell? ⟨gb724, 0, none⟩ = some (.int .i64 0) := (blk_cell BK724.out 0).trans rfl
    have hfs37 := blk_frozen BK724.out 0
    have hns37_0 := NB723_724.out
    have hns37_2 := NB730_724.out
    have hms37_0 := NB724_723.out
    have hms37_2 := NB724_730.out
    have hs38 : w36.cell? ⟨gb724, 1, none⟩ = some (.int .i64 0) := (blk_cell BK724.out 1).trans rfl
    have hfs38 := blk_frozen BK724.out 1
    have hns38_0 := NB723_724.out
    have hns38_2 := NB730_724.out
    have hms38_0 := NB724_723.out
    have hms38_2 := NB724_730.out
    have hs40 : w36.cell? ⟨gb724, 2, none⟩ = some (.slice none 0 0) := (blk_cell BK724.out 2).trans rfl
    have hfs40 := blk_frozen BK724.out 2
    have hns40_0 := NB723_724.out
    have hns40_2 := NB730_724.out
    have hms40_0 := NB724_723.out
    have hms40_2 := NB724_730.out
    refine skip_ (w1 := ?_) (by rfl) rfl ?_ ?_
    rotate_left
    ·go_simp
     rfl
    refine hK.out _ _ ⟨((cell_far (p := ⟨gb724, _, none⟩) NB730_724.out _).trans (((cell_far (p := ⟨gb724, _, none⟩) NB730_724.out _).trans (((cell_far (p := ⟨gb724, _, none⟩) NB730_724.out _).trans (hHeld.1)))))), ((cell_far (p := ⟨gb724, _, none⟩) NB730_724.out _).trans (((cell_far (p := ⟨gb724, _, none⟩) NB730_724.out _).trans (((cell_far (p := ⟨gb724, _, none⟩) NB730_724.out _).trans (hHeld.2.1)))))), ((cell_far (p := ⟨gb724, _, none⟩) NB730_724.out _).trans (((cell_far (p := ⟨gb724, _, none⟩) NB730_724.out _).trans (((cell_far (p := ⟨gb724, _, none⟩) NB730_724.out _).trans (hHeld.2.2))))))⟩ (fun hHeld => ?_)
    clear hK K
    refine done_ (by kernel_rfl) ?_
    try go_wp2
    refine bodyPost_ret (results_tc rfl _ _ gb724 32 #[.int .i64 t725, .int .i64 t726, .slice Ao39 x731002_1.length co39] (0, 0) _ rfl (by (with_reducible repeat (first | refine blk_drewN ?_ _ | refine blk_drew ?_ | refine blk_alloc ?_ _)); refine blk_put (cs := #[.int .i64 t725, .int .i64 t726, .slice none 0 0]) ?_ 2 _ rfl; (with_reducible repeat (first | refine blk_drewN ?_ _ | refine blk_drew ?_ | refine blk_alloc ?_ _)); refine blk_put (cs := #[.int .i64 t725, .int .i64 0, .slice none 0 0]) ?_ 1 _ rfl; (with_reducible repeat (first | refine blk_drewN ?_ _ | refine blk_drew ?_ | refine blk_alloc ?_ _)); refine blk_put (cs := #[.int .i64 0, .int .i64 0, .slice none 0 0]) ?_ 0 _ rfl; (with_reducible repeat (first | refine blk_drewN ?_ _ | refine blk_drew ?_ | refine blk_alloc ?_ _)); exact BK724.out) Try.underlying32 rfl (by kernel_rfl)) rfl ?_
    exact ⟨_, _, by first | rfl | (simp [errW_none, errW_some] <;> rfl) | (simp [*, errW_none, errW_some] <;> rfl), by (with_reducible repeat (first | apply Kd.R_alloc | apply Kd.R_drewN | apply Kd.R_drew)); exact Kd.R_mono (Kd.R_far (p := ⟨gb724, 2, none⟩) (Kd.R_far (p := ⟨gb724, 1, none⟩) (Kd.R_far (p := ⟨gb724, 0, none⟩) (Kd.R_types HO_8.out BK724.out (by decide)) (fun _ hk => hk.2) (.int .i64 t725)) (fun _ hk => hk.2) (.int .i64 t726)) (fun _ hk => hk.2) (.slice Ao39 x731002_1.length co39)) (fun _ hk => trivial), by (with_reducible repeat (first | apply Kd.R_alloc | apply Kd.R_drewN | apply Kd.R_drew)); exact Kd.R_mono (Kd.R_far (p := ⟨gb724, 2, none⟩) (Kd.R_far (p := ⟨gb724, 1, none⟩) (Kd.R_far (p := ⟨gb724, 0, none⟩) (Kd.R_types HO_731002.out BK724.out (by decide)) (fun _ hk => hk.2) (.int .i64 t725)) (fun _ hk => hk.2) (.int .i64 t726)) (fun _ hk => hk.2) (.slice Ao39 x731002_1.length co39)) (fun _ hk => trivial), viaB HB⟩

end Go.Proofs.Ytoklfgjemfojgaa.PAll
