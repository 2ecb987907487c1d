/- This text began as one that print.sh wrote for this seat (of the functions named below); it is this session's own: turned where Lean did not take the printed proof, where it was too long for a claim, or only in what it imports. -/
import Derived.Test.YtoklfgjemfojgaaG0
import Derived.Test.YtoklfgjemfojgaaG1
import Derived.Test.YtoklfgjemfojgaaG12
import Derived.Test.YtoklfgjemfojgaaG18
namespace Go.Proofs.Ytoklfgjemfojgaa.PAll
open Go.RowKit Go.Proofs.YtoklfgjemfojgaaW.PrintWords Go.Proofs.YtoklfgjemfojgaaW.PrintLast Go.Proofs.YtoklfgjemfojgaaW.PrintMore
attribute [local go_sem] max2_int min2_int max_two min_two max_three min_three max_four min_four   -- for this text's walks alone
set_option linter.unusedVariables false
set_option linter.unusedSimpArgs false

attribute [local go_sem high] eqA27
/-! ### impl_SameFalls: function 20 -/
mutual
def impl_SameFalls.j0 : Nat → Bool → Int → Int → List (S89) → Int → Int → List (S89) → Option (Bool × Bool)
 | 0, _, _, _, _, _, _, _ => none
 | k + 1, x25, x376000, x376001, x376002, x377000, x377001, x377002 => if x25 = true then (some (false, false)) else (impl_SameFalls.l0 k 0 x376000 x376001 x376002 x377000 x377001 x377002)
def impl_SameFalls.l0 : Nat → Int → Int → Int → List (S89) → Int → Int → List (S89) → Option (Bool × Bool)
 | 0, _, _, _, _, _, _, _ => none
 | k + 1, x6, x376000, x376001, x376002, x377000, x377001, x377002 => if x6 < x376001 then ((impl_FallOf.f k x376000 x376001 x376002 x6).bind fun bt379 => ((impl_FallOf.f k x377000 x377001 x377002 x6).bind fun bt384 => (if (!(bt379.1 == bt384.1) || (!(bt379.2.1 == bt384.2.1) || (!(bt379.2.2.1 == bt384.2.2.1)))) = true then (some (false, true)) else (impl_SameFalls.l0 k (wrap64 (x6 + 1)) x376000 x376001 x376002 x377000 x377001 x377002)))) else (some (true, true))
end
def impl_SameFalls.f (k : Nat) (a0_0 : Int) (a0_1 : Int) (l0_2 : List (S89)) (a1_0 : Int) (a1_1 : Int) (l1_2 : List (S89)) : Option (Bool × Bool) := (impl_IsBoard.f k a0_0 a0_1 l0_2).bind fun t377 => (if t377 = true then ((impl_IsBoard.f k a1_0 a1_1 l1_2).bind fun t378 => (if t378 = true then (impl_SameFalls.j0 k (a0_1 != a1_1) a0_0 a0_1 l0_2 a1_0 a1_1 l1_2) else (impl_SameFalls.j0 k true a0_0 a0_1 l0_2 a1_0 a1_1 l1_2))) else (impl_SameFalls.j0 k true a0_0 a0_1 l0_2 a1_0 a1_1 l1_2))
theorem impl_SameFalls.mono_l : ∀ k, (∀ y0 y1 y2 y3 y4 y5 y6, LeO (impl_SameFalls.j0 k y0 y1 y2 y3 y4 y5 y6) (impl_SameFalls.j0 (k + 1) y0 y1 y2 y3 y4 y5 y6)) ∧ (∀ y0 y1 y2 y3 y4 y5 y6, LeO (impl_SameFalls.l0 k y0 y1 y2 y3 y4 y5 y6) (impl_SameFalls.l0 (k + 1) y0 y1 y2 y3 y4 y5 y6))
 | 0 => ⟨fun _ _ _ _ _ _ _ r h => by simp [impl_SameFalls.j0] at h, fun _ _ _ _ _ _ _ r h => by simp [impl_SameFalls.l0] at h⟩
 | k + 1 => by
  obtain ⟨ih0, ih1⟩ := impl_SameFalls.mono_l k
  refine ⟨?_, ?_⟩
  ·intro y0 y1 y2 y3 y4 y5 y6
   unfold impl_SameFalls.j0
   repeat' first | (with_reducible first | exact ih0 _ _ _ _ _ _ _ | exact ih1 _ _ _ _ _ _ _ | exact impl_FallOf.mono _ _ _ _ _ | exact impl_IsBoard.mono _ _ _ _ | exact LeO.refl _ | exact LeO.none _ | refine LeO.ite ?_ ?_ | refine LeO.bind ?_ (fun _ => ?_)) | exact ih0 _ _ _ _ _ _ _ | exact ih1 _ _ _ _ _ _ _ | exact impl_FallOf.mono _ _ _ _ _ | exact impl_IsBoard.mono _ _ _ _ | exact LeO.none _ | refine LeO.ite ?_ ?_ | refine LeO.bind ?_ (fun _ => ?_)
  ·intro y0 y1 y2 y3 y4 y5 y6
   unfold impl_SameFalls.l0
   repeat' first | (with_reducible first | exact ih0 _ _ _ _ _ _ _ | exact ih1 _ _ _ _ _ _ _ | exact impl_FallOf.mono _ _ _ _ _ | exact impl_IsBoard.mono _ _ _ _ | exact LeO.refl _ | exact LeO.none _ | refine LeO.ite ?_ ?_ | refine LeO.bind ?_ (fun _ => ?_)) | exact ih0 _ _ _ _ _ _ _ | exact ih1 _ _ _ _ _ _ _ | exact impl_FallOf.mono _ _ _ _ _ | exact impl_IsBoard.mono _ _ _ _ | exact LeO.none _ | refine LeO.ite ?_ ?_ | refine LeO.bind ?_ (fun _ => ?_)
theorem impl_SameFalls.mono : ∀ a0 a1 a2 a3 a4 a5 k, LeO (impl_SameFalls.f k a0 a1 a2 a3 a4 a5) (impl_SameFalls.f (k + 1) a0 a1 a2 a3 a4 a5) := by
 intro a0 a1 a2 a3 a4 a5 k
 obtain ⟨ih0, ih1⟩ := impl_SameFalls.mono_l k
 unfold impl_SameFalls.f
 repeat' first | (with_reducible first | exact ih0 _ _ _ _ _ _ _ | exact ih1 _ _ _ _ _ _ _ | exact impl_FallOf.mono _ _ _ _ _ | exact impl_IsBoard.mono _ _ _ _ | exact LeO.refl _ | exact LeO.none _ | refine LeO.ite ?_ ?_ | refine LeO.bind ?_ (fun _ => ?_)) | exact ih0 _ _ _ _ _ _ _ | exact ih1 _ _ _ _ _ _ _ | exact impl_FallOf.mono _ _ _ _ _ | exact impl_IsBoard.mono _ _ _ _ | exact LeO.none _ | refine LeO.ite ?_ ?_ | refine LeO.bind ?_ (fun _ => ?_)
set_option maxHeartbeats 8000000 in
set_option maxRecDepth 100000 in
theorem impl_SameFalls.calls (k : Nat) (a0_0 : Int) (a0_1 : Int) (A0_2 : Option Addr) (c0_2 : Nat) (l0_2 : List (S89)) (a1_0 : Int) (a1_1 : Int) (A1_2 : Option Addr) (c1_2 : Nat) (l1_2 : List (S89)) (r1 : Bool) (r2 : Bool) (w : World) (hr0_2 : Kd.C k89 w A0_2 l0_2.length l0_2) (hc0_2 : l0_2.length ≤ c0_2) (hr1_2 : Kd.C k89 w A1_2 l1_2.length l1_2) (hc1_2 : l1_2.length ≤ c1_2) (h : impl_SameFalls.f k a0_0 a0_1 l0_2 a1_0 a1_1 l1_2 = some (r1, r2)) :
  Calls Try.prog 20 #[.agg #[.int .i64 a0_0, .int .i64 a0_1, .slice A0_2 l0_2.length c0_2], .agg #[.int .i64 a1_0, .int .i64 a1_1, .slice A1_2 l1_2.length c1_2]] w fun e w' => e = .returned (.tuple #[.bool r1, .bool r2]) ∧ Below w.heap.size w w' := by
 have hu32 := Try.underlying32
 have hu27 := Try.underlying27
 have HR0_2 := Aside0.mk hr0_2
 have HC0_2 := Aside0.mk hc0_2
 clear hr0_2 hc0_2
 have HR1_2 := Aside0.mk hr1_2
 have HC1_2 := Aside0.mk hc1_2
 clear hr1_2 hc1_2
 have HB := Aside0.mk (Below.refl w.heap.size w)
 have H : ((impl_IsBoard.f k a0_0 a0_1 l0_2).bind fun t377 => (if t377 = true then ((impl_IsBoard.f k a1_0 a1_1 l1_2).bind fun t378 => (if t378 = true then (impl_SameFalls.j0 k (a0_1 != a1_1) a0_0 a0_1 l0_2 a1_0 a1_1 l1_2) else (impl_SameFalls.j0 k true a0_0 a0_1 l0_2 a1_0 a1_1 l1_2))) else (impl_SameFalls.j0 k true a0_0 a0_1 l0_2 a1_0 a1_1 l1_2))) = some (r1, r2) := h
 clear h
 have HC3 := Aside0.mk H
 clear H
 go_enter Try.func20, Try.ntmps20
 go_upto_region 1 with (first | ((with_reducible refine gate_dst (N := 2) rfl ?_); refine box_ev (N := 2) (cs := #[.int .i64 a0_0, .int .i64 a0_1, .slice A0_2 l0_2.length c0_2]) (t := 32) ?_; intro gb375 hg w4 hbox hb; have BK375 := Aside0.mk (hbox); have GW375 := gW (w := w) HB hg; have GE375 := gW (w := w) HB hg; replace HB := bB HB hb; clear hb hbox hg) | ((with_reducible refine gate_dst (N := 3) rfl ?_); refine box_ev (N := 3) (cs := #[.int .i64 a1_0, .int .i64 a1_1, .slice A1_2 l1_2.length c1_2]) (t := 32) ?_; intro gb376 hg w5 hbox hb; have BK376 := Aside0.mk (hbox); have GW376 := gW (w := w) HB hg; have GE376 := gW (w := w) HB hg; have NB375_376 := neL BK375 hg; have NB376_375 := neG BK375 hg; replace BK375 := kB BK375 hb; replace HB := bB HB hb; clear hb hbox hg))
 (try simp only [Act.put, q1, q2, q3])
 go_cut [25] (fun v25 wc => ∃ (kq : Nat) (x25_2 : Bool), v25 = .bool x25_2 ∧ Aside0 (impl_SameFalls.j0 kq x25_2 a0_0 a0_1 l0_2 a1_0 a1_1 l1_2 = some (r1, r2)) ∧ Aside0 (kq ≤ k) ∧ Aside0 (wc.heap[gb375]? = some (.cells #[.int .i64 a0_0, .int .i64 a0_1, (.slice A0_2 l0_2.length c0_2)] 32 (0, 0))) ∧ Aside0 (wc.heap[gb376]? = some (.cells #[.int .i64 a1_0, .int .i64 a1_1, (.slice A1_2 l1_2.length c1_2)] 32 (0, 0))) ∧ Aside0 (Below w.heap.size w wc))
 case first =>
  have H := HC3.out
  clear HC3
  replace H := Option.bind_eq_some_iff.mp H
  obtain ⟨t377, A60, H⟩ := H
  replace H : (if t377 = true then ((impl_IsBoard.f k a1_0 a1_1 l1_2).bind fun t378 => (if t378 = true then (impl_SameFalls.j0 k (a0_1 != a1_1) a0_0 a0_1 l0_2 a1_0 a1_1 l1_2) else (impl_SameFalls.j0 k true a0_0 a0_1 l0_2 a1_0 a1_1 l1_2))) else (impl_SameFalls.j0 k true a0_0 a0_1 l0_2 a1_0 a1_1 l1_2)) = some (r1, r2) := H
  have A6 := Aside0.mk A60
  clear A60
  by_cases c7 : t377 = true
  ·subst c7
   have H1 : ((impl_IsBoard.f k a1_0 a1_1 l1_2).bind fun t378 => (if t378 = true then (impl_SameFalls.j0 k (a0_1 != a1_1) a0_0 a0_1 l0_2 a1_0 a1_1 l1_2) else (impl_SameFalls.j0 k true a0_0 a0_1 l0_2 a1_0 a1_1 l1_2))) = some (r1, r2) := by rw [if_pos rfl] at H; exact H
   clear H
   have H := H1
   clear H1
   replace H := Option.bind_eq_some_iff.mp H
   obtain ⟨t378, A80, H⟩ := H
   replace H : (if t378 = true then (impl_SameFalls.j0 k (a0_1 != a1_1) a0_0 a0_1 l0_2 a1_0 a1_1 l1_2) else (impl_SameFalls.j0 k true a0_0 a0_1 l0_2 a1_0 a1_1 l1_2)) = some (r1, r2) := H
   have A8 := Aside0.mk A80
   clear A80
   by_cases c9 : t378 = true
   ·subst c9
    have H1 : (impl_SameFalls.j0 k (a0_1 != a1_1) a0_0 a0_1 l0_2 a1_0 a1_1 l1_2) = some (r1, r2) := by rw [if_pos rfl] at H; exact H
    clear H
    have H := H1
    clear H1
    have H' := Aside0.mk H
    clear H
    have hnb10 := NB375_376.out
    have hnc10 := NB376_375.out
    have hcz11_0 := bc0 BK375
    have hcz11_1 := bc1 BK375
    have hcz11_2 := bc2 BK375
    have hfz11_0 := blk_frozen BK375.out 0
    have hfz11_1 := blk_frozen BK375.out 1
    have hfz11_2 := blk_frozen BK375.out 2
    go_wp2_with (first | ((with_reducible refine gate_callee (f := 59) rfl ?_); refine goesA (some 12) _ #[.agg #[.int .i64 a0_0, .int .i64 a0_1, .slice A0_2 l0_2.length c0_2]] ?_ Try.func59; (with_reducible refine (impl_IsBoard.calls k a0_0 a0_1 _ _ l0_2 true _ ?side1 ?side2 A6.out).mono ?_); (case side1 => repeat (first | exact (Kd.C_below HR0_2.out HB.out) | (with_reducible refine Kd.C_alloc ?_ _) | (with_reducible refine Kd.C_drewN ?_ _) | (with_reducible refine Kd.C_drew ?_))); (case side2 => exact HC0_2.out); rintro e w12 ⟨rfl, hb⟩; refine ⟨_, rfl, ?_⟩; replace BK375 := kB BK375 hb; replace BK376 := kB BK376 hb; replace HB := bB HB hb; (try clear hb); (try clear hb2); (try clear hk); (try clear hi); have hcz13_0 := bc0 BK376; have hcz13_1 := bc1 BK376; have hcz13_2 := bc2 BK376; have hfz13_0 := blk_frozen BK376.out 0; have hfz13_1 := blk_frozen BK376.out 1; have hfz13_2 := blk_frozen BK376.out 2) | (go_at_call 59; (with_reducible refine (impl_IsBoard.calls k a1_0 a1_1 _ _ l1_2 true _ ?side1 ?side2 A8.out).mono ?_); (case side1 => repeat (first | exact (Kd.C_below HR1_2.out HB.out) | (with_reducible refine Kd.C_alloc ?_ _) | (with_reducible refine Kd.C_drewN ?_ _) | (with_reducible refine Kd.C_drew ?_))); (case side2 => exact HC1_2.out); rintro e w14 ⟨rfl, hb⟩; replace BK375 := kB BK375 hb; replace BK376 := kB BK376 hb; replace HB := bB HB hb; (try clear hb); (try clear hb2); (try clear hk); (try clear hi); have hcz15_0 := bc0 BK375; have hcz15_1 := bc1 BK375; have hcz15_2 := bc2 BK375; have hfz15_0 := blk_frozen BK375.out 0; have hfz15_1 := blk_frozen BK375.out 1; have hfz15_2 := blk_frozen BK375.out 2; have hcz16_0 := bc0 BK376; have hcz16_1 := bc1 BK376; have hcz16_2 := bc2 BK376; have hfz16_0 := blk_frozen BK376.out 0; have hfz16_1 := blk_frozen BK376.out 1; have hfz16_2 := blk_frozen BK376.out 2))
    go_meet
    case rel => exact ⟨_, ((a0_1 != a1_1)), (by first | rfl | (simp; done) | (simp [*]; done)), H', ⟨by first | omega | exact Nat.le_refl _⟩, ⟨viaK BK375⟩, ⟨viaK BK376⟩, ⟨viaB HB⟩⟩
   ·replace c9 := Bool.eq_false_iff.mpr c9
    subst c9
    have H1 : (impl_SameFalls.j0 k true a0_0 a0_1 l0_2 a1_0 a1_1 l1_2) = some (r1, r2) := by rw [if_neg (show ¬ (false = true) by decide)] at H; exact H
    clear H
    have H := H1
    clear H1
    have H' := Aside0.mk H
    clear H
    have hnb17 := NB375_376.out
    have hnc17 := NB376_375.out
    have hcz18_0 := bc0 BK375
    have hcz18_1 := bc1 BK375
    have hcz18_2 := bc2 BK375
    have hfz18_0 := blk_frozen BK375.out 0
    have hfz18_1 := blk_frozen BK375.out 1
    have hfz18_2 := blk_frozen BK375.out 2
    go_wp2_with (first | ((with_reducible refine gate_callee (f := 59) rfl ?_); refine goesA (some 12) _ #[.agg #[.int .i64 a0_0, .int .i64 a0_1, .slice A0_2 l0_2.length c0_2]] ?_ Try.func59; (with_reducible refine (impl_IsBoard.calls k a0_0 a0_1 _ _ l0_2 true _ ?side1 ?side2 A6.out).mono ?_); (case side1 => repeat (first | exact (Kd.C_below HR0_2.out HB.out) | (with_reducible refine Kd.C_alloc ?_ _) | (with_reducible refine Kd.C_drewN ?_ _) | (with_reducible refine Kd.C_drew ?_))); (case side2 => exact HC0_2.out); rintro e w19 ⟨rfl, hb⟩; refine ⟨_, rfl, ?_⟩; replace BK375 := kB BK375 hb; replace BK376 := kB BK376 hb; replace HB := bB HB hb; (try clear hb); (try clear hb2); (try clear hk); (try clear hi); have hcz20_0 := bc0 BK376; have hcz20_1 := bc1 BK376; have hcz20_2 := bc2 BK376; have hfz20_0 := blk_frozen BK376.out 0; have hfz20_1 := blk_frozen BK376.out 1; have hfz20_2 := blk_frozen BK376.out 2) | (go_at_call 59; (with_reducible refine (impl_IsBoard.calls k a1_0 a1_1 _ _ l1_2 false _ ?side1 ?side2 A8.out).mono ?_); (case side1 => repeat (first | exact (Kd.C_below HR1_2.out HB.out) | (with_reducible refine Kd.C_alloc ?_ _) | (with_reducible refine Kd.C_drewN ?_ _) | (with_reducible refine Kd.C_drew ?_))); (case side2 => exact HC1_2.out); rintro e w21 ⟨rfl, hb⟩; replace BK375 := kB BK375 hb; replace BK376 := kB BK376 hb; replace HB := bB HB hb; (try clear hb); (try clear hb2); (try clear hk); (try clear hi)))
    go_meet
    case rel => exact ⟨_, (true), (by first | rfl | (simp; done) | (simp [*]; done)), H', ⟨by first | omega | exact Nat.le_refl _⟩, ⟨viaK BK375⟩, ⟨viaK BK376⟩, ⟨viaB HB⟩⟩
  ·replace c7 := Bool.eq_false_iff.mpr c7
   subst c7
   have H1 : (impl_SameFalls.j0 k true a0_0 a0_1 l0_2 a1_0 a1_1 l1_2) = some (r1, r2) := by rw [if_neg (show ¬ (false = true) by decide)] at H; exact H
   clear H
   have H := H1
   clear H1
   have H' := Aside0.mk H
   clear H
   have hnb22 := NB375_376.out
   have hnc22 := NB376_375.out
   have hcz23_0 := bc0 BK375
   have hcz23_1 := bc1 BK375
   have hcz23_2 := bc2 BK375
   have hfz23_0 := blk_frozen BK375.out 0
   have hfz23_1 := blk_frozen BK375.out 1
   have hfz23_2 := blk_frozen BK375.out 2
   go_wp2_with (first | ((with_reducible refine gate_callee (f := 59) rfl ?_); refine goesA (some 12) _ #[.agg #[.int .i64 a0_0, .int .i64 a0_1, .slice A0_2 l0_2.length c0_2]] ?_ Try.func59; (with_reducible refine (impl_IsBoard.calls k a0_0 a0_1 _ _ l0_2 false _ ?side1 ?side2 A6.out).mono ?_); (case side1 => repeat (first | exact (Kd.C_below HR0_2.out HB.out) | (with_reducible refine Kd.C_alloc ?_ _) | (with_reducible refine Kd.C_drewN ?_ _) | (with_reducible refine Kd.C_drew ?_))); (case side2 => exact HC0_2.out); rintro e w24 ⟨rfl, hb⟩; refine ⟨_, rfl, ?_⟩; replace BK375 := kB BK375 hb; replace BK376 := kB BK376 hb; replace HB := bB HB hb; (try clear hb); (try clear hb2); (try clear hk); (try clear hi)))
   go_meet
   case rel => exact ⟨_, (true), (by first | rfl | (simp; done) | (simp [*]; done)), H', ⟨by first | omega | exact Nat.le_refl _⟩, ⟨viaK BK375⟩, ⟨viaK BK376⟩, ⟨viaB HB⟩⟩
 case rest =>
  clear HC3
  obtain ⟨kq, x25_2, rfl, HA, HJ2, BK375, BK376, HB⟩ := hcut
  cases kq with
  | zero => exact absurd HA.out (by simp [impl_SameFalls.j0])
  | succ kj2 =>
   have H := HA.out
   clear HA
   simp only [impl_SameFalls.j0] at H
   by_cases c25 : x25_2 = true
   ·subst c25
    have H1 : (some (false, false)) = some (r1, r2) := by rw [if_pos rfl] at H; exact H
    clear H
    have H := H1
    clear H1
    simp only [Option.some.injEq, Prod.mk.injEq] at H
    obtain ⟨rfl, rfl⟩ := H
    go_wp2
    go_ret2
    exact ⟨by first | rfl | (simp [errW_none, errW_some] <;> rfl) | (simp [*, errW_none, errW_some] <;> rfl), viaB HB⟩
   ·replace c25 := Bool.eq_false_iff.mpr c25
    subst c25
    have H1 : (impl_SameFalls.l0 kj2 0 a0_0 a0_1 l0_2 a1_0 a1_1 l1_2) = some (r1, r2) := by rw [if_neg (show ¬ (false = true) by decide)] at H; exact H
    clear H
    have H := H1
    clear H1
    have H' := Aside0.mk H
    clear H
    go_wp2
    go_loopg [6] kj2 (fun kq v6 w' => ∃ (x6_2 : Int), v6 = .int .i64 x6_2 ∧ Aside0 (impl_SameFalls.l0 kq x6_2 a0_0 a0_1 l0_2 a1_0 a1_1 l1_2 = some (r1, r2)) ∧ Aside0 (kq ≤ kj2) ∧ Aside0 (w'.heap[gb375]? = some (.cells #[.int .i64 a0_0, .int .i64 a0_1, (.slice A0_2 l0_2.length c0_2)] 32 (0, 0))) ∧ Aside0 (w'.heap[gb376]? = some (.cells #[.int .i64 a1_0, .int .i64 a1_1, (.slice A1_2 l1_2.length c1_2)] 32 (0, 0))) ∧ Aside0 (Below w.heap.size w w'))
    case atStart => exact ⟨(0), (by first | rfl | (simp; done) | (simp [*]; done)), H', ⟨Nat.le_refl _⟩, ⟨viaK BK375⟩, ⟨viaK BK376⟩, ⟨viaB HB⟩⟩
    case round =>
     clear H'
     (try clear c25)
     obtain ⟨x6_2, rfl, HA, HK2, BK375, BK376, HB⟩ := hrel
     cases gk with
     | zero => exact absurd HA.out (by simp [impl_SameFalls.l0])
     | succ k2 =>
      have H := HA.out
      clear HA
      simp only [impl_SameFalls.l0] at H
      by_cases c26 : x6_2 < a0_1
      ·rw [if_pos c26] at H
       have c26b0 := decide_eq_true c26
       clear c26
       replace H := Option.bind_eq_some_iff.mp H
       obtain ⟨⟨t379, t380, t381, t382⟩, A270, H⟩ := H
       replace H : ((impl_FallOf.f k2 a1_0 a1_1 l1_2 x6_2).bind fun bt384 => (if (!(t379 == bt384.1) || (!(t380 == bt384.2.1) || (!(t381 == bt384.2.2.1)))) = true then (some (false, true)) else (impl_SameFalls.l0 k2 (wrap64 (x6_2 + 1)) a0_0 a0_1 l0_2 a1_0 a1_1 l1_2))) = some (r1, r2) := H
       have A27 := Aside0.mk A270
       clear A270
       replace H := Option.bind_eq_some_iff.mp H
       obtain ⟨⟨t384, t385, t386, t387⟩, A280, H⟩ := H
       replace H : (if (!(t379 == t384) || (!(t380 == t385) || (!(t381 == t386)))) = true then (some (false, true)) else (impl_SameFalls.l0 k2 (wrap64 (x6_2 + 1)) a0_0 a0_1 l0_2 a1_0 a1_1 l1_2)) = some (r1, r2) := H
       have A28 := Aside0.mk A280
       clear A280
       by_cases c29 : (!(t379 == t384) || (!(t380 == t385) || (!(t381 == t386)))) = true
       ·rw [if_pos c29] at H
        have c29b0 : (!(t379 == t384) || (!(t380 == t385) || (!(t381 == t386)))) = true := c29
        clear c29
        simp only [Option.some.injEq, Prod.mk.injEq] at H
        obtain ⟨rfl, rfl⟩ := H
        have hnb30 := NB375_376.out
        have hnc30 := NB376_375.out
        have hcz31_0 := bc0 BK375
        have hcz31_1 := bc1 BK375
        have hcz31_2 := bc2 BK375
        have hfz31_0 := blk_frozen BK375.out 0
        have hfz31_1 := blk_frozen BK375.out 1
        have hfz31_2 := blk_frozen BK375.out 2
        go_wp2_with (first | ((with_reducible refine gate_callee (f := 16) rfl ?_); refine goesA (some 35) _ #[.agg #[.int .i64 a0_0, .int .i64 a0_1, .slice A0_2 l0_2.length c0_2], .int .i64 x6_2] ?_ Try.func16; (with_reducible refine (impl_FallOf.calls k2 a0_0 a0_1 _ _ l0_2 x6_2 t379 t380 t381 t382 _ ?side1 ?side2 A27.out).mono ?_); (case side1 => repeat (first | exact (Kd.C_below HR0_2.out HB.out) | (with_reducible refine Kd.C_alloc ?_ _) | (with_reducible refine Kd.C_drewN ?_ _) | (with_reducible refine Kd.C_drew ?_))); (case side2 => exact HC0_2.out); rintro e w32 ⟨rfl, hb⟩; refine ⟨_, rfl, ?_⟩; replace BK375 := kB BK375 hb; replace BK376 := kB BK376 hb; replace HB := bB HB hb; (try clear hb); (try clear hb2); (try clear hk); (try clear hi)) | ((with_reducible refine gate_dst (N := 7) rfl ?_); refine box_ev (N := 7) (cs := #[.int .i64 0, .int .i64 0, .int .i64 0]) (t := 27) ?_; intro gb383 hg w33 hbox hb; have BK383 := Aside0.mk (hbox); have GW383 := gW (w := w) HB hg; have GE383 := gW (w := w) HB hg; have NB375_383 := neL BK375 hg; have NB383_375 := neG BK375 hg; have NB376_383 := neL BK376 hg; have NB383_376 := neG BK376 hg; replace BK375 := kB BK375 hb; replace BK376 := kB BK376 hb; replace HB := bB HB hb; clear hb hbox hg; have hnb34 := NB383_375.out; have hnc34 := NB375_383.out; have hnb35 := NB383_376.out; have hnc35 := NB376_383.out; have hcz36_0 := bc0 BK383; have hcz36_1 := bc1 BK383; have hcz36_2 := bc2 BK383; have hfz36_0 := blk_frozen BK383.out 0; have hfz36_1 := blk_frozen BK383.out 1; have hfz36_2 := blk_frozen BK383.out 2; have hcz37_0 := bc0 BK376; have hcz37_1 := bc1 BK376; have hcz37_2 := bc2 BK376; have hfz37_0 := blk_frozen BK376.out 0; have hfz37_1 := blk_frozen BK376.out 1; have hfz37_2 := blk_frozen BK376.out 2) | ((with_reducible refine gate_callee (f := 16) rfl ?_); refine goesA (some 41) _ #[.agg #[.int .i64 a1_0, .int .i64 a1_1, .slice A1_2 l1_2.length c1_2], .int .i64 x6_2] ?_ Try.func16; (with_reducible refine (impl_FallOf.calls k2 a1_0 a1_1 _ _ l1_2 x6_2 t384 t385 t386 t387 _ ?side1 ?side2 A28.out).mono ?_); (case side1 => exact Kd.C_below HR1_2.out (viaB HB)); (case side2 => exact HC1_2.out); rintro e w38 ⟨rfl, hb⟩; refine ⟨_, rfl, ?_⟩; replace BK375 := Aside0.mk (blk_below (g := gb375) (o := .cells #[.int .i64 a0_0, .int .i64 a0_1, .slice A0_2 l0_2.length c0_2] 32 (0, 0)) (by (with_reducible repeat (first | refine blk_drewN ?_ _ | refine blk_drew ?_ | refine blk_alloc ?_ _)); refine blk_far ?_ NB375_383.out _; (with_reducible repeat (first | refine blk_drewN ?_ _ | refine blk_drew ?_ | refine blk_alloc ?_ _)); refine blk_far ?_ NB375_383.out _; (with_reducible repeat (first | refine blk_drewN ?_ _ | refine blk_drew ?_ | refine blk_alloc ?_ _)); refine blk_far ?_ NB375_383.out _; (with_reducible repeat (first | refine blk_drewN ?_ _ | refine blk_drew ?_ | refine blk_alloc ?_ _)); exact BK375.out) hb); replace BK376 := Aside0.mk (blk_below (g := gb376) (o := .cells #[.int .i64 a1_0, .int .i64 a1_1, .slice A1_2 l1_2.length c1_2] 32 (0, 0)) (by (with_reducible repeat (first | refine blk_drewN ?_ _ | refine blk_drew ?_ | refine blk_alloc ?_ _)); refine blk_far ?_ NB376_383.out _; (with_reducible repeat (first | refine blk_drewN ?_ _ | refine blk_drew ?_ | refine blk_alloc ?_ _)); refine blk_far ?_ NB376_383.out _; (with_reducible repeat (first | refine blk_drewN ?_ _ | refine blk_drew ?_ | refine blk_alloc ?_ _)); refine blk_far ?_ NB376_383.out _; (with_reducible repeat (first | refine blk_drewN ?_ _ | refine blk_drew ?_ | refine blk_alloc ?_ _)); exact BK376.out) hb); replace BK383 := Aside0.mk (blk_below (g := gb383) (o := .cells #[.int .i64 t379, .int .i64 t380, .int .i64 t381] 27 (0, 0)) (by (with_reducible repeat (first | refine blk_drewN ?_ _ | refine blk_drew ?_ | refine blk_alloc ?_ _)); refine blk_put (cs := #[.int .i64 t379, .int .i64 t380, .int .i64 0]) ?_ 2 _ rfl; (with_reducible repeat (first | refine blk_drewN ?_ _ | refine blk_drew ?_ | refine blk_alloc ?_ _)); refine blk_put (cs := #[.int .i64 t379, .int .i64 0, .int .i64 0]) ?_ 1 _ rfl; (with_reducible repeat (first | refine blk_drewN ?_ _ | refine blk_drew ?_ | refine blk_alloc ?_ _)); refine blk_put (cs := #[.int .i64 0, .int .i64 0, .int .i64 0]) ?_ 0 _ rfl; (with_reducible repeat (first | refine blk_drewN ?_ _ | refine blk_drew ?_ | refine blk_alloc ?_ _)); exact BK383.out) hb); replace HB := bB HB hb; (try clear hb); (try clear hb2); (try clear hk); (try clear hi)) | ((with_reducible refine gate_dst (N := 9) rfl ?_); refine box_ev (N := 9) (cs := #[.int .i64 0, .int .i64 0, .int .i64 0]) (t := 27) ?_; intro gb388 hg w39 hbox hb; have BK388 := Aside0.mk (hbox); have GW388 := gW (w := w) HB hg; have GE388 := gW (w := w) HB hg; have NB375_388 := neL BK375 hg; have NB388_375 := neG BK375 hg; have NB376_388 := neL BK376 hg; have NB388_376 := neG BK376 hg; have NB383_388 := neL BK383 hg; have NB388_383 := neG BK383 hg; replace BK375 := kB BK375 hb; replace BK376 := kB BK376 hb; replace BK383 := kB BK383 hb; replace HB := bB HB hb; clear hb hbox hg; have hnb40 := NB388_375.out; have hnc40 := NB375_388.out; have hnb41 := NB388_376.out; have hnc41 := NB376_388.out; have hnb42 := NB388_383.out; have hnc42 := NB383_388.out; have hcz43_0 := bc0 BK388; have hcz43_1 := bc1 BK388; have hcz43_2 := bc2 BK388; have hfz43_0 := blk_frozen BK388.out 0; have hfz43_1 := blk_frozen BK388.out 1; have hfz43_2 := blk_frozen BK388.out 2; have hcz44_0 := bc0 BK383; have hcz44_1 := bc1 BK383; have hcz44_2 := bc2 BK383; have hfz44_0 := blk_frozen BK383.out 0; have hfz44_1 := blk_frozen BK383.out 1; have hfz44_2 := blk_frozen BK383.out 2))
        go_ret2
        exact ⟨by first | rfl | (simp [errW_none, errW_some] <;> rfl) | (simp [*, errW_none, errW_some] <;> rfl), viaB HB⟩
       ·rw [if_neg c29] at H
        have c29b0 : (!(t379 == t384) || (!(t380 == t385) || (!(t381 == t386)))) = false := by simpa using c29
        clear c29
        have H' := Aside0.mk H
        clear H
        have hnb45 := NB375_376.out
        have hnc45 := NB376_375.out
        have hcz46_0 := bc0 BK375
        have hcz46_1 := bc1 BK375
        have hcz46_2 := bc2 BK375
        have hfz46_0 := blk_frozen BK375.out 0
        have hfz46_1 := blk_frozen BK375.out 1
        have hfz46_2 := blk_frozen BK375.out 2
        go_wp2_with (first | ((with_reducible refine gate_callee (f := 16) rfl ?_); refine goesA (some 35) _ #[.agg #[.int .i64 a0_0, .int .i64 a0_1, .slice A0_2 l0_2.length c0_2], .int .i64 x6_2] ?_ Try.func16; (with_reducible refine (impl_FallOf.calls k2 a0_0 a0_1 _ _ l0_2 x6_2 t379 t380 t381 t382 _ ?side1 ?side2 A27.out).mono ?_); (case side1 => repeat (first | exact (Kd.C_below HR0_2.out HB.out) | (with_reducible refine Kd.C_alloc ?_ _) | (with_reducible refine Kd.C_drewN ?_ _) | (with_reducible refine Kd.C_drew ?_))); (case side2 => exact HC0_2.out); rintro e w47 ⟨rfl, hb⟩; refine ⟨_, rfl, ?_⟩; replace BK375 := kB BK375 hb; replace BK376 := kB BK376 hb; replace HB := bB HB hb; (try clear hb); (try clear hb2); (try clear hk); (try clear hi)) | ((with_reducible refine gate_dst (N := 7) rfl ?_); refine box_ev (N := 7) (cs := #[.int .i64 0, .int .i64 0, .int .i64 0]) (t := 27) ?_; intro gb383 hg w48 hbox hb; have BK383 := Aside0.mk (hbox); have GW383 := gW (w := w) HB hg; have GE383 := gW (w := w) HB hg; have NB375_383 := neL BK375 hg; have NB383_375 := neG BK375 hg; have NB376_383 := neL BK376 hg; have NB383_376 := neG BK376 hg; replace BK375 := kB BK375 hb; replace BK376 := kB BK376 hb; replace HB := bB HB hb; clear hb hbox hg; have hnb49 := NB383_375.out; have hnc49 := NB375_383.out; have hnb50 := NB383_376.out; have hnc50 := NB376_383.out; have hcz51_0 := bc0 BK383; have hcz51_1 := bc1 BK383; have hcz51_2 := bc2 BK383; have hfz51_0 := blk_frozen BK383.out 0; have hfz51_1 := blk_frozen BK383.out 1; have hfz51_2 := blk_frozen BK383.out 2; have hcz52_0 := bc0 BK376; have hcz52_1 := bc1 BK376; have hcz52_2 := bc2 BK376; have hfz52_0 := blk_frozen BK376.out 0; have hfz52_1 := blk_frozen BK376.out 1; have hfz52_2 := blk_frozen BK376.out 2) | ((with_reducible refine gate_callee (f := 16) rfl ?_); refine goesA (some 41) _ #[.agg #[.int .i64 a1_0, .int .i64 a1_1, .slice A1_2 l1_2.length c1_2], .int .i64 x6_2] ?_ Try.func16; (with_reducible refine (impl_FallOf.calls k2 a1_0 a1_1 _ _ l1_2 x6_2 t384 t385 t386 t387 _ ?side1 ?side2 A28.out).mono ?_); (case side1 => exact Kd.C_below HR1_2.out (viaB HB)); (case side2 => exact HC1_2.out); rintro e w53 ⟨rfl, hb⟩; refine ⟨_, rfl, ?_⟩; replace BK375 := Aside0.mk (blk_below (g := gb375) (o := .cells #[.int .i64 a0_0, .int .i64 a0_1, .slice A0_2 l0_2.length c0_2] 32 (0, 0)) (by (with_reducible repeat (first | refine blk_drewN ?_ _ | refine blk_drew ?_ | refine blk_alloc ?_ _)); refine blk_far ?_ NB375_383.out _; (with_reducible repeat (first | refine blk_drewN ?_ _ | refine blk_drew ?_ | refine blk_alloc ?_ _)); refine blk_far ?_ NB375_383.out _; (with_reducible repeat (first | refine blk_drewN ?_ _ | refine blk_drew ?_ | refine blk_alloc ?_ _)); refine blk_far ?_ NB375_383.out _; (with_reducible repeat (first | refine blk_drewN ?_ _ | refine blk_drew ?_ | refine blk_alloc ?_ _)); exact BK375.out) hb); replace BK376 := Aside0.mk (blk_below (g := gb376) (o := .cells #[.int .i64 a1_0, .int .i64 a1_1, .slice A1_2 l1_2.length c1_2] 32 (0, 0)) (by (with_reducible repeat (first | refine blk_drewN ?_ _ | refine blk_drew ?_ | refine blk_alloc ?_ _)); refine blk_far ?_ NB376_383.out _; (with_reducible repeat (first | refine blk_drewN ?_ _ | refine blk_drew ?_ | refine blk_alloc ?_ _)); refine blk_far ?_ NB376_383.out _; (with_reducible repeat (first | refine blk_drewN ?_ _ | refine blk_drew ?_ | refine blk_alloc ?_ _)); refine blk_far ?_ NB376_383.out _; (with_reducible repeat (first | refine blk_drewN ?_ _ | refine blk_drew ?_ | refine blk_alloc ?_ _)); exact BK376.out) hb); replace BK383 := Aside0.mk (blk_below (g := gb383) (o := .cells #[.int .i64 t379, .int .i64 t380, .int .i64 t381] 27 (0, 0)) (by (with_reducible repeat (first | refine blk_drewN ?_ _ | refine blk_drew ?_ | refine blk_alloc ?_ _)); refine blk_put (cs := #[.int .i64 t379, .int .i64 t380, .int .i64 0]) ?_ 2 _ rfl; (with_reducible repeat (first | refine blk_drewN ?_ _ | refine blk_drew ?_ | refine blk_alloc ?_ _)); refine blk_put (cs := #[.int .i64 t379, .int .i64 0, .int .i64 0]) ?_ 1 _ rfl; (with_reducible repeat (first | refine blk_drewN ?_ _ | refine blk_drew ?_ | refine blk_alloc ?_ _)); refine blk_put (cs := #[.int .i64 0, .int .i64 0, .int .i64 0]) ?_ 0 _ rfl; (with_reducible repeat (first | refine blk_drewN ?_ _ | refine blk_drew ?_ | refine blk_alloc ?_ _)); exact BK383.out) hb); replace HB := bB HB hb; (try clear hb); (try clear hb2); (try clear hk); (try clear hi)) | ((with_reducible refine gate_dst (N := 9) rfl ?_); refine box_ev (N := 9) (cs := #[.int .i64 0, .int .i64 0, .int .i64 0]) (t := 27) ?_; intro gb388 hg w54 hbox hb; have BK388 := Aside0.mk (hbox); have GW388 := gW (w := w) HB hg; have GE388 := gW (w := w) HB hg; have NB375_388 := neL BK375 hg; have NB388_375 := neG BK375 hg; have NB376_388 := neL BK376 hg; have NB388_376 := neG BK376 hg; have NB383_388 := neL BK383 hg; have NB388_383 := neG BK383 hg; replace BK375 := kB BK375 hb; replace BK376 := kB BK376 hb; replace BK383 := kB BK383 hb; replace HB := bB HB hb; clear hb hbox hg; have hnb55 := NB388_375.out; have hnc55 := NB375_388.out; have hnb56 := NB388_376.out; have hnc56 := NB376_388.out; have hnb57 := NB388_383.out; have hnc57 := NB383_388.out; have hcz58_0 := bc0 BK388; have hcz58_1 := bc1 BK388; have hcz58_2 := bc2 BK388; have hfz58_0 := blk_frozen BK388.out 0; have hfz58_1 := blk_frozen BK388.out 1; have hfz58_2 := blk_frozen BK388.out 2; have hcz59_0 := bc0 BK383; have hcz59_1 := bc1 BK383; have hcz59_2 := bc2 BK383; have hfz59_0 := blk_frozen BK383.out 0; have hfz59_1 := blk_frozen BK383.out 1; have hfz59_2 := blk_frozen BK383.out 2))
        go_roundg k2
        case measure => have := HJ2.out; have := HK2.out; omega
        case rel => exact ⟨(wrap64 (x6_2 + 1)), (by first | rfl | (simp; done) | (simp [*]; done)), H', ⟨by have := HJ2.out; have := HK2.out; omega⟩, ⟨by (with_reducible repeat (first | refine blk_drewN ?_ _ | refine blk_drew ?_ | refine blk_alloc ?_ _)); refine blk_far ?_ NB375_388.out _; (with_reducible repeat (first | refine blk_drewN ?_ _ | refine blk_drew ?_ | refine blk_alloc ?_ _)); refine blk_far ?_ NB375_388.out _; (with_reducible repeat (first | refine blk_drewN ?_ _ | refine blk_drew ?_ | refine blk_alloc ?_ _)); refine blk_far ?_ NB375_388.out _; (with_reducible repeat (first | refine blk_drewN ?_ _ | refine blk_drew ?_ | refine blk_alloc ?_ _)); exact BK375.out⟩, ⟨by (with_reducible repeat (first | refine blk_drewN ?_ _ | refine blk_drew ?_ | refine blk_alloc ?_ _)); refine blk_far ?_ NB376_388.out _; (with_reducible repeat (first | refine blk_drewN ?_ _ | refine blk_drew ?_ | refine blk_alloc ?_ _)); refine blk_far ?_ NB376_388.out _; (with_reducible repeat (first | refine blk_drewN ?_ _ | refine blk_drew ?_ | refine blk_alloc ?_ _)); refine blk_far ?_ NB376_388.out _; (with_reducible repeat (first | refine blk_drewN ?_ _ | refine blk_drew ?_ | refine blk_alloc ?_ _)); exact BK376.out⟩, ⟨viaB HB⟩⟩
      ·rw [if_neg c26] at H
       have c26b0 := decide_eq_false c26
       clear c26
       simp only [Option.some.injEq, Prod.mk.injEq] at H
       obtain ⟨rfl, rfl⟩ := H
       have hnb60 := NB375_376.out
       have hnc60 := NB376_375.out
       have hcz61_0 := bc0 BK375
       have hcz61_1 := bc1 BK375
       have hcz61_2 := bc2 BK375
       have hfz61_0 := blk_frozen BK375.out 0
       have hfz61_1 := blk_frozen BK375.out 1
       have hfz61_2 := blk_frozen BK375.out 2
       go_wp2
       go_ret2
       exact ⟨by first | rfl | (simp [errW_none, errW_some] <;> rfl) | (simp [*, errW_none, errW_some] <;> rfl), viaB HB⟩

end Go.Proofs.Ytoklfgjemfojgaa.PAll
