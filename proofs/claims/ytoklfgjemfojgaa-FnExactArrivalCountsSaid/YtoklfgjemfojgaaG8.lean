/- This text began as one that print.sh wrote for this seat (of the functions named below); it is this session's own: turned where Lean did not take the printed proof, where it was too long for a claim, or only in what it imports. -/
import Derived.Test.YtoklfgjemfojgaaG0
import Derived.Test.YtoklfgjemfojgaaG6
import Derived.Test.YtoklfgjemfojgaaG7
namespace Go.Proofs.Ytoklfgjemfojgaa.PAll
open Go.RowKit Go.Proofs.YtoklfgjemfojgaaW.PrintWords Go.Proofs.YtoklfgjemfojgaaW.PrintLast Go.Proofs.YtoklfgjemfojgaaW.PrintMore
attribute [local go_sem] max2_int min2_int max_two min_two max_three min_three max_four min_four   -- for this text's walks alone
set_option linter.unusedVariables false
set_option linter.unusedSimpArgs false

/-! ### spec_flGo: function 63 -/
def spec_flGo.l0 : Nat → List Int → Int → List (List Int) → Int → Int → Int → Int → List (S89) → Int → Int → List (S89) → Option (Int × Int × Int × Int × Int × (List (S89)) × (List (List Int)))
 | 0, _, _, _, _, _, _, _, _, _, _, _ => none
 | k + 1, x1, x2, x10, x11, x12, x197000, x197001, x197002, x205000, x205001, x205002 => if x12 < x197000 then (if x10.length < 5864062014805 then ((some (x10 ++ [(([x12, x2] : List Int))] : List (List Int))).bind fun y208 => ((spec_boAt.f x205000 x205001 x205002 x12 x2).bind fun bt211 => (if bt211.1 = 5 then (some (2, x12, x2, x205000, x205001, x205002, y208)) else ((spec_paGoes.f k bt211.1 bt211.2 x11).bind fun t214 => ((spec_flPass.f k x205000 x205001 x205002 x1 (wrap64 ((wrap64 (x12 * x197001)) + x2))).bind fun t215 => ((spec_l1In.f (wrap64 (x2 + t214)) 0 (wrap64 (x197001 - 1))).bind fun t216 => (if t216 = true then (spec_flGo.l0 k x1 (wrap64 (x2 + t214)) y208 (wrap64 (-t214)) (wrap64 (x12 + 1)) x197000 x197001 x197002 x205000 x205001 t215) else (some (3, x12, wrap64 (x2 + t214), x205000, x205001, t215, y208))))))))) else (none)) else (some (1, x197000, x2, x205000, x205001, x205002, x10))
def spec_flGo.f (k : Nat) (a0_0 : Int) (a0_1 : Int) (l0_2 : List (S89)) (l1 : List Int) (a2 : Int) : Option (Int × Int × Int × Int × Int × (List (S89)) × (List (List Int))) := (spec_boOwn.f a0_0 a0_1 l0_2).bind fun bt199 => (spec_flGo.l0 k l1 a2 ([] : List (List Int)) 0 0 a0_0 a0_1 l0_2 bt199.1 bt199.2.1 bt199.2.2)
theorem spec_flGo.mono_l : ∀ k, (∀ y0 y1 y2 y3 y4 y5 y6 y7 y8 y9 y10, LeO (spec_flGo.l0 k y0 y1 y2 y3 y4 y5 y6 y7 y8 y9 y10) (spec_flGo.l0 (k + 1) y0 y1 y2 y3 y4 y5 y6 y7 y8 y9 y10))
 | 0 => fun _ _ _ _ _ _ _ _ _ _ _ r h => by simp [spec_flGo.l0] at h
 | k + 1 => by
  have ih0 := spec_flGo.mono_l k
  ·intro y0 y1 y2 y3 y4 y5 y6 y7 y8 y9 y10
   unfold spec_flGo.l0
   repeat' first | (with_reducible first | exact ih0 _ _ _ _ _ _ _ _ _ _ _ | exact spec_flPass.mono _ _ _ _ _ _ | exact spec_paGoes.mono _ _ _ _ | exact LeO.refl _ | exact LeO.none _ | refine LeO.ite ?_ ?_ | refine LeO.bind ?_ (fun _ => ?_)) | exact ih0 _ _ _ _ _ _ _ _ _ _ _ | exact spec_flPass.mono _ _ _ _ _ _ | exact spec_paGoes.mono _ _ _ _ | exact LeO.none _ | refine LeO.ite ?_ ?_ | refine LeO.bind ?_ (fun _ => ?_)
theorem spec_flGo.mono : ∀ a0 a1 a2 a3 a4 k, LeO (spec_flGo.f k a0 a1 a2 a3 a4) (spec_flGo.f (k + 1) a0 a1 a2 a3 a4) := by
 intro a0 a1 a2 a3 a4 k
 have ih0 := spec_flGo.mono_l k
 unfold spec_flGo.f
 repeat' first | (with_reducible first | exact ih0 _ _ _ _ _ _ _ _ _ _ _ | exact spec_flPass.mono _ _ _ _ _ _ | exact spec_paGoes.mono _ _ _ _ | exact LeO.refl _ | exact LeO.none _ | refine LeO.ite ?_ ?_ | refine LeO.bind ?_ (fun _ => ?_)) | exact ih0 _ _ _ _ _ _ _ _ _ _ _ | exact spec_flPass.mono _ _ _ _ _ _ | exact spec_paGoes.mono _ _ _ _ | exact LeO.none _ | refine LeO.ite ?_ ?_ | refine LeO.bind ?_ (fun _ => ?_)
def spec_flGo.T10 : Bool × List (List Nat × List Nat) := (true, [([], []), ([], []), ([0, 1], [0, 1]), ([], []), ([], []), ([2, 0, 1, 2], [2]), ([3, 5, 0, 1, 2, 3, 5], [3]), ([4, 6, 0, 1, 2, 3, 4, 5, 6], [4])])
def spec_flGo.B10 : List Nat := [0, 0, 3, 0, 0, 7, 47, 127]
theorem spec_flGo.tab10 : rtab .any (opsOf Try.f63 10) = spec_flGo.T10 := by kernel_rfl
theorem spec_flGo.bits10 : waitsOk spec_flGo.T10.2 spec_flGo.B10 = true := by kernel_rfl
def spec_flGo.T16 : Bool × List (List Nat × List Nat) := (true, [([], []), ([], []), ([0, 1], [0, 1]), ([], []), ([], []), ([2, 0, 1, 2], [2]), ([3, 5, 0, 1, 2, 3, 5], [3]), ([4, 6, 0, 1, 2, 3, 4, 5, 6], [4])])
def spec_flGo.B16 : List Nat := [0, 0, 3, 0, 0, 7, 47, 127]
theorem spec_flGo.tab16 : rtab .any (opsOf Try.f63 16) = spec_flGo.T16 := by kernel_rfl
theorem spec_flGo.bits16 : waitsOk spec_flGo.T16.2 spec_flGo.B16 = true := by kernel_rfl
def spec_flGo.T17 : Bool × List (List Nat × List Nat) := (true, [([], []), ([0], [0]), ([], []), ([1, 2], [1, 2]), ([], []), ([], []), ([3, 0, 1, 2, 3], [3]), ([4, 6, 0, 1, 2, 3, 4, 6], [4]), ([5, 7, 0, 1, 2, 3, 4, 5, 6, 7], [5])])
def spec_flGo.B17 : List Nat := [0, 1, 0, 7, 0, 0, 15, 95, 255]
theorem spec_flGo.tab17 : rtab .any (opsOf Try.f63 17) = spec_flGo.T17 := by kernel_rfl
theorem spec_flGo.bits17 : waitsOk spec_flGo.T17.2 spec_flGo.B17 = true := by kernel_rfl
set_option maxHeartbeats 8000000 in
set_option maxRecDepth 100000 in
theorem spec_flGo.calls (k : Nat) (a0_0 : Int) (a0_1 : Int) (A0_2 : Option Addr) (c0_2 : Nat) (l0_2 : List (S89)) (A1 : Option Addr) (c1 : Nat) (l1 : List Int) (a2 : Int) (r1 : Int) (r2 : Int) (r3 : Int) (r4 : Int) (r5 : Int) (r6 : List (S89)) (r7 : List (List Int)) (w : World) (hr0_2 : Kd.C k89 w A0_2 l0_2.length l0_2) (hc0_2 : l0_2.length ≤ c0_2) (hr1 : Kd.C (Kd.int .i64) w A1 l1.length l1) (hc1 : l1.length ≤ c1) (h : spec_flGo.f k a0_0 a0_1 l0_2 l1 a2 = some (r1, r2, r3, r4, r5, r6, r7)) :
  Calls Try.prog 63 #[.agg #[.int .i64 a0_0, .int .i64 a0_1, .slice A0_2 l0_2.length c0_2], .slice A1 l1.length c1, .int .i64 a2] w fun e w' => ∃ v5_ v6_ : Value, e = .returned (.tuple #[.agg #[.int .i64 r1, .int .i64 r2, .int .i64 r3], .agg #[.int .i64 r4, .int .i64 r5, v5_], v6_]) ∧ Kd.R k89 89 w' w.heap.size (fun _ => True) v5_ r6 ∧ Kd.S (Kd.slice 3 (Kd.int .i64)) 43 w' w.heap.size (fun _ => True) v6_ r7 ∧ Below w.heap.size w w' := by
 have hu32 := Try.underlying32
 have hu27 := Try.underlying27
 have hu89 := Try.underlying89
 have HR0_2 := Aside0.mk hr0_2
 have HC0_2 := Aside0.mk hc0_2
 clear hr0_2 hc0_2
 have HR1 := Aside0.mk hr1
 have HC1 := Aside0.mk hc1
 clear hr1 hc1
 have HB := Aside0.mk (Below.refl w.heap.size w)
 have H : ((spec_boOwn.f a0_0 a0_1 l0_2).bind fun bt199 => (spec_flGo.l0 k l1 a2 ([] : List (List Int)) 0 0 a0_0 a0_1 l0_2 bt199.1 bt199.2.1 bt199.2.2)) = some (r1, r2, r3, r4, r5, r6, r7) := h
 clear h
 replace H := Option.bind_eq_some_iff.mp H
 obtain ⟨⟨t199, t200, t201⟩, A40, H⟩ := H
 replace H : (spec_flGo.l0 k l1 a2 ([] : List (List Int)) 0 0 a0_0 a0_1 l0_2 t199 t200 t201) = some (r1, r2, r3, r4, r5, r6, r7) := H
 have A4 := Aside0.mk A40
 clear A40
 have H' := Aside0.mk H
 clear H
 go_enter Try.func63, Try.ntmps63
 go_wp2_with (first | ((with_reducible refine gate_dst (N := 3) rfl ?_); refine box_ev (N := 3) (cs := #[.int .i64 a0_0, .int .i64 a0_1, .slice A0_2 l0_2.length c0_2]) (t := 32) ?_; intro gb196 hg w5 hbox hb; have BK196 := Aside0.mk (hbox); have GW196 := gW (w := w) HB hg; have GE196 := gW (w := w) HB hg; replace HB := bB HB hb; clear hb hbox hg) | ((with_reducible refine gate_dst (N := 6) rfl ?_); refine box_ev (N := 6) (cs := #[.int .i64 0, .int .i64 0, .int .i64 0]) (t := 27) ?_; intro gb197 hg w6 hbox hb; have BK197 := Aside0.mk (hbox); have GW197 := gW (w := w) HB hg; have GE197 := gW (w := w) HB hg; have NB196_197 := neL BK196 hg; have NB197_196 := neG BK196 hg; replace BK196 := kB BK196 hb; replace HB := bB HB hb; clear hb hbox hg) | ((with_reducible refine gate_dst (N := 7) rfl ?_); refine box_ev (N := 7) (cs := #[.int .i64 0, .int .i64 0, .slice none 0 0]) (t := 32) ?_; intro gb198 hg w7 hbox hb; have BK198 := Aside0.mk (hbox); have GW198 := gW (w := w) HB hg; have GE198 := gW (w := w) HB hg; have NB196_198 := neL BK196 hg; have NB198_196 := neG BK196 hg; have NB197_198 := neL BK197 hg; have NB198_197 := neG BK197 hg; replace BK196 := kB BK196 hb; replace BK197 := kB BK197 hb; replace HB := bB HB hb; clear hb hbox hg; have hnb8 := NB196_197.out; have hnc8 := NB197_196.out; have hnb9 := NB196_198.out; have hnc9 := NB198_196.out; have hcz10_0 := bc0 BK196; have hcz10_1 := bc1 BK196; have hcz10_2 := bc2 BK196; have hfz10_0 := blk_frozen BK196.out 0; have hfz10_1 := blk_frozen BK196.out 1; have hfz10_2 := blk_frozen BK196.out 2) | ((with_reducible refine gate_callee (f := 82) rfl ?_); refine goesA (some 16) _ #[.agg #[.int .i64 a0_0, .int .i64 a0_1, .slice A0_2 l0_2.length c0_2]] ?_ Try.func82; (with_reducible refine (spec_boOwn.calls a0_0 a0_1 _ _ l0_2 t199 t200 t201 _ ?side1 ?side2 A4.out).mono ?_); (case side1 => repeat (first | exact (Kd.C_below HR0_2.out HB.out) | (with_reducible refine Kd.C_alloc ?_ _) | (with_reducible refine Kd.C_drewN ?_ _) | (with_reducible refine Kd.C_drew ?_))); (case side2 => exact HC0_2.out); rintro e w11 ⟨v202, rfl, ho0, hb⟩; refine ⟨_, rfl, ?_⟩; have HO203 := Aside0.mk (Kd.R_lower ho0 (below_size (viaB HB))); replace BK196 := kB BK196 hb; replace BK197 := kB BK197 hb; replace BK198 := kB BK198 hb; replace HB := bB HB hb; (try clear hb); (try clear hb2); (try clear hk); (try clear hi); (try clear ho0)) | ((with_reducible refine gate_dst (N := 9) rfl ?_); refine box_ev (N := 9) (cs := #[.int .i64 0, .int .i64 0, .slice none 0 0]) (t := 32) ?_; intro gb204 hg w12 hbox hb; have BK204 := Aside0.mk (hbox); have GW204 := gW (w := w) HB hg; have GE204 := gW (w := w) HB hg; have NB196_204 := neL BK196 hg; have NB204_196 := neG BK196 hg; have NB197_204 := neL BK197 hg; have NB204_197 := neG BK197 hg; have NB198_204 := neL BK198 hg; have NB204_198 := neG BK198 hg; replace HO203 := Aside0.mk (Kd.R_below (viaR HO203) hb); replace BK196 := kB BK196 hb; replace BK197 := kB BK197 hb; replace BK198 := kB BK198 hb; replace HB := bB HB hb; clear hb hbox hg; have hnb13 := NB204_196.out; have hnc13 := NB196_204.out; have hnb14 := NB204_197.out; have hnc14 := NB197_204.out; have hnb15 := NB204_198.out; have hnc15 := NB198_204.out; have hcz16_0 := bc0 BK204; have hcz16_1 := bc1 BK204; have hcz16_2 := bc2 BK204; have hfz16_0 := blk_frozen BK204.out 0; have hfz16_1 := blk_frozen BK204.out 1; have hfz16_2 := blk_frozen BK204.out 2; obtain ⟨Ao17, co17, eo17⟩ := Kd.R_slice HO203.out; subst eo17))
 go_loopg [2, 10, 11, 12] k (fun kq v2 v10 v11 v12 w' => ∃ (x2_1 : Int) (x10_1 : List (List Int)) (x11_1 : Int) (x12_1 : Int) (x198000_1 : Int) (x198001_1 : Int) (x198002_1 : Int) (x199000_1 : Int) (x199001_1 : Int) (x205002_1 : List (S89)) (u205002 : Value), v2 = .int .i64 x2_1 ∧ v11 = .int .i64 x11_1 ∧ v12 = .int .i64 x12_1 ∧ Aside0 (spec_flGo.l0 kq l1 x2_1 x10_1 x11_1 x12_1 a0_0 a0_1 l0_2 t199 t200 x205002_1 = some (r1, r2, r3, r4, r5, r6, r7)) ∧ Aside0 (kq ≤ k) ∧ Aside0 (Kd.S (Kd.slice 3 (Kd.int .i64)) 43 w' w.heap.size (fun _ => True) v10 x10_1) ∧ Aside0 (Kd.R k89 89 w' w.heap.size (fun _ => True) u205002 x205002_1) ∧ Aside0 (w'.heap[gb196]? = some (.cells #[.int .i64 a0_0, .int .i64 a0_1, (.slice A0_2 l0_2.length c0_2)] 32 (0, 0))) ∧ Aside0 (w'.heap[gb197]? = some (.cells #[.int .i64 x198000_1, .int .i64 x198001_1, .int .i64 x198002_1] 27 (0, 0))) ∧ Aside0 (w'.heap[gb198]? = some (.cells #[.int .i64 x199000_1, .int .i64 x199001_1, (.slice none 0 0)] 32 (0, 0))) ∧ Aside0 (w'.heap[gb204]? = some (.cells #[.int .i64 t199, .int .i64 t200, u205002] 32 (0, 0))) ∧ Aside0 (Below w.heap.size w w'))
 case atStart => exact ⟨(a2), (([] : List (List Int))), (0), (0), (0), (0), (0), (0), (0), (t201), (.slice Ao17 t201.length co17), (by first | rfl | (simp; done) | (simp [*]; done)), (by first | rfl | (simp; done) | (simp [*]; done)), (by first | rfl | (simp; done) | (simp [*]; done)), H', ⟨Nat.le_refl _⟩, ⟨by first | exact Kd.S_nil _ _ _ _ _ | exact Kd.N_nil _ _ _ _ _ | exact Kd.V_nil _ _ _ _ _ | exact Kd.Q_nil _ _ _ _ _ | exact Kd.R_nil _ _ _ _ _⟩, ⟨by (with_reducible repeat (first | apply Kd.R_alloc | apply Kd.R_drewN | apply Kd.R_drew)); exact Kd.R_mono (Kd.R_far (p := ⟨gb204, 2, none⟩) (Kd.R_far (p := ⟨gb204, 1, none⟩) (Kd.R_far (p := ⟨gb204, 0, none⟩) (Kd.R_types HO203.out BK204.out (by decide)) (fun _ hk => hk.2) (.int .i64 t199)) (fun _ hk => hk.2) (.int .i64 t200)) (fun _ hk => hk.2) (.slice Ao17 t201.length co17)) (fun _ hk => trivial)⟩, ⟨by (with_reducible repeat (first | refine blk_drewN ?_ _ | refine blk_drew ?_ | refine blk_alloc ?_ _)); refine blk_far ?_ NB196_204.out _; (with_reducible repeat (first | refine blk_drewN ?_ _ | refine blk_drew ?_ | refine blk_alloc ?_ _)); refine blk_far ?_ NB196_204.out _; (with_reducible repeat (first | refine blk_drewN ?_ _ | refine blk_drew ?_ | refine blk_alloc ?_ _)); refine blk_far ?_ NB196_204.out _; (with_reducible repeat (first | refine blk_drewN ?_ _ | refine blk_drew ?_ | refine blk_alloc ?_ _)); exact BK196.out⟩, ⟨by (with_reducible repeat (first | refine blk_drewN ?_ _ | refine blk_drew ?_ | refine blk_alloc ?_ _)); refine blk_far ?_ NB197_204.out _; (with_reducible repeat (first | refine blk_drewN ?_ _ | refine blk_drew ?_ | refine blk_alloc ?_ _)); refine blk_far ?_ NB197_204.out _; (with_reducible repeat (first | refine blk_drewN ?_ _ | refine blk_drew ?_ | refine blk_alloc ?_ _)); refine blk_far ?_ NB197_204.out _; (with_reducible repeat (first | refine blk_drewN ?_ _ | refine blk_drew ?_ | refine blk_alloc ?_ _)); exact BK197.out⟩, ⟨by (with_reducible repeat (first | refine blk_drewN ?_ _ | refine blk_drew ?_ | refine blk_alloc ?_ _)); refine blk_far ?_ NB198_204.out _; (with_reducible repeat (first | refine blk_drewN ?_ _ | refine blk_drew ?_ | refine blk_alloc ?_ _)); refine blk_far ?_ NB198_204.out _; (with_reducible repeat (first | refine blk_drewN ?_ _ | refine blk_drew ?_ | refine blk_alloc ?_ _)); refine blk_far ?_ NB198_204.out _; (with_reducible repeat (first | refine blk_drewN ?_ _ | refine blk_drew ?_ | refine blk_alloc ?_ _)); exact BK198.out⟩, ⟨by (with_reducible repeat (first | refine blk_drewN ?_ _ | refine blk_drew ?_ | refine blk_alloc ?_ _)); refine blk_put (cs := #[.int .i64 t199, .int .i64 t200, .slice none 0 0]) ?_ 2 _ rfl; (with_reducible repeat (first | refine blk_drewN ?_ _ | refine blk_drew ?_ | refine blk_alloc ?_ _)); refine blk_put (cs := #[.int .i64 t199, .int .i64 0, .slice none 0 0]) ?_ 1 _ rfl; (with_reducible repeat (first | refine blk_drewN ?_ _ | refine blk_drew ?_ | refine blk_alloc ?_ _)); refine blk_put (cs := #[.int .i64 0, .int .i64 0, .slice none 0 0]) ?_ 0 _ rfl; (with_reducible repeat (first | refine blk_drewN ?_ _ | refine blk_drew ?_ | refine blk_alloc ?_ _)); exact BK204.out⟩, ⟨viaB HB⟩⟩
 case round =>
  clear H'
  (try clear hcz10_0); (try clear hcz10_1); (try clear hcz10_2); (try clear hcz16_0); (try clear hcz16_1); (try clear hcz16_2); (try clear hfz10_0); (try clear hfz10_1)
  (try clear hfz10_2); (try clear hfz16_0); (try clear hfz16_1); (try clear hfz16_2)
  obtain ⟨x2_1, x10_1, x11_1, x12_1, x198000_1, x198001_1, x198002_1, x199000_1, x199001_1, x205002_1, u205002, rfl, rfl, rfl, HA, HK1, HO_10, HO_205002, BK196, BK197, BK198, BK204, HB⟩ := hrel
  cases gk with
  | zero => exact absurd HA.out (by simp [spec_flGo.l0])
  | succ k1 =>
   have H := HA.out
   clear HA
   simp only [spec_flGo.l0] at H
   by_cases c18 : x12_1 < a0_0
   ·rw [if_pos c18] at H
    have c18b0 := decide_eq_true c18
    clear c18
    obtain ⟨y205, hy205⟩ : ∃ y_ : List Int, y_ = (([x12_1, x2_1] : List Int)) := ⟨_, rfl⟩
    replace H : (if x10_1.length < 5864062014805 then ((some (x10_1 ++ [y205] : List (List Int))).bind fun y208 => ((spec_boAt.f t199 t200 x205002_1 x12_1 x2_1).bind fun bt211 => (if bt211.1 = 5 then (some (2, x12_1, x2_1, t199, t200, x205002_1, y208)) else ((spec_paGoes.f k1 bt211.1 bt211.2 x11_1).bind fun t214 => ((spec_flPass.f k1 t199 t200 x205002_1 l1 (wrap64 ((wrap64 (x12_1 * a0_1)) + x2_1))).bind fun t215 => ((spec_l1In.f (wrap64 (x2_1 + t214)) 0 (wrap64 (a0_1 - 1))).bind fun t216 => (if t216 = true then (spec_flGo.l0 k1 l1 (wrap64 (x2_1 + t214)) y208 (wrap64 (-t214)) (wrap64 (x12_1 + 1)) a0_0 a0_1 l0_2 t199 t200 t215) else (some (3, x12_1, wrap64 (x2_1 + t214), t199, t200, t215, y208))))))))) else (none)) = some (r1, r2, r3, r4, r5, r6, r7) := by first | (rw [hy205]; with_reducible exact H) | (have H2_ := (Option.bind_some _ _).symm.trans H; rw [hy205]; with_reducible exact H2_) | (have H2_ := (Option.bind_some _ _).symm.trans H; with_reducible exact H2_) | with_reducible exact H | (rw [hy205]; exact H) | exact H
    have Ny205 := Aside0.mk hy205
    clear hy205
    by_cases c19 : x10_1.length < 5864062014805
    ·rw [if_pos c19] at H
     have LMc19 := Aside0.mk c19
     clear c19
     obtain ⟨y208, hy208⟩ : ∃ y_ : List (List Int), y_ = (x10_1 ++ [y205]) := ⟨_, rfl⟩
     replace H : ((spec_boAt.f t199 t200 x205002_1 x12_1 x2_1).bind fun bt211 => (if bt211.1 = 5 then (some (2, x12_1, x2_1, t199, t200, x205002_1, y208)) else ((spec_paGoes.f k1 bt211.1 bt211.2 x11_1).bind fun t214 => ((spec_flPass.f k1 t199 t200 x205002_1 l1 (wrap64 ((wrap64 (x12_1 * a0_1)) + x2_1))).bind fun t215 => ((spec_l1In.f (wrap64 (x2_1 + t214)) 0 (wrap64 (a0_1 - 1))).bind fun t216 => (if t216 = true then (spec_flGo.l0 k1 l1 (wrap64 (x2_1 + t214)) y208 (wrap64 (-t214)) (wrap64 (x12_1 + 1)) a0_0 a0_1 l0_2 t199 t200 t215) else (some (3, x12_1, wrap64 (x2_1 + t214), t199, t200, t215, y208)))))))) = some (r1, r2, r3, r4, r5, r6, r7) := by first | (rw [hy208]; with_reducible exact H) | (have H2_ := (Option.bind_some _ _).symm.trans H; rw [hy208]; with_reducible exact H2_) | (have H2_ := (Option.bind_some _ _).symm.trans H; with_reducible exact H2_) | with_reducible exact H | (rw [hy208]; exact H) | exact H
     have Ny208 := Aside0.mk hy208
     clear hy208
     replace H := Option.bind_eq_some_iff.mp H
     obtain ⟨⟨t211, t212⟩, A200, H⟩ := H
     replace H : (if t211 = 5 then (some (2, x12_1, x2_1, t199, t200, x205002_1, y208)) else ((spec_paGoes.f k1 t211 t212 x11_1).bind fun t214 => ((spec_flPass.f k1 t199 t200 x205002_1 l1 (wrap64 ((wrap64 (x12_1 * a0_1)) + x2_1))).bind fun t215 => ((spec_l1In.f (wrap64 (x2_1 + t214)) 0 (wrap64 (a0_1 - 1))).bind fun t216 => (if t216 = true then (spec_flGo.l0 k1 l1 (wrap64 (x2_1 + t214)) y208 (wrap64 (-t214)) (wrap64 (x12_1 + 1)) a0_0 a0_1 l0_2 t199 t200 t215) else (some (3, x12_1, wrap64 (x2_1 + t214), t199, t200, t215, y208))))))) = some (r1, r2, r3, r4, r5, r6, r7) := H
     have A20 := Aside0.mk A200
     clear A200
     by_cases c21 : t211 = 5
     ·rw [if_pos c21] at H
      have c21b0 := beq_iff_eq.mpr c21
      have c21b1 := bne_eq_false_iff_eq.mpr c21
      clear c21
      simp only [Option.some.injEq, Prod.mk.injEq] at H
      obtain ⟨rfl, rfl, rfl, rfl, rfl, rfl, rfl⟩ := H
      have hnb22 := NB196_197.out
      have hnc22 := NB197_196.out
      have hnb23 := NB196_198.out
      have hnc23 := NB198_196.out
      have hnb24 := NB196_204.out
      have hnc24 := NB204_196.out
      have hcz25_0 := bc0 BK196
      have hcz25_1 := bc1 BK196
      have hcz25_2 := bc2 BK196
      have hfz25_0 := blk_frozen BK196.out 0
      have hfz25_1 := blk_frozen BK196.out 1
      have hfz25_2 := blk_frozen BK196.out 2
      try go_wp2_with (first | ((with_reducible refine gate_dst (N := 26) rfl ?_); refine Kd.R_lit (Kd.int .i64) _ 3 ?hg (N := 26) ?hd (xs := ([x12_1, x2_1] : List Int)) (inner := [.int .i64 x12_1, .int .i64 x2_1]) (ok := fun _ => True) (okp := fun _ => True) ?hr ?hp (fun _ hk => hk) trivial (Below.refl _ _) (Nat.le_refl _) (by simp) ?_; (case hd => rfl); (case hg => rfl); (case hr => first | (go_simp; done) | (go_simp; rfl)); (case hp => exact (Reps.one (show Kd.M (Kd.int .i64) _ _ _ x12_1 [.int .i64 x12_1] from rfl) (Reps.one (show Kd.M (Kd.int .i64) _ _ _ x2_1 [.int .i64 x2_1] from rfl) (Reps.none _ _)))); intro v206 w26 ho27 hb hg_ hnew_; clear hg_ hnew_; (first | rw [← Ny205.out] at ho27 | (simp only [Int.reduceToNat] at ho27; rw [← Ny205.out] at ho27)); have HO207 := Aside0.mk (Kd.R_lower ho27 (below_size (viaB HB))); replace HO_10 := Aside0.mk (Kd.S_elder' (viaS HO_10) (Kd.R_base ho27) hb); replace HO_205002 := Aside0.mk (Kd.R_below (viaR HO_205002) hb); replace BK196 := kB BK196 hb; replace BK197 := kB BK197 hb; replace BK198 := kB BK198 hb; replace BK204 := kB BK204 hb; replace HB := bB HB hb; clear hb ho27; obtain ⟨Ao29, co29, eo29⟩ := Kd.R_slice HO207.out; subst eo29) | ((with_reducible refine gate_builtin (b := .append) (xs := #[.tmp 23, .tmp 27]) rfl ?_); at_builtin; refine Kd.S_append (Kd.slice 3 (Kd.int .i64)) (w0 := w) w.heap.size rfl (.tmp 23) (.tmp 27) 54 43 (.slice none 0 0) 24 rfl Try.underlying54 info43 rfl (by decide) (by omega) u10 x10_1 y205 [.slice Ao29 y205.length co29] (fun _ => True) (fun k_ => some k_ = (.slice Ao29 y205.length co29 : Value).ownBlock) rfl rfl ?aP (fun k_ hk_ => ((Kd.R_mono (ok' := fun k_ => ((fun _ => True)) k_ ∧ some k_ ≠ (u10 : Value).ownBlock) (Kd.R_apart' (HO207.out) (Kd.S_typed HO_10.out) (by decide)) (fun k_ hk => ⟨trivial, hk.2⟩))).1 k_ hk_.symm) ?aF ?aO ?aB ?aS ?aL ?_; (case aP => exact Kd.M_row (Kd.R_mono (Kd.R_tight rfl (Kd.R_mono (ok' := fun k_ => ((fun _ => True)) k_ ∧ some k_ ≠ (u10 : Value).ownBlock) (Kd.R_apart' (HO207.out) (Kd.S_typed HO_10.out) (by decide)) (fun k_ hk => ⟨trivial, hk.2⟩))) (fun _ h_ => h_))); (case aB => exact (viaB HB)); (case aF => exact (fun _ _ => trivial)); (case aO => exact (by (with_reducible repeat (first | apply Kd.S_alloc | apply Kd.S_drewN | apply Kd.S_drew)); exact Kd.S_mono HO_10.out (fun k_ hk => ⟨trivial, fun e_ => hk.2 e_⟩))); (case aS => exact (below_size (viaB HB))); (case aL => have := LMc19.out; omega); intro v209 w28 ho hb hg hat; rw [← Ny208.out] at ho; have HO210 := Aside0.mk (ho); replace HO_205002 := Aside0.mk (Kd.R_over' (viaR HO_205002) (Kd.S_typed (viaS HO_10)) (by decide) hg); replace BK196 := Aside0.mk (blk_grown (g := gb196) (o := .cells #[.int .i64 a0_0, .int .i64 a0_1, .slice A0_2 l0_2.length c0_2] 32 (0, 0)) (viaK BK196) hg (Kd.S_ne HO_10.out BK196.out (by decide))); replace BK197 := Aside0.mk (blk_grown (g := gb197) (o := .cells #[.int .i64 x198000_1, .int .i64 x198001_1, .int .i64 x198002_1] 27 (0, 0)) (viaK BK197) hg (Kd.S_ne HO_10.out BK197.out (by decide))); replace BK198 := Aside0.mk (blk_grown (g := gb198) (o := .cells #[.int .i64 x199000_1, .int .i64 x199001_1, .slice none 0 0] 32 (0, 0)) (viaK BK198) hg (Kd.S_ne HO_10.out BK198.out (by decide))); replace BK204 := Aside0.mk (blk_grown (g := gb204) (o := .cells #[.int .i64 t199, .int .i64 t200, u205002] 32 (0, 0)) (viaK BK204) hg (Kd.S_ne HO_10.out BK204.out (by decide))); replace HB := Aside0.mk (hb); clear HO_10 HO207; clear ho hb hg hat; have hnb30 := NB204_197.out; have hnc30 := NB197_204.out; have hnb31 := NB204_198.out; have hnc31 := NB198_204.out; have hcz32_0 := bc0 BK204; have hcz32_1 := bc1 BK204; have hcz32_2 := bc2 BK204; have hfz32_0 := blk_frozen BK204.out 0; have hfz32_1 := blk_frozen BK204.out 1; have hfz32_2 := blk_frozen BK204.out 2; obtain ⟨Ao33, co33, eo33⟩ := Kd.R_slice HO_205002.out; subst eo33) | ((with_reducible refine gate_callee (f := 83) rfl ?_); refine goesA (some 32) _ #[.agg #[.int .i64 t199, .int .i64 t200, .slice Ao33 x205002_1.length co33], .int .i64 x12_1, .int .i64 x2_1] ?_ Try.func83; (with_reducible refine (spec_boAt.calls t199 t200 _ _ x205002_1 x12_1 x2_1 t211 t212 _ ?side1 ?side2 A20.out).mono ?_); (case side1 => repeat (first | exact (Kd.R_reads' HO_205002.out).2.2 | (with_reducible refine Kd.C_alloc ?_ _) | (with_reducible refine Kd.C_drewN ?_ _) | (with_reducible refine Kd.C_drew ?_))); (case side2 => exact (Kd.R_reads' HO_205002.out).2.1); rintro e w34 ⟨rfl, hb⟩; refine ⟨_, rfl, ?_⟩; replace HO_205002 := Aside0.mk (Kd.R_below (viaR HO_205002) hb); replace HO210 := Aside0.mk (Kd.S_below (viaS HO210) hb); replace BK196 := kB BK196 hb; replace BK197 := kB BK197 hb; replace BK198 := kB BK198 hb; replace BK204 := kB BK204 hb; replace HB := bB HB hb; (try clear hb); (try clear hb2); (try clear hk); (try clear hi)) | ((with_reducible refine gate_dst (N := 13) rfl ?_); refine box_ev (N := 13) (cs := #[.int .i64 0, .int .i64 0]) (t := 89) ?_; intro gb213 hg w35 hbox hb; have BK213 := Aside0.mk (hbox); have GW213 := gW (w := w) HB hg; have GE213 := gW (w := w) HB hg; have NB196_213 := neL BK196 hg; have NB213_196 := neG BK196 hg; have NB197_213 := neL BK197 hg; have NB213_197 := neG BK197 hg; have NB198_213 := neL BK198 hg; have NB213_198 := neG BK198 hg; have NB204_213 := neL BK204 hg; have NB213_204 := neG BK204 hg; replace HO_205002 := Aside0.mk (Kd.R_below (Kd.R_elderB (viaR HO_205002) gb213 (Nat.le_of_eq hg.symm)) hb); replace HO210 := Aside0.mk (Kd.S_below (viaS HO210) hb); replace BK196 := kB BK196 hb; replace BK197 := kB BK197 hb; replace BK198 := kB BK198 hb; replace BK204 := kB BK204 hb; replace HB := bB HB hb; clear hb hbox hg; have hnb36 := NB213_196.out; have hnc36 := NB196_213.out; have hnb37 := NB213_197.out; have hnc37 := NB197_213.out; have hnb38 := NB213_198.out; have hnc38 := NB198_213.out; have hnb39 := NB213_204.out; have hnc39 := NB204_213.out; have hcz40_0 := bc0 BK213; have hcz40_1 := bc1 BK213; have hfz40_0 := blk_frozen BK213.out 0; have hfz40_1 := blk_frozen BK213.out 1))
      have n0_ : Aside0 (Kd.R k89 89 ((w35.setCell ⟨gb213, 0, none⟩ (.int .i64 t211)).setCell ⟨gb213, 1, none⟩ (.int .i64 t212)) w.heap.size (fun k_ => k_ ≠ gb213) (.slice Ao33 x205002_1.length co33) x205002_1) := ⟨by (with_reducible repeat (first | apply Kd.R_alloc | apply Kd.R_drewN | apply Kd.R_drew)); exact Kd.R_mono (Kd.R_far (p := ⟨gb213, 1, none⟩) (Kd.R_far (p := ⟨gb213, 0, none⟩) (Kd.R_mono HO_205002.out (fun k_ hk => (⟨hk, hk.2⟩ : _ ∧ k_ ≠ gb213))) (fun _ hk => hk.2) (.int .i64 t211)) (fun _ hk => hk.2) (.int .i64 t212)) (fun _ hk => hk.1.2)⟩
      have n1_ : Aside0 (Kd.S (Kd.slice 3 (Kd.int .i64)) 43 ((w35.setCell ⟨gb213, 0, none⟩ (.int .i64 t211)).setCell ⟨gb213, 1, none⟩ (.int .i64 t212)) w.heap.size (fun _ => True) v209 y208) := ⟨by (with_reducible repeat (first | apply Kd.S_alloc | apply Kd.S_drewN | apply Kd.S_drew)); exact Kd.S_mono (Kd.S_far (p := ⟨gb213, 1, none⟩) (Kd.S_far (p := ⟨gb213, 0, none⟩) (Kd.S_types HO210.out BK213.out (by decide)) (fun _ hk => hk.2) (.int .i64 t211)) (fun _ hk => hk.2) (.int .i64 t212)) (fun _ hk => trivial)⟩
      have n2_ : Aside0 (((w35.setCell ⟨gb213, 0, none⟩ (.int .i64 t211)).setCell ⟨gb213, 1, none⟩ (.int .i64 t212)).heap[gb196]? = some (.cells #[.int .i64 a0_0, .int .i64 a0_1, .slice A0_2 l0_2.length c0_2] 32 (0, 0))) := ⟨by (with_reducible repeat (first | refine blk_drewN ?_ _ | refine blk_drew ?_ | refine blk_alloc ?_ _)); refine blk_far ?_ NB196_213.out _; (with_reducible repeat (first | refine blk_drewN ?_ _ | refine blk_drew ?_ | refine blk_alloc ?_ _)); refine blk_far ?_ NB196_213.out _; (with_reducible repeat (first | refine blk_drewN ?_ _ | refine blk_drew ?_ | refine blk_alloc ?_ _)); exact BK196.out⟩
      have n3_ : Aside0 (((w35.setCell ⟨gb213, 0, none⟩ (.int .i64 t211)).setCell ⟨gb213, 1, none⟩ (.int .i64 t212)).heap[gb197]? = some (.cells #[.int .i64 x198000_1, .int .i64 x198001_1, .int .i64 x198002_1] 27 (0, 0))) := ⟨by (with_reducible repeat (first | refine blk_drewN ?_ _ | refine blk_drew ?_ | refine blk_alloc ?_ _)); refine blk_far ?_ NB197_213.out _; (with_reducible repeat (first | refine blk_drewN ?_ _ | refine blk_drew ?_ | refine blk_alloc ?_ _)); refine blk_far ?_ NB197_213.out _; (with_reducible repeat (first | refine blk_drewN ?_ _ | refine blk_drew ?_ | refine blk_alloc ?_ _)); exact BK197.out⟩
      have n4_ : Aside0 (((w35.setCell ⟨gb213, 0, none⟩ (.int .i64 t211)).setCell ⟨gb213, 1, none⟩ (.int .i64 t212)).heap[gb198]? = some (.cells #[.int .i64 x199000_1, .int .i64 x199001_1, .slice none 0 0] 32 (0, 0))) := ⟨by (with_reducible repeat (first | refine blk_drewN ?_ _ | refine blk_drew ?_ | refine blk_alloc ?_ _)); refine blk_far ?_ NB198_213.out _; (with_reducible repeat (first | refine blk_drewN ?_ _ | refine blk_drew ?_ | refine blk_alloc ?_ _)); refine blk_far ?_ NB198_213.out _; (with_reducible repeat (first | refine blk_drewN ?_ _ | refine blk_drew ?_ | refine blk_alloc ?_ _)); exact BK198.out⟩
      have n5_ : Aside0 (((w35.setCell ⟨gb213, 0, none⟩ (.int .i64 t211)).setCell ⟨gb213, 1, none⟩ (.int .i64 t212)).heap[gb204]? = some (.cells #[.int .i64 t199, .int .i64 t200, .slice Ao33 x205002_1.length co33] 32 (0, 0))) := ⟨by (with_reducible repeat (first | refine blk_drewN ?_ _ | refine blk_drew ?_ | refine blk_alloc ?_ _)); refine blk_far ?_ NB204_213.out _; (with_reducible repeat (first | refine blk_drewN ?_ _ | refine blk_drew ?_ | refine blk_alloc ?_ _)); refine blk_far ?_ NB204_213.out _; (with_reducible repeat (first | refine blk_drewN ?_ _ | refine blk_drew ?_ | refine blk_alloc ?_ _)); exact BK204.out⟩
      have n6_ : Aside0 (((w35.setCell ⟨gb213, 0, none⟩ (.int .i64 t211)).setCell ⟨gb213, 1, none⟩ (.int .i64 t212)).heap[gb213]? = some (.cells #[.int .i64 t211, .int .i64 t212] 89 (0, 0))) := ⟨by (with_reducible repeat (first | refine blk_drewN ?_ _ | refine blk_drew ?_ | refine blk_alloc ?_ _)); refine blk_put (cs := #[.int .i64 t211, .int .i64 0]) ?_ 1 _ rfl; (with_reducible repeat (first | refine blk_drewN ?_ _ | refine blk_drew ?_ | refine blk_alloc ?_ _)); refine blk_put (cs := #[.int .i64 0, .int .i64 0]) ?_ 0 _ rfl; (with_reducible repeat (first | refine blk_drewN ?_ _ | refine blk_drew ?_ | refine blk_alloc ?_ _)); exact BK213.out⟩
      have n7_ : Aside0 (Below w.heap.size w ((w35.setCell ⟨gb213, 0, none⟩ (.int .i64 t211)).setCell ⟨gb213, 1, none⟩ (.int .i64 t212))) := ⟨viaB HB⟩
      (try clear HO_205002); (try clear HO210); (try clear BK196); (try clear BK197); (try clear BK198); (try clear BK204); (try clear BK213); (try clear HB)
      generalize ((w35.setCell ⟨gb213, 0, none⟩ (.int .i64 t211)).setCell ⟨gb213, 1, none⟩ (.int .i64 t212)) = w41 at n0_ n1_ n2_ n3_ n4_ n5_ n6_ n7_ ⊢
      have HO_205002 := n0_
      have HO210 := n1_
      have BK196 := n2_
      have BK197 := n3_
      have BK198 := n4_
      have BK204 := n5_
      have BK213 := n6_
      have HB := n7_
      clear n0_ n1_ n2_ n3_ n4_ n5_ n6_ n7_
      replace HO_205002 := Aside0.mk (Kd.R_drew HO_205002.out)
      replace HO210 := Aside0.mk (Kd.S_drew HO210.out)
      replace BK196 := Aside0.mk (blk_drew BK196.out)
      replace BK197 := Aside0.mk (blk_drew BK197.out)
      replace BK198 := Aside0.mk (blk_drew BK198.out)
      replace BK204 := Aside0.mk (blk_drew BK204.out)
      replace BK213 := Aside0.mk (blk_drew BK213.out)
      replace HB := Aside0.mk (below_drew1 HB.out)
      refine start_ (n := 8) (S := fun w' => w'.cell? ⟨gb204, 0, none⟩ = some (.int .i64 t199) ∧ w'.cell? ⟨gb204, 1, none⟩ = some (.int .i64 t200) ∧ w'.cell? ⟨gb204, 2, none⟩ = some (.slice Ao33 x205002_1.length co33)) (ds := []) #[false, false, false, false, false, false, false, false] (by kernel_rfl) rfl rfl ⟨(blk_cell BK204.out 0).trans rfl, (blk_cell BK204.out 1).trans rfl, (blk_cell BK204.out 2).trans rfl⟩ (fun hHeld => ?_); refine with_tabW spec_flGo.tab10 spec_flGo.bits10 (fun HT_ HW_ => ?_)
      generalize w41.drew = w42 at HO_205002 HO210 BK196 BK197 BK198 BK204 BK213 HB hHeld ⊢
      refine pure_ (i := 0) (N := some 36) (v := ?_) (a' := ?_) #[true, false, false, false, false, false, false, false] rfl rfl (any_of HT_.out (by kernel_rfl)) (fun _ _ _ h => h) (Or.inl ⟨by rfl, ?_⟩) ?_ ?_
      rotate_left
      ·intro w'
       go_simp
       with_reducible rfl
      rotate_left
      ·simp only [Act.put, q1, q2, q3, i64_w, i32_w]
       rfl
      refine pure_ (i := 1) (N := some 37) (v := ?_) (a' := ?_) #[true, true, false, false, false, false, false, false] rfl rfl (any_of HT_.out (by kernel_rfl)) (fun _ _ _ h => h) (Or.inl ⟨by rfl, ?_⟩) ?_ ?_
      rotate_left
      ·intro w'
       go_simp
       with_reducible rfl
      rotate_left
      ·simp only [Act.put, q1, q2, q3, i64_w, i32_w]
       rfl
      refine pure_ (i := 2) (N := some 38) (v := ?_) (a' := ?_) #[true, true, true, false, false, false, false, false] rfl rfl (any_of HT_.out (by kernel_rfl)) (fun _ _ _ h => h) (Or.inl ⟨by rfl, ?_⟩) ?_ ?_
      rotate_left
      ·intro w'
       go_simp
       with_reducible rfl
      rotate_left
      ·simp only [Act.put, q1, q2, q3, i64_w, i32_w]
       rfl
      refine pure_ (i := 4) (N := some 40) (v := ?_) (a' := ?_) #[true, true, true, false, true, false, false, false] rfl rfl (any_of HT_.out (by kernel_rfl)) (fun _ _ _ h => h) (Or.inl ⟨by rfl, ?_⟩) ?_ ?_
      rotate_left
      ·intro w'
       go_simp
       with_reducible rfl
      rotate_left
      ·simp only [Act.put, q1, q2, q3, i64_w, i32_w]
       rfl
      refine take_ (i := 3) (N := some 39) (v := ?_) (a' := ?_) #[true, true, true, true, true, false, false, false] rfl rfl (take_ofW HT_.out HW_.out (by kernel_rfl)) (fun _ _ _ h => h) (Or.inl ⟨by rfl, ?_⟩) hHeld ?_ ?_
      rotate_left
      ·rintro w' ⟨s0, s1, s2⟩
       go_simp
       with_reducible rfl
      rotate_left
      ·simp only [Act.put, q1, q2, q3, i64_w, i32_w]
       rfl
      refine one_ (i := 5) (N := none) #[true, true, true, true, true, true, false, false] rfl rfl (one_of HT_.out (by kernel_rfl)) (by decide) (fun K hK => ?_)
      have hs43 : w42.cell? ⟨gb197, 0, none⟩ = some (.int .i64 x198000_1) := (blk_cell BK197.out 0).trans rfl
      have hfs43 := blk_frozen BK197.out 0
      have hns43_0 := NB196_197.out
      have hns43_2 := NB198_197.out
      have hns43_3 := NB204_197.out
      have hns43_4 := NB213_197.out
      have hms43_0 := NB197_196.out
      have hms43_2 := NB197_198.out
      have hms43_3 := NB197_204.out
      have hms43_4 := NB197_213.out
      have hs44 : w42.cell? ⟨gb197, 1, none⟩ = some (.int .i64 x198001_1) := (blk_cell BK197.out 1).trans rfl
      have hfs44 := blk_frozen BK197.out 1
      have hns44_0 := NB196_197.out
      have hns44_2 := NB198_197.out
      have hns44_3 := NB204_197.out
      have hns44_4 := NB213_197.out
      have hms44_0 := NB197_196.out
      have hms44_2 := NB197_198.out
      have hms44_3 := NB197_204.out
      have hms44_4 := NB197_213.out
      have hs45 : w42.cell? ⟨gb197, 2, none⟩ = some (.int .i64 x198002_1) := (blk_cell BK197.out 2).trans rfl
      have hfs45 := blk_frozen BK197.out 2
      have hns45_0 := NB196_197.out
      have hns45_2 := NB198_197.out
      have hns45_3 := NB204_197.out
      have hns45_4 := NB213_197.out
      have hms45_0 := NB197_196.out
      have hms45_2 := NB197_198.out
      have hms45_3 := NB197_204.out
      have hms45_4 := NB197_213.out
      refine skip_ (w1 := ?_) (by rfl) rfl ?_ ?_
      rotate_left
      ·go_simp
       rfl
      refine hK.out _ _ ⟨((cell_far (p := ⟨gb197, _, none⟩) NB204_197.out _).trans (((cell_far (p := ⟨gb197, _, none⟩) NB204_197.out _).trans (((cell_far (p := ⟨gb197, _, none⟩) NB204_197.out _).trans (hHeld.1)))))), ((cell_far (p := ⟨gb197, _, none⟩) NB204_197.out _).trans (((cell_far (p := ⟨gb197, _, none⟩) NB204_197.out _).trans (((cell_far (p := ⟨gb197, _, none⟩) NB204_197.out _).trans (hHeld.2.1)))))), ((cell_far (p := ⟨gb197, _, none⟩) NB204_197.out _).trans (((cell_far (p := ⟨gb197, _, none⟩) NB204_197.out _).trans (((cell_far (p := ⟨gb197, _, none⟩) NB204_197.out _).trans (hHeld.2.2))))))⟩ (fun hHeld => ?_)
      clear hK K
      refine one_ (i := 6) (N := none) #[true, true, true, true, true, true, true, false] rfl rfl (one_of HT_.out (by kernel_rfl)) (by decide) (fun K hK => ?_)
      have hs46 : w42.cell? ⟨gb198, 0, none⟩ = some (.int .i64 x199000_1) := (blk_cell BK198.out 0).trans rfl
      have hfs46 := blk_frozen BK198.out 0
      have hns46_0 := NB196_198.out
      have hns46_1 := NB197_198.out
      have hns46_3 := NB204_198.out
      have hns46_4 := NB213_198.out
      have hms46_0 := NB198_196.out
      have hms46_1 := NB198_197.out
      have hms46_3 := NB198_204.out
      have hms46_4 := NB198_213.out
      have hs47 : w42.cell? ⟨gb198, 1, none⟩ = some (.int .i64 x199001_1) := (blk_cell BK198.out 1).trans rfl
      have hfs47 := blk_frozen BK198.out 1
      have hns47_0 := NB196_198.out
      have hns47_1 := NB197_198.out
      have hns47_3 := NB204_198.out
      have hns47_4 := NB213_198.out
      have hms47_0 := NB198_196.out
      have hms47_1 := NB198_197.out
      have hms47_3 := NB198_204.out
      have hms47_4 := NB198_213.out
      have hs48 : w42.cell? ⟨gb198, 2, none⟩ = some (.slice none 0 0) := (blk_cell BK198.out 2).trans rfl
      have hfs48 := blk_frozen BK198.out 2
      have hns48_0 := NB196_198.out
      have hns48_1 := NB197_198.out
      have hns48_3 := NB204_198.out
      have hns48_4 := NB213_198.out
      have hms48_0 := NB198_196.out
      have hms48_1 := NB198_197.out
      have hms48_3 := NB198_204.out
      have hms48_4 := NB198_213.out
      refine skip_ (w1 := ?_) (by rfl) rfl ?_ ?_
      rotate_left
      ·go_simp
       rfl
      refine hK.out _ _ ⟨((cell_far (p := ⟨gb198, _, none⟩) NB204_198.out _).trans (((cell_far (p := ⟨gb198, _, none⟩) NB204_198.out _).trans (((cell_far (p := ⟨gb198, _, none⟩) NB204_198.out _).trans (hHeld.1)))))), ((cell_far (p := ⟨gb198, _, none⟩) NB204_198.out _).trans (((cell_far (p := ⟨gb198, _, none⟩) NB204_198.out _).trans (((cell_far (p := ⟨gb198, _, none⟩) NB204_198.out _).trans (hHeld.2.1)))))), ((cell_far (p := ⟨gb198, _, none⟩) NB204_198.out _).trans (((cell_far (p := ⟨gb198, _, none⟩) NB204_198.out _).trans (((cell_far (p := ⟨gb198, _, none⟩) NB204_198.out _).trans (hHeld.2.2))))))⟩ (fun hHeld => ?_)
      clear hK K
      refine pure_ (i := 7) (N := some 8) (v := ?_) (a' := ?_) #[true, true, true, true, true, true, true, true] rfl rfl (any_of HT_.out (by kernel_rfl)) (fun _ _ _ h => h) (Or.inl ⟨by rfl, ?_⟩) ?_ ?_
      rotate_left
      ·intro w'
       go_simp
       with_reducible rfl
      rotate_left
      ·simp only [Act.put, q1, q2, q3, i64_w, i32_w]
       rfl
      refine done_ (done_of HT_.out (by kernel_rfl)) ?_
      try go_wp2
      refine bodyPost_ret (results_list (rs := [.cell 6 27, .cell 7 32, .tmp 8]) rfl (by simp) (.cell gb197 27 #[.int .i64 2, .int .i64 x12_1, .int .i64 x2_1] (0, 0) _ rfl (by (with_reducible repeat (first | refine blk_drewN ?_ _ | refine blk_drew ?_ | refine blk_alloc ?_ _)); refine blk_far ?_ NB197_198.out _; (with_reducible repeat (first | refine blk_drewN ?_ _ | refine blk_drew ?_ | refine blk_alloc ?_ _)); refine blk_far ?_ NB197_198.out _; (with_reducible repeat (first | refine blk_drewN ?_ _ | refine blk_drew ?_ | refine blk_alloc ?_ _)); refine blk_far ?_ NB197_198.out _; (with_reducible repeat (first | refine blk_drewN ?_ _ | refine blk_drew ?_ | refine blk_alloc ?_ _)); refine blk_put (cs := #[.int .i64 2, .int .i64 x12_1, .int .i64 x198002_1]) ?_ 2 _ rfl; (with_reducible repeat (first | refine blk_drewN ?_ _ | refine blk_drew ?_ | refine blk_alloc ?_ _)); refine blk_put (cs := #[.int .i64 2, .int .i64 x198001_1, .int .i64 x198002_1]) ?_ 1 _ rfl; (with_reducible repeat (first | refine blk_drewN ?_ _ | refine blk_drew ?_ | refine blk_alloc ?_ _)); refine blk_put (cs := #[.int .i64 x198000_1, .int .i64 x198001_1, .int .i64 x198002_1]) ?_ 0 _ rfl; (with_reducible repeat (first | refine blk_drewN ?_ _ | refine blk_drew ?_ | refine blk_alloc ?_ _)); exact BK197.out) Try.underlying27 rfl (by kernel_rfl) (.cell gb198 32 #[.int .i64 t199, .int .i64 t200, .slice Ao33 x205002_1.length co33] (0, 0) _ rfl (by (with_reducible repeat (first | refine blk_drewN ?_ _ | refine blk_drew ?_ | refine blk_alloc ?_ _)); refine blk_put (cs := #[.int .i64 t199, .int .i64 t200, .slice none 0 0]) ?_ 2 _ rfl; (with_reducible repeat (first | refine blk_drewN ?_ _ | refine blk_drew ?_ | refine blk_alloc ?_ _)); refine blk_put (cs := #[.int .i64 t199, .int .i64 x199001_1, .slice none 0 0]) ?_ 1 _ rfl; (with_reducible repeat (first | refine blk_drewN ?_ _ | refine blk_drew ?_ | refine blk_alloc ?_ _)); refine blk_put (cs := #[.int .i64 x199000_1, .int .i64 x199001_1, .slice none 0 0]) ?_ 0 _ rfl; (with_reducible repeat (first | refine blk_drewN ?_ _ | refine blk_drew ?_ | refine blk_alloc ?_ _)); refine blk_far ?_ NB198_197.out _; (with_reducible repeat (first | refine blk_drewN ?_ _ | refine blk_drew ?_ | refine blk_alloc ?_ _)); refine blk_far ?_ NB198_197.out _; (with_reducible repeat (first | refine blk_drewN ?_ _ | refine blk_drew ?_ | refine blk_alloc ?_ _)); refine blk_far ?_ NB198_197.out _; (with_reducible repeat (first | refine blk_drewN ?_ _ | refine blk_drew ?_ | refine blk_alloc ?_ _)); exact BK198.out) Try.underlying32 rfl (by kernel_rfl) (.tmp .nil)))) rfl ?_
      exact ⟨_, _, by first | rfl | (simp [errW_none, errW_some] <;> rfl) | (simp [*, errW_none, errW_some] <;> rfl), by (with_reducible repeat (first | apply Kd.R_alloc | apply Kd.R_drewN | apply Kd.R_drew)); exact Kd.R_mono (Kd.R_far (p := ⟨gb198, 2, none⟩) (Kd.R_far (p := ⟨gb198, 1, none⟩) (Kd.R_far (p := ⟨gb198, 0, none⟩) (Kd.R_far (p := ⟨gb197, 2, none⟩) (Kd.R_far (p := ⟨gb197, 1, none⟩) (Kd.R_far (p := ⟨gb197, 0, none⟩) (Kd.R_types (Kd.R_types HO_205002.out BK197.out (by decide)) BK198.out (by decide)) (fun _ hk => hk.1.2) (.int .i64 2)) (fun _ hk => hk.1.2) (.int .i64 x12_1)) (fun _ hk => hk.1.2) (.int .i64 x2_1)) (fun _ hk => hk.2) (.int .i64 t199)) (fun _ hk => hk.2) (.int .i64 t200)) (fun _ hk => hk.2) (.slice Ao33 x205002_1.length co33)) (fun _ hk => trivial), by (with_reducible repeat (first | apply Kd.S_alloc | apply Kd.S_drewN | apply Kd.S_drew)); exact Kd.S_mono (Kd.S_far (p := ⟨gb198, 2, none⟩) (Kd.S_far (p := ⟨gb198, 1, none⟩) (Kd.S_far (p := ⟨gb198, 0, none⟩) (Kd.S_far (p := ⟨gb197, 2, none⟩) (Kd.S_far (p := ⟨gb197, 1, none⟩) (Kd.S_far (p := ⟨gb197, 0, none⟩) (Kd.S_types (Kd.S_types HO210.out BK197.out (by decide)) BK198.out (by decide)) (fun _ hk => hk.1.2) (.int .i64 2)) (fun _ hk => hk.1.2) (.int .i64 x12_1)) (fun _ hk => hk.1.2) (.int .i64 x2_1)) (fun _ hk => hk.2) (.int .i64 t199)) (fun _ hk => hk.2) (.int .i64 t200)) (fun _ hk => hk.2) (.slice Ao33 x205002_1.length co33)) (fun _ hk => trivial), viaB HB⟩
     ·rw [if_neg c21] at H
      have c21b0 := beq_eq_false_iff_ne.mpr c21
      have c21b1 := bne_iff_ne.mpr c21
      replace H := Option.bind_eq_some_iff.mp H
      obtain ⟨t214, A490, H⟩ := H
      replace H : ((spec_flPass.f k1 t199 t200 x205002_1 l1 (wrap64 ((wrap64 (x12_1 * a0_1)) + x2_1))).bind fun t215 => ((spec_l1In.f (wrap64 (x2_1 + t214)) 0 (wrap64 (a0_1 - 1))).bind fun t216 => (if t216 = true then (spec_flGo.l0 k1 l1 (wrap64 (x2_1 + t214)) y208 (wrap64 (-t214)) (wrap64 (x12_1 + 1)) a0_0 a0_1 l0_2 t199 t200 t215) else (some (3, x12_1, wrap64 (x2_1 + t214), t199, t200, t215, y208))))) = some (r1, r2, r3, r4, r5, r6, r7) := H
      have A49 := Aside0.mk A490
      clear A490
      replace H := Option.bind_eq_some_iff.mp H
      obtain ⟨t215, A500, H⟩ := H
      replace H : ((spec_l1In.f (wrap64 (x2_1 + t214)) 0 (wrap64 (a0_1 - 1))).bind fun t216 => (if t216 = true then (spec_flGo.l0 k1 l1 (wrap64 (x2_1 + t214)) y208 (wrap64 (-t214)) (wrap64 (x12_1 + 1)) a0_0 a0_1 l0_2 t199 t200 t215) else (some (3, x12_1, wrap64 (x2_1 + t214), t199, t200, t215, y208)))) = some (r1, r2, r3, r4, r5, r6, r7) := H
      have A50 := Aside0.mk A500
      clear A500
      replace H := Option.bind_eq_some_iff.mp H
      obtain ⟨t216, A510, H⟩ := H
      replace H : (if t216 = true then (spec_flGo.l0 k1 l1 (wrap64 (x2_1 + t214)) y208 (wrap64 (-t214)) (wrap64 (x12_1 + 1)) a0_0 a0_1 l0_2 t199 t200 t215) else (some (3, x12_1, wrap64 (x2_1 + t214), t199, t200, t215, y208))) = some (r1, r2, r3, r4, r5, r6, r7) := H
      have A51 := Aside0.mk A510
      clear A510
      by_cases c52 : t216 = true
      ·subst c52
       have H1 : (spec_flGo.l0 k1 l1 (wrap64 (x2_1 + t214)) y208 (wrap64 (-t214)) (wrap64 (x12_1 + 1)) a0_0 a0_1 l0_2 t199 t200 t215) = some (r1, r2, r3, r4, r5, r6, r7) := by rw [if_pos rfl] at H; exact H
       clear H
       have H := H1
       clear H1
       have H' := Aside0.mk H
       clear H
       have hnb53 := NB196_197.out
       have hnc53 := NB197_196.out
       have hnb54 := NB196_198.out
       have hnc54 := NB198_196.out
       have hnb55 := NB196_204.out
       have hnc55 := NB204_196.out
       have hcz56_0 := bc0 BK196
       have hcz56_1 := bc1 BK196
       have hcz56_2 := bc2 BK196
       have hfz56_0 := blk_frozen BK196.out 0
       have hfz56_1 := blk_frozen BK196.out 1
       have hfz56_2 := blk_frozen BK196.out 2
       go_wp2_with (first | ((with_reducible refine gate_dst (N := 26) rfl ?_); refine Kd.R_lit (Kd.int .i64) _ 3 ?hg (N := 26) ?hd (xs := ([x12_1, x2_1] : List Int)) (inner := [.int .i64 x12_1, .int .i64 x2_1]) (ok := fun _ => True) (okp := fun _ => True) ?hr ?hp (fun _ hk => hk) trivial (Below.refl _ _) (Nat.le_refl _) (by simp) ?_; (case hd => rfl); (case hg => rfl); (case hr => first | (go_simp; done) | (go_simp; rfl)); (case hp => exact (Reps.one (show Kd.M (Kd.int .i64) _ _ _ x12_1 [.int .i64 x12_1] from rfl) (Reps.one (show Kd.M (Kd.int .i64) _ _ _ x2_1 [.int .i64 x2_1] from rfl) (Reps.none _ _)))); intro v206 w57 ho58 hb hg_ hnew_; clear hg_ hnew_; (first | rw [← Ny205.out] at ho58 | (simp only [Int.reduceToNat] at ho58; rw [← Ny205.out] at ho58)); have HO207 := Aside0.mk (Kd.R_lower ho58 (below_size (viaB HB))); replace HO_10 := Aside0.mk (Kd.S_elder' (viaS HO_10) (Kd.R_base ho58) hb); replace HO_205002 := Aside0.mk (Kd.R_below (viaR HO_205002) hb); replace BK196 := kB BK196 hb; replace BK197 := kB BK197 hb; replace BK198 := kB BK198 hb; replace BK204 := kB BK204 hb; replace HB := bB HB hb; clear hb ho58; obtain ⟨Ao60, co60, eo60⟩ := Kd.R_slice HO207.out; subst eo60) | ((with_reducible refine gate_builtin (b := .append) (xs := #[.tmp 23, .tmp 27]) rfl ?_); at_builtin; refine Kd.S_append (Kd.slice 3 (Kd.int .i64)) (w0 := w) w.heap.size rfl (.tmp 23) (.tmp 27) 54 43 (.slice none 0 0) 24 rfl Try.underlying54 info43 rfl (by decide) (by omega) u10 x10_1 y205 [.slice Ao60 y205.length co60] (fun _ => True) (fun k_ => some k_ = (.slice Ao60 y205.length co60 : Value).ownBlock) rfl rfl ?aP (fun k_ hk_ => ((Kd.R_mono (ok' := fun k_ => ((fun _ => True)) k_ ∧ some k_ ≠ (u10 : Value).ownBlock) (Kd.R_apart' (HO207.out) (Kd.S_typed HO_10.out) (by decide)) (fun k_ hk => ⟨trivial, hk.2⟩))).1 k_ hk_.symm) ?aF ?aO ?aB ?aS ?aL ?_; (case aP => exact Kd.M_row (Kd.R_mono (Kd.R_tight rfl (Kd.R_mono (ok' := fun k_ => ((fun _ => True)) k_ ∧ some k_ ≠ (u10 : Value).ownBlock) (Kd.R_apart' (HO207.out) (Kd.S_typed HO_10.out) (by decide)) (fun k_ hk => ⟨trivial, hk.2⟩))) (fun _ h_ => h_))); (case aB => exact (viaB HB)); (case aF => exact (fun _ _ => trivial)); (case aO => exact (by (with_reducible repeat (first | apply Kd.S_alloc | apply Kd.S_drewN | apply Kd.S_drew)); exact Kd.S_mono HO_10.out (fun k_ hk => ⟨trivial, fun e_ => hk.2 e_⟩))); (case aS => exact (below_size (viaB HB))); (case aL => have := LMc19.out; omega); intro v209 w59 ho hb hg hat; rw [← Ny208.out] at ho; have HO210 := Aside0.mk (ho); replace HO_205002 := Aside0.mk (Kd.R_over' (viaR HO_205002) (Kd.S_typed (viaS HO_10)) (by decide) hg); replace BK196 := Aside0.mk (blk_grown (g := gb196) (o := .cells #[.int .i64 a0_0, .int .i64 a0_1, .slice A0_2 l0_2.length c0_2] 32 (0, 0)) (viaK BK196) hg (Kd.S_ne HO_10.out BK196.out (by decide))); replace BK197 := Aside0.mk (blk_grown (g := gb197) (o := .cells #[.int .i64 x198000_1, .int .i64 x198001_1, .int .i64 x198002_1] 27 (0, 0)) (viaK BK197) hg (Kd.S_ne HO_10.out BK197.out (by decide))); replace BK198 := Aside0.mk (blk_grown (g := gb198) (o := .cells #[.int .i64 x199000_1, .int .i64 x199001_1, .slice none 0 0] 32 (0, 0)) (viaK BK198) hg (Kd.S_ne HO_10.out BK198.out (by decide))); replace BK204 := Aside0.mk (blk_grown (g := gb204) (o := .cells #[.int .i64 t199, .int .i64 t200, u205002] 32 (0, 0)) (viaK BK204) hg (Kd.S_ne HO_10.out BK204.out (by decide))); replace HB := Aside0.mk (hb); clear HO_10 HO207; clear ho hb hg hat; have hnb61 := NB204_197.out; have hnc61 := NB197_204.out; have hnb62 := NB204_198.out; have hnc62 := NB198_204.out; have hcz63_0 := bc0 BK204; have hcz63_1 := bc1 BK204; have hcz63_2 := bc2 BK204; have hfz63_0 := blk_frozen BK204.out 0; have hfz63_1 := blk_frozen BK204.out 1; have hfz63_2 := blk_frozen BK204.out 2; obtain ⟨Ao64, co64, eo64⟩ := Kd.R_slice HO_205002.out; subst eo64) | ((with_reducible refine gate_callee (f := 83) rfl ?_); refine goesA (some 32) _ #[.agg #[.int .i64 t199, .int .i64 t200, .slice Ao64 x205002_1.length co64], .int .i64 x12_1, .int .i64 x2_1] ?_ Try.func83; (with_reducible refine (spec_boAt.calls t199 t200 _ _ x205002_1 x12_1 x2_1 t211 t212 _ ?side1 ?side2 A20.out).mono ?_); (case side1 => repeat (first | exact (Kd.R_reads' HO_205002.out).2.2 | (with_reducible refine Kd.C_alloc ?_ _) | (with_reducible refine Kd.C_drewN ?_ _) | (with_reducible refine Kd.C_drew ?_))); (case side2 => exact (Kd.R_reads' HO_205002.out).2.1); rintro e w65 ⟨rfl, hb⟩; refine ⟨_, rfl, ?_⟩; replace HO_205002 := Aside0.mk (Kd.R_below (viaR HO_205002) hb); replace HO210 := Aside0.mk (Kd.S_below (viaS HO210) hb); replace BK196 := kB BK196 hb; replace BK197 := kB BK197 hb; replace BK198 := kB BK198 hb; replace BK204 := kB BK204 hb; replace HB := bB HB hb; (try clear hb); (try clear hb2); (try clear hk); (try clear hi)) | ((with_reducible refine gate_dst (N := 13) rfl ?_); refine box_ev (N := 13) (cs := #[.int .i64 0, .int .i64 0]) (t := 89) ?_; intro gb213 hg w66 hbox hb; have BK213 := Aside0.mk (hbox); have GW213 := gW (w := w) HB hg; have GE213 := gW (w := w) HB hg; have NB196_213 := neL BK196 hg; have NB213_196 := neG BK196 hg; have NB197_213 := neL BK197 hg; have NB213_197 := neG BK197 hg; have NB198_213 := neL BK198 hg; have NB213_198 := neG BK198 hg; have NB204_213 := neL BK204 hg; have NB213_204 := neG BK204 hg; replace HO_205002 := Aside0.mk (Kd.R_below (Kd.R_elderB (viaR HO_205002) gb213 (Nat.le_of_eq hg.symm)) hb); replace HO210 := Aside0.mk (Kd.S_below (viaS HO210) hb); replace BK196 := kB BK196 hb; replace BK197 := kB BK197 hb; replace BK198 := kB BK198 hb; replace BK204 := kB BK204 hb; replace HB := bB HB hb; clear hb hbox hg; have hnb67 := NB213_196.out; have hnc67 := NB196_213.out; have hnb68 := NB213_197.out; have hnc68 := NB197_213.out; have hnb69 := NB213_198.out; have hnc69 := NB198_213.out; have hnb70 := NB213_204.out; have hnc70 := NB204_213.out; have hcz71_0 := bc0 BK213; have hcz71_1 := bc1 BK213; have hfz71_0 := blk_frozen BK213.out 0; have hfz71_1 := blk_frozen BK213.out 1) | ((with_reducible refine gate_callee (f := 84) rfl ?_); refine goesA (some 43) _ #[.agg #[.int .i64 t211, .int .i64 t212], .int .i64 x11_1] ?_ Try.func84; (with_reducible refine (spec_paGoes.calls k1 t211 t212 x11_1 t214 _ A49.out).mono ?_); rintro e w72 ⟨rfl, hb⟩; refine ⟨_, rfl, ?_⟩; replace HO_205002 := Aside0.mk (Kd.R_below (by (with_reducible repeat (first | apply Kd.R_alloc | apply Kd.R_drewN | apply Kd.R_drew)); exact (Kd.R_mono (Kd.R_far (p := ⟨gb213, 1, none⟩) (Kd.R_far (p := ⟨gb213, 0, none⟩) (Kd.R_mono HO_205002.out (fun k_ hk => (⟨hk, hk.2⟩ : _ ∧ k_ ≠ gb213))) (fun _ hk => hk.2) (.int .i64 t211)) (fun _ hk => hk.2) (.int .i64 t212)) (fun _ h_ => h_.1))) hb); replace HO210 := Aside0.mk (Kd.S_below (by (with_reducible repeat (first | apply Kd.S_alloc | apply Kd.S_drewN | apply Kd.S_drew)); exact (Kd.S_mono (Kd.S_far (p := ⟨gb213, 1, none⟩) (Kd.S_far (p := ⟨gb213, 0, none⟩) (Kd.S_types HO210.out BK213.out (by decide)) (fun _ hk => hk.2) (.int .i64 t211)) (fun _ hk => hk.2) (.int .i64 t212)) (fun _ h_ => h_.1))) hb); replace BK196 := Aside0.mk (blk_below (g := gb196) (o := .cells #[.int .i64 a0_0, .int .i64 a0_1, .slice A0_2 l0_2.length c0_2] 32 (0, 0)) (by (with_reducible repeat (first | refine blk_drewN ?_ _ | refine blk_drew ?_ | refine blk_alloc ?_ _)); refine blk_far ?_ NB196_213.out _; (with_reducible repeat (first | refine blk_drewN ?_ _ | refine blk_drew ?_ | refine blk_alloc ?_ _)); refine blk_far ?_ NB196_213.out _; (with_reducible repeat (first | refine blk_drewN ?_ _ | refine blk_drew ?_ | refine blk_alloc ?_ _)); exact BK196.out) hb); replace BK197 := Aside0.mk (blk_below (g := gb197) (o := .cells #[.int .i64 x198000_1, .int .i64 x198001_1, .int .i64 x198002_1] 27 (0, 0)) (by (with_reducible repeat (first | refine blk_drewN ?_ _ | refine blk_drew ?_ | refine blk_alloc ?_ _)); refine blk_far ?_ NB197_213.out _; (with_reducible repeat (first | refine blk_drewN ?_ _ | refine blk_drew ?_ | refine blk_alloc ?_ _)); refine blk_far ?_ NB197_213.out _; (with_reducible repeat (first | refine blk_drewN ?_ _ | refine blk_drew ?_ | refine blk_alloc ?_ _)); exact BK197.out) hb); replace BK198 := Aside0.mk (blk_below (g := gb198) (o := .cells #[.int .i64 x199000_1, .int .i64 x199001_1, .slice none 0 0] 32 (0, 0)) (by (with_reducible repeat (first | refine blk_drewN ?_ _ | refine blk_drew ?_ | refine blk_alloc ?_ _)); refine blk_far ?_ NB198_213.out _; (with_reducible repeat (first | refine blk_drewN ?_ _ | refine blk_drew ?_ | refine blk_alloc ?_ _)); refine blk_far ?_ NB198_213.out _; (with_reducible repeat (first | refine blk_drewN ?_ _ | refine blk_drew ?_ | refine blk_alloc ?_ _)); exact BK198.out) hb); replace BK204 := Aside0.mk (blk_below (g := gb204) (o := .cells #[.int .i64 t199, .int .i64 t200, .slice Ao64 x205002_1.length co64] 32 (0, 0)) (by (with_reducible repeat (first | refine blk_drewN ?_ _ | refine blk_drew ?_ | refine blk_alloc ?_ _)); refine blk_far ?_ NB204_213.out _; (with_reducible repeat (first | refine blk_drewN ?_ _ | refine blk_drew ?_ | refine blk_alloc ?_ _)); refine blk_far ?_ NB204_213.out _; (with_reducible repeat (first | refine blk_drewN ?_ _ | refine blk_drew ?_ | refine blk_alloc ?_ _)); exact BK204.out) hb); replace BK213 := Aside0.mk (blk_below (g := gb213) (o := .cells #[.int .i64 t211, .int .i64 t212] 89 (0, 0)) (by (with_reducible repeat (first | refine blk_drewN ?_ _ | refine blk_drew ?_ | refine blk_alloc ?_ _)); refine blk_put (cs := #[.int .i64 t211, .int .i64 0]) ?_ 1 _ rfl; (with_reducible repeat (first | refine blk_drewN ?_ _ | refine blk_drew ?_ | refine blk_alloc ?_ _)); refine blk_put (cs := #[.int .i64 0, .int .i64 0]) ?_ 0 _ rfl; (with_reducible repeat (first | refine blk_drewN ?_ _ | refine blk_drew ?_ | refine blk_alloc ?_ _)); exact BK213.out) hb); replace HB := bB HB hb; (try clear hb); (try clear hb2); (try clear hk); (try clear hi); have hcz73_0 := bc0 BK204; have hcz73_1 := bc1 BK204; have hcz73_2 := bc2 BK204; have hfz73_0 := blk_frozen BK204.out 0; have hfz73_1 := blk_frozen BK204.out 1; have hfz73_2 := blk_frozen BK204.out 2; have hcz74_0 := bc0 BK196; have hcz74_1 := bc1 BK196; have hcz74_2 := bc2 BK196; have hfz74_0 := blk_frozen BK196.out 0; have hfz74_1 := blk_frozen BK196.out 1; have hfz74_2 := blk_frozen BK196.out 2) | ((with_reducible refine gate_callee (f := 85) rfl ?_); refine goesA (some 52) _ #[.agg #[.int .i64 t199, .int .i64 t200, .slice Ao64 x205002_1.length co64], .slice A1 l1.length c1, .int .i64 (wrap64 ((wrap64 (x12_1 * a0_1)) + x2_1))] ?_ Try.func85; (with_reducible refine (spec_flPass.calls k1 t199 t200 (fun k_ => some k_ = (.slice Ao64 x205002_1.length co64 : Value).ownBlock) (.slice Ao64 x205002_1.length co64) x205002_1 _ _ l1 (wrap64 ((wrap64 (x12_1 * a0_1)) + x2_1)) t215 w _ ?side1 ?side2 ?side3 ?side4 A50.out).mono ?_); (case side1 => repeat (first | (with_reducible first | exact HB.out | apply below_alloc | apply pw_below_drewN | apply below_drew1 | refine below_set ?_ GE196.out | refine below_set ?_ GE197.out | refine below_set ?_ GE198.out | refine below_set ?_ GE204.out | refine below_set ?_ GE213.out) | exact HB.out)); (case side2 => exact Kd.R_tight rfl HO_205002.out); (case side3 => exact Kd.C_kept_came (Kd.heap_int .i64) HR1.out (viaB HB) (fun k_ hs_ => (fun e_ => Kd.R_base HO_205002.out k_ e_.symm) hs_)); (case side4 => exact HC1.out); rintro e w75 ⟨rfl, hy0, hb, hkp⟩; refine ⟨_, rfl, ?_⟩; replace BK196 := Aside0.mk (blk_kept (viaK BK196) hkp (fun hs_ => (fun e_ => (Kd.R_ne HO_205002.out BK196.out (by decide)) e_) hs_)); replace BK197 := Aside0.mk (blk_kept (viaK BK197) hkp (fun hs_ => (fun e_ => (Kd.R_ne HO_205002.out BK197.out (by decide)) e_) hs_)); replace BK198 := Aside0.mk (blk_kept (viaK BK198) hkp (fun hs_ => (fun e_ => (Kd.R_ne HO_205002.out BK198.out (by decide)) e_) hs_)); replace BK204 := Aside0.mk (blk_kept (viaK BK204) hkp (fun hs_ => (fun e_ => (Kd.R_ne HO_205002.out BK204.out (by decide)) e_) hs_)); replace HO210 := Aside0.mk (Kd.S_mono (ok' := fun k_ => True) (Kd.S_keptB ((Kd.S_apart' HO210.out (Kd.R_typed HO_205002.out) (by decide))) hkp (fun k_ hk_ hs_ => (hk_.2) hs_)) (fun k_ hk_ => trivial)); replace BK213 := Aside0.mk (blk_kept (viaK BK213) hkp (fun hs_ => (fun e_ => (Kd.R_away HO_205002.out (fun _ hk => hk.2)) e_) hs_)); replace HO_205002 := Aside0.mk (Kd.R_reok rfl hy0 (fun k_ e_ => HO_205002.out.1 k_ e_)); replace HB := Aside0.mk (hb); (try clear hb); (try clear hkp); (try clear hy0); have hcz76_0 := bc0 BK196; have hcz76_1 := bc1 BK196; have hcz76_2 := bc2 BK196; have hfz76_0 := blk_frozen BK196.out 0; have hfz76_1 := blk_frozen BK196.out 1; have hfz76_2 := blk_frozen BK196.out 2) | ((with_reducible refine gate_callee (f := 71) rfl ?_); refine goesA (some 62) _ #[.int .i64 (wrap64 (x2_1 + t214)), .int .i64 0, .int .i64 (wrap64 (a0_1 - 1))] ?_ Try.func71; (with_reducible refine (spec_l1In.calls (wrap64 (x2_1 + t214)) 0 (wrap64 (a0_1 - 1)) true _ A51.out).mono ?_); rintro e w' ⟨rfl, ⟨nd, rfl⟩⟩; refine ⟨_, rfl, ?_⟩))
       go_roundg k1
       case measure => have := HK1.out; omega
       case rel => exact ⟨(wrap64 (x2_1 + t214)), (y208), (wrap64 (-t214)), (wrap64 (x12_1 + 1)), (x198000_1), (x198001_1), (x198002_1), (x199000_1), (x199001_1), (t215), (.slice Ao64 x205002_1.length co64), (by first | rfl | (simp; done) | (simp [*]; done)), (by first | rfl | (simp; done) | (simp [*]; done)), (by first | rfl | (simp; done) | (simp [*]; done)), H', ⟨by have := HK1.out; omega⟩, ⟨viaS HO210⟩, ⟨by (with_reducible repeat (first | apply Kd.R_alloc | apply Kd.R_drewN | apply Kd.R_drew)); exact Kd.R_mono HO_205002.out (fun _ hk => trivial)⟩, ⟨viaK BK196⟩, ⟨viaK BK197⟩, ⟨viaK BK198⟩, ⟨viaK BK204⟩, ⟨viaB HB⟩⟩
      ·replace c52 := Bool.eq_false_iff.mpr c52
       subst c52
       have H1 : (some (3, x12_1, wrap64 (x2_1 + t214), t199, t200, t215, y208)) = some (r1, r2, r3, r4, r5, r6, r7) := by rw [if_neg (show ¬ (false = true) by decide)] at H; exact H
       clear H
       have H := H1
       clear H1
       simp only [Option.some.injEq, Prod.mk.injEq] at H
       obtain ⟨rfl, rfl, rfl, rfl, rfl, rfl, rfl⟩ := H
       have hnb77 := NB196_197.out
       have hnc77 := NB197_196.out
       have hnb78 := NB196_198.out
       have hnc78 := NB198_196.out
       have hnb79 := NB196_204.out
       have hnc79 := NB204_196.out
       have hcz80_0 := bc0 BK196
       have hcz80_1 := bc1 BK196
       have hcz80_2 := bc2 BK196
       have hfz80_0 := blk_frozen BK196.out 0
       have hfz80_1 := blk_frozen BK196.out 1
       have hfz80_2 := blk_frozen BK196.out 2
       try go_wp2_with (first | ((with_reducible refine gate_dst (N := 26) rfl ?_); refine Kd.R_lit (Kd.int .i64) _ 3 ?hg (N := 26) ?hd (xs := ([x12_1, x2_1] : List Int)) (inner := [.int .i64 x12_1, .int .i64 x2_1]) (ok := fun _ => True) (okp := fun _ => True) ?hr ?hp (fun _ hk => hk) trivial (Below.refl _ _) (Nat.le_refl _) (by simp) ?_; (case hd => rfl); (case hg => rfl); (case hr => first | (go_simp; done) | (go_simp; rfl)); (case hp => exact (Reps.one (show Kd.M (Kd.int .i64) _ _ _ x12_1 [.int .i64 x12_1] from rfl) (Reps.one (show Kd.M (Kd.int .i64) _ _ _ x2_1 [.int .i64 x2_1] from rfl) (Reps.none _ _)))); intro v206 w81 ho82 hb hg_ hnew_; clear hg_ hnew_; (first | rw [← Ny205.out] at ho82 | (simp only [Int.reduceToNat] at ho82; rw [← Ny205.out] at ho82)); have HO207 := Aside0.mk (Kd.R_lower ho82 (below_size (viaB HB))); replace HO_10 := Aside0.mk (Kd.S_elder' (viaS HO_10) (Kd.R_base ho82) hb); replace HO_205002 := Aside0.mk (Kd.R_below (viaR HO_205002) hb); replace BK196 := kB BK196 hb; replace BK197 := kB BK197 hb; replace BK198 := kB BK198 hb; replace BK204 := kB BK204 hb; replace HB := bB HB hb; clear hb ho82; obtain ⟨Ao84, co84, eo84⟩ := Kd.R_slice HO207.out; subst eo84) | ((with_reducible refine gate_builtin (b := .append) (xs := #[.tmp 23, .tmp 27]) rfl ?_); at_builtin; refine Kd.S_append (Kd.slice 3 (Kd.int .i64)) (w0 := w) w.heap.size rfl (.tmp 23) (.tmp 27) 54 43 (.slice none 0 0) 24 rfl Try.underlying54 info43 rfl (by decide) (by omega) u10 x10_1 y205 [.slice Ao84 y205.length co84] (fun _ => True) (fun k_ => some k_ = (.slice Ao84 y205.length co84 : Value).ownBlock) rfl rfl ?aP (fun k_ hk_ => ((Kd.R_mono (ok' := fun k_ => ((fun _ => True)) k_ ∧ some k_ ≠ (u10 : Value).ownBlock) (Kd.R_apart' (HO207.out) (Kd.S_typed HO_10.out) (by decide)) (fun k_ hk => ⟨trivial, hk.2⟩))).1 k_ hk_.symm) ?aF ?aO ?aB ?aS ?aL ?_; (case aP => exact Kd.M_row (Kd.R_mono (Kd.R_tight rfl (Kd.R_mono (ok' := fun k_ => ((fun _ => True)) k_ ∧ some k_ ≠ (u10 : Value).ownBlock) (Kd.R_apart' (HO207.out) (Kd.S_typed HO_10.out) (by decide)) (fun k_ hk => ⟨trivial, hk.2⟩))) (fun _ h_ => h_))); (case aB => exact (viaB HB)); (case aF => exact (fun _ _ => trivial)); (case aO => exact (by (with_reducible repeat (first | apply Kd.S_alloc | apply Kd.S_drewN | apply Kd.S_drew)); exact Kd.S_mono HO_10.out (fun k_ hk => ⟨trivial, fun e_ => hk.2 e_⟩))); (case aS => exact (below_size (viaB HB))); (case aL => have := LMc19.out; omega); intro v209 w83 ho hb hg hat; rw [← Ny208.out] at ho; have HO210 := Aside0.mk (ho); replace HO_205002 := Aside0.mk (Kd.R_over' (viaR HO_205002) (Kd.S_typed (viaS HO_10)) (by decide) hg); replace BK196 := Aside0.mk (blk_grown (g := gb196) (o := .cells #[.int .i64 a0_0, .int .i64 a0_1, .slice A0_2 l0_2.length c0_2] 32 (0, 0)) (viaK BK196) hg (Kd.S_ne HO_10.out BK196.out (by decide))); replace BK197 := Aside0.mk (blk_grown (g := gb197) (o := .cells #[.int .i64 x198000_1, .int .i64 x198001_1, .int .i64 x198002_1] 27 (0, 0)) (viaK BK197) hg (Kd.S_ne HO_10.out BK197.out (by decide))); replace BK198 := Aside0.mk (blk_grown (g := gb198) (o := .cells #[.int .i64 x199000_1, .int .i64 x199001_1, .slice none 0 0] 32 (0, 0)) (viaK BK198) hg (Kd.S_ne HO_10.out BK198.out (by decide))); replace BK204 := Aside0.mk (blk_grown (g := gb204) (o := .cells #[.int .i64 t199, .int .i64 t200, u205002] 32 (0, 0)) (viaK BK204) hg (Kd.S_ne HO_10.out BK204.out (by decide))); replace HB := Aside0.mk (hb); clear HO_10 HO207; clear ho hb hg hat; have hnb85 := NB204_197.out; have hnc85 := NB197_204.out; have hnb86 := NB204_198.out; have hnc86 := NB198_204.out; have hcz87_0 := bc0 BK204; have hcz87_1 := bc1 BK204; have hcz87_2 := bc2 BK204; have hfz87_0 := blk_frozen BK204.out 0; have hfz87_1 := blk_frozen BK204.out 1; have hfz87_2 := blk_frozen BK204.out 2; obtain ⟨Ao88, co88, eo88⟩ := Kd.R_slice HO_205002.out; subst eo88) | ((with_reducible refine gate_callee (f := 83) rfl ?_); refine goesA (some 32) _ #[.agg #[.int .i64 t199, .int .i64 t200, .slice Ao88 x205002_1.length co88], .int .i64 x12_1, .int .i64 x2_1] ?_ Try.func83; (with_reducible refine (spec_boAt.calls t199 t200 _ _ x205002_1 x12_1 x2_1 t211 t212 _ ?side1 ?side2 A20.out).mono ?_); (case side1 => repeat (first | exact (Kd.R_reads' HO_205002.out).2.2 | (with_reducible refine Kd.C_alloc ?_ _) | (with_reducible refine Kd.C_drewN ?_ _) | (with_reducible refine Kd.C_drew ?_))); (case side2 => exact (Kd.R_reads' HO_205002.out).2.1); rintro e w89 ⟨rfl, hb⟩; refine ⟨_, rfl, ?_⟩; replace HO_205002 := Aside0.mk (Kd.R_below (viaR HO_205002) hb); replace HO210 := Aside0.mk (Kd.S_below (viaS HO210) hb); replace BK196 := kB BK196 hb; replace BK197 := kB BK197 hb; replace BK198 := kB BK198 hb; replace BK204 := kB BK204 hb; replace HB := bB HB hb; (try clear hb); (try clear hb2); (try clear hk); (try clear hi)) | ((with_reducible refine gate_dst (N := 13) rfl ?_); refine box_ev (N := 13) (cs := #[.int .i64 0, .int .i64 0]) (t := 89) ?_; intro gb213 hg w90 hbox hb; have BK213 := Aside0.mk (hbox); have GW213 := gW (w := w) HB hg; have GE213 := gW (w := w) HB hg; have NB196_213 := neL BK196 hg; have NB213_196 := neG BK196 hg; have NB197_213 := neL BK197 hg; have NB213_197 := neG BK197 hg; have NB198_213 := neL BK198 hg; have NB213_198 := neG BK198 hg; have NB204_213 := neL BK204 hg; have NB213_204 := neG BK204 hg; replace HO_205002 := Aside0.mk (Kd.R_below (Kd.R_elderB (viaR HO_205002) gb213 (Nat.le_of_eq hg.symm)) hb); replace HO210 := Aside0.mk (Kd.S_below (viaS HO210) hb); replace BK196 := kB BK196 hb; replace BK197 := kB BK197 hb; replace BK198 := kB BK198 hb; replace BK204 := kB BK204 hb; replace HB := bB HB hb; clear hb hbox hg; have hnb91 := NB213_196.out; have hnc91 := NB196_213.out; have hnb92 := NB213_197.out; have hnc92 := NB197_213.out; have hnb93 := NB213_198.out; have hnc93 := NB198_213.out; have hnb94 := NB213_204.out; have hnc94 := NB204_213.out; have hcz95_0 := bc0 BK213; have hcz95_1 := bc1 BK213; have hfz95_0 := blk_frozen BK213.out 0; have hfz95_1 := blk_frozen BK213.out 1) | ((with_reducible refine gate_callee (f := 84) rfl ?_); refine goesA (some 43) _ #[.agg #[.int .i64 t211, .int .i64 t212], .int .i64 x11_1] ?_ Try.func84; (with_reducible refine (spec_paGoes.calls k1 t211 t212 x11_1 t214 _ A49.out).mono ?_); rintro e w96 ⟨rfl, hb⟩; refine ⟨_, rfl, ?_⟩; replace HO_205002 := Aside0.mk (Kd.R_below (by (with_reducible repeat (first | apply Kd.R_alloc | apply Kd.R_drewN | apply Kd.R_drew)); exact (Kd.R_mono (Kd.R_far (p := ⟨gb213, 1, none⟩) (Kd.R_far (p := ⟨gb213, 0, none⟩) (Kd.R_mono HO_205002.out (fun k_ hk => (⟨hk, hk.2⟩ : _ ∧ k_ ≠ gb213))) (fun _ hk => hk.2) (.int .i64 t211)) (fun _ hk => hk.2) (.int .i64 t212)) (fun _ h_ => h_.1))) hb); replace HO210 := Aside0.mk (Kd.S_below (by (with_reducible repeat (first | apply Kd.S_alloc | apply Kd.S_drewN | apply Kd.S_drew)); exact (Kd.S_mono (Kd.S_far (p := ⟨gb213, 1, none⟩) (Kd.S_far (p := ⟨gb213, 0, none⟩) (Kd.S_types HO210.out BK213.out (by decide)) (fun _ hk => hk.2) (.int .i64 t211)) (fun _ hk => hk.2) (.int .i64 t212)) (fun _ h_ => h_.1))) hb); replace BK196 := Aside0.mk (blk_below (g := gb196) (o := .cells #[.int .i64 a0_0, .int .i64 a0_1, .slice A0_2 l0_2.length c0_2] 32 (0, 0)) (by (with_reducible repeat (first | refine blk_drewN ?_ _ | refine blk_drew ?_ | refine blk_alloc ?_ _)); refine blk_far ?_ NB196_213.out _; (with_reducible repeat (first | refine blk_drewN ?_ _ | refine blk_drew ?_ | refine blk_alloc ?_ _)); refine blk_far ?_ NB196_213.out _; (with_reducible repeat (first | refine blk_drewN ?_ _ | refine blk_drew ?_ | refine blk_alloc ?_ _)); exact BK196.out) hb); replace BK197 := Aside0.mk (blk_below (g := gb197) (o := .cells #[.int .i64 x198000_1, .int .i64 x198001_1, .int .i64 x198002_1] 27 (0, 0)) (by (with_reducible repeat (first | refine blk_drewN ?_ _ | refine blk_drew ?_ | refine blk_alloc ?_ _)); refine blk_far ?_ NB197_213.out _; (with_reducible repeat (first | refine blk_drewN ?_ _ | refine blk_drew ?_ | refine blk_alloc ?_ _)); refine blk_far ?_ NB197_213.out _; (with_reducible repeat (first | refine blk_drewN ?_ _ | refine blk_drew ?_ | refine blk_alloc ?_ _)); exact BK197.out) hb); replace BK198 := Aside0.mk (blk_below (g := gb198) (o := .cells #[.int .i64 x199000_1, .int .i64 x199001_1, .slice none 0 0] 32 (0, 0)) (by (with_reducible repeat (first | refine blk_drewN ?_ _ | refine blk_drew ?_ | refine blk_alloc ?_ _)); refine blk_far ?_ NB198_213.out _; (with_reducible repeat (first | refine blk_drewN ?_ _ | refine blk_drew ?_ | refine blk_alloc ?_ _)); refine blk_far ?_ NB198_213.out _; (with_reducible repeat (first | refine blk_drewN ?_ _ | refine blk_drew ?_ | refine blk_alloc ?_ _)); exact BK198.out) hb); replace BK204 := Aside0.mk (blk_below (g := gb204) (o := .cells #[.int .i64 t199, .int .i64 t200, .slice Ao88 x205002_1.length co88] 32 (0, 0)) (by (with_reducible repeat (first | refine blk_drewN ?_ _ | refine blk_drew ?_ | refine blk_alloc ?_ _)); refine blk_far ?_ NB204_213.out _; (with_reducible repeat (first | refine blk_drewN ?_ _ | refine blk_drew ?_ | refine blk_alloc ?_ _)); refine blk_far ?_ NB204_213.out _; (with_reducible repeat (first | refine blk_drewN ?_ _ | refine blk_drew ?_ | refine blk_alloc ?_ _)); exact BK204.out) hb); replace BK213 := Aside0.mk (blk_below (g := gb213) (o := .cells #[.int .i64 t211, .int .i64 t212] 89 (0, 0)) (by (with_reducible repeat (first | refine blk_drewN ?_ _ | refine blk_drew ?_ | refine blk_alloc ?_ _)); refine blk_put (cs := #[.int .i64 t211, .int .i64 0]) ?_ 1 _ rfl; (with_reducible repeat (first | refine blk_drewN ?_ _ | refine blk_drew ?_ | refine blk_alloc ?_ _)); refine blk_put (cs := #[.int .i64 0, .int .i64 0]) ?_ 0 _ rfl; (with_reducible repeat (first | refine blk_drewN ?_ _ | refine blk_drew ?_ | refine blk_alloc ?_ _)); exact BK213.out) hb); replace HB := bB HB hb; (try clear hb); (try clear hb2); (try clear hk); (try clear hi); have hcz97_0 := bc0 BK204; have hcz97_1 := bc1 BK204; have hcz97_2 := bc2 BK204; have hfz97_0 := blk_frozen BK204.out 0; have hfz97_1 := blk_frozen BK204.out 1; have hfz97_2 := blk_frozen BK204.out 2; have hcz98_0 := bc0 BK196; have hcz98_1 := bc1 BK196; have hcz98_2 := bc2 BK196; have hfz98_0 := blk_frozen BK196.out 0; have hfz98_1 := blk_frozen BK196.out 1; have hfz98_2 := blk_frozen BK196.out 2) | ((with_reducible refine gate_callee (f := 85) rfl ?_); refine goesA (some 52) _ #[.agg #[.int .i64 t199, .int .i64 t200, .slice Ao88 x205002_1.length co88], .slice A1 l1.length c1, .int .i64 (wrap64 ((wrap64 (x12_1 * a0_1)) + x2_1))] ?_ Try.func85; (with_reducible refine (spec_flPass.calls k1 t199 t200 (fun k_ => some k_ = (.slice Ao88 x205002_1.length co88 : Value).ownBlock) (.slice Ao88 x205002_1.length co88) x205002_1 _ _ l1 (wrap64 ((wrap64 (x12_1 * a0_1)) + x2_1)) t215 w _ ?side1 ?side2 ?side3 ?side4 A50.out).mono ?_); (case side1 => repeat (first | (with_reducible first | exact HB.out | apply below_alloc | apply pw_below_drewN | apply below_drew1 | refine below_set ?_ GE196.out | refine below_set ?_ GE197.out | refine below_set ?_ GE198.out | refine below_set ?_ GE204.out | refine below_set ?_ GE213.out) | exact HB.out)); (case side2 => exact Kd.R_tight rfl HO_205002.out); (case side3 => exact Kd.C_kept_came (Kd.heap_int .i64) HR1.out (viaB HB) (fun k_ hs_ => (fun e_ => Kd.R_base HO_205002.out k_ e_.symm) hs_)); (case side4 => exact HC1.out); rintro e w99 ⟨rfl, hy0, hb, hkp⟩; refine ⟨_, rfl, ?_⟩; replace BK196 := Aside0.mk (blk_kept (viaK BK196) hkp (fun hs_ => (fun e_ => (Kd.R_ne HO_205002.out BK196.out (by decide)) e_) hs_)); replace BK197 := Aside0.mk (blk_kept (viaK BK197) hkp (fun hs_ => (fun e_ => (Kd.R_ne HO_205002.out BK197.out (by decide)) e_) hs_)); replace BK198 := Aside0.mk (blk_kept (viaK BK198) hkp (fun hs_ => (fun e_ => (Kd.R_ne HO_205002.out BK198.out (by decide)) e_) hs_)); replace BK204 := Aside0.mk (blk_kept (viaK BK204) hkp (fun hs_ => (fun e_ => (Kd.R_ne HO_205002.out BK204.out (by decide)) e_) hs_)); replace HO210 := Aside0.mk (Kd.S_mono (ok' := fun k_ => True) (Kd.S_keptB ((Kd.S_apart' HO210.out (Kd.R_typed HO_205002.out) (by decide))) hkp (fun k_ hk_ hs_ => (hk_.2) hs_)) (fun k_ hk_ => trivial)); replace BK213 := Aside0.mk (blk_kept (viaK BK213) hkp (fun hs_ => (fun e_ => (Kd.R_away HO_205002.out (fun _ hk => hk.2)) e_) hs_)); replace HO_205002 := Aside0.mk (Kd.R_reok rfl hy0 (fun k_ e_ => HO_205002.out.1 k_ e_)); replace HB := Aside0.mk (hb); (try clear hb); (try clear hkp); (try clear hy0); have hcz100_0 := bc0 BK196; have hcz100_1 := bc1 BK196; have hcz100_2 := bc2 BK196; have hfz100_0 := blk_frozen BK196.out 0; have hfz100_1 := blk_frozen BK196.out 1; have hfz100_2 := blk_frozen BK196.out 2) | ((with_reducible refine gate_callee (f := 71) rfl ?_); refine goesA (some 62) _ #[.int .i64 (wrap64 (x2_1 + t214)), .int .i64 0, .int .i64 (wrap64 (a0_1 - 1))] ?_ Try.func71; (with_reducible refine (spec_l1In.calls (wrap64 (x2_1 + t214)) 0 (wrap64 (a0_1 - 1)) false _ A51.out).mono ?_); rintro e w' ⟨rfl, ⟨nd, rfl⟩⟩; refine ⟨_, rfl, ?_⟩; (try (rw [drewN_self w99]; generalize hq_ : World.drewN w99 _ = w99; replace HO210 : Aside0 (Kd.S (Kd.slice 3 (Kd.int .i64)) 43 w99 w.heap.size (fun _ => True) v209 y208) := ⟨by rw [← hq_]; exact (viaS HO210)⟩; replace HO_205002 : Aside0 (Kd.R k89 89 w99 w.heap.size (fun k_ => k_ ≠ gb213) (.slice Ao88 x205002_1.length co88) t215) := ⟨by rw [← hq_]; exact (by (with_reducible repeat (first | apply Kd.R_alloc | apply Kd.R_drewN | apply Kd.R_drew)); exact Kd.R_mono HO_205002.out (fun _ hk => hk.2))⟩; replace BK196 : Aside0 (w99.heap[gb196]? = some (.cells #[.int .i64 a0_0, .int .i64 a0_1, .slice A0_2 l0_2.length c0_2] 32 (0, 0))) := ⟨by rw [← hq_]; exact (viaK BK196)⟩; replace BK197 : Aside0 (w99.heap[gb197]? = some (.cells #[.int .i64 x198000_1, .int .i64 x198001_1, .int .i64 x198002_1] 27 (0, 0))) := ⟨by rw [← hq_]; exact (viaK BK197)⟩; replace BK198 : Aside0 (w99.heap[gb198]? = some (.cells #[.int .i64 x199000_1, .int .i64 x199001_1, .slice none 0 0] 32 (0, 0))) := ⟨by rw [← hq_]; exact (viaK BK198)⟩; replace BK204 : Aside0 (w99.heap[gb204]? = some (.cells #[.int .i64 t199, .int .i64 t200, .slice Ao88 x205002_1.length co88] 32 (0, 0))) := ⟨by rw [← hq_]; exact (viaK BK204)⟩; replace BK213 : Aside0 (w99.heap[gb213]? = some (.cells #[.int .i64 t211, .int .i64 t212] 89 (0, 0))) := ⟨by rw [← hq_]; exact (viaK BK213)⟩; replace HB : Aside0 (Below w.heap.size w w99) := ⟨by rw [← hq_]; exact (viaB HB)⟩; clear hq_))))
       replace HO_205002 := Aside0.mk (Kd.R_drew HO_205002.out)
       replace HO210 := Aside0.mk (Kd.S_drew HO210.out)
       replace BK196 := Aside0.mk (blk_drew BK196.out)
       replace BK197 := Aside0.mk (blk_drew BK197.out)
       replace BK198 := Aside0.mk (blk_drew BK198.out)
       replace BK204 := Aside0.mk (blk_drew BK204.out)
       replace BK213 := Aside0.mk (blk_drew BK213.out)
       replace HB := Aside0.mk (below_drew1 HB.out)
       refine start_ (n := 8) (S := fun w' => w'.cell? ⟨gb204, 0, none⟩ = some (.int .i64 t199) ∧ w'.cell? ⟨gb204, 1, none⟩ = some (.int .i64 t200) ∧ w'.cell? ⟨gb204, 2, none⟩ = some (.slice Ao88 x205002_1.length co88)) (ds := []) #[false, false, false, false, false, false, false, false] (by kernel_rfl) rfl rfl ⟨(blk_cell BK204.out 0).trans rfl, (blk_cell BK204.out 1).trans rfl, (blk_cell BK204.out 2).trans rfl⟩ (fun hHeld => ?_); refine with_tabW spec_flGo.tab16 spec_flGo.bits16 (fun HT_ HW_ => ?_)
       generalize w99.drew = w101 at HO_205002 HO210 BK196 BK197 BK198 BK204 BK213 HB hHeld ⊢
       refine pure_ (i := 0) (N := some 64) (v := ?_) (a' := ?_) #[true, false, false, false, false, false, false, false] rfl rfl (any_of HT_.out (by kernel_rfl)) (fun _ _ _ h => h) (Or.inl ⟨by rfl, ?_⟩) ?_ ?_
       rotate_left
       ·intro w'
        go_simp
        with_reducible rfl
       rotate_left
       ·simp only [Act.put, q1, q2, q3, i64_w, i32_w]
        rfl
       refine pure_ (i := 1) (N := some 65) (v := ?_) (a' := ?_) #[true, true, false, false, false, false, false, false] rfl rfl (any_of HT_.out (by kernel_rfl)) (fun _ _ _ h => h) (Or.inl ⟨by rfl, ?_⟩) ?_ ?_
       rotate_left
       ·intro w'
        go_simp
        with_reducible rfl
       rotate_left
       ·simp only [Act.put, q1, q2, q3, i64_w, i32_w]
        rfl
       refine pure_ (i := 2) (N := some 66) (v := ?_) (a' := ?_) #[true, true, true, false, false, false, false, false] rfl rfl (any_of HT_.out (by kernel_rfl)) (fun _ _ _ h => h) (Or.inl ⟨by rfl, ?_⟩) ?_ ?_
       rotate_left
       ·intro w'
        go_simp
        with_reducible rfl
       rotate_left
       ·simp only [Act.put, q1, q2, q3, i64_w, i32_w]
        rfl
       refine pure_ (i := 4) (N := some 68) (v := ?_) (a' := ?_) #[true, true, true, false, true, false, false, false] rfl rfl (any_of HT_.out (by kernel_rfl)) (fun _ _ _ h => h) (Or.inl ⟨by rfl, ?_⟩) ?_ ?_
       rotate_left
       ·intro w'
        go_simp
        with_reducible rfl
       rotate_left
       ·simp only [Act.put, q1, q2, q3, i64_w, i32_w]
        rfl
       refine take_ (i := 3) (N := some 67) (v := ?_) (a' := ?_) #[true, true, true, true, true, false, false, false] rfl rfl (take_ofW HT_.out HW_.out (by kernel_rfl)) (fun _ _ _ h => h) (Or.inl ⟨by rfl, ?_⟩) hHeld ?_ ?_
       rotate_left
       ·rintro w' ⟨s0, s1, s2⟩
        go_simp
        with_reducible rfl
       rotate_left
       ·simp only [Act.put, q1, q2, q3, i64_w, i32_w]
        rfl
       refine one_ (i := 5) (N := none) #[true, true, true, true, true, true, false, false] rfl rfl (one_of HT_.out (by kernel_rfl)) (by decide) (fun K hK => ?_)
       have hs102 : w101.cell? ⟨gb197, 0, none⟩ = some (.int .i64 x198000_1) := (blk_cell BK197.out 0).trans rfl
       have hfs102 := blk_frozen BK197.out 0
       have hns102_0 := NB196_197.out
       have hns102_2 := NB198_197.out
       have hns102_3 := NB204_197.out
       have hns102_4 := NB213_197.out
       have hms102_0 := NB197_196.out
       have hms102_2 := NB197_198.out
       have hms102_3 := NB197_204.out
       have hms102_4 := NB197_213.out
       have hs103 : w101.cell? ⟨gb197, 1, none⟩ = some (.int .i64 x198001_1) := (blk_cell BK197.out 1).trans rfl
       have hfs103 := blk_frozen BK197.out 1
       have hns103_0 := NB196_197.out
       have hns103_2 := NB198_197.out
       have hns103_3 := NB204_197.out
       have hns103_4 := NB213_197.out
       have hms103_0 := NB197_196.out
       have hms103_2 := NB197_198.out
       have hms103_3 := NB197_204.out
       have hms103_4 := NB197_213.out
       have hs104 : w101.cell? ⟨gb197, 2, none⟩ = some (.int .i64 x198002_1) := (blk_cell BK197.out 2).trans rfl
       have hfs104 := blk_frozen BK197.out 2
       have hns104_0 := NB196_197.out
       have hns104_2 := NB198_197.out
       have hns104_3 := NB204_197.out
       have hns104_4 := NB213_197.out
       have hms104_0 := NB197_196.out
       have hms104_2 := NB197_198.out
       have hms104_3 := NB197_204.out
       have hms104_4 := NB197_213.out
       refine skip_ (w1 := ?_) (by rfl) rfl ?_ ?_
       rotate_left
       ·go_simp
        rfl
       refine hK.out _ _ ⟨((cell_far (p := ⟨gb197, _, none⟩) NB204_197.out _).trans (((cell_far (p := ⟨gb197, _, none⟩) NB204_197.out _).trans (((cell_far (p := ⟨gb197, _, none⟩) NB204_197.out _).trans (hHeld.1)))))), ((cell_far (p := ⟨gb197, _, none⟩) NB204_197.out _).trans (((cell_far (p := ⟨gb197, _, none⟩) NB204_197.out _).trans (((cell_far (p := ⟨gb197, _, none⟩) NB204_197.out _).trans (hHeld.2.1)))))), ((cell_far (p := ⟨gb197, _, none⟩) NB204_197.out _).trans (((cell_far (p := ⟨gb197, _, none⟩) NB204_197.out _).trans (((cell_far (p := ⟨gb197, _, none⟩) NB204_197.out _).trans (hHeld.2.2))))))⟩ (fun hHeld => ?_)
       clear hK K
       refine one_ (i := 6) (N := none) #[true, true, true, true, true, true, true, false] rfl rfl (one_of HT_.out (by kernel_rfl)) (by decide) (fun K hK => ?_)
       have hs105 : w101.cell? ⟨gb198, 0, none⟩ = some (.int .i64 x199000_1) := (blk_cell BK198.out 0).trans rfl
       have hfs105 := blk_frozen BK198.out 0
       have hns105_0 := NB196_198.out
       have hns105_1 := NB197_198.out
       have hns105_3 := NB204_198.out
       have hns105_4 := NB213_198.out
       have hms105_0 := NB198_196.out
       have hms105_1 := NB198_197.out
       have hms105_3 := NB198_204.out
       have hms105_4 := NB198_213.out
       have hs106 : w101.cell? ⟨gb198, 1, none⟩ = some (.int .i64 x199001_1) := (blk_cell BK198.out 1).trans rfl
       have hfs106 := blk_frozen BK198.out 1
       have hns106_0 := NB196_198.out
       have hns106_1 := NB197_198.out
       have hns106_3 := NB204_198.out
       have hns106_4 := NB213_198.out
       have hms106_0 := NB198_196.out
       have hms106_1 := NB198_197.out
       have hms106_3 := NB198_204.out
       have hms106_4 := NB198_213.out
       have hs107 : w101.cell? ⟨gb198, 2, none⟩ = some (.slice none 0 0) := (blk_cell BK198.out 2).trans rfl
       have hfs107 := blk_frozen BK198.out 2
       have hns107_0 := NB196_198.out
       have hns107_1 := NB197_198.out
       have hns107_3 := NB204_198.out
       have hns107_4 := NB213_198.out
       have hms107_0 := NB198_196.out
       have hms107_1 := NB198_197.out
       have hms107_3 := NB198_204.out
       have hms107_4 := NB198_213.out
       refine skip_ (w1 := ?_) (by rfl) rfl ?_ ?_
       rotate_left
       ·go_simp
        rfl
       refine hK.out _ _ ⟨((cell_far (p := ⟨gb198, _, none⟩) NB204_198.out _).trans (((cell_far (p := ⟨gb198, _, none⟩) NB204_198.out _).trans (((cell_far (p := ⟨gb198, _, none⟩) NB204_198.out _).trans (hHeld.1)))))), ((cell_far (p := ⟨gb198, _, none⟩) NB204_198.out _).trans (((cell_far (p := ⟨gb198, _, none⟩) NB204_198.out _).trans (((cell_far (p := ⟨gb198, _, none⟩) NB204_198.out _).trans (hHeld.2.1)))))), ((cell_far (p := ⟨gb198, _, none⟩) NB204_198.out _).trans (((cell_far (p := ⟨gb198, _, none⟩) NB204_198.out _).trans (((cell_far (p := ⟨gb198, _, none⟩) NB204_198.out _).trans (hHeld.2.2))))))⟩ (fun hHeld => ?_)
       clear hK K
       refine pure_ (i := 7) (N := some 8) (v := ?_) (a' := ?_) #[true, true, true, true, true, true, true, true] rfl rfl (any_of HT_.out (by kernel_rfl)) (fun _ _ _ h => h) (Or.inl ⟨by rfl, ?_⟩) ?_ ?_
       rotate_left
       ·intro w'
        go_simp
        with_reducible rfl
       rotate_left
       ·simp only [Act.put, q1, q2, q3, i64_w, i32_w]
        rfl
       refine done_ (done_of HT_.out (by kernel_rfl)) ?_
       try go_wp2
       refine bodyPost_ret (results_list (rs := [.cell 6 27, .cell 7 32, .tmp 8]) rfl (by simp) (.cell gb197 27 #[.int .i64 3, .int .i64 x12_1, .int .i64 (wrap64 (x2_1 + t214))] (0, 0) _ rfl (by (with_reducible repeat (first | refine blk_drewN ?_ _ | refine blk_drew ?_ | refine blk_alloc ?_ _)); refine blk_far ?_ NB197_198.out _; (with_reducible repeat (first | refine blk_drewN ?_ _ | refine blk_drew ?_ | refine blk_alloc ?_ _)); refine blk_far ?_ NB197_198.out _; (with_reducible repeat (first | refine blk_drewN ?_ _ | refine blk_drew ?_ | refine blk_alloc ?_ _)); refine blk_far ?_ NB197_198.out _; (with_reducible repeat (first | refine blk_drewN ?_ _ | refine blk_drew ?_ | refine blk_alloc ?_ _)); refine blk_put (cs := #[.int .i64 3, .int .i64 x12_1, .int .i64 x198002_1]) ?_ 2 _ rfl; (with_reducible repeat (first | refine blk_drewN ?_ _ | refine blk_drew ?_ | refine blk_alloc ?_ _)); refine blk_put (cs := #[.int .i64 3, .int .i64 x198001_1, .int .i64 x198002_1]) ?_ 1 _ rfl; (with_reducible repeat (first | refine blk_drewN ?_ _ | refine blk_drew ?_ | refine blk_alloc ?_ _)); refine blk_put (cs := #[.int .i64 x198000_1, .int .i64 x198001_1, .int .i64 x198002_1]) ?_ 0 _ rfl; (with_reducible repeat (first | refine blk_drewN ?_ _ | refine blk_drew ?_ | refine blk_alloc ?_ _)); exact BK197.out) Try.underlying27 rfl (by kernel_rfl) (.cell gb198 32 #[.int .i64 t199, .int .i64 t200, .slice Ao88 x205002_1.length co88] (0, 0) _ rfl (by (with_reducible repeat (first | refine blk_drewN ?_ _ | refine blk_drew ?_ | refine blk_alloc ?_ _)); refine blk_put (cs := #[.int .i64 t199, .int .i64 t200, .slice none 0 0]) ?_ 2 _ rfl; (with_reducible repeat (first | refine blk_drewN ?_ _ | refine blk_drew ?_ | refine blk_alloc ?_ _)); refine blk_put (cs := #[.int .i64 t199, .int .i64 x199001_1, .slice none 0 0]) ?_ 1 _ rfl; (with_reducible repeat (first | refine blk_drewN ?_ _ | refine blk_drew ?_ | refine blk_alloc ?_ _)); refine blk_put (cs := #[.int .i64 x199000_1, .int .i64 x199001_1, .slice none 0 0]) ?_ 0 _ rfl; (with_reducible repeat (first | refine blk_drewN ?_ _ | refine blk_drew ?_ | refine blk_alloc ?_ _)); refine blk_far ?_ NB198_197.out _; (with_reducible repeat (first | refine blk_drewN ?_ _ | refine blk_drew ?_ | refine blk_alloc ?_ _)); refine blk_far ?_ NB198_197.out _; (with_reducible repeat (first | refine blk_drewN ?_ _ | refine blk_drew ?_ | refine blk_alloc ?_ _)); refine blk_far ?_ NB198_197.out _; (with_reducible repeat (first | refine blk_drewN ?_ _ | refine blk_drew ?_ | refine blk_alloc ?_ _)); exact BK198.out) Try.underlying32 rfl (by kernel_rfl) (.tmp .nil)))) rfl ?_
       exact ⟨_, _, by first | rfl | (simp [errW_none, errW_some] <;> rfl) | (simp [*, errW_none, errW_some] <;> rfl), by (with_reducible repeat (first | apply Kd.R_alloc | apply Kd.R_drewN | apply Kd.R_drew)); exact Kd.R_mono (Kd.R_far (p := ⟨gb198, 2, none⟩) (Kd.R_far (p := ⟨gb198, 1, none⟩) (Kd.R_far (p := ⟨gb198, 0, none⟩) (Kd.R_far (p := ⟨gb197, 2, none⟩) (Kd.R_far (p := ⟨gb197, 1, none⟩) (Kd.R_far (p := ⟨gb197, 0, none⟩) (Kd.R_types (Kd.R_types HO_205002.out BK197.out (by decide)) BK198.out (by decide)) (fun _ hk => hk.1.2) (.int .i64 3)) (fun _ hk => hk.1.2) (.int .i64 x12_1)) (fun _ hk => hk.1.2) (.int .i64 (wrap64 (x2_1 + t214)))) (fun _ hk => hk.2) (.int .i64 t199)) (fun _ hk => hk.2) (.int .i64 t200)) (fun _ hk => hk.2) (.slice Ao88 x205002_1.length co88)) (fun _ hk => trivial), by (with_reducible repeat (first | apply Kd.S_alloc | apply Kd.S_drewN | apply Kd.S_drew)); exact Kd.S_mono (Kd.S_far (p := ⟨gb198, 2, none⟩) (Kd.S_far (p := ⟨gb198, 1, none⟩) (Kd.S_far (p := ⟨gb198, 0, none⟩) (Kd.S_far (p := ⟨gb197, 2, none⟩) (Kd.S_far (p := ⟨gb197, 1, none⟩) (Kd.S_far (p := ⟨gb197, 0, none⟩) (Kd.S_types (Kd.S_types HO210.out BK197.out (by decide)) BK198.out (by decide)) (fun _ hk => hk.1.2) (.int .i64 3)) (fun _ hk => hk.1.2) (.int .i64 x12_1)) (fun _ hk => hk.1.2) (.int .i64 (wrap64 (x2_1 + t214)))) (fun _ hk => hk.2) (.int .i64 t199)) (fun _ hk => hk.2) (.int .i64 t200)) (fun _ hk => hk.2) (.slice Ao88 x205002_1.length co88)) (fun _ hk => trivial), viaB HB⟩
    ·rw [if_neg c19] at H
     exact absurd H (by simp)
   ·rw [if_neg c18] at H
    have c18b0 := decide_eq_false c18
    clear c18
    simp only [Option.some.injEq, Prod.mk.injEq] at H
    obtain ⟨rfl, rfl, rfl, rfl, rfl, rfl, rfl⟩ := H
    have hnb108 := NB196_197.out
    have hnc108 := NB197_196.out
    have hnb109 := NB196_198.out
    have hnc109 := NB198_196.out
    have hnb110 := NB196_204.out
    have hnc110 := NB204_196.out
    have hcz111_0 := bc0 BK196
    have hcz111_1 := bc1 BK196
    have hcz111_2 := bc2 BK196
    have hfz111_0 := blk_frozen BK196.out 0
    have hfz111_1 := blk_frozen BK196.out 1
    have hfz111_2 := blk_frozen BK196.out 2
    try go_wp2
    replace HO_10 := Aside0.mk (Kd.S_drew HO_10.out)
    replace HO_205002 := Aside0.mk (Kd.R_drew HO_205002.out)
    replace BK196 := Aside0.mk (blk_drew BK196.out)
    replace BK197 := Aside0.mk (blk_drew BK197.out)
    replace BK198 := Aside0.mk (blk_drew BK198.out)
    replace BK204 := Aside0.mk (blk_drew BK204.out)
    replace HB := Aside0.mk (below_drew1 HB.out)
    obtain ⟨Ao118, co118, eo118⟩ := Kd.R_slice HO_205002.out
    (first | subst eo118 | (injection eo118 with f1_ f2_ f3_; have f4_ := f1_.symm; have f5_ := f3_.symm; clear f1_ f2_ f3_; subst f4_; subst f5_))
    refine start_ (n := 9) (S := fun w' => w'.cell? ⟨gb196, 0, none⟩ = some (.int .i64 a0_0) ∧ w'.cell? ⟨gb196, 1, none⟩ = some (.int .i64 a0_1) ∧ w'.cell? ⟨gb196, 2, none⟩ = some (.slice A0_2 l0_2.length c0_2) ∧ w'.cell? ⟨gb204, 0, none⟩ = some (.int .i64 t199) ∧ w'.cell? ⟨gb204, 1, none⟩ = some (.int .i64 t200) ∧ w'.cell? ⟨gb204, 2, none⟩ = some (.slice Ao118 x205002_1.length co118)) (ds := []) #[false, false, false, false, false, false, false, false, false] (by kernel_rfl) rfl rfl ⟨(blk_cell BK196.out 0).trans rfl, (blk_cell BK196.out 1).trans rfl, (blk_cell BK196.out 2).trans rfl, (blk_cell BK204.out 0).trans rfl, (blk_cell BK204.out 1).trans rfl, (blk_cell BK204.out 2).trans rfl⟩ (fun hHeld => ?_); refine with_tabW spec_flGo.tab17 spec_flGo.bits17 (fun HT_ HW_ => ?_)
    generalize wr.drew = w112 at HO_10 HO_205002 BK196 BK197 BK198 BK204 HB hHeld ⊢
    refine pure_ (i := 0) (N := some 69) (v := ?_) (a' := ?_) #[true, false, false, false, false, false, false, false, false] rfl rfl (any_of HT_.out (by kernel_rfl)) (fun _ _ _ h => h) (Or.inl ⟨by rfl, ?_⟩) ?_ ?_
    rotate_left
    ·intro w'
     go_simp
     with_reducible rfl
    rotate_left
    ·simp only [Act.put, q1, q2, q3, i64_w, i32_w]
     rfl
    refine pure_ (i := 2) (N := some 71) (v := ?_) (a' := ?_) #[true, false, true, false, false, false, false, false, false] rfl rfl (any_of HT_.out (by kernel_rfl)) (fun _ _ _ h => h) (Or.inl ⟨by rfl, ?_⟩) ?_ ?_
    rotate_left
    ·intro w'
     go_simp
     with_reducible rfl
    rotate_left
    ·simp only [Act.put, q1, q2, q3, i64_w, i32_w]
     rfl
    refine pure_ (i := 5) (N := some 74) (v := ?_) (a' := ?_) #[true, false, true, false, false, true, false, false, false] rfl rfl (any_of HT_.out (by kernel_rfl)) (fun _ _ _ h => h) (Or.inl ⟨by rfl, ?_⟩) ?_ ?_
    rotate_left
    ·intro w'
     go_simp
     with_reducible rfl
    rotate_left
    ·simp only [Act.put, q1, q2, q3, i64_w, i32_w]
     rfl
    refine take_ (i := 1) (N := some 70) (v := ?_) (a' := ?_) #[true, true, true, false, false, true, false, false, false] rfl rfl (take_ofW HT_.out HW_.out (by kernel_rfl)) (fun _ _ _ h => h) (Or.inl ⟨by rfl, ?_⟩) hHeld ?_ ?_
    rotate_left
    ·rintro w' ⟨s0, s1, s2, s3, s4, s5⟩
     go_simp
     with_reducible rfl
    rotate_left
    ·simp only [Act.put, q1, q2, q3, i64_w, i32_w]
     rfl
    refine pure_ (i := 3) (N := some 72) (v := ?_) (a' := ?_) #[true, true, true, true, false, true, false, false, false] rfl rfl (any_of HT_.out (by kernel_rfl)) (fun _ _ _ h => h) (Or.inl ⟨by rfl, ?_⟩) ?_ ?_
    rotate_left
    ·intro w'
     go_simp
     with_reducible rfl
    rotate_left
    ·simp only [Act.put, q1, q2, q3, i64_w, i32_w]
     rfl
    refine take_ (i := 4) (N := some 73) (v := ?_) (a' := ?_) #[true, true, true, true, true, true, false, false, false] rfl rfl (take_ofW HT_.out HW_.out (by kernel_rfl)) (fun _ _ _ h => h) (Or.inl ⟨by rfl, ?_⟩) hHeld ?_ ?_
    rotate_left
    ·rintro w' ⟨s0, s1, s2, s3, s4, s5⟩
     go_simp
     with_reducible rfl
    rotate_left
    ·simp only [Act.put, q1, q2, q3, i64_w, i32_w]
     rfl
    refine one_ (i := 6) (N := none) #[true, true, true, true, true, true, true, false, false] rfl rfl (one_of HT_.out (by kernel_rfl)) (by decide) (fun K hK => ?_)
    have hs113 : w112.cell? ⟨gb197, 0, none⟩ = some (.int .i64 x198000_1) := (blk_cell BK197.out 0).trans rfl
    have hfs113 := blk_frozen BK197.out 0
    have hns113_0 := NB196_197.out
    have hns113_2 := NB198_197.out
    have hns113_3 := NB204_197.out
    have hms113_0 := NB197_196.out
    have hms113_2 := NB197_198.out
    have hms113_3 := NB197_204.out
    have hs114 : w112.cell? ⟨gb197, 1, none⟩ = some (.int .i64 x198001_1) := (blk_cell BK197.out 1).trans rfl
    have hfs114 := blk_frozen BK197.out 1
    have hns114_0 := NB196_197.out
    have hns114_2 := NB198_197.out
    have hns114_3 := NB204_197.out
    have hms114_0 := NB197_196.out
    have hms114_2 := NB197_198.out
    have hms114_3 := NB197_204.out
    have hs115 : w112.cell? ⟨gb197, 2, none⟩ = some (.int .i64 x198002_1) := (blk_cell BK197.out 2).trans rfl
    have hfs115 := blk_frozen BK197.out 2
    have hns115_0 := NB196_197.out
    have hns115_2 := NB198_197.out
    have hns115_3 := NB204_197.out
    have hms115_0 := NB197_196.out
    have hms115_2 := NB197_198.out
    have hms115_3 := NB197_204.out
    refine skip_ (w1 := ?_) (by rfl) rfl ?_ ?_
    rotate_left
    ·go_simp
     rfl
    refine hK.out _ _ ⟨((cell_far (p := ⟨gb197, _, none⟩) NB196_197.out _).trans (((cell_far (p := ⟨gb197, _, none⟩) NB196_197.out _).trans (((cell_far (p := ⟨gb197, _, none⟩) NB196_197.out _).trans (hHeld.1)))))), ((cell_far (p := ⟨gb197, _, none⟩) NB196_197.out _).trans (((cell_far (p := ⟨gb197, _, none⟩) NB196_197.out _).trans (((cell_far (p := ⟨gb197, _, none⟩) NB196_197.out _).trans (hHeld.2.1)))))), ((cell_far (p := ⟨gb197, _, none⟩) NB196_197.out _).trans (((cell_far (p := ⟨gb197, _, none⟩) NB196_197.out _).trans (((cell_far (p := ⟨gb197, _, none⟩) NB196_197.out _).trans (hHeld.2.2.1)))))), ((cell_far (p := ⟨gb197, _, none⟩) NB204_197.out _).trans (((cell_far (p := ⟨gb197, _, none⟩) NB204_197.out _).trans (((cell_far (p := ⟨gb197, _, none⟩) NB204_197.out _).trans (hHeld.2.2.2.1)))))), ((cell_far (p := ⟨gb197, _, none⟩) NB204_197.out _).trans (((cell_far (p := ⟨gb197, _, none⟩) NB204_197.out _).trans (((cell_far (p := ⟨gb197, _, none⟩) NB204_197.out _).trans (hHeld.2.2.2.2.1)))))), ((cell_far (p := ⟨gb197, _, none⟩) NB204_197.out _).trans (((cell_far (p := ⟨gb197, _, none⟩) NB204_197.out _).trans (((cell_far (p := ⟨gb197, _, none⟩) NB204_197.out _).trans (hHeld.2.2.2.2.2))))))⟩ (fun hHeld => ?_)
    clear hK K
    refine one_ (i := 7) (N := none) #[true, true, true, true, true, true, true, true, false] rfl rfl (one_of HT_.out (by kernel_rfl)) (by decide) (fun K hK => ?_)
    have hs116 : w112.cell? ⟨gb198, 0, none⟩ = some (.int .i64 x199000_1) := (blk_cell BK198.out 0).trans rfl
    have hfs116 := blk_frozen BK198.out 0
    have hns116_0 := NB196_198.out
    have hns116_1 := NB197_198.out
    have hns116_3 := NB204_198.out
    have hms116_0 := NB198_196.out
    have hms116_1 := NB198_197.out
    have hms116_3 := NB198_204.out
    have hs117 : w112.cell? ⟨gb198, 1, none⟩ = some (.int .i64 x199001_1) := (blk_cell BK198.out 1).trans rfl
    have hfs117 := blk_frozen BK198.out 1
    have hns117_0 := NB196_198.out
    have hns117_1 := NB197_198.out
    have hns117_3 := NB204_198.out
    have hms117_0 := NB198_196.out
    have hms117_1 := NB198_197.out
    have hms117_3 := NB198_204.out
    have hs119 : w112.cell? ⟨gb198, 2, none⟩ = some (.slice none 0 0) := (blk_cell BK198.out 2).trans rfl
    have hfs119 := blk_frozen BK198.out 2
    have hns119_0 := NB196_198.out
    have hns119_1 := NB197_198.out
    have hns119_3 := NB204_198.out
    have hms119_0 := NB198_196.out
    have hms119_1 := NB198_197.out
    have hms119_3 := NB198_204.out
    refine skip_ (w1 := ?_) (by rfl) rfl ?_ ?_
    rotate_left
    ·go_simp
     rfl
    refine hK.out _ _ ⟨((cell_far (p := ⟨gb198, _, none⟩) NB196_198.out _).trans (((cell_far (p := ⟨gb198, _, none⟩) NB196_198.out _).trans (((cell_far (p := ⟨gb198, _, none⟩) NB196_198.out _).trans (hHeld.1)))))), ((cell_far (p := ⟨gb198, _, none⟩) NB196_198.out _).trans (((cell_far (p := ⟨gb198, _, none⟩) NB196_198.out _).trans (((cell_far (p := ⟨gb198, _, none⟩) NB196_198.out _).trans (hHeld.2.1)))))), ((cell_far (p := ⟨gb198, _, none⟩) NB196_198.out _).trans (((cell_far (p := ⟨gb198, _, none⟩) NB196_198.out _).trans (((cell_far (p := ⟨gb198, _, none⟩) NB196_198.out _).trans (hHeld.2.2.1)))))), ((cell_far (p := ⟨gb198, _, none⟩) NB204_198.out _).trans (((cell_far (p := ⟨gb198, _, none⟩) NB204_198.out _).trans (((cell_far (p := ⟨gb198, _, none⟩) NB204_198.out _).trans (hHeld.2.2.2.1)))))), ((cell_far (p := ⟨gb198, _, none⟩) NB204_198.out _).trans (((cell_far (p := ⟨gb198, _, none⟩) NB204_198.out _).trans (((cell_far (p := ⟨gb198, _, none⟩) NB204_198.out _).trans (hHeld.2.2.2.2.1)))))), ((cell_far (p := ⟨gb198, _, none⟩) NB204_198.out _).trans (((cell_far (p := ⟨gb198, _, none⟩) NB204_198.out _).trans (((cell_far (p := ⟨gb198, _, none⟩) NB204_198.out _).trans (hHeld.2.2.2.2.2))))))⟩ (fun hHeld => ?_)
    clear hK K
    refine pure_ (i := 8) (N := some 8) (v := ?_) (a' := ?_) #[true, true, true, true, true, true, true, true, true] rfl rfl (any_of HT_.out (by kernel_rfl)) (fun _ _ _ h => h) (Or.inl ⟨by rfl, ?_⟩) ?_ ?_
    rotate_left
    ·intro w'
     go_simp
     with_reducible rfl
    rotate_left
    ·simp only [Act.put, q1, q2, q3, i64_w, i32_w]
     rfl
    refine done_ (done_of HT_.out (by kernel_rfl)) ?_
    try go_wp2
    refine bodyPost_ret (results_list (rs := [.cell 6 27, .cell 7 32, .tmp 8]) rfl (by simp) (.cell gb197 27 #[.int .i64 1, .int .i64 a0_0, .int .i64 x2_1] (0, 0) _ rfl (by (with_reducible repeat (first | refine blk_drewN ?_ _ | refine blk_drew ?_ | refine blk_alloc ?_ _)); refine blk_far ?_ NB197_198.out _; (with_reducible repeat (first | refine blk_drewN ?_ _ | refine blk_drew ?_ | refine blk_alloc ?_ _)); refine blk_far ?_ NB197_198.out _; (with_reducible repeat (first | refine blk_drewN ?_ _ | refine blk_drew ?_ | refine blk_alloc ?_ _)); refine blk_far ?_ NB197_198.out _; (with_reducible repeat (first | refine blk_drewN ?_ _ | refine blk_drew ?_ | refine blk_alloc ?_ _)); refine blk_put (cs := #[.int .i64 1, .int .i64 a0_0, .int .i64 x198002_1]) ?_ 2 _ rfl; (with_reducible repeat (first | refine blk_drewN ?_ _ | refine blk_drew ?_ | refine blk_alloc ?_ _)); refine blk_put (cs := #[.int .i64 1, .int .i64 x198001_1, .int .i64 x198002_1]) ?_ 1 _ rfl; (with_reducible repeat (first | refine blk_drewN ?_ _ | refine blk_drew ?_ | refine blk_alloc ?_ _)); refine blk_put (cs := #[.int .i64 x198000_1, .int .i64 x198001_1, .int .i64 x198002_1]) ?_ 0 _ rfl; (with_reducible repeat (first | refine blk_drewN ?_ _ | refine blk_drew ?_ | refine blk_alloc ?_ _)); exact BK197.out) Try.underlying27 rfl (by kernel_rfl) (.cell gb198 32 #[.int .i64 t199, .int .i64 t200, .slice Ao118 x205002_1.length co118] (0, 0) _ rfl (by (with_reducible repeat (first | refine blk_drewN ?_ _ | refine blk_drew ?_ | refine blk_alloc ?_ _)); refine blk_put (cs := #[.int .i64 t199, .int .i64 t200, .slice none 0 0]) ?_ 2 _ rfl; (with_reducible repeat (first | refine blk_drewN ?_ _ | refine blk_drew ?_ | refine blk_alloc ?_ _)); refine blk_put (cs := #[.int .i64 t199, .int .i64 x199001_1, .slice none 0 0]) ?_ 1 _ rfl; (with_reducible repeat (first | refine blk_drewN ?_ _ | refine blk_drew ?_ | refine blk_alloc ?_ _)); refine blk_put (cs := #[.int .i64 x199000_1, .int .i64 x199001_1, .slice none 0 0]) ?_ 0 _ rfl; (with_reducible repeat (first | refine blk_drewN ?_ _ | refine blk_drew ?_ | refine blk_alloc ?_ _)); refine blk_far ?_ NB198_197.out _; (with_reducible repeat (first | refine blk_drewN ?_ _ | refine blk_drew ?_ | refine blk_alloc ?_ _)); refine blk_far ?_ NB198_197.out _; (with_reducible repeat (first | refine blk_drewN ?_ _ | refine blk_drew ?_ | refine blk_alloc ?_ _)); refine blk_far ?_ NB198_197.out _; (with_reducible repeat (first | refine blk_drewN ?_ _ | refine blk_drew ?_ | refine blk_alloc ?_ _)); exact BK198.out) Try.underlying32 rfl (by kernel_rfl) (.tmp .nil)))) rfl ?_
    exact ⟨_, _, by first | rfl | (simp [errW_none, errW_some] <;> rfl) | (simp [*, errW_none, errW_some] <;> rfl), by (with_reducible repeat (first | apply Kd.R_alloc | apply Kd.R_drewN | apply Kd.R_drew)); exact Kd.R_mono (Kd.R_far (p := ⟨gb198, 2, none⟩) (Kd.R_far (p := ⟨gb198, 1, none⟩) (Kd.R_far (p := ⟨gb198, 0, none⟩) (Kd.R_far (p := ⟨gb197, 2, none⟩) (Kd.R_far (p := ⟨gb197, 1, none⟩) (Kd.R_far (p := ⟨gb197, 0, none⟩) (Kd.R_types (Kd.R_types HO_205002.out BK197.out (by decide)) BK198.out (by decide)) (fun _ hk => hk.1.2) (.int .i64 1)) (fun _ hk => hk.1.2) (.int .i64 a0_0)) (fun _ hk => hk.1.2) (.int .i64 x2_1)) (fun _ hk => hk.2) (.int .i64 t199)) (fun _ hk => hk.2) (.int .i64 t200)) (fun _ hk => hk.2) (.slice Ao118 x205002_1.length co118)) (fun _ hk => trivial), by (with_reducible repeat (first | apply Kd.S_alloc | apply Kd.S_drewN | apply Kd.S_drew)); exact Kd.S_mono (Kd.S_far (p := ⟨gb198, 2, none⟩) (Kd.S_far (p := ⟨gb198, 1, none⟩) (Kd.S_far (p := ⟨gb198, 0, none⟩) (Kd.S_far (p := ⟨gb197, 2, none⟩) (Kd.S_far (p := ⟨gb197, 1, none⟩) (Kd.S_far (p := ⟨gb197, 0, none⟩) (Kd.S_types (Kd.S_types HO_10.out BK197.out (by decide)) BK198.out (by decide)) (fun _ hk => hk.1.2) (.int .i64 1)) (fun _ hk => hk.1.2) (.int .i64 a0_0)) (fun _ hk => hk.1.2) (.int .i64 x2_1)) (fun _ hk => hk.2) (.int .i64 t199)) (fun _ hk => hk.2) (.int .i64 t200)) (fun _ hk => hk.2) (.slice Ao118 x205002_1.length co118)) (fun _ hk => trivial), viaB HB⟩

end Go.Proofs.Ytoklfgjemfojgaa.PAll
