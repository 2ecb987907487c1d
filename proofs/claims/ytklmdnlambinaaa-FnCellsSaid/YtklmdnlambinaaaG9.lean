/- Began as a text that print.sh wrote (of the functions named below); turned and shortened by this session. -/
import Derived.Test.YtklmdnlambinaaaG0
import Derived.Test.YtklmdnlambinaaaG1
import Derived.Test.YtklmdnlambinaaaG2
import Derived.Test.YtklmdnlambinaaaG4
namespace Go.Proofs.Ytklmdnlambinaaa.PAll
open Go.RowKit Go.Proofs.YtklmdnlambinaaaW.PrintWords Go.Proofs.YtklmdnlambinaaaW.PrintLast Go.Proofs.YtklmdnlambinaaaW.PrintMore
attribute [local go_sem] max2_int min2_int max_two min_two max_three min_three max_four min_four   -- for this text's walks alone
set_option linter.unusedVariables false
set_option linter.unusedSimpArgs false

/-! ### spec_DrawGoesTo: function 16 -/
def spec_DrawGoesTo.f (k : Nat) (l0 : List Int) : Option (Int × Int × Int) := (spec_mkCur.f l0).bind fun bt205 => ((spec_l1Cur_anyCell.f k bt205.1 bt205.2.1 bt205.2.2).bind fun bt209 => ((spec_l1Cur_among.f bt205.1 bt209.2.2.1 bt209.2.2.2 (([2, (-2)] : List Int))).bind fun bt216 => ((spec_l1Cur_among.f bt205.1 bt216.2.1 bt216.2.2 (([(-1), 0, 1, (-1), 0, 1, bt216.1] : List Int))).bind fun bt222 => (some (bt209.1, bt209.2.1, bt222.1)))))
set_option maxHeartbeats 8000000 in
set_option maxRecDepth 100000 in
theorem spec_DrawGoesTo.calls (k : Nat) (A0 : Option Addr) (c0 : Nat) (l0 : List Int) (r1 : Int) (r2 : Int) (r3 : Int) (w : World) (hr0 : Kd.C (Kd.int .u8) w A0 l0.length l0) (hc0 : l0.length ≤ c0) (h : spec_DrawGoesTo.f k l0 = some (r1, r2, r3)) :
 Calls Try.prog 16 #[.slice A0 l0.length c0] w fun e w' => e = .returned (.tuple #[.agg #[.int .i64 r1, .int .i64 r2], .int .i64 r3]) ∧ Below w.heap.size w w' := by
 have AQ := Try.underlying25
 have AR := Try.underlying56
 have AP := Z.m hr0
 have AU := Z.m hc0
 clear hr0 hc0
 have HB := Z.m (Below.refl w.heap.size w)
 have H : ((spec_mkCur.f l0).bind fun bt205 => ((spec_l1Cur_anyCell.f k bt205.1 bt205.2.1 bt205.2.2).bind fun bt209 => ((spec_l1Cur_among.f bt205.1 bt209.2.2.1 bt209.2.2.2 (([2, (-2)] : List Int))).bind fun bt216 => ((spec_l1Cur_among.f bt205.1 bt216.2.1 bt216.2.2 (([(-1), 0, 1, (-1), 0, 1, bt216.1] : List Int))).bind fun bt222 => (some (bt209.1, bt209.2.1, bt222.1)))))) = some (r1, r2, r3) := h
 clear h
 replace H := Option.bind_eq_some_iff.mp H
 obtain ⟨⟨A9, Ar, As⟩, AJ, H⟩ := H
 replace H : ((spec_l1Cur_anyCell.f k A9 Ar As).bind fun bt209 => ((spec_l1Cur_among.f A9 bt209.2.2.1 bt209.2.2.2 (([2, (-2)] : List Int))).bind fun bt216 => ((spec_l1Cur_among.f A9 bt216.2.1 bt216.2.2 (([(-1), 0, 1, (-1), 0, 1, bt216.1] : List Int))).bind fun bt222 => (some (bt209.1, bt209.2.1, bt222.1))))) = some (r1, r2, r3) := H
 have A2 := Z.m AJ
 clear AJ
 replace H := Option.bind_eq_some_iff.mp H
 obtain ⟨⟨Af, Ag, Am, An⟩, AK, H⟩ := H
 replace H : ((spec_l1Cur_among.f A9 Am An (([2, (-2)] : List Int))).bind fun bt216 => ((spec_l1Cur_among.f A9 bt216.2.1 bt216.2.2 (([(-1), 0, 1, (-1), 0, 1, bt216.1] : List Int))).bind fun bt222 => (some (Af, Ag, bt222.1)))) = some (r1, r2, r3) := H
 have A3 := Z.m AK
 clear AK
 obtain ⟨At, Ad⟩ : ∃ y_ : List Int, y_ = (([2, (-2)] : List Int)) := ⟨_, rfl⟩
 replace H : ((spec_l1Cur_among.f A9 Am An At).bind fun bt216 => ((spec_l1Cur_among.f A9 bt216.2.1 bt216.2.2 (([(-1), 0, 1, (-1), 0, 1, bt216.1] : List Int))).bind fun bt222 => (some (Af, Ag, bt222.1)))) = some (r1, r2, r3) := by first | (rw [Ad]; with_reducible exact H) | (have H2_ := (Option.bind_some _ _).symm.trans H; rw [Ad]; with_reducible exact H2_) | (have H2_ := (Option.bind_some _ _).symm.trans H; with_reducible exact H2_) | with_reducible exact H | (rw [Ad]; exact H) | exact H
 have Ao := Z.m Ad
 clear Ad
 replace H := Option.bind_eq_some_iff.mp H
 obtain ⟨⟨Ah, Aj, Ak⟩, AL, H⟩ := H
 replace H : ((spec_l1Cur_among.f A9 Aj Ak (([(-1), 0, 1, (-1), 0, 1, Ah] : List Int))).bind fun bt222 => (some (Af, Ag, bt222.1))) = some (r1, r2, r3) := H
 have A4 := Z.m AL
 clear AL
 obtain ⟨Au, Ae⟩ : ∃ y_ : List Int, y_ = (([(-1), 0, 1, (-1), 0, 1, Ah] : List Int)) := ⟨_, rfl⟩
 replace H : ((spec_l1Cur_among.f A9 Aj Ak Au).bind fun bt222 => (some (Af, Ag, bt222.1))) = some (r1, r2, r3) := by first | (rw [Ae]; with_reducible exact H) | (have H2_ := (Option.bind_some _ _).symm.trans H; rw [Ae]; with_reducible exact H2_) | (have H2_ := (Option.bind_some _ _).symm.trans H; with_reducible exact H2_) | with_reducible exact H | (rw [Ae]; exact H) | exact H
 have Ap := Z.m Ae
 clear Ae
 replace H := Option.bind_eq_some_iff.mp H
 obtain ⟨⟨Aw, AH, AI⟩, AM, H⟩ := H
 replace H : (some (Af, Ag, Aw)) = some (r1, r2, r3) := H
 have A5 := Z.m AM
 clear AM
 simp only [Option.some.injEq, Prod.mk.injEq] at H
 obtain ⟨rfl, rfl, rfl⟩ := H
 go_enter Try.func16, Try.ntmps16
 go_wp2_with (first | ((with_reducible refine gq (N := 2) rfl ?_); refine be (N := 2) (cs := #[.int .i64 0, .int .i64 0]) (t := 25) ?_; intro Ab hg w6 hbox hb; have A6 := Z.m (hbox); have Av := gW (w := w) HB hg; have Aa := Av; replace HB := bB HB hb; clear hb hbox hg) | ((with_reducible refine gq (N := 7) rfl ?_); refine be (N := 7) (cs := #[.slice A0 l0.length c0, .int .i64 0, .int .u64 0]) (t := 56) ?_; intro g208 hgq w7 hboxq Aq; have hb : Below w.heap.size w w7 := below_step (vB HB) Aq; have hi : IsS56 w w7 g208 A9 Ar As := IsS56.made A2.o hboxq (by rw [hgq]; exact (below_size (vB HB))) AP.o; clear hgq hboxq; have HI208 := Z.m (hi); have A1 := Z.m (IsS56.ne_blk hi (qb (g := Ab) (o := .cells #[.int .i64 0, .int .i64 0] 25 (0, 0)) (vK A6) Aq) (by decide)); have A8 := Z.m (Ne.symm (IsS56.ne_blk hi (qb (g := Ab) (o := .cells #[.int .i64 0, .int .i64 0] 25 (0, 0)) (vK A6) Aq) (by decide))); replace A6 := Z.m (qb (g := Ab) (o := .cells #[.int .i64 0, .int .i64 0] 25 (0, 0)) (vK A6) Aq); replace HB := Z.m (hb); (try clear hb); (try clear Aq); (try clear hk); (try clear hi)) | ((with_reducible refine gc (f := 43) rfl ?_); refine gA (some 9) _ #[.pointer (some ⟨g208, 0, none⟩)] ?_ Try.func43; (with_reducible refine (spec_l1Cur_anyCell.calls k g208 A9 Ar As Af Ag Am An w _ ?side1 ?side2 A3.o).mono ?_); (case side1 => repeat (first | (with_reducible first | exact HI208.o | apply IsS56.alloc | apply IsS56.drewN | apply IsS56.drew | apply IsS56.set_1 | apply IsS56.set_2 | refine IsS56.far ?_ A1.o _) | exact HI208.o)); (case side2 => repeat (first | (with_reducible first | exact HB.o | apply qa | apply qn | apply qd | refine qx ?_ (IsS56.ge HI208.o) | refine qx ?_ Aa.o) | exact HB.o)); rintro e w8 ⟨rfl, hi, hb, hk⟩; refine ⟨_, rfl, ?_⟩; replace A6 := Z.m (KeepBut.blk hk (g' := Ab) (o := .cells #[.int .i64 0, .int .i64 0] 25 (0, 0)) (vK A6) A8.o (by simp)); replace HB := Z.m (hb); replace HI208 := Z.m (hi); (try clear hb); (try clear Aq); (try clear hk); (try clear hi)) | ((with_reducible refine gq (N := 12) rfl ?_); refine Kd.R_lit (Kd.int .i64) _ 3 ?hg (N := 12) ?hd (xs := ([2, (-2)] : List Int)) (inner := [.int .i64 2, .int .i64 (-2)]) (ok := fun _ => True) (okp := fun _ => True) ?hr ?hp (fun _ hk => hk) trivial (Below.refl _ _) (Nat.le_refl _) (by simp) ?_; (case hd => rfl); (case hg => rfl); (case hr => first | (go_simp; done) | (go_simp; rfl)); (case hp => exact (Reps.one (show Kd.M (Kd.int .i64) _ _ _ 2 [.int .i64 2] from rfl) (Reps.one (show Kd.M (Kd.int .i64) _ _ _ (-2) [.int .i64 (-2)] from rfl) (Reps.none _ _)))); intro AS w9 Al hb hg_ hnew_; clear hg_ hnew_; (first | rw [← Ao.o] at Al | (simp only [Int.reduceToNat] at Al; rw [← Ao.o] at Al)); have A7 := Z.m (Kd.R_lower Al (below_size (by repeat (first | (with_reducible first | exact HB.o | apply qa | apply qn | apply qd | refine qx ?_ (IsS56.ge HI208.o) | refine qx ?_ Aa.o) | exact HB.o)))); replace A6 := kB A6 hb; replace HB := Z.m (below_step (by repeat (first | (with_reducible first | exact HB.o | apply qa | apply qn | apply qd | refine qx ?_ (IsS56.ge HI208.o) | refine qx ?_ Aa.o) | exact HB.o)) hb); replace HI208 := Z.m (IsS56.below (by repeat (first | (with_reducible first | exact HI208.o | apply IsS56.alloc | apply IsS56.drewN | apply IsS56.drew | apply IsS56.set_1 | apply IsS56.set_2 | refine IsS56.far ?_ A1.o _) | exact HI208.o)) hb); clear hb Al; obtain ⟨AB, AD, AF⟩ := Kd.R_slice A7.o; subst AF) | ((with_reducible refine gc (f := 44) rfl ?_); refine gA (some 13) _ #[.pointer (some ⟨g208, 0, none⟩), .slice AB At.length AD] ?_ Try.func44; (with_reducible refine (spec_l1Cur_among.calls g208 A9 Am An _ _ At Ah Aj Ak w _ ?side1 ?side2 ?side3 ?side4 ?side5 A4.o).mono ?_); (case side1 => repeat (first | (with_reducible first | exact HI208.o | apply IsS56.alloc | apply IsS56.drewN | apply IsS56.drew | apply IsS56.set_1 | apply IsS56.set_2 | refine IsS56.far ?_ A1.o _) | exact HI208.o)); (case side2 => repeat (first | (with_reducible first | exact HB.o | apply qa | apply qn | apply qd | refine qx ?_ (IsS56.ge HI208.o) | refine qx ?_ Aa.o) | exact HB.o)); (case side3 => repeat (first | exact (Kd.RrZ A7.o).2.2 | (with_reducible refine Kd.C_alloc ?_ _) | (with_reducible refine Kd.C_drewN ?_ _) | (with_reducible refine Kd.C_drew ?_))); (case side4 => exact (Kd.RrZ A7.o).2.1); (case side5 => exact far_slice (IsS56.own_ne HI208.o A7.o (by decide))); rintro e AV ⟨rfl, hi, hb, hk⟩; refine ⟨_, rfl, ?_⟩; replace A6 := Z.m (KeepBut.blk hk (g' := Ab) (o := .cells #[.int .i64 0, .int .i64 0] 25 (0, 0)) (vK A6) A8.o (by simp)); replace A7 := Z.m (Kd.Rm (Kd.R_keep (IsS56.apart (show IsS56 w _ g208 A9 Am An from by repeat (first | (with_reducible first | exact HI208.o | apply IsS56.alloc | apply IsS56.drewN | apply IsS56.drew | apply IsS56.set_1 | apply IsS56.set_2 | refine IsS56.far ?_ A1.o _) | exact HI208.o)) (vR A7) (by decide)) hk (fun _ h => h.2)) (fun _ h => h.1)); replace HB := Z.m (hb); replace HI208 := Z.m (hi); (try clear hb); (try clear Aq); (try clear hk); (try clear hi)) | ((with_reducible refine gq (N := 14) rfl ?_); refine Kd.R_lit (Kd.int .i64) _ 3 ?hg (N := 14) ?hd (xs := ([(-1), 0, 1, (-1), 0, 1, Ah] : List Int)) (inner := [.int .i64 (-1), .int .i64 0, .int .i64 1, .int .i64 (-1), .int .i64 0, .int .i64 1, .int .i64 Ah]) (ok := fun _ => True) (okp := fun _ => True) ?hr ?hp (fun _ hk => hk) trivial (Below.refl _ _) (Nat.le_refl _) (by simp) ?_; (case hd => rfl); (case hg => rfl); (case hr => first | (go_simp; done) | (go_simp; rfl)); (case hp => exact (Reps.one (show Kd.M (Kd.int .i64) _ _ _ (-1) [.int .i64 (-1)] from rfl) (Reps.one (show Kd.M (Kd.int .i64) _ _ _ 0 [.int .i64 0] from rfl) (Reps.one (show Kd.M (Kd.int .i64) _ _ _ 1 [.int .i64 1] from rfl) (Reps.one (show Kd.M (Kd.int .i64) _ _ _ (-1) [.int .i64 (-1)] from rfl) (Reps.one (show Kd.M (Kd.int .i64) _ _ _ 0 [.int .i64 0] from rfl) (Reps.one (show Kd.M (Kd.int .i64) _ _ _ 1 [.int .i64 1] from rfl) (Reps.one (show Kd.M (Kd.int .i64) _ _ _ Ah [.int .i64 Ah] from rfl) (Reps.none _ _))))))))); intro AT AW Ai hb hg_ hnew_; clear hg_ hnew_; (first | rw [← Ap.o] at Ai | (simp only [Int.reduceToNat] at Ai; rw [← Ap.o] at Ai)); have Ac := Z.m (Kd.R_lower (Kd.R_new' Ai (Kd.R_lt (vR A7))) (below_size (by repeat (first | (with_reducible first | exact HB.o | apply qa | apply qn | apply qd | refine qx ?_ (IsS56.ge HI208.o) | refine qx ?_ Aa.o) | exact HB.o)))); replace A7 := Z.m (Kd.R_elder' (vR A7) (Kd.R_base Ai) hb); replace A6 := kB A6 hb; replace HB := Z.m (below_step (by repeat (first | (with_reducible first | exact HB.o | apply qa | apply qn | apply qd | refine qx ?_ (IsS56.ge HI208.o) | refine qx ?_ Aa.o) | exact HB.o)) hb); replace HI208 := Z.m (IsS56.below (by repeat (first | (with_reducible first | exact HI208.o | apply IsS56.alloc | apply IsS56.drewN | apply IsS56.drew | apply IsS56.set_1 | apply IsS56.set_2 | refine IsS56.far ?_ A1.o _) | exact HI208.o)) hb); clear hb Ai; obtain ⟨AC, AE, AG⟩ := Kd.R_slice Ac.o; subst AG) | ((with_reducible refine gc (f := 44) rfl ?_); refine gA (some 15) _ #[.pointer (some ⟨g208, 0, none⟩), .slice AC Au.length AE] ?_ Try.func44; (with_reducible refine (spec_l1Cur_among.calls g208 A9 Aj Ak _ _ Au Aw AH AI w _ ?side1 ?side2 ?side3 ?side4 ?side5 A5.o).mono ?_); (case side1 => repeat (first | (with_reducible first | exact HI208.o | apply IsS56.alloc | apply IsS56.drewN | apply IsS56.drew | apply IsS56.set_1 | apply IsS56.set_2 | refine IsS56.far ?_ A1.o _) | exact HI208.o)); (case side2 => repeat (first | (with_reducible first | exact HB.o | apply qa | apply qn | apply qd | refine qx ?_ (IsS56.ge HI208.o) | refine qx ?_ Aa.o) | exact HB.o)); (case side3 => repeat (first | exact (Kd.RrZ Ac.o).2.2 | (with_reducible refine Kd.C_alloc ?_ _) | (with_reducible refine Kd.C_drewN ?_ _) | (with_reducible refine Kd.C_drew ?_))); (case side4 => exact (Kd.RrZ Ac.o).2.1); (case side5 => exact far_slice (IsS56.own_ne HI208.o Ac.o (by decide))); rintro e AX ⟨rfl, hi, hb, hk⟩; refine ⟨_, rfl, ?_⟩; replace A6 := Z.m (KeepBut.blk hk (g' := Ab) (o := .cells #[.int .i64 0, .int .i64 0] 25 (0, 0)) (vK A6) A8.o (by simp)); replace A7 := Z.m (Kd.Rm (Kd.R_keep (IsS56.apart (show IsS56 w _ g208 A9 Aj Ak from by repeat (first | (with_reducible first | exact HI208.o | apply IsS56.alloc | apply IsS56.drewN | apply IsS56.drew | apply IsS56.set_1 | apply IsS56.set_2 | refine IsS56.far ?_ A1.o _) | exact HI208.o)) (vR A7) (by decide)) hk (fun _ h => h.2)) (fun _ h => h.1)); replace Ac := Z.m (Kd.Rm (Kd.R_keep (IsS56.apart (show IsS56 w _ g208 A9 Aj Ak from by repeat (first | (with_reducible first | exact HI208.o | apply IsS56.alloc | apply IsS56.drewN | apply IsS56.drew | apply IsS56.set_1 | apply IsS56.set_2 | refine IsS56.far ?_ A1.o _) | exact HI208.o)) (vR Ac) (by decide)) hk (fun _ h => h.2)) (fun _ h => h.1)); replace HB := Z.m (hb); replace HI208 := Z.m (hi); (try clear hb); (try clear Aq); (try clear hk); (try clear hi); have AN := A8.o; have AO := A1.o; have Ax := bc0 A6; have Ay := bc1 A6; have Az := qz A6.o 0; have AA := qz A6.o 1))
 refine bodyPost_ret (results_ct rfl _ _ Ab 25 #[.int .i64 Af, .int .i64 Ag] (0, 0) _ rfl (by refine bK ?_; refine qp (cs := #[iV Af, iV 0]) ?_ 1 _ rfl; refine bK ?_; refine qp (cs := #[iV 0, iV 0]) ?_ 0 _ rfl; refine bK ?_; exact A6.o) Try.underlying25 rfl (by kernel_rfl)) rfl ?_
 exact ⟨by first | rfl | (simp [eN, eS] <;> rfl) | (simp [*, eN, eS] <;> rfl), by repeat (first | (with_reducible first | exact HB.o | apply qa | apply qn | apply qd | refine qx ?_ (IsS56.ge HI208.o) | refine qx ?_ Aa.o) | exact HB.o)⟩

/-! ### impl_GoesTo: function 17 -/
mutual
def impl_GoesTo.j0 : Nat → Int → Bool → Int → Int → Option (Int × Bool)
 | 0, _, _, _, _ => none
 | k + 1, x1, x21, x226000, x226001 => if x21 = true then (some (0, false)) else (if x226000 = 1 then (some ((-1), true)) else (if x226000 = 2 then (some (1, true)) else (if x226000 = 3 then (impl_GoesTo.j1 k x1 x226000 (x226000 == 3) x226000 x226001) else (impl_GoesTo.j1 k x1 x226000 (x226000 == 6) x226000 x226001))))
def impl_GoesTo.j1 : Nat → Int → Int → Bool → Int → Int → Option (Int × Bool)
 | 0, _, _, _, _, _ => none
 | k + 1, x1, x23, x28, x226000, x226001 => if x28 = true then (some (wrap64 ((wrap64 (2 * x226001)) - 1), true)) else (if x23 = 4 then (some (wrap64 (-x1), true)) else (some (0, true)))
end
def impl_GoesTo.f (k : Nat) (a0_0 : Int) (a0_1 : Int) (a1 : Int) : Option (Int × Bool) := (impl_IsCell.f a0_0 a0_1).bind fun t226 => (if t226 = true then (if a1 < (-1) then (impl_GoesTo.j0 k a1 true a0_0 a0_1) else (if a1 > 1 then (impl_GoesTo.j0 k a1 true a0_0 a0_1) else (impl_GoesTo.j0 k a1 (a0_0 == 5) a0_0 a0_1))) else (impl_GoesTo.j0 k a1 true a0_0 a0_1))
set_option maxHeartbeats 8000000 in
set_option maxRecDepth 100000 in
theorem impl_GoesTo.calls (k : Nat) (a0_0 : Int) (a0_1 : Int) (a1 : Int) (r1 : Int) (r2 : Bool) (w : World) (h : impl_GoesTo.f k a0_0 a0_1 a1 = some (r1, r2)) :
 Calls Try.prog 17 #[.agg #[.int .i64 a0_0, .int .i64 a0_1], .int .i64 a1] w fun e w' => e = .returned (.tuple #[.int .i64 r1, .bool r2]) ∧ Below w.heap.size w w' := by
 have AY := Try.underlying25
 have HB := Z.m (Below.refl w.heap.size w)
 have H : ((impl_IsCell.f a0_0 a0_1).bind fun Aa => (if Aa = true then (if a1 < (-1) then (impl_GoesTo.j0 k a1 true a0_0 a0_1) else (if a1 > 1 then (impl_GoesTo.j0 k a1 true a0_0 a0_1) else (impl_GoesTo.j0 k a1 (a0_0 == 5) a0_0 a0_1))) else (impl_GoesTo.j0 k a1 true a0_0 a0_1))) = some (r1, r2) := h
 clear h
 have AO := Z.m H
 clear H
 go_enter Try.func17, Try.ntmps17
 go_upto_region 1 with (first | ((with_reducible refine gq (N := 2) rfl ?_); refine be (N := 2) (cs := #[.int .i64 a0_0, .int .i64 a0_1]) (t := 25) ?_; intro Af hg w4 hbox hb; have A0 := Z.m (hbox); have Ah := gW (w := w) HB hg; have AV := Ah; replace HB := bB HB hb; clear hb hbox hg))
 (try simp only [Act.put, q1, q2, q3])
 go_cut [21] (fun v21 wc => ∃ (kq : Nat) (A3 : Bool), v21 = .bool A3 ∧ Z (impl_GoesTo.j0 kq a1 A3 a0_0 a0_1 = some (r1, r2)) ∧ Z (kq ≤ k) ∧ Z (wc.heap[Af]? = some (.cells #[.int .i64 a0_0, .int .i64 a0_1] 25 (0, 0))) ∧ Z (Below w.heap.size w wc))
 case first =>
  have H := AO.o
  clear AO
  replace H := Option.bind_eq_some_iff.mp H
  obtain ⟨Aa, AU, H⟩ := H
  replace H : (if Aa = true then (if a1 < (-1) then (impl_GoesTo.j0 k a1 true a0_0 a0_1) else (if a1 > 1 then (impl_GoesTo.j0 k a1 true a0_0 a0_1) else (impl_GoesTo.j0 k a1 (a0_0 == 5) a0_0 a0_1))) else (impl_GoesTo.j0 k a1 true a0_0 a0_1)) = some (r1, r2) := H
  have A5 := Z.m AU
  clear AU
  by_cases c6 : Aa = true
  ·subst c6
   have H1 : (if a1 < (-1) then (impl_GoesTo.j0 k a1 true a0_0 a0_1) else (if a1 > 1 then (impl_GoesTo.j0 k a1 true a0_0 a0_1) else (impl_GoesTo.j0 k a1 (a0_0 == 5) a0_0 a0_1))) = some (r1, r2) := by rw [if_pos rfl] at H; exact H
   clear H
   have H := H1
   clear H1
   by_cases c7 : a1 < (-1)
   ·rw [if_pos c7] at H
    have A4 := decide_eq_true c7
    clear c7
    (first | rw [A4] | (simp only [i64_w, i32_w]; rw [A4]) | skip)
    have H' := Z.m H
    clear H
    have AQ := bc0 A0
    have AR := bc1 A0
    have AS := qz A0.o 0
    have AT := qz A0.o 1
    go_wp2_with (first | ((with_reducible refine gc (f := 13) rfl ?_); refine gA (some 7) _ #[.agg #[.int .i64 a0_0, .int .i64 a0_1]] ?_ Try.func13; (with_reducible refine (impl_IsCell.calls a0_0 a0_1 true _ A5.o).mono ?_); rintro e w9 ⟨rfl, hb⟩; refine ⟨_, rfl, ?_⟩; replace A0 := kB A0 hb; replace HB := bB HB hb; (try clear hb); (try clear AP); (try clear hk); (try clear hi)))
    go_meet
    case rel => exact ⟨_, (true), (by first | rfl | (simp; done) | (simp [*]; done)), H', ⟨by first | omega | exact Nat.le_refl _⟩, ⟨vK A0⟩, ⟨vB HB⟩⟩
   ·rw [if_neg c7] at H
    have A4 := decide_eq_false c7
    clear c7
    (first | rw [A4] | (simp only [i64_w, i32_w]; rw [A4]) | skip)
    by_cases c10 : a1 > 1
    ·rw [if_pos c10] at H
     have Ai := decide_eq_true c10
     clear c10
     have H' := Z.m H
     clear H
     have Am := bc0 A0
     have An := bc1 A0
     have AA := qz A0.o 0
     have AB := qz A0.o 1
     go_wp2_with (first | ((with_reducible refine gc (f := 13) rfl ?_); refine gA (some 7) _ #[.agg #[.int .i64 a0_0, .int .i64 a0_1]] ?_ Try.func13; (with_reducible refine (impl_IsCell.calls a0_0 a0_1 true _ A5.o).mono ?_); rintro e AZ ⟨rfl, hb⟩; refine ⟨_, rfl, ?_⟩; replace A0 := kB A0 hb; replace HB := bB HB hb; (try clear hb); (try clear AP); (try clear hk); (try clear hi)))
     go_meet
     case rel => exact ⟨_, (true), (by first | rfl | (simp; done) | (simp [*]; done)), H', ⟨by first | omega | exact Nat.le_refl _⟩, ⟨vK A0⟩, ⟨vB HB⟩⟩
    ·rw [if_neg c10] at H
     have Ai := decide_eq_false c10
     clear c10
     have H' := Z.m H
     clear H
     have Ao := bc0 A0
     have Ap := bc1 A0
     have AC := qz A0.o 0
     have AD := qz A0.o 1
     go_wp2_with (first | ((with_reducible refine gc (f := 13) rfl ?_); refine gA (some 7) _ #[.agg #[.int .i64 a0_0, .int .i64 a0_1]] ?_ Try.func13; (with_reducible refine (impl_IsCell.calls a0_0 a0_1 true _ A5.o).mono ?_); rintro e B0 ⟨rfl, hb⟩; refine ⟨_, rfl, ?_⟩; replace A0 := kB A0 hb; replace HB := bB HB hb; (try clear hb); (try clear AP); (try clear hk); (try clear hi); have Aq := bc0 A0; have Ar := bc1 A0; have AE := qz A0.o 0; have AF := qz A0.o 1))
     go_meet
     case rel => exact ⟨_, ((a0_0 == 5)), (by first | rfl | (simp; done) | (simp [*]; done)), H', ⟨by first | omega | exact Nat.le_refl _⟩, ⟨vK A0⟩, ⟨vB HB⟩⟩
  ·replace c6 := Bool.eq_false_iff.mpr c6
   subst c6
   have H1 : (impl_GoesTo.j0 k a1 true a0_0 a0_1) = some (r1, r2) := by rw [if_neg (show ¬ (false = true) by decide)] at H; exact H
   clear H
   have H := H1
   clear H1
   have H' := Z.m H
   clear H
   have As := bc0 A0
   have At := bc1 A0
   have AG := qz A0.o 0
   have AH := qz A0.o 1
   go_wp2_with (first | ((with_reducible refine gc (f := 13) rfl ?_); refine gA (some 7) _ #[.agg #[.int .i64 a0_0, .int .i64 a0_1]] ?_ Try.func13; (with_reducible refine (impl_IsCell.calls a0_0 a0_1 false _ A5.o).mono ?_); rintro e B1 ⟨rfl, hb⟩; refine ⟨_, rfl, ?_⟩; replace A0 := kB A0 hb; replace HB := bB HB hb; (try clear hb); (try clear AP); (try clear hk); (try clear hi)))
   go_meet
   case rel => exact ⟨_, (true), (by first | rfl | (simp; done) | (simp [*]; done)), H', ⟨by first | omega | exact Nat.le_refl _⟩, ⟨vK A0⟩, ⟨vB HB⟩⟩
 case rest =>
  clear AO
  obtain ⟨kq, A3, rfl, HA, AW, A0, HB⟩ := hcut
  cases kq with
  | zero => exact absurd HA.o (by simp [impl_GoesTo.j0])
  | succ kj2 =>
   have H := HA.o
   clear HA
   simp only [impl_GoesTo.j0] at H
   by_cases c18 : A3 = true
   ·subst c18
    have H1 : (some (0, false)) = some (r1, r2) := by rw [if_pos rfl] at H; exact H
    clear H
    have H := H1
    clear H1
    simp only [Option.some.injEq, Prod.mk.injEq] at H
    obtain ⟨rfl, rfl⟩ := H
    go_wp2
    go_ret2
    exact ⟨by first | rfl | (simp [eN, eS] <;> rfl) | (simp [*, eN, eS] <;> rfl), vB HB⟩
   ·replace c18 := Bool.eq_false_iff.mpr c18
    subst c18
    have H1 : (if a0_0 = 1 then (some ((-1), true)) else (if a0_0 = 2 then (some (1, true)) else (if a0_0 = 3 then (impl_GoesTo.j1 kj2 a1 a0_0 (a0_0 == 3) a0_0 a0_1) else (impl_GoesTo.j1 kj2 a1 a0_0 (a0_0 == 6) a0_0 a0_1)))) = some (r1, r2) := by rw [if_neg (show ¬ (false = true) by decide)] at H; exact H
    clear H
    have H := H1
    clear H1
    by_cases c19 : a0_0 = 1
    ·rw [if_pos c19] at H
     have Ab := beq_iff_eq.mpr c19
     have Ac := bne_eq_false_iff_eq.mpr c19
     clear c19
     simp only [Option.some.injEq, Prod.mk.injEq] at H
     obtain ⟨rfl, rfl⟩ := H
     have Au := bc0 A0
     have Av := bc1 A0
     have AI := qz A0.o 0
     have AJ := qz A0.o 1
     go_wp2
     go_ret2
     exact ⟨by first | rfl | (simp [eN, eS] <;> rfl) | (simp [*, eN, eS] <;> rfl), vB HB⟩
    ·rw [if_neg c19] at H
     have Ab := beq_eq_false_iff_ne.mpr c19
     have Ac := bne_iff_ne.mpr c19
     by_cases c21 : a0_0 = 2
     ·rw [if_pos c21] at H
      have Ad := beq_iff_eq.mpr c21
      have Ae := bne_eq_false_iff_eq.mpr c21
      clear c21
      simp only [Option.some.injEq, Prod.mk.injEq] at H
      obtain ⟨rfl, rfl⟩ := H
      have Aw := bc0 A0
      have Ax := bc1 A0
      have AK := qz A0.o 0
      have AL := qz A0.o 1
      go_wp2
      go_ret2
      exact ⟨by first | rfl | (simp [eN, eS] <;> rfl) | (simp [*, eN, eS] <;> rfl), vB HB⟩
     ·rw [if_neg c21] at H
      have Ad := beq_eq_false_iff_ne.mpr c21
      have Ae := bne_iff_ne.mpr c21
      have Ag := Z.m H
      clear H
      have A6 := bc0 A0
      have A7 := bc1 A0
      have A8 := qz A0.o 0
      have A9 := qz A0.o 1
      go_upto_if 28 with (fail)
      go_cut [28] (fun v28 wc => ∃ (kq : Nat) (A1 : Bool), v28 = .bool A1 ∧ Z (impl_GoesTo.j1 kq a1 a0_0 A1 a0_0 a0_1 = some (r1, r2)) ∧ Z (kq ≤ kj2) ∧ Z (wc.heap[Af]? = some (.cells #[.int .i64 a0_0, .int .i64 a0_1] 25 (0, 0))) ∧ Z (Below w.heap.size w wc))
      case first =>
       have H := Ag.o
       clear Ag
       by_cases c25 : a0_0 = 3
       ·rw [if_pos c25] at H
        have A2 := beq_iff_eq.mpr c25
        have Aj := bne_eq_false_iff_eq.mpr c25
        clear c25
        (first | rw [A2] | (simp only [i64_w, i32_w]; rw [A2]) | skip)
        have H' := Z.m H
        clear H
        go_wp2
        go_meet
        case rel => exact ⟨_, ((a0_0 == 3)), (by first | rfl | (simp; done) | (simp [*]; done)), H', ⟨by have := AW.o; first | omega | exact Nat.le_refl _⟩, ⟨vK A0⟩, ⟨vB HB⟩⟩
       ·rw [if_neg c25] at H
        have A2 := beq_eq_false_iff_ne.mpr c25
        have Aj := bne_iff_ne.mpr c25
        (first | rw [A2] | (simp only [i64_w, i32_w]; rw [A2]) | skip)
        have H' := Z.m H
        clear H
        go_wp2
        go_meet
        case rel => exact ⟨_, ((a0_0 == 6)), (by first | rfl | (simp; done) | (simp [*]; done)), H', ⟨by have := AW.o; first | omega | exact Nat.le_refl _⟩, ⟨vK A0⟩, ⟨vB HB⟩⟩
      case rest =>
       clear Ag
       (try clear c18); (try clear c19); (try clear Ab); (try clear Ac); (try clear c21); (try clear Ad); (try clear Ae)
       (try clear A6); (try clear A7); (try clear A8); (try clear A9)
       obtain ⟨kq, A1, rfl, HA, AX, A0, HB⟩ := hcut
       cases kq with
       | zero => exact absurd HA.o (by simp [impl_GoesTo.j1])
       | succ kj22 =>
        have H := HA.o
        clear HA
        simp only [impl_GoesTo.j1] at H
        by_cases c26 : A1 = true
        ·subst c26
         have H1 : (some (wrap64 ((wrap64 (2 * a0_1)) - 1), true)) = some (r1, r2) := by rw [if_pos rfl] at H; exact H
         clear H
         have H := H1
         clear H1
         simp only [Option.some.injEq, Prod.mk.injEq] at H
         obtain ⟨rfl, rfl⟩ := H
         have Ay := bc0 A0
         have Az := bc1 A0
         have AM := qz A0.o 0
         have AN := qz A0.o 1
         go_wp2
         go_ret2
         exact ⟨by first | rfl | (simp [eN, eS] <;> rfl) | (simp [*, eN, eS] <;> rfl), vB HB⟩
        ·replace c26 := Bool.eq_false_iff.mpr c26
         subst c26
         have H1 : (if a0_0 = 4 then (some (wrap64 (-a1), true)) else (some (0, true))) = some (r1, r2) := by rw [if_neg (show ¬ (false = true) by decide)] at H; exact H
         clear H
         have H := H1
         clear H1
         by_cases c28 : a0_0 = 4
         ·rw [if_pos c28] at H
          have Ak := beq_iff_eq.mpr c28
          have Al := bne_eq_false_iff_eq.mpr c28
          clear c28
          simp only [Option.some.injEq, Prod.mk.injEq] at H
          obtain ⟨rfl, rfl⟩ := H
          go_wp2
          go_ret2
          exact ⟨by first | rfl | (simp [eN, eS] <;> rfl) | (simp [*, eN, eS] <;> rfl), vB HB⟩
         ·rw [if_neg c28] at H
          have Ak := beq_eq_false_iff_ne.mpr c28
          have Al := bne_iff_ne.mpr c28
          simp only [Option.some.injEq, Prod.mk.injEq] at H
          obtain ⟨rfl, rfl⟩ := H
          go_wp2
          go_ret2
          exact ⟨by first | rfl | (simp [eN, eS] <;> rfl) | (simp [*, eN, eS] <;> rfl), vB HB⟩

/-! ### spec_paGoes: function 46 -/
def spec_paGoes.j0 : Nat → Int → Int → Bool → Int → Int → Option (Int)
 | 0, _, _, _, _, _ => none
 | k + 1, x1, x6, x11, x228000, x228001 => if x11 = true then (some (wrap64 ((wrap64 (2 * x228001)) - 1))) else (if x6 = 4 then (some (wrap64 (-x1))) else (some 0))
def spec_paGoes.f (k : Nat) (a0_0 : Int) (a0_1 : Int) (a1 : Int) : Option (Int) := if a0_0 = 1 then (some (-1)) else (if a0_0 = 2 then (some 1) else (if a0_0 = 3 then (spec_paGoes.j0 k a1 a0_0 (a0_0 == 3) a0_0 a0_1) else (spec_paGoes.j0 k a1 a0_0 (a0_0 == 6) a0_0 a0_1)))
set_option maxHeartbeats 8000000 in
set_option maxRecDepth 100000 in
theorem spec_paGoes.calls (k : Nat) (a0_0 : Int) (a0_1 : Int) (a1 : Int) (r : Int) (w : World) (h : spec_paGoes.f k a0_0 a0_1 a1 = some r) :
 Calls Try.prog 46 #[.agg #[.int .i64 a0_0, .int .i64 a0_1], .int .i64 a1] w fun e w' => e = .returned (.int .i64 r) ∧ Below w.heap.size w w' := by
 have Au := Try.underlying25
 have HB := Z.m (Below.refl w.heap.size w)
 have H : (if a0_0 = 1 then (some (-1)) else (if a0_0 = 2 then (some 1) else (if a0_0 = 3 then (spec_paGoes.j0 k a1 a0_0 (a0_0 == 3) a0_0 a0_1) else (spec_paGoes.j0 k a1 a0_0 (a0_0 == 6) a0_0 a0_1)))) = some r := h
 clear h
 by_cases c3 : a0_0 = 1
 ·rw [if_pos c3] at H
  have Ad := beq_iff_eq.mpr c3
  have Ae := bne_eq_false_iff_eq.mpr c3
  clear c3
  obtain rfl := Option.some.inj H
  go_enter Try.func46, Try.ntmps46
  go_wp2_with (first | ((with_reducible refine gq (N := 2) rfl ?_); refine be (N := 2) (cs := #[.int .i64 a0_0, .int .i64 a0_1]) (t := 25) ?_; intro A4 hg w4 hbox hb; have A0 := Z.m (hbox); have A1 := gW (w := w) HB hg; have A9 := A1; replace HB := bB HB hb; clear hb hbox hg; have Am := bc0 A0; have An := bc1 A0; have Aq := qz A0.o 0; have Ar := qz A0.o 1))
  go_ret
  exact ⟨by first | rfl | (simp [eN, eS] <;> rfl) | (simp [*, eN, eS] <;> rfl), vB HB⟩
 ·rw [if_neg c3] at H
  have Ad := beq_eq_false_iff_ne.mpr c3
  have Ae := bne_iff_ne.mpr c3
  by_cases c6 : a0_0 = 2
  ·rw [if_pos c6] at H
   have Af := beq_iff_eq.mpr c6
   have Ag := bne_eq_false_iff_eq.mpr c6
   clear c6
   obtain rfl := Option.some.inj H
   go_enter Try.func46, Try.ntmps46
   go_wp2_with (first | ((with_reducible refine gq (N := 2) rfl ?_); refine be (N := 2) (cs := #[.int .i64 a0_0, .int .i64 a0_1]) (t := 25) ?_; intro A4 hg w7 hbox hb; have A0 := Z.m (hbox); have A1 := gW (w := w) HB hg; have A9 := A1; replace HB := bB HB hb; clear hb hbox hg; have Ao := bc0 A0; have Ap := bc1 A0; have As := qz A0.o 0; have At := qz A0.o 1))
   go_ret
   exact ⟨by first | rfl | (simp [eN, eS] <;> rfl) | (simp [*, eN, eS] <;> rfl), vB HB⟩
  ·rw [if_neg c6] at H
   have Af := beq_eq_false_iff_ne.mpr c6
   have Ag := bne_iff_ne.mpr c6
   have Al := Z.m H
   clear H
   go_enter Try.func46, Try.ntmps46
   go_upto_if 11 with (first | ((with_reducible refine gq (N := 2) rfl ?_); refine be (N := 2) (cs := #[.int .i64 a0_0, .int .i64 a0_1]) (t := 25) ?_; intro A4 hg Aw hbox hb; have A0 := Z.m (hbox); have A1 := gW (w := w) HB hg; have A9 := A1; replace HB := bB HB hb; clear hb hbox hg; have A5 := bc0 A0; have A6 := bc1 A0; have A7 := qz A0.o 0; have A8 := qz A0.o 1))
   (try simp only [Act.put, q1, q2, q3])
   go_cut [11] (fun v11 wc => ∃ (kq : Nat) (A3 : Bool), v11 = .bool A3 ∧ Z (spec_paGoes.j0 kq a1 a0_0 A3 a0_0 a0_1 = some r) ∧ Z (kq ≤ k) ∧ Z (wc.heap[A4]? = some (.cells #[.int .i64 a0_0, .int .i64 a0_1] 25 (0, 0))) ∧ Z (Below w.heap.size w wc))
   case first =>
    have H := Al.o
    clear Al
    by_cases c12 : a0_0 = 3
    ·rw [if_pos c12] at H
     have A2 := beq_iff_eq.mpr c12
     have Aa := bne_eq_false_iff_eq.mpr c12
     clear c12
     (first | rw [A2] | (simp only [i64_w, i32_w]; rw [A2]) | skip)
     have H' := Z.m H
     clear H
     go_wp2
     go_meet
     case rel => exact ⟨_, ((a0_0 == 3)), (by first | rfl | (simp; done) | (simp [*]; done)), H', ⟨by first | omega | exact Nat.le_refl _⟩, ⟨vK A0⟩, ⟨vB HB⟩⟩
    ·rw [if_neg c12] at H
     have A2 := beq_eq_false_iff_ne.mpr c12
     have Aa := bne_iff_ne.mpr c12
     (first | rw [A2] | (simp only [i64_w, i32_w]; rw [A2]) | skip)
     have H' := Z.m H
     clear H
     go_wp2
     go_meet
     case rel => exact ⟨_, ((a0_0 == 6)), (by first | rfl | (simp; done) | (simp [*]; done)), H', ⟨by first | omega | exact Nat.le_refl _⟩, ⟨vK A0⟩, ⟨vB HB⟩⟩
   case rest =>
    clear Al
    (try clear c3); (try clear Ad); (try clear Ae); (try clear c6); (try clear Af); (try clear Ag)
    (try clear A5); (try clear A6); (try clear A7); (try clear A8)
    obtain ⟨kq, A3, rfl, HA, Av, A0, HB⟩ := hcut
    cases kq with
    | zero => exact absurd HA.o (by simp [spec_paGoes.j0])
    | succ kj8 =>
     have H := HA.o
     clear HA
     simp only [spec_paGoes.j0] at H
     by_cases c13 : A3 = true
     ·subst c13
      have H1 : (some (wrap64 ((wrap64 (2 * a0_1)) - 1))) = some r := by rw [if_pos rfl] at H; exact H
      clear H
      have H := H1
      clear H1
      obtain rfl := Option.some.inj H
      have Ah := bc0 A0
      have Ai := bc1 A0
      have Aj := qz A0.o 0
      have Ak := qz A0.o 1
      go_wp2
      go_ret
      exact ⟨by first | rfl | (simp [eN, eS] <;> rfl) | (simp [*, eN, eS] <;> rfl), vB HB⟩
     ·replace c13 := Bool.eq_false_iff.mpr c13
      subst c13
      have H1 : (if a0_0 = 4 then (some (wrap64 (-a1))) else (some 0)) = some r := by rw [if_neg (show ¬ (false = true) by decide)] at H; exact H
      clear H
      have H := H1
      clear H1
      by_cases c15 : a0_0 = 4
      ·rw [if_pos c15] at H
       have Ab := beq_iff_eq.mpr c15
       have Ac := bne_eq_false_iff_eq.mpr c15
       clear c15
       obtain rfl := Option.some.inj H
       go_wp2
       go_ret
       exact ⟨by first | rfl | (simp [eN, eS] <;> rfl) | (simp [*, eN, eS] <;> rfl), vB HB⟩
      ·rw [if_neg c15] at H
       have Ab := beq_eq_false_iff_ne.mpr c15
       have Ac := bne_iff_ne.mpr c15
       obtain rfl := Option.some.inj H
       go_wp2
       go_ret
       exact ⟨by first | rfl | (simp [eN, eS] <;> rfl) | (simp [*, eN, eS] <;> rfl), vB HB⟩

/-! ### spec_GoesTo: function 18 -/
def spec_GoesTo.f (k : Nat) (a0_0 : Int) (a0_1 : Int) (a1 : Int) : Option (Int × Bool) := (spec_paGood.f a0_0 a0_1).bind fun t229 => (if t229 = true then ((spec_l1In.f a1 (-1) 1).bind fun t230 => (if t230 = true then (if a0_0 = 5 then (some (0, false)) else ((spec_paGoes.f k a0_0 a0_1 a1).bind fun t231 => (some (t231, true)))) else (some (0, false)))) else (some (0, false)))
set_option maxHeartbeats 8000000 in
set_option maxRecDepth 100000 in
theorem spec_GoesTo.calls (k : Nat) (a0_0 : Int) (a0_1 : Int) (a1 : Int) (r1 : Int) (r2 : Bool) (w : World) (h : spec_GoesTo.f k a0_0 a0_1 a1 = some (r1, r2)) :
 Calls Try.prog 18 #[.agg #[.int .i64 a0_0, .int .i64 a0_1], .int .i64 a1] w fun e w' => e = .returned (.tuple #[.int .i64 r1, .bool r2]) ∧ Below w.heap.size w w' := by
 have AE := Try.underlying25
 have HB := Z.m (Below.refl w.heap.size w)
 have H : ((spec_paGood.f a0_0 a0_1).bind fun A8 => (if A8 = true then ((spec_l1In.f a1 (-1) 1).bind fun A4 => (if A4 = true then (if a0_0 = 5 then (some (0, false)) else ((spec_paGoes.f k a0_0 a0_1 a1).bind fun A1 => (some (A1, true)))) else (some (0, false)))) else (some (0, false)))) = some (r1, r2) := h
 clear h
 replace H := Option.bind_eq_some_iff.mp H
 obtain ⟨A8, AB, H⟩ := H
 replace H : (if A8 = true then ((spec_l1In.f a1 (-1) 1).bind fun A4 => (if A4 = true then (if a0_0 = 5 then (some (0, false)) else ((spec_paGoes.f k a0_0 a0_1 a1).bind fun A1 => (some (A1, true)))) else (some (0, false)))) else (some (0, false))) = some (r1, r2) := H
 have A3 := Z.m AB
 clear AB
 by_cases c4 : A8 = true
 ·subst c4
  have H1 : ((spec_l1In.f a1 (-1) 1).bind fun A4 => (if A4 = true then (if a0_0 = 5 then (some (0, false)) else ((spec_paGoes.f k a0_0 a0_1 a1).bind fun A1 => (some (A1, true)))) else (some (0, false)))) = some (r1, r2) := by rw [if_pos rfl] at H; exact H
  clear H
  have H := H1
  clear H1
  replace H := Option.bind_eq_some_iff.mp H
  obtain ⟨A4, AC, H⟩ := H
  replace H : (if A4 = true then (if a0_0 = 5 then (some (0, false)) else ((spec_paGoes.f k a0_0 a0_1 a1).bind fun A1 => (some (A1, true)))) else (some (0, false))) = some (r1, r2) := H
  have A5 := Z.m AC
  clear AC
  by_cases c6 : A4 = true
  ·subst c6
   have H1 : (if a0_0 = 5 then (some (0, false)) else ((spec_paGoes.f k a0_0 a0_1 a1).bind fun A1 => (some (A1, true)))) = some (r1, r2) := by rw [if_pos rfl] at H; exact H
   clear H
   have H := H1
   clear H1
   by_cases c7 : a0_0 = 5
   ·rw [if_pos c7] at H
    have Av := beq_iff_eq.mpr c7
    have Aw := bne_eq_false_iff_eq.mpr c7
    clear c7
    simp only [Option.some.injEq, Prod.mk.injEq] at H
    obtain ⟨rfl, rfl⟩ := H
    go_enter Try.func18, Try.ntmps18
    go_wp2_with (first | ((with_reducible refine gq (N := 2) rfl ?_); refine be (N := 2) (cs := #[.int .i64 a0_0, .int .i64 a0_1]) (t := 25) ?_; intro A7 hg w8 hbox hb; have A0 := Z.m (hbox); have A2 := gW (w := w) HB hg; have A6 := A2; replace HB := bB HB hb; clear hb hbox hg; have Ax := bc0 A0; have Ay := bc1 A0; have Az := qz A0.o 0; have AA := qz A0.o 1) | ((with_reducible refine gc (f := 38) rfl ?_); refine gA (some 7) _ #[.agg #[.int .i64 a0_0, .int .i64 a0_1]] ?_ Try.func38; (with_reducible refine (spec_paGood.calls a0_0 a0_1 true _ A3.o).mono ?_); rintro e AF ⟨rfl, hb⟩; refine ⟨_, rfl, ?_⟩; replace A0 := kB A0 hb; replace HB := bB HB hb; (try clear hb); (try clear Aa); (try clear hk); (try clear hi)) | (go_at_call 45; (with_reducible refine (spec_l1In.calls a1 (-1) 1 true _ A5.o).mono ?_); rintro e w' ⟨rfl, ⟨nd, rfl⟩⟩; have Ab := bc0 A0; have Ac := bc1 A0; have Al := qz A0.o 0; have Am := qz A0.o 1))
    go_ret2
    exact ⟨by first | rfl | (simp [eN, eS] <;> rfl) | (simp [*, eN, eS] <;> rfl), vB HB⟩
   ·rw [if_neg c7] at H
    have Av := beq_eq_false_iff_ne.mpr c7
    have Aw := bne_iff_ne.mpr c7
    replace H := Option.bind_eq_some_iff.mp H
    obtain ⟨A1, A9, H⟩ := H
    replace H : (some (A1, true)) = some (r1, r2) := H
    have AD := Z.m A9
    clear A9
    simp only [Option.some.injEq, Prod.mk.injEq] at H
    obtain ⟨rfl, rfl⟩ := H
    go_enter Try.func18, Try.ntmps18
    go_wp2_with (first | ((with_reducible refine gq (N := 2) rfl ?_); refine be (N := 2) (cs := #[.int .i64 a0_0, .int .i64 a0_1]) (t := 25) ?_; intro A7 hg AG hbox hb; have A0 := Z.m (hbox); have A2 := gW (w := w) HB hg; have A6 := A2; replace HB := bB HB hb; clear hb hbox hg; have Ad := bc0 A0; have Ae := bc1 A0; have An := qz A0.o 0; have Ao := qz A0.o 1) | ((with_reducible refine gc (f := 38) rfl ?_); refine gA (some 7) _ #[.agg #[.int .i64 a0_0, .int .i64 a0_1]] ?_ Try.func38; (with_reducible refine (spec_paGood.calls a0_0 a0_1 true _ A3.o).mono ?_); rintro e AH ⟨rfl, hb⟩; refine ⟨_, rfl, ?_⟩; replace A0 := kB A0 hb; replace HB := bB HB hb; (try clear hb); (try clear Aa); (try clear hk); (try clear hi)) | (go_at_call 45; (with_reducible refine (spec_l1In.calls a1 (-1) 1 true _ A5.o).mono ?_); rintro e w' ⟨rfl, ⟨nd, rfl⟩⟩; have Af := bc0 A0; have Ag := bc1 A0; have Ap := qz A0.o 0; have Aq := qz A0.o 1) | ((with_reducible refine gc (f := 46) rfl ?_); refine gA (some 21) _ #[.agg #[.int .i64 a0_0, .int .i64 a0_1], .int .i64 a1] ?_ Try.func46; (with_reducible refine (spec_paGoes.calls k a0_0 a0_1 a1 A1 _ AD.o).mono ?_); rintro e AI ⟨rfl, hb⟩; refine ⟨_, rfl, ?_⟩; replace A0 := kB A0 hb; replace HB := bB HB hb; (try clear hb); (try clear Aa); (try clear hk); (try clear hi)))
    go_ret2
    exact ⟨by first | rfl | (simp [eN, eS] <;> rfl) | (simp [*, eN, eS] <;> rfl), vB HB⟩
  ·replace c6 := Bool.eq_false_iff.mpr c6
   subst c6
   have H1 : (some (0, false)) = some (r1, r2) := by rw [if_neg (show ¬ (false = true) by decide)] at H; exact H
   clear H
   have H := H1
   clear H1
   simp only [Option.some.injEq, Prod.mk.injEq] at H
   obtain ⟨rfl, rfl⟩ := H
   go_enter Try.func18, Try.ntmps18
   go_wp2_with (first | ((with_reducible refine gq (N := 2) rfl ?_); refine be (N := 2) (cs := #[.int .i64 a0_0, .int .i64 a0_1]) (t := 25) ?_; intro A7 hg AJ hbox hb; have A0 := Z.m (hbox); have A2 := gW (w := w) HB hg; have A6 := A2; replace HB := bB HB hb; clear hb hbox hg; have Ah := bc0 A0; have Ai := bc1 A0; have Ar := qz A0.o 0; have As := qz A0.o 1) | ((with_reducible refine gc (f := 38) rfl ?_); refine gA (some 7) _ #[.agg #[.int .i64 a0_0, .int .i64 a0_1]] ?_ Try.func38; (with_reducible refine (spec_paGood.calls a0_0 a0_1 true _ A3.o).mono ?_); rintro e AK ⟨rfl, hb⟩; refine ⟨_, rfl, ?_⟩; replace A0 := kB A0 hb; replace HB := bB HB hb; (try clear hb); (try clear Aa); (try clear hk); (try clear hi)) | (go_at_call 45; (with_reducible refine (spec_l1In.calls a1 (-1) 1 false _ A5.o).mono ?_); rintro e w' ⟨rfl, ⟨nd, rfl⟩⟩))
   go_ret2
   exact ⟨by first | rfl | (simp [eN, eS] <;> rfl) | (simp [*, eN, eS] <;> rfl), vB HB⟩
 ·replace c4 := Bool.eq_false_iff.mpr c4
  subst c4
  have H1 : (some (0, false)) = some (r1, r2) := by rw [if_neg (show ¬ (false = true) by decide)] at H; exact H
  clear H
  have H := H1
  clear H1
  simp only [Option.some.injEq, Prod.mk.injEq] at H
  obtain ⟨rfl, rfl⟩ := H
  go_enter Try.func18, Try.ntmps18
  go_wp2_with (first | ((with_reducible refine gq (N := 2) rfl ?_); refine be (N := 2) (cs := #[.int .i64 a0_0, .int .i64 a0_1]) (t := 25) ?_; intro A7 hg AL hbox hb; have A0 := Z.m (hbox); have A2 := gW (w := w) HB hg; have A6 := A2; replace HB := bB HB hb; clear hb hbox hg; have Aj := bc0 A0; have Ak := bc1 A0; have At := qz A0.o 0; have Au := qz A0.o 1) | ((with_reducible refine gc (f := 38) rfl ?_); refine gA (some 7) _ #[.agg #[.int .i64 a0_0, .int .i64 a0_1]] ?_ Try.func38; (with_reducible refine (spec_paGood.calls a0_0 a0_1 false _ A3.o).mono ?_); rintro e AM ⟨rfl, hb⟩; refine ⟨_, rfl, ?_⟩; replace A0 := kB A0 hb; replace HB := bB HB hb; (try clear hb); (try clear Aa); (try clear hk); (try clear hi)))
  go_ret2
  exact ⟨by first | rfl | (simp [eN, eS] <;> rfl) | (simp [*, eN, eS] <;> rfl), vB HB⟩

/-! ### spec_DrawKindName: function 19 -/
def spec_DrawKindName.f (l0 : List Int) : Option (Int) := (spec_mkCur.f l0).bind fun bt232 => ((spec_l1Cur_pick.f bt232.1 bt232.2.1 bt232.2.2 9).bind fun bt236 => ((spec_l1Cur_pick.f bt232.1 bt236.2.1 bt236.2.2 12).bind fun bt239 => (some (wrap64 (bt236.1 - (wrap64 (Int.tdiv bt239.1 11)))))))
set_option maxHeartbeats 8000000 in
set_option maxRecDepth 100000 in
theorem spec_DrawKindName.calls (A0 : Option Addr) (c0 : Nat) (l0 : List Int) (r : Int) (w : World) (hr0 : Kd.C (Kd.int .u8) w A0 l0.length l0) (hc0 : l0.length ≤ c0) (h : spec_DrawKindName.f l0 = some r) :
 Calls Try.prog 19 #[.slice A0 l0.length c0] w fun e w' => e = .returned (.int .i64 r) ∧ Below w.heap.size w w' := by
 have Ai := Try.underlying56
 have Ah := Z.m hr0
 have Aj := Z.m hc0
 clear hr0 hc0
 have HB := Z.m (Below.refl w.heap.size w)
 have H : ((spec_mkCur.f l0).bind fun bt232 => ((spec_l1Cur_pick.f bt232.1 bt232.2.1 bt232.2.2 9).bind fun bt236 => ((spec_l1Cur_pick.f bt232.1 bt236.2.1 bt236.2.2 12).bind fun bt239 => (some (wrap64 (bt236.1 - (wrap64 (Int.tdiv bt239.1 11)))))))) = some r := h
 clear h
 replace H := Option.bind_eq_some_iff.mp H
 obtain ⟨⟨A1, A5, A6⟩, Ae, H⟩ := H
 replace H : ((spec_l1Cur_pick.f A1 A5 A6 9).bind fun bt236 => ((spec_l1Cur_pick.f A1 bt236.2.1 bt236.2.2 12).bind fun bt239 => (some (wrap64 (bt236.1 - (wrap64 (Int.tdiv bt239.1 11))))))) = some r := H
 have A2 := Z.m Ae
 clear Ae
 replace H := Option.bind_eq_some_iff.mp H
 obtain ⟨⟨A7, A8, A9⟩, Af, H⟩ := H
 replace H : ((spec_l1Cur_pick.f A1 A8 A9 12).bind fun bt239 => (some (wrap64 (A7 - (wrap64 (Int.tdiv bt239.1 11)))))) = some r := H
 have A3 := Z.m Af
 clear Af
 replace H := Option.bind_eq_some_iff.mp H
 obtain ⟨⟨Aa, Ac, Ad⟩, Ag, H⟩ := H
 replace H : (some (wrap64 (A7 - (wrap64 (Int.tdiv Aa 11))))) = some r := H
 have A4 := Z.m Ag
 clear Ag
 obtain rfl := Option.some.inj H
 go_enter Try.func19, Try.ntmps19
 go_wp2_with (first | ((with_reducible refine gq (N := 6) rfl ?_); refine be (N := 6) (cs := #[.slice A0 l0.length c0, .int .i64 0, .int .u64 0]) (t := 56) ?_; intro g235 hgq w5 hboxq Ab; have hb : Below w.heap.size w w5 := below_step (vB HB) Ab; have hi : IsS56 w w5 g235 A1 A5 A6 := IsS56.made A2.o hboxq (by rw [hgq]; exact (below_size (vB HB))) Ah.o; clear hgq hboxq; have HI235 := Z.m (hi); replace HB := Z.m (hb); (try clear hb); (try clear Ab); (try clear hk); (try clear hi)) | ((with_reducible refine gc (f := 47) rfl ?_); refine gA (some 8) _ #[.pointer (some ⟨g235, 0, none⟩), .int .i64 9] ?_ Try.func47; (with_reducible refine (spec_l1Cur_pick.calls g235 A1 A5 A6 9 A7 A8 A9 w _ ?side1 ?side2 A3.o).mono ?_); (case side1 => repeat (first | (with_reducible first | exact HI235.o | apply IsS56.alloc | apply IsS56.drewN | apply IsS56.drew | apply IsS56.set_1 | apply IsS56.set_2) | exact HI235.o)); (case side2 => repeat (first | (with_reducible first | exact HB.o | apply qa | apply qn | apply qd | refine qx ?_ (IsS56.ge HI235.o)) | exact HB.o)); rintro e w6 ⟨rfl, hi, hb, hk⟩; refine ⟨_, rfl, ?_⟩; replace HB := Z.m (hb); replace HI235 := Z.m (hi); (try clear hb); (try clear Ab); (try clear hk); (try clear hi)) | ((with_reducible refine gc (f := 47) rfl ?_); refine gA (some 10) _ #[.pointer (some ⟨g235, 0, none⟩), .int .i64 12] ?_ Try.func47; (with_reducible refine (spec_l1Cur_pick.calls g235 A1 A8 A9 12 Aa Ac Ad w _ ?side1 ?side2 A4.o).mono ?_); (case side1 => repeat (first | (with_reducible first | exact HI235.o | apply IsS56.alloc | apply IsS56.drewN | apply IsS56.drew | apply IsS56.set_1 | apply IsS56.set_2) | exact HI235.o)); (case side2 => repeat (first | (with_reducible first | exact HB.o | apply qa | apply qn | apply qd | refine qx ?_ (IsS56.ge HI235.o)) | exact HB.o)); rintro e w7 ⟨rfl, hi, hb, hk⟩; refine ⟨_, rfl, ?_⟩; replace HB := Z.m (hb); replace HI235 := Z.m (hi); (try clear hb); (try clear Ab); (try clear hk); (try clear hi)))
 go_ret
 exact ⟨by first | rfl | (simp [eN, eS] <;> rfl) | (simp [*, eN, eS] <;> rfl), by repeat (first | (with_reducible first | exact HB.o | apply qa | apply qn | apply qd | refine qx ?_ (IsS56.ge HI235.o)) | exact HB.o)⟩

/-! ### impl_KindName: function 20 -/
def impl_KindName.f (a0 : Int) : Option (ByteArray × Bool) := if a0 < 0 then (some ((⟨#[]⟩ : ByteArray), false)) else (if a0 > 7 then (some ((⟨#[]⟩ : ByteArray), false)) else ((some (([(⟨#[101, 109, 112, 116, 121]⟩ : ByteArray), (⟨#[108, 101, 102, 116]⟩ : ByteArray), (⟨#[114, 105, 103, 104, 116]⟩ : ByteArray), (⟨#[102, 108, 105, 112]⟩ : ByteArray), (⟨#[99, 114, 111, 115, 115]⟩ : ByteArray), (⟨#[115, 116, 111, 112]⟩ : ByteArray), (⟨#[103, 101, 97, 114]⟩ : ByteArray), (⟨#[99, 111, 103]⟩ : ByteArray)] : List ByteArray) : List ByteArray)).bind fun y242 => (if 0 ≤ a0 then (if a0 < (y242.length : Int) then (some (rdOf ByteArray.empty y242 a0, true)) else (none)) else (none))))
set_option maxHeartbeats 8000000 in
set_option maxRecDepth 100000 in
theorem impl_KindName.calls (a0 : Int) (r1 : ByteArray) (r2 : Bool) (w : World) (h : impl_KindName.f a0 = some (r1, r2)) :
 Calls Try.prog 20 #[.int .i64 a0] w fun e w' => e = .returned (.tuple #[.string r1, .bool r2]) ∧ Below w.heap.size w w' := by
 have HB := Z.m (Below.refl w.heap.size w)
 have H : (if a0 < 0 then (some ((⟨#[]⟩ : ByteArray), false)) else (if a0 > 7 then (some ((⟨#[]⟩ : ByteArray), false)) else ((some (([(⟨#[101, 109, 112, 116, 121]⟩ : ByteArray), (⟨#[108, 101, 102, 116]⟩ : ByteArray), (⟨#[114, 105, 103, 104, 116]⟩ : ByteArray), (⟨#[102, 108, 105, 112]⟩ : ByteArray), (⟨#[99, 114, 111, 115, 115]⟩ : ByteArray), (⟨#[115, 116, 111, 112]⟩ : ByteArray), (⟨#[103, 101, 97, 114]⟩ : ByteArray), (⟨#[99, 111, 103]⟩ : ByteArray)] : List ByteArray) : List ByteArray)).bind fun A1 => (if 0 ≤ a0 then (if a0 < (A1.length : Int) then (some (rdOf ByteArray.empty A1 a0, true)) else (none)) else (none))))) = some (r1, r2) := h
 clear h
 by_cases c2 : a0 < 0
 ·rw [if_pos c2] at H
  have A6 := decide_eq_true c2
  clear c2
  simp only [Option.some.injEq, Prod.mk.injEq] at H
  obtain ⟨rfl, rfl⟩ := H
  go_enter Try.func20, Try.ntmps20
  go_wp2
  go_ret2
  exact ⟨by first | rfl | (simp [eN, eS] <;> rfl) | (simp [*, eN, eS] <;> rfl), vB HB⟩
 ·rw [if_neg c2] at H
  have A6 := decide_eq_false c2
  clear c2
  by_cases c3 : a0 > 7
  ·rw [if_pos c3] at H
   have A7 := decide_eq_true c3
   clear c3
   simp only [Option.some.injEq, Prod.mk.injEq] at H
   obtain ⟨rfl, rfl⟩ := H
   go_enter Try.func20, Try.ntmps20
   go_wp2
   go_ret2
   exact ⟨by first | rfl | (simp [eN, eS] <;> rfl) | (simp [*, eN, eS] <;> rfl), vB HB⟩
  ·rw [if_neg c3] at H
   have A7 := decide_eq_false c3
   clear c3
   obtain ⟨A1, A0⟩ : ∃ y_ : List ByteArray, y_ = (([(⟨#[101, 109, 112, 116, 121]⟩ : ByteArray), (⟨#[108, 101, 102, 116]⟩ : ByteArray), (⟨#[114, 105, 103, 104, 116]⟩ : ByteArray), (⟨#[102, 108, 105, 112]⟩ : ByteArray), (⟨#[99, 114, 111, 115, 115]⟩ : ByteArray), (⟨#[115, 116, 111, 112]⟩ : ByteArray), (⟨#[103, 101, 97, 114]⟩ : ByteArray), (⟨#[99, 111, 103]⟩ : ByteArray)] : List ByteArray)) := ⟨_, rfl⟩
   replace H : (if 0 ≤ a0 then (if a0 < (A1.length : Int) then (some (rdOf ByteArray.empty A1 a0, true)) else (none)) else (none)) = some (r1, r2) := by first | (rw [A0]; with_reducible exact H) | (have H2_ := (Option.bind_some _ _).symm.trans H; rw [A0]; with_reducible exact H2_) | (have H2_ := (Option.bind_some _ _).symm.trans H; with_reducible exact H2_) | with_reducible exact H | (rw [A0]; exact H) | exact H
   have A3 := Z.m A0
   clear A0
   by_cases c4 : 0 ≤ a0
   ·rw [if_pos c4] at H
    have A9 := decide_eq_true c4
    clear c4
    by_cases c5 : a0 < (A1.length : Int)
    ·rw [if_pos c5] at H
     have Aa := decide_eq_true c5
     clear c5
     simp only [Option.some.injEq, Prod.mk.injEq] at H
     obtain ⟨rfl, rfl⟩ := H
     go_enter Try.func20, Try.ntmps20
     go_wp2_with (first | ((with_reducible refine gq (N := 11) rfl ?_); refine Kd.R_lit Kd.string _ 9 ?hg (N := 11) ?hd (xs := ([(⟨#[101, 109, 112, 116, 121]⟩ : ByteArray), (⟨#[108, 101, 102, 116]⟩ : ByteArray), (⟨#[114, 105, 103, 104, 116]⟩ : ByteArray), (⟨#[102, 108, 105, 112]⟩ : ByteArray), (⟨#[99, 114, 111, 115, 115]⟩ : ByteArray), (⟨#[115, 116, 111, 112]⟩ : ByteArray), (⟨#[103, 101, 97, 114]⟩ : ByteArray), (⟨#[99, 111, 103]⟩ : ByteArray)] : List ByteArray)) (inner := [.string (⟨#[101, 109, 112, 116, 121]⟩ : ByteArray), .string (⟨#[108, 101, 102, 116]⟩ : ByteArray), .string (⟨#[114, 105, 103, 104, 116]⟩ : ByteArray), .string (⟨#[102, 108, 105, 112]⟩ : ByteArray), .string (⟨#[99, 114, 111, 115, 115]⟩ : ByteArray), .string (⟨#[115, 116, 111, 112]⟩ : ByteArray), .string (⟨#[103, 101, 97, 114]⟩ : ByteArray), .string (⟨#[99, 111, 103]⟩ : ByteArray)]) (ok := fun _ => True) (okp := fun _ => True) ?hr ?hp (fun _ hk => hk) trivial (Below.refl _ _) (Nat.le_refl _) (by simp) ?_; (case hd => rfl); (case hg => rfl); (case hr => first | (go_simp; done) | (go_simp; rfl)); (case hp => exact (Reps.one (show Kd.M Kd.string _ _ _ (⟨#[101, 109, 112, 116, 121]⟩ : ByteArray) [.string (⟨#[101, 109, 112, 116, 121]⟩ : ByteArray)] from rfl) (Reps.one (show Kd.M Kd.string _ _ _ (⟨#[108, 101, 102, 116]⟩ : ByteArray) [.string (⟨#[108, 101, 102, 116]⟩ : ByteArray)] from rfl) (Reps.one (show Kd.M Kd.string _ _ _ (⟨#[114, 105, 103, 104, 116]⟩ : ByteArray) [.string (⟨#[114, 105, 103, 104, 116]⟩ : ByteArray)] from rfl) (Reps.one (show Kd.M Kd.string _ _ _ (⟨#[102, 108, 105, 112]⟩ : ByteArray) [.string (⟨#[102, 108, 105, 112]⟩ : ByteArray)] from rfl) (Reps.one (show Kd.M Kd.string _ _ _ (⟨#[99, 114, 111, 115, 115]⟩ : ByteArray) [.string (⟨#[99, 114, 111, 115, 115]⟩ : ByteArray)] from rfl) (Reps.one (show Kd.M Kd.string _ _ _ (⟨#[115, 116, 111, 112]⟩ : ByteArray) [.string (⟨#[115, 116, 111, 112]⟩ : ByteArray)] from rfl) (Reps.one (show Kd.M Kd.string _ _ _ (⟨#[103, 101, 97, 114]⟩ : ByteArray) [.string (⟨#[103, 101, 97, 114]⟩ : ByteArray)] from rfl) (Reps.one (show Kd.M Kd.string _ _ _ (⟨#[99, 111, 103]⟩ : ByteArray) [.string (⟨#[99, 111, 103]⟩ : ByteArray)] from rfl) (Reps.none _ _)))))))))); intro Ac w6 A4 hb hg_ hnew_; clear hg_ hnew_; (first | rw [← A3.o] at A4 | (simp only [Int.reduceToNat] at A4; rw [← A3.o] at A4)); have A2 := Z.m (Kd.R_lower A4 (below_size (vB HB))); replace HB := bB HB hb; clear hb A4; obtain ⟨Ad, Ae, Ab⟩ := Kd.R_slice A2.o; subst Ab; have p245 : 0 ≤ (a0 : Int) := ofD; have q245 : a0 < (A1.length : Int) := ofD; obtain ⟨A8, e245, A5⟩ := Kd.at_string (Kd.RrZ A2.o).2.2 a0 p245 q245; cases e245; replace p245 := eq_true p245; replace q245 := eq_true q245))
     go_ret2
     exact ⟨by first | rfl | (simp [eN, eS] <;> rfl) | (simp [*, eN, eS] <;> rfl), vB HB⟩
    ·rw [if_neg c5] at H
     exact absurd H (by simp)
   ·rw [if_neg c4] at H
    exact absurd H (by simp)

/-! ### spec_KindName: function 21 -/
def spec_KindName.f (a0 : Int) : Option (ByteArray × Bool) := (spec_l1In.f a0 0 7).bind fun t246 => (if t246 = true then ((some (([(⟨#[101, 109, 112, 116, 121]⟩ : ByteArray), (⟨#[108, 101, 102, 116]⟩ : ByteArray), (⟨#[114, 105, 103, 104, 116]⟩ : ByteArray), (⟨#[102, 108, 105, 112]⟩ : ByteArray), (⟨#[99, 114, 111, 115, 115]⟩ : ByteArray), (⟨#[115, 116, 111, 112]⟩ : ByteArray), (⟨#[103, 101, 97, 114]⟩ : ByteArray), (⟨#[99, 111, 103]⟩ : ByteArray)] : List ByteArray) : List ByteArray)).bind fun y247 => (if 0 ≤ a0 then (if a0 < (y247.length : Int) then (some (rdOf ByteArray.empty y247 a0, true)) else (none)) else (none))) else (some ((⟨#[]⟩ : ByteArray), false)))
set_option maxHeartbeats 8000000 in
set_option maxRecDepth 100000 in
theorem spec_KindName.calls (a0 : Int) (r1 : ByteArray) (r2 : Bool) (w : World) (h : spec_KindName.f a0 = some (r1, r2)) :
 Calls Try.prog 21 #[.int .i64 a0] w fun e w' => e = .returned (.tuple #[.string r1, .bool r2]) ∧ Below w.heap.size w w' := by
 have HB := Z.m (Below.refl w.heap.size w)
 have H : ((spec_l1In.f a0 0 7).bind fun A3 => (if A3 = true then ((some (([(⟨#[101, 109, 112, 116, 121]⟩ : ByteArray), (⟨#[108, 101, 102, 116]⟩ : ByteArray), (⟨#[114, 105, 103, 104, 116]⟩ : ByteArray), (⟨#[102, 108, 105, 112]⟩ : ByteArray), (⟨#[99, 114, 111, 115, 115]⟩ : ByteArray), (⟨#[115, 116, 111, 112]⟩ : ByteArray), (⟨#[103, 101, 97, 114]⟩ : ByteArray), (⟨#[99, 111, 103]⟩ : ByteArray)] : List ByteArray) : List ByteArray)).bind fun A0 => (if 0 ≤ a0 then (if a0 < (A0.length : Int) then (some (rdOf ByteArray.empty A0 a0, true)) else (none)) else (none))) else (some ((⟨#[]⟩ : ByteArray), false)))) = some (r1, r2) := h
 clear h
 replace H := Option.bind_eq_some_iff.mp H
 obtain ⟨A3, A8, H⟩ := H
 replace H : (if A3 = true then ((some (([(⟨#[101, 109, 112, 116, 121]⟩ : ByteArray), (⟨#[108, 101, 102, 116]⟩ : ByteArray), (⟨#[114, 105, 103, 104, 116]⟩ : ByteArray), (⟨#[102, 108, 105, 112]⟩ : ByteArray), (⟨#[99, 114, 111, 115, 115]⟩ : ByteArray), (⟨#[115, 116, 111, 112]⟩ : ByteArray), (⟨#[103, 101, 97, 114]⟩ : ByteArray), (⟨#[99, 111, 103]⟩ : ByteArray)] : List ByteArray) : List ByteArray)).bind fun A0 => (if 0 ≤ a0 then (if a0 < (A0.length : Int) then (some (rdOf ByteArray.empty A0 a0, true)) else (none)) else (none))) else (some ((⟨#[]⟩ : ByteArray), false))) = some (r1, r2) := H
 have A2 := Z.m A8
 clear A8
 by_cases c3 : A3 = true
 ·subst c3
  have H1 : ((some (([(⟨#[101, 109, 112, 116, 121]⟩ : ByteArray), (⟨#[108, 101, 102, 116]⟩ : ByteArray), (⟨#[114, 105, 103, 104, 116]⟩ : ByteArray), (⟨#[102, 108, 105, 112]⟩ : ByteArray), (⟨#[99, 114, 111, 115, 115]⟩ : ByteArray), (⟨#[115, 116, 111, 112]⟩ : ByteArray), (⟨#[103, 101, 97, 114]⟩ : ByteArray), (⟨#[99, 111, 103]⟩ : ByteArray)] : List ByteArray) : List ByteArray)).bind fun A0 => (if 0 ≤ a0 then (if a0 < (A0.length : Int) then (some (rdOf ByteArray.empty A0 a0, true)) else (none)) else (none))) = some (r1, r2) := by rw [if_pos rfl] at H; exact H
  clear H
  have H := H1
  clear H1
  obtain ⟨A0, A1⟩ : ∃ y_ : List ByteArray, y_ = (([(⟨#[101, 109, 112, 116, 121]⟩ : ByteArray), (⟨#[108, 101, 102, 116]⟩ : ByteArray), (⟨#[114, 105, 103, 104, 116]⟩ : ByteArray), (⟨#[102, 108, 105, 112]⟩ : ByteArray), (⟨#[99, 114, 111, 115, 115]⟩ : ByteArray), (⟨#[115, 116, 111, 112]⟩ : ByteArray), (⟨#[103, 101, 97, 114]⟩ : ByteArray), (⟨#[99, 111, 103]⟩ : ByteArray)] : List ByteArray)) := ⟨_, rfl⟩
  replace H : (if 0 ≤ a0 then (if a0 < (A0.length : Int) then (some (rdOf ByteArray.empty A0 a0, true)) else (none)) else (none)) = some (r1, r2) := by first | (rw [A1]; with_reducible exact H) | (have H2_ := (Option.bind_some _ _).symm.trans H; rw [A1]; with_reducible exact H2_) | (have H2_ := (Option.bind_some _ _).symm.trans H; with_reducible exact H2_) | with_reducible exact H | (rw [A1]; exact H) | exact H
  have A5 := Z.m A1
  clear A1
  by_cases c4 : 0 ≤ a0
  ·rw [if_pos c4] at H
   have Aa := decide_eq_true c4
   clear c4
   by_cases c5 : a0 < (A0.length : Int)
   ·rw [if_pos c5] at H
    have Ab := decide_eq_true c5
    clear c5
    simp only [Option.some.injEq, Prod.mk.injEq] at H
    obtain ⟨rfl, rfl⟩ := H
    go_enter Try.func21, Try.ntmps21
    go_wp2_with (first | ((with_reducible refine gc (f := 45) rfl ?_); refine gA (some 5) _ #[.int .i64 a0, .int .i64 0, .int .i64 7] ?_ Try.func45; (with_reducible refine (spec_l1In.calls a0 0 7 true _ A2.o).mono ?_); rintro e w' ⟨rfl, ⟨nd, rfl⟩⟩; refine ⟨_, rfl, ?_⟩) | ((with_reducible refine gq (N := 7) rfl ?_); refine Kd.R_lit Kd.string _ 9 ?hg (N := 7) ?hd (xs := ([(⟨#[101, 109, 112, 116, 121]⟩ : ByteArray), (⟨#[108, 101, 102, 116]⟩ : ByteArray), (⟨#[114, 105, 103, 104, 116]⟩ : ByteArray), (⟨#[102, 108, 105, 112]⟩ : ByteArray), (⟨#[99, 114, 111, 115, 115]⟩ : ByteArray), (⟨#[115, 116, 111, 112]⟩ : ByteArray), (⟨#[103, 101, 97, 114]⟩ : ByteArray), (⟨#[99, 111, 103]⟩ : ByteArray)] : List ByteArray)) (inner := [.string (⟨#[101, 109, 112, 116, 121]⟩ : ByteArray), .string (⟨#[108, 101, 102, 116]⟩ : ByteArray), .string (⟨#[114, 105, 103, 104, 116]⟩ : ByteArray), .string (⟨#[102, 108, 105, 112]⟩ : ByteArray), .string (⟨#[99, 114, 111, 115, 115]⟩ : ByteArray), .string (⟨#[115, 116, 111, 112]⟩ : ByteArray), .string (⟨#[103, 101, 97, 114]⟩ : ByteArray), .string (⟨#[99, 111, 103]⟩ : ByteArray)]) (ok := fun _ => True) (okp := fun _ => True) ?hr ?hp (fun _ hk => hk) trivial (Below.refl _ _) (Nat.le_refl _) (by simp) ?_; (case hd => rfl); (case hg => rfl); (case hr => first | (go_simp; done) | (go_simp; rfl)); (case hp => exact (Reps.one (show Kd.M Kd.string _ _ _ (⟨#[101, 109, 112, 116, 121]⟩ : ByteArray) [.string (⟨#[101, 109, 112, 116, 121]⟩ : ByteArray)] from rfl) (Reps.one (show Kd.M Kd.string _ _ _ (⟨#[108, 101, 102, 116]⟩ : ByteArray) [.string (⟨#[108, 101, 102, 116]⟩ : ByteArray)] from rfl) (Reps.one (show Kd.M Kd.string _ _ _ (⟨#[114, 105, 103, 104, 116]⟩ : ByteArray) [.string (⟨#[114, 105, 103, 104, 116]⟩ : ByteArray)] from rfl) (Reps.one (show Kd.M Kd.string _ _ _ (⟨#[102, 108, 105, 112]⟩ : ByteArray) [.string (⟨#[102, 108, 105, 112]⟩ : ByteArray)] from rfl) (Reps.one (show Kd.M Kd.string _ _ _ (⟨#[99, 114, 111, 115, 115]⟩ : ByteArray) [.string (⟨#[99, 114, 111, 115, 115]⟩ : ByteArray)] from rfl) (Reps.one (show Kd.M Kd.string _ _ _ (⟨#[115, 116, 111, 112]⟩ : ByteArray) [.string (⟨#[115, 116, 111, 112]⟩ : ByteArray)] from rfl) (Reps.one (show Kd.M Kd.string _ _ _ (⟨#[103, 101, 97, 114]⟩ : ByteArray) [.string (⟨#[103, 101, 97, 114]⟩ : ByteArray)] from rfl) (Reps.one (show Kd.M Kd.string _ _ _ (⟨#[99, 111, 103]⟩ : ByteArray) [.string (⟨#[99, 111, 103]⟩ : ByteArray)] from rfl) (Reps.none _ _)))))))))); intro Ad w6 A6 hb hg_ hnew_; clear hg_ hnew_; (first | rw [← A5.o] at A6 | (simp only [Int.reduceToNat] at A6; rw [← A5.o] at A6)); have A4 := Z.m (Kd.R_lower A6 (below_size (vB HB))); replace HB := bB HB hb; clear hb A6; obtain ⟨Ae, Af, Ac⟩ := Kd.R_slice A4.o; subst Ac; have p250 : 0 ≤ (a0 : Int) := ofD; have q250 : a0 < (A0.length : Int) := ofD; obtain ⟨A9, e250, A7⟩ := Kd.at_string (Kd.RrZ A4.o).2.2 a0 p250 q250; cases e250; replace p250 := eq_true p250; replace q250 := eq_true q250))
    go_ret2
    exact ⟨by first | rfl | (simp [eN, eS] <;> rfl) | (simp [*, eN, eS] <;> rfl), vB HB⟩
   ·rw [if_neg c5] at H
    exact absurd H (by simp)
  ·rw [if_neg c4] at H
   exact absurd H (by simp)
 ·replace c3 := Bool.eq_false_iff.mpr c3
  subst c3
  have H1 : (some ((⟨#[]⟩ : ByteArray), false)) = some (r1, r2) := by rw [if_neg (show ¬ (false = true) by decide)] at H; exact H
  clear H
  have H := H1
  clear H1
  simp only [Option.some.injEq, Prod.mk.injEq] at H
  obtain ⟨rfl, rfl⟩ := H
  go_enter Try.func21, Try.ntmps21
  go_wp2_with (first | ((with_reducible refine gc (f := 45) rfl ?_); refine gA (some 5) _ #[.int .i64 a0, .int .i64 0, .int .i64 7] ?_ Try.func45; (with_reducible refine (spec_l1In.calls a0 0 7 false _ A2.o).mono ?_); rintro e w' ⟨rfl, ⟨nd, rfl⟩⟩; refine ⟨_, rfl, ?_⟩))
  go_ret2
  exact ⟨by first | rfl | (simp [eN, eS] <;> rfl) | (simp [*, eN, eS] <;> rfl), vB HB⟩

end Go.Proofs.Ytklmdnlambinaaa.PAll
