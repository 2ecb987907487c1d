/- Began as a text that print.sh wrote (of the functions named below); turned and shortened by this session. -/
import Derived.Test.YtoklfgjemfojgaaG0
import Derived.Test.YtoklfgjemfojgaaG1
import Derived.Test.YtoklfgjemfojgaaG2
import Derived.Test.YtoklfgjemfojgaaG8
import Derived.Test.YtoklfgjemfojgaaG14
import Derived.Test.YtoklfgjemfojgaaG15
namespace Go.Proofs.Ytoklfgjemfojgaa.PAll
open Go.RowKit Go.Proofs.YtoklfgjemfojgaaW.PrintWords Go.Proofs.YtoklfgjemfojgaaW.PrintLast Go.Proofs.YtoklfgjemfojgaaW.PrintMore
attribute [local go_sem] max2_int min2_int max_two min_two max_three min_three max_four min_four   -- for this text's walks alone
set_option linter.unusedVariables false
set_option linter.unusedSimpArgs false

/-! ### laws_FnExactWayOf: function 9 -/
mutual
def laws_FnExactWayOf.j0 : Nat → Int → List (List Int) → Bool → List (List Int) → Bool → Bool → Int → Int → List (S91) → Int → Int → List (S89) → Option (Bool)
 | 0, _, _, _, _, _, _, _, _, _, _, _, _ => none
 | k + 1, x1, x6, x7, x9, x10, x44, x378000, x378001, x378002, x394000, x394001, x394002 => if x44 = true then (some false) else ((laws_toBoard.f k x378000 x378001 x378002).bind fun bt399 => ((laws_eqBoard.f k x394000 x394001 x394002 bt399.1 bt399.2.1 bt399.2.2).bind fun t404 => (if t404 = true then ((laws_markBoard.f k x394000 x394001 x394002 1).bind fun bt405 => (if bt405.1 < 0 then (laws_FnExactWayOf.j1 k x1 x6 x7 x9 true x378000 x378001 x378002) else ((laws_eqIntSS.f k x9 x6).bind fun t407 => (if t407 = true then (laws_FnExactWayOf.j1 k x1 x6 x7 x9 (x10 != x7) x378000 x378001 x378002) else (laws_FnExactWayOf.j1 k x1 x6 x7 x9 true x378000 x378001 x378002))))) else (some false))))
def laws_FnExactWayOf.j1 : Nat → Int → List (List Int) → Bool → List (List Int) → Bool → Int → Int → List (S91) → Option (Bool)
 | 0, _, _, _, _, _, _, _, _ => none
 | k + 1, x1, x6, x7, x9, x65, x378000, x378001, x378002 => if x65 = true then (some false) else ((laws_markIntSS.f k x9 1).bind fun bt408 => ((laws_heldIntSS.f k bt408.2 1).bind fun t410 => (if t410 < 0 then (some false) else (if t410 = bt408.1 then ((laws_toBoard.f k x378000 x378001 x378002).bind fun bt411 => ((impl_WayOf.f k bt411.1 bt411.2.1 bt411.2.2 x1).bind fun bt416 => ((laws_eqIntSS.f k bt416.1 x6).bind fun t420 => (if t420 = true then (laws_FnExactWayOf.j2 k bt408.2 bt408.1 (bt416.2 != x7)) else (laws_FnExactWayOf.j2 k bt408.2 bt408.1 true))))) else (some false)))))
def laws_FnExactWayOf.j2 : Nat → List (List Int) → Int → Bool → Option (Bool)
 | 0, _, _, _ => none
 | k + 1, x9, x12, x92 => if x92 = true then (some false) else ((laws_heldIntSS.f k x9 1).bind fun t421 => (if t421 < 0 then (some false) else (if t421 = x12 then (some true) else (some false))))
end
def laws_FnExactWayOf.f (k : Nat) (a0_0 : Int) (a0_1 : Int) (l0_2 : List (S91)) (a1 : Int) : Option (Bool) := (laws_szBoard.f a0_0 a0_1 l0_2 1048576).bind fun t378 => (if t378 < 0 then (some true) else ((laws_toBoard.f k a0_0 a0_1 l0_2).bind fun bt379 => ((spec_WayOf.f k bt379.1 bt379.2.1 bt379.2.2 a1).bind fun bt384 => ((laws_toBoard.f k a0_0 a0_1 l0_2).bind fun bt388 => ((impl_WayOf.f k bt388.1 bt388.2.1 bt388.2.2 a1).bind fun bt394 => ((laws_eqIntSS.f k bt394.1 bt384.1).bind fun t398 => (if t398 = true then (laws_FnExactWayOf.j0 k a1 bt384.1 bt384.2 bt394.1 bt394.2 (bt394.2 != bt384.2) a0_0 a0_1 l0_2 bt388.1 bt388.2.1 bt388.2.2) else (laws_FnExactWayOf.j0 k a1 bt384.1 bt384.2 bt394.1 bt394.2 true a0_0 a0_1 l0_2 bt388.1 bt388.2.1 bt388.2.2))))))))
theorem way_old {α : Type} {d : Kd α} {e : Nat} {W w1 : World} {base N : Nat} {ok : Nat → Prop} {v : Value} {xs : List α} (hN : N = W.heap.size) (h : Kd.S d e W base ok v xs) (hb : Below W.heap.size W w1) : Kd.S d e w1 base (fun k_ => k_ < N) v xs := by
 subst hN
 exact Kd.S_mono (Kd.S_old h hb) (fun _ hk => hk.2)
theorem way_new {α : Type} {d : Kd α} {e : Nat} {W w1 : World} {base N : Nat} {ok : Nat → Prop} {v : Value} {xs : List α} (hN : N = W.heap.size) (h : Kd.S d e w1 W.heap.size ok v xs) (hle : base ≤ W.heap.size) : Kd.S d e w1 base (fun k_ => N ≤ k_) v xs := by
 subst hN
 exact Kd.S_lower (Kd.S_mono (Kd.S_bound h) (fun _ hk => hk.2.1)) hle
theorem way_blk {W : World} {N g : Nat} {o : Obj} (hN : N = W.heap.size) (h : W.heap[g]? = some o) : g < N := by
 subst hN
 exact qt h
theorem way_row {α : Type} {d : Kd α} {e : Nat} {W : World} {base N : Nat} {ok : Nat → Prop} {v : Value} {xs : List α} (hN : N = W.heap.size) (h : Kd.R d e W base ok v xs) : ∀ k_, some k_ = v.ownBlock → k_ < N := by
 subst hN
 exact fun k_ hk => Kd.R_lt h k_ hk.symm
theorem way_own (A : Option Addr) (n m c c' : Nat) : (Value.slice A n c).ownBlock = (Value.slice A m c').ownBlock := by cases A <;> rfl
theorem way_size {W w1 : World} (_hb : Below W.heap.size W w1) : ∃ N, N = W.heap.size := ⟨_, rfl⟩
theorem laws_FnExactWayOf.bad_j0 (k : Nat) (y0 : Int) (y1 : List (List Int)) (y2 : Bool) (y3 : List (List Int)) (y4 : Bool) (y6 : Int) (y7 : Int) (y8 : List (S91)) (y9 : Int) (y10 : Int) (y11 : List (S89)) : ¬ laws_FnExactWayOf.j0 k y0 y1 y2 y3 y4 true y6 y7 y8 y9 y10 y11 = some true := by
 cases k <;> simp [laws_FnExactWayOf.j0]
theorem laws_FnExactWayOf.bad_j1 (k : Nat) (y0 : Int) (y1 : List (List Int)) (y2 : Bool) (y3 : List (List Int)) (y5 : Int) (y6 : Int) (y7 : List (S91)) : ¬ laws_FnExactWayOf.j1 k y0 y1 y2 y3 true y5 y6 y7 = some true := by
 cases k <;> simp [laws_FnExactWayOf.j1]
theorem laws_FnExactWayOf.bad_j2 (k : Nat) (y0 : List (List Int)) (y1 : Int) : ¬ laws_FnExactWayOf.j2 k y0 y1 true = some true := by
 cases k <;> simp [laws_FnExactWayOf.j2]
set_option maxHeartbeats 8000000 in
set_option maxRecDepth 100000 in
theorem laws_FnExactWayOf.calls (k : Nat) (a0_0 : Int) (a0_1 : Int) (A0_2 : Option Addr) (c0_2 : Nat) (l0_2 : List (S91)) (a1 : Int) (w : World) (hr0_2 : Kd.C k91 w A0_2 l0_2.length l0_2) (hc0_2 : l0_2.length ≤ c0_2) (h : laws_FnExactWayOf.f k a0_0 a0_1 l0_2 a1 = some true) :
 Calls Try.prog 9 #[.agg #[.int .i64 a0_0, .int .i64 a0_1, .slice A0_2 l0_2.length c0_2], .int .i64 a1] w fun e w' => e = .returned (.bool true) ∧ Below w.heap.size w w' := by
 have Db := Try.underlying24
 have Dc := Try.underlying32
 have Az := Z.m hr0_2
 have Ay := Z.m hc0_2
 clear hr0_2 hc0_2
 have HB := Z.m (Below.refl w.heap.size w)
 have H : ((laws_szBoard.f a0_0 a0_1 l0_2 1048576).bind fun AH => (if AH < 0 then (some true) else ((laws_toBoard.f k a0_0 a0_1 l0_2).bind fun bt379 => ((spec_WayOf.f k bt379.1 bt379.2.1 bt379.2.2 a1).bind fun bt384 => ((laws_toBoard.f k a0_0 a0_1 l0_2).bind fun bt388 => ((impl_WayOf.f k bt388.1 bt388.2.1 bt388.2.2 a1).bind fun bt394 => ((laws_eqIntSS.f k bt394.1 bt384.1).bind fun Aq => (if Aq = true then (laws_FnExactWayOf.j0 k a1 bt384.1 bt384.2 bt394.1 bt394.2 (bt394.2 != bt384.2) a0_0 a0_1 l0_2 bt388.1 bt388.2.1 bt388.2.2) else (laws_FnExactWayOf.j0 k a1 bt384.1 bt384.2 bt394.1 bt394.2 true a0_0 a0_1 l0_2 bt388.1 bt388.2.1 bt388.2.2))))))))) = some true := h
 clear h
 replace H := Option.bind_eq_some_iff.mp H
 obtain ⟨AH, CI, H⟩ := H
 replace H : (if AH < 0 then (some true) else ((laws_toBoard.f k a0_0 a0_1 l0_2).bind fun bt379 => ((spec_WayOf.f k bt379.1 bt379.2.1 bt379.2.2 a1).bind fun bt384 => ((laws_toBoard.f k a0_0 a0_1 l0_2).bind fun bt388 => ((impl_WayOf.f k bt388.1 bt388.2.1 bt388.2.2 a1).bind fun bt394 => ((laws_eqIntSS.f k bt394.1 bt384.1).bind fun Aq => (if Aq = true then (laws_FnExactWayOf.j0 k a1 bt384.1 bt384.2 bt394.1 bt394.2 (bt394.2 != bt384.2) a0_0 a0_1 l0_2 bt388.1 bt388.2.1 bt388.2.2) else (laws_FnExactWayOf.j0 k a1 bt384.1 bt384.2 bt394.1 bt394.2 true a0_0 a0_1 l0_2 bt388.1 bt388.2.1 bt388.2.2)))))))) = some true := H
 have A3 := Z.m CI
 clear CI
 by_cases c4 : AH < 0
 ·rw [if_pos c4] at H
  have C5 := decide_eq_true c4
  clear c4
  clear H
  go_enter Try.func9, Try.ntmps9
  go_wp2_with (first | ((with_reducible refine gq (N := 2) rfl ?_); refine be (N := 2) (cs := #[.int .i64 a0_0, .int .i64 a0_1, .slice A0_2 l0_2.length c0_2]) (t := 24) ?_; intro Ap hg w5 hbox hb; have A0 := Z.m (hbox); have AL := gW (w := w) HB hg; have AK := AL; replace HB := bB HB hb; clear hb hbox hg; have CC := bc0 A0; have CD := bc1 A0; have CE := bc2 A0; have CF := qz A0.o 0; have CG := qz A0.o 1; have CH := qz A0.o 2) | ((with_reducible refine gc (f := 13) rfl ?_); refine gA (some 18) _ #[.agg #[.int .i64 a0_0, .int .i64 a0_1, .slice A0_2 l0_2.length c0_2], .int .i64 1048576] ?_ Try.func13; (with_reducible refine (laws_szBoard.calls a0_0 a0_1 _ _ l0_2 1048576 AH _ ?side1 ?side2 A3.o).mono ?_); (case side1 => repeat (first | exact (Kd.C_below Az.o HB.o) | (with_reducible refine Kd.C_alloc ?_ _) | (with_reducible refine Kd.C_drewN ?_ _) | (with_reducible refine Kd.C_drew ?_))); (case side2 => exact Ay.o); rintro e w7 ⟨rfl, hb⟩; refine ⟨_, rfl, ?_⟩; replace A0 := kB A0 hb; replace HB := bB HB hb; (try clear hb); (try clear BO); (try clear hk); (try clear hi)))
  go_ret
  exact ⟨by first | rfl | (simp [eN, eS] <;> rfl) | (simp [*, eN, eS] <;> rfl), vB HB⟩
 ·rw [if_neg c4] at H
  have C5 := decide_eq_false c4
  clear c4
  replace H := Option.bind_eq_some_iff.mp H
  obtain ⟨⟨By, Bz, AO⟩, CJ, H⟩ := H
  replace H : ((spec_WayOf.f k By Bz AO a1).bind fun bt384 => ((laws_toBoard.f k a0_0 a0_1 l0_2).bind fun bt388 => ((impl_WayOf.f k bt388.1 bt388.2.1 bt388.2.2 a1).bind fun bt394 => ((laws_eqIntSS.f k bt394.1 bt384.1).bind fun Aq => (if Aq = true then (laws_FnExactWayOf.j0 k a1 bt384.1 bt384.2 bt394.1 bt394.2 (bt394.2 != bt384.2) a0_0 a0_1 l0_2 bt388.1 bt388.2.1 bt388.2.2) else (laws_FnExactWayOf.j0 k a1 bt384.1 bt384.2 bt394.1 bt394.2 true a0_0 a0_1 l0_2 bt388.1 bt388.2.1 bt388.2.2)))))) = some true := H
  have A8 := Z.m CJ
  clear CJ
  replace H := Option.bind_eq_some_iff.mp H
  obtain ⟨⟨A6, A5⟩, CK, H⟩ := H
  replace H : ((laws_toBoard.f k a0_0 a0_1 l0_2).bind fun bt388 => ((impl_WayOf.f k bt388.1 bt388.2.1 bt388.2.2 a1).bind fun bt394 => ((laws_eqIntSS.f k bt394.1 A6).bind fun Aq => (if Aq = true then (laws_FnExactWayOf.j0 k a1 A6 A5 bt394.1 bt394.2 (bt394.2 != A5) a0_0 a0_1 l0_2 bt388.1 bt388.2.1 bt388.2.2) else (laws_FnExactWayOf.j0 k a1 A6 A5 bt394.1 bt394.2 true a0_0 a0_1 l0_2 bt388.1 bt388.2.1 bt388.2.2))))) = some true := H
  have A9 := Z.m CK
  clear CK
  replace H := Option.bind_eq_some_iff.mp H
  obtain ⟨⟨Ac, Ad, Aa⟩, BQ, H⟩ := H
  replace H : ((impl_WayOf.f k Ac Ad Aa a1).bind fun bt394 => ((laws_eqIntSS.f k bt394.1 A6).bind fun Aq => (if Aq = true then (laws_FnExactWayOf.j0 k a1 A6 A5 bt394.1 bt394.2 (bt394.2 != A5) a0_0 a0_1 l0_2 Ac Ad Aa) else (laws_FnExactWayOf.j0 k a1 A6 A5 bt394.1 bt394.2 true a0_0 a0_1 l0_2 Ac Ad Aa)))) = some true := H
  have CT := Z.m BQ
  clear BQ
  replace H := Option.bind_eq_some_iff.mp H
  obtain ⟨⟨A7, Ai⟩, BR, H⟩ := H
  replace H : ((laws_eqIntSS.f k A7 A6).bind fun Aq => (if Aq = true then (laws_FnExactWayOf.j0 k a1 A6 A5 A7 Ai (Ai != A5) a0_0 a0_1 l0_2 Ac Ad Aa) else (laws_FnExactWayOf.j0 k a1 A6 A5 A7 Ai true a0_0 a0_1 l0_2 Ac Ad Aa))) = some true := H
  have CU := Z.m BR
  clear BR
  have BK := Z.m H
  clear H
  go_enter Try.func9, Try.ntmps9
  go_upto_region 8 with (first | ((with_reducible refine gq (N := 2) rfl ?_); refine be (N := 2) (cs := #[.int .i64 a0_0, .int .i64 a0_1, .slice A0_2 l0_2.length c0_2]) (t := 24) ?_; intro Ap hg Di hbox hb; have A0 := Z.m (hbox); have AL := gW (w := w) HB hg; have AK := AL; replace HB := bB HB hb; clear hb hbox hg; have AR := bc0 A0; have AS := bc1 A0; have AT := bc2 A0; have Bg := qz A0.o 0; have Bh := qz A0.o 1; have Bi := qz A0.o 2) | ((with_reducible refine gc (f := 13) rfl ?_); refine gA (some 18) _ #[.agg #[.int .i64 a0_0, .int .i64 a0_1, .slice A0_2 l0_2.length c0_2], .int .i64 1048576] ?_ Try.func13; (with_reducible refine (laws_szBoard.calls a0_0 a0_1 _ _ l0_2 1048576 AH _ ?side1 ?side2 A3.o).mono ?_); (case side1 => repeat (first | exact (Kd.C_below Az.o HB.o) | (with_reducible refine Kd.C_alloc ?_ _) | (with_reducible refine Kd.C_drewN ?_ _) | (with_reducible refine Kd.C_drew ?_))); (case side2 => exact Ay.o); rintro e Dj ⟨rfl, hb⟩; refine ⟨_, rfl, ?_⟩; replace A0 := kB A0 hb; replace HB := bB HB hb; (try clear hb); (try clear BO); (try clear hk); (try clear hi); have AU := bc0 A0; have AV := bc1 A0; have AW := bc2 A0; have Bj := qz A0.o 0; have Bk := qz A0.o 1; have Bl := qz A0.o 2) | ((with_reducible refine gc (f := 15) rfl ?_); refine gA (some 23) _ #[.agg #[.int .i64 a0_0, .int .i64 a0_1, .slice A0_2 l0_2.length c0_2]] ?_ Try.func15; (with_reducible refine (laws_toBoard.calls k a0_0 a0_1 _ _ l0_2 By Bz AO _ ?side1 ?side2 A8.o).mono ?_); (case side1 => repeat (first | exact (Kd.C_below Az.o HB.o) | (with_reducible refine Kd.C_alloc ?_ _) | (with_reducible refine Kd.C_drewN ?_ _) | (with_reducible refine Kd.C_drew ?_))); (case side2 => exact Ay.o); rintro e Dk ⟨Dd, rfl, At, hb⟩; refine ⟨_, rfl, ?_⟩; have Ag := Z.m (Kd.R_lower At (below_size (vB HB))); replace A0 := kB A0 hb; replace HB := bB HB hb; (try clear hb); (try clear BO); (try clear hk); (try clear hi); (try clear At); obtain ⟨C3, C8, Cs⟩ := Kd.R_slice Ag.o; subst Cs) | ((with_reducible refine gc (f := 35) rfl ?_); refine gA (some 25) _ #[.agg #[.int .i64 By, .int .i64 Bz, .slice C3 AO.length C8], .int .i64 a1] ?_ Try.func35; (with_reducible refine (spec_WayOf.calls k By Bz _ _ AO a1 A6 A5 _ ?side1 ?side2 A9.o).mono ?_); (case side1 => repeat (first | exact (Kd.RrZ Ag.o).2.2 | (with_reducible refine Kd.C_alloc ?_ _) | (with_reducible refine Kd.C_drewN ?_ _) | (with_reducible refine Kd.C_drew ?_))); (case side2 => exact (Kd.RrZ Ag.o).2.1); rintro e Dl ⟨Cb, rfl, At, hb⟩; refine ⟨_, rfl, ?_⟩; have Ak := Z.m (Kd.S_lower At (below_size (vB HB))); replace Ag := Z.m (Kd.Rb (vR Ag) hb); replace A0 := kB A0 hb; replace HB := bB HB hb; (try clear hb); (try clear BO); (try clear hk); (try clear hi); (try clear At); have AX := bc0 A0; have AY := bc1 A0; have AZ := bc2 A0; have Bm := qz A0.o 0; have Bn := qz A0.o 1; have Bo := qz A0.o 2) | ((with_reducible refine gc (f := 15) rfl ?_); refine gA (some 29) _ #[.agg #[.int .i64 a0_0, .int .i64 a0_1, .slice A0_2 l0_2.length c0_2]] ?_ Try.func15; (with_reducible refine (laws_toBoard.calls k a0_0 a0_1 _ _ l0_2 Ac Ad Aa _ ?side1 ?side2 CT.o).mono ?_); (case side1 => repeat (first | exact (Kd.C_below Az.o HB.o) | (with_reducible refine Kd.C_alloc ?_ _) | (with_reducible refine Kd.C_drewN ?_ _) | (with_reducible refine Kd.C_drew ?_))); (case side2 => exact Ay.o); rintro e Dm ⟨De, rfl, At, hb⟩; refine ⟨_, rfl, ?_⟩; have Ao := Z.m (Kd.R_lower (Kd.R_new' At (Kd.R_lt (vR Ag))) (below_size (vB HB))); replace Ag := Z.m (Kd.R_elder' (vR Ag) (Kd.R_base At) hb); replace Ak := Z.m (Kd.S_below (vS Ak) hb); replace A0 := kB A0 hb; replace HB := bB HB hb; (try clear hb); (try clear BO); (try clear hk); (try clear hi); (try clear At)) | ((with_reducible refine gq (N := 8) rfl ?_); refine be (N := 8) (cs := #[.int .i64 0, .int .i64 0, .slice none 0 0]) (t := 32) ?_; intro Am hg Dn hbox hb; have A2 := Z.m (hbox); have C4 := gW (w := w) HB hg; have BH := C4; have Ah := neL A0 hg; have Ar := neG A0 hg; replace Ag := Z.m (Kd.Rb (vR Ag) hb); replace Ak := Z.m (Kd.S_below (vS Ak) hb); replace Ao := Z.m (Kd.Rb (vR Ao) hb); replace A0 := kB A0 hb; replace HB := bB HB hb; clear hb hbox hg; have CN := Ar.o; have CQ := Ah.o; have B0 := bc0 A2; have B2 := bc1 A2; have B7 := bc2 A2; have Bp := qz A2.o 0; have Bq := qz A2.o 1; have Br := qz A2.o 2; obtain ⟨An, Al, Ct⟩ := Kd.R_slice Ao.o; subst Ct) | ((with_reducible refine gc (f := 36) rfl ?_); refine gA (some 33) _ #[.agg #[.int .i64 Ac, .int .i64 Ad, .slice An Aa.length Al], .int .i64 a1] ?_ Try.func36; (with_reducible refine (impl_WayOf.calls k Ac Ad _ _ Aa a1 A7 Ai _ ?side1 ?side2 CU.o).mono ?_); (case side1 => refine (Kd.RrZ (e := 89) (base := w.heap.size) (ok := fun k_ => (True ∧ some k_ ≠ (.slice C3 AO.length C8 : Value).ownBlock)) (n := Aa.length) (c := Al) ?_).2.2; exact (by refine rK ?_; exact (Kd.Rm (rf (rf (rf (Kd.Ry Ao.o A2.o (by decide))))) (fun _ h_ => h_.1)))); (case side2 => exact (Kd.RrZ Ao.o).2.1); rintro e Do ⟨Cd, rfl, At, hb⟩; refine ⟨_, rfl, ?_⟩; obtain ⟨N_, hN_⟩ := way_size hb; have n0_ := Z.m (Kd.Rb (by refine rK ?_; exact (Kd.Rm (rf (rf (rf (Kd.Ry Ag.o A2.o (by decide))))) (fun _ h_ => h_.1))) hb); have n1_ := Z.m (way_old hN_ (by (with_reducible repeat (first | apply Kd.S_alloc | apply Kd.S_drewN | apply Kd.S_drew)); exact (Kd.S_mono (Kd.S_far (p := ⟨Am, 2, none⟩) (Kd.S_far (p := ⟨Am, 1, none⟩) (Kd.S_far (p := ⟨Am, 0, none⟩) (Kd.S_types Ak.o A2.o (by decide)) (fun _ hk => hk.2) (.int .i64 Ac)) (fun _ hk => hk.2) (.int .i64 Ad)) (fun _ hk => hk.2) (.slice An Aa.length Al)) (fun _ h_ => h_.1))) hb); have n2_ := Z.m (Kd.Rb (by refine rK ?_; exact (Kd.Rm (rf (rf (rf (Kd.Ry Ao.o A2.o (by decide))))) (fun _ h_ => h_.1))) hb); have n3_ := Z.m (way_new hN_ At (below_size (vB HB))); have n4_ := Z.m (qb (g := Ap) (o := .cells #[.int .i64 a0_0, .int .i64 a0_1, .slice A0_2 l0_2.length c0_2] 24 (0, 0)) (by refine bK ?_; (iterate 3 refine qF ?_ Ah); exact A0.o) hb); have n5_ := Z.m (qb (g := Am) (o := .cells #[.int .i64 Ac, .int .i64 Ad, .slice An Aa.length Al] 32 (0, 0)) (by refine bK ?_; apply st3; refine bK ?_; exact A2.o) hb); have n6_ := bB HB hb; have HXN := Z.m (way_row hN_ (by refine rK ?_; exact (Kd.Rm (rf (rf (rf (Kd.Ry Ao.o A2.o (by decide))))) (fun _ h_ => h_.1)))); have GN377 := Z.m (way_blk (g := Ap) (o := .cells #[.int .i64 a0_0, .int .i64 a0_1, .slice A0_2 l0_2.length c0_2] 24 (0, 0)) hN_ (by refine bK ?_; (iterate 3 refine qF ?_ Ah); exact A0.o)); have GN393 := Z.m (way_blk (g := Am) (o := .cells #[.int .i64 Ac, .int .i64 Ad, .slice An Aa.length Al] 32 (0, 0)) hN_ (by refine bK ?_; apply st3; refine bK ?_; exact A2.o)); clear hN_; clear Ag; clear Ak; clear Ao; clear A0; clear A2; clear HB; have Ag := n0_; have Ak := n1_; have Ao := n2_; have AG := n3_; have A0 := n4_; have A2 := n5_; have HB := n6_; clear n0_ n1_ n2_ n3_ n4_ n5_ n6_; (try clear hb); (try clear BO); (try clear hk); (try clear hi); (try clear At)))
  (try simp only [Act.put, q1, q2, q3])
  go_cut [44] (fun v44 wc => ∃ (kq : Nat) (AA : Bool), v44 = .bool AA ∧ Z (laws_FnExactWayOf.j0 kq a1 A6 A5 A7 Ai AA a0_0 a0_1 l0_2 Ac Ad Aa = some true) ∧ Z (kq ≤ k) ∧ Z (Kd.S (Kd.slice 3 (Kd.int .i64)) 43 wc w.heap.size (fun k_ => k_ < N_) Cb A6) ∧ Z (Kd.S (Kd.slice 3 (Kd.int .i64)) 43 wc w.heap.size (fun k_ => N_ ≤ k_) Cd A7) ∧ Z (Kd.R k89 89 wc w.heap.size (fun _ => True) (.slice An Aa.length Al) Aa) ∧ Z (wc.heap[Ap]? = some (.cells #[.int .i64 a0_0, .int .i64 a0_1, (.slice A0_2 l0_2.length c0_2)] 24 (0, 0))) ∧ Z (wc.heap[Am]? = some (.cells #[.int .i64 Ac, .int .i64 Ad, (.slice An Aa.length Al)] 32 (0, 0))) ∧ Z (Below w.heap.size w wc))
  case first =>
   have H := BK.o
   clear BK
   replace H := Option.bind_eq_some_iff.mp H
   obtain ⟨Aq, BS, H⟩ := H
   replace H : (if Aq = true then (laws_FnExactWayOf.j0 k a1 A6 A5 A7 Ai (Ai != A5) a0_0 a0_1 l0_2 Ac Ad Aa) else (laws_FnExactWayOf.j0 k a1 A6 A5 A7 Ai true a0_0 a0_1 l0_2 Ac Ad Aa)) = some true := H
   have CV := Z.m BS
   clear BS
   by_cases c28 : Aq = true
   ·subst c28
    have H1 : (laws_FnExactWayOf.j0 k a1 A6 A5 A7 Ai (Ai != A5) a0_0 a0_1 l0_2 Ac Ad Aa) = some true := by rw [if_pos rfl] at H; exact H
    clear H
    have H := H1
    clear H1
    have H' := Z.m H
    clear H
    obtain ⟨Ce, Cm, Cu⟩ := Kd.S_slice AG.o
    subst Cu
    obtain ⟨Cf, Cn, Cv⟩ := Kd.S_slice Ak.o
    subst Cv
    go_wp2_with (first | ((with_reducible refine gc (f := 37) rfl ?_); refine gA (some 38) _ #[.slice Ce A7.length Cm, .slice Cf A6.length Cn] ?_ Try.func37; (with_reducible refine (laws_eqIntSS.calls k _ _ A7 _ _ A6 true _ ?side1 ?side2 ?side3 ?side4 CV.o).mono ?_); (case side1 => repeat (first | exact (Kd.S_reads' AG.o).2.2 | (with_reducible refine Kd.C_alloc ?_ _) | (with_reducible refine Kd.C_drewN ?_ _) | (with_reducible refine Kd.C_drew ?_))); (case side2 => exact (Kd.S_reads' AG.o).2.1); (case side3 => repeat (first | exact (Kd.S_reads' Ak.o).2.2 | (with_reducible refine Kd.C_alloc ?_ _) | (with_reducible refine Kd.C_drewN ?_ _) | (with_reducible refine Kd.C_drew ?_))); (case side4 => exact (Kd.S_reads' Ak.o).2.1); rintro e w' ⟨rfl, ⟨nd, rfl⟩⟩; refine ⟨_, rfl, ?_⟩))
    go_meet
    case rel => exact ⟨_, ((Ai != A5)), (by first | rfl | (simp; done) | (simp [*]; done)), H', ⟨by first | omega | exact Nat.le_refl _⟩, ⟨vS Ak⟩, ⟨vS AG⟩, ⟨by refine rK ?_; exact Kd.Rm Ao.o (fun _ hk => trivial)⟩, ⟨vK A0⟩, ⟨vK A2⟩, ⟨vB HB⟩⟩
   ·(rw [if_neg c28] at H; exact absurd H (laws_FnExactWayOf.bad_j0 _ _ _ _ _ _ _ _ _ _ _ _))
  case rest =>
   clear BK
   (try clear C5)
   (try clear AR); (try clear AS); (try clear AT); (try clear AU); (try clear AV); (try clear AW); (try clear AX); (try clear AY)
   (try clear AZ); (try clear B0); (try clear B2); (try clear B7); (try clear Bg); (try clear Bh); (try clear Bi); (try clear Bj)
   (try clear Bk); (try clear Bl); (try clear Bm); (try clear Bn); (try clear Bo); (try clear Bp); (try clear Bq); (try clear Br)
   obtain ⟨kq, AA, rfl, HA, BN, Ae, Ab, A1, A0, A2, HB⟩ := hcut
   cases kq with
   | zero => exact absurd HA.o (by simp [laws_FnExactWayOf.j0])
   | succ kj11 =>
    have H := HA.o
    clear HA
    simp only [laws_FnExactWayOf.j0] at H
    by_cases c33 : AA = true
    ·(rw [if_pos c33] at H; exact absurd H (by decide))
    ·replace c33 := Bool.eq_false_iff.mpr c33
     subst c33
     have H1 : ((laws_toBoard.f kj11 a0_0 a0_1 l0_2).bind fun bt399 => ((laws_eqBoard.f kj11 Ac Ad Aa bt399.1 bt399.2.1 bt399.2.2).bind fun AI => (if AI = true then ((laws_markBoard.f kj11 Ac Ad Aa 1).bind fun bt405 => (if bt405.1 < 0 then (laws_FnExactWayOf.j1 kj11 a1 A6 A5 A7 true a0_0 a0_1 l0_2) else ((laws_eqIntSS.f kj11 A7 A6).bind fun Au => (if Au = true then (laws_FnExactWayOf.j1 kj11 a1 A6 A5 A7 (Ai != A5) a0_0 a0_1 l0_2) else (laws_FnExactWayOf.j1 kj11 a1 A6 A5 A7 true a0_0 a0_1 l0_2))))) else (some false)))) = some true := by rw [if_neg (show ¬ (false = true) by decide)] at H; exact H
     clear H
     have H := H1
     clear H1
     replace H := Option.bind_eq_some_iff.mp H
     obtain ⟨⟨BA, BB, BC⟩, BT, H⟩ := H
     replace H : ((laws_eqBoard.f kj11 Ac Ad Aa BA BB BC).bind fun AI => (if AI = true then ((laws_markBoard.f kj11 Ac Ad Aa 1).bind fun bt405 => (if bt405.1 < 0 then (laws_FnExactWayOf.j1 kj11 a1 A6 A5 A7 true a0_0 a0_1 l0_2) else ((laws_eqIntSS.f kj11 A7 A6).bind fun Au => (if Au = true then (laws_FnExactWayOf.j1 kj11 a1 A6 A5 A7 (Ai != A5) a0_0 a0_1 l0_2) else (laws_FnExactWayOf.j1 kj11 a1 A6 A5 A7 true a0_0 a0_1 l0_2))))) else (some false))) = some true := H
     have CW := Z.m BT
     clear BT
     replace H := Option.bind_eq_some_iff.mp H
     obtain ⟨AI, BU, H⟩ := H
     replace H : (if AI = true then ((laws_markBoard.f kj11 Ac Ad Aa 1).bind fun bt405 => (if bt405.1 < 0 then (laws_FnExactWayOf.j1 kj11 a1 A6 A5 A7 true a0_0 a0_1 l0_2) else ((laws_eqIntSS.f kj11 A7 A6).bind fun Au => (if Au = true then (laws_FnExactWayOf.j1 kj11 a1 A6 A5 A7 (Ai != A5) a0_0 a0_1 l0_2) else (laws_FnExactWayOf.j1 kj11 a1 A6 A5 A7 true a0_0 a0_1 l0_2))))) else (some false)) = some true := H
     have CX := Z.m BU
     clear BU
     by_cases c36 : AI = true
     ·subst c36
      have H1 : ((laws_markBoard.f kj11 Ac Ad Aa 1).bind fun bt405 => (if bt405.1 < 0 then (laws_FnExactWayOf.j1 kj11 a1 A6 A5 A7 true a0_0 a0_1 l0_2) else ((laws_eqIntSS.f kj11 A7 A6).bind fun Au => (if Au = true then (laws_FnExactWayOf.j1 kj11 a1 A6 A5 A7 (Ai != A5) a0_0 a0_1 l0_2) else (laws_FnExactWayOf.j1 kj11 a1 A6 A5 A7 true a0_0 a0_1 l0_2))))) = some true := by rw [if_pos rfl] at H; exact H
      clear H
      have H := H1
      clear H1
      replace H := Option.bind_eq_some_iff.mp H
      obtain ⟨⟨BP, AP⟩, BV, H⟩ := H
      replace H : (if BP < 0 then (laws_FnExactWayOf.j1 kj11 a1 A6 A5 A7 true a0_0 a0_1 l0_2) else ((laws_eqIntSS.f kj11 A7 A6).bind fun Au => (if Au = true then (laws_FnExactWayOf.j1 kj11 a1 A6 A5 A7 (Ai != A5) a0_0 a0_1 l0_2) else (laws_FnExactWayOf.j1 kj11 a1 A6 A5 A7 true a0_0 a0_1 l0_2)))) = some true := H
      have CY := Z.m BV
      clear BV
      have BL := Z.m H
      clear H
      try go_wp2
      replace Ae := Z.m (Kd.S_drew Ae.o)
      replace Ab := Z.m (Kd.S_drew Ab.o)
      replace A1 := Z.m (Kd.R_drew A1.o)
      replace A0 := Z.m (blk_drew A0.o)
      replace A2 := Z.m (blk_drew A2.o)
      replace HB := Z.m (qd HB.o)
      refine start_ (n := 5) (S := fun w' => w'.cell? ⟨Am, 0, none⟩ = some (.int .i64 Ac) ∧ w'.cell? ⟨Am, 1, none⟩ = some (.int .i64 Ad) ∧ w'.cell? ⟨Am, 2, none⟩ = some (.slice An Aa.length Al) ∧ w'.cell? ⟨Ap, 0, none⟩ = some (.int .i64 a0_0) ∧ w'.cell? ⟨Ap, 1, none⟩ = some (.int .i64 a0_1) ∧ w'.cell? ⟨Ap, 2, none⟩ = some (.slice A0_2 l0_2.length c0_2)) (ds := []) #[false, false, false, false, false] (by kernel_rfl) rfl rfl ⟨(ql A2.o 0).trans rfl, (ql A2.o 1).trans rfl, (ql A2.o 2).trans rfl, (ql A0.o 0).trans rfl, (ql A0.o 1).trans rfl, (ql A0.o 2).trans rfl⟩ (fun hHeld => ?_)
      generalize wc.drew = Dp at Ae Ab A1 A0 A2 HB hHeld ⊢
      refine take_ (i := 0) (N := some 45) (v := ?_) (a' := ?_) #[true, false, false, false, false] rfl rfl (by kernel_rfl) (fun _ _ _ h => h) (Or.inl ⟨by rfl, ?_⟩) hHeld ?_ ?_
      rotate_left
      ·rintro w' ⟨s0, s1, s2, s3, s4, s5⟩
       go_simp
       with_reducible rfl
      rotate_left
      ·simp only [Act.put, q1, q2, q3, i64_w, i32_w]
       rfl
      refine take_ (i := 1) (N := some 46) (v := ?_) (a' := ?_) #[true, true, false, false, false] rfl rfl (by kernel_rfl) (fun _ _ _ h => h) (Or.inl ⟨by rfl, ?_⟩) hHeld ?_ ?_
      rotate_left
      ·rintro w' ⟨s0, s1, s2, s3, s4, s5⟩
       go_simp
       with_reducible rfl
      rotate_left
      ·simp only [Act.put, q1, q2, q3, i64_w, i32_w]
       rfl
      refine one_ (i := 2) (N := some 47) #[true, true, true, false, false] rfl rfl (by kernel_rfl) (by decide) (fun K hK => ?_)
      refine goes_ Try.func15 (by kernel_rfl) rfl #[.agg #[.int .i64 a0_0, .int .i64 a0_1, .slice A0_2 l0_2.length c0_2]] (by rfl) rfl rfl (by (try simp only [List.map_toArray, List.map_cons, List.map_nil]); first | done | rfl | (simp only [List.length_drop, List.length_take]; rfl)) ?_
      with_reducible refine (laws_toBoard.calls kj11 a0_0 a0_1 _ _ l0_2 BA BB BC _ ?side1 ?side2 CW.o).mono ?_
      (case side1 => repeat (first | exact (Kd.C_below Az.o HB.o) | (with_reducible refine Kd.C_alloc ?_ _) | (with_reducible refine Kd.C_drewN ?_ _) | (with_reducible refine Kd.C_drew ?_)))
      (case side2 => exact Ay.o)
      rintro e Dq ⟨Df, rfl, At, hb⟩
      refine ⟨_, rfl, ?_⟩
      have Aw := Z.m (Kd.R_lower (Kd.R_new' At (Kd.R_lt (vR A1))) (below_size (vB HB)))
      replace Ae := Z.m (Kd.S_below (vS Ae) hb)
      replace Ab := Z.m (Kd.S_below (vS Ab) hb)
      replace A1 := Z.m (Kd.R_elder' (vR A1) (Kd.R_base At) hb)
      replace A0 := kB A0 hb
      replace A2 := kB A2 hb
      replace HB := bB HB hb
      (try clear hb); (try clear At)
      obtain ⟨Cg, Co, C9⟩ := Kd.R_slice Aw.o
      (first | subst C9 | (injection C9 with f1_ f2_ f3_; have f4_ := f1_.symm; have f5_ := f3_.symm; clear f1_ f2_ f3_; subst f4_; subst f5_))
      refine hK.out _ _ ⟨(ql A2.o 0).trans rfl, (ql A2.o 1).trans rfl, (ql A2.o 2).trans rfl, (ql A0.o 0).trans rfl, (ql A0.o 1).trans rfl, (ql A0.o 2).trans rfl⟩ (fun hHeld => ?_)
      clear hK K
      refine norm_ (a' := ?_) ?_ ?_
      rotate_left
      ·show Act.put _ (some 47) _ = _
       simp only [Act.put, q1, q2, q3, i64_w, i32_w]
       rfl
      refine one_ (i := 3) (N := some 48) #[true, true, true, true, false] rfl rfl (by kernel_rfl) (by decide) (fun K hK => ?_)
      refine goes_ Try.func18 (by kernel_rfl) rfl #[.agg #[.int .i64 Ac, .int .i64 Ad, .slice An Aa.length Al], .agg #[.int .i64 BA, .int .i64 BB, .slice Cg BC.length Co]] (by rfl) rfl rfl (by (try simp only [List.map_toArray, List.map_cons, List.map_nil]); first | done | rfl | (simp only [List.length_drop, List.length_take]; rfl)) ?_
      with_reducible refine (laws_eqBoard.calls kj11 Ac Ad _ _ Aa BA BB _ _ BC true _ ?side1 ?side2 ?side3 ?side4 CX.o).mono ?_
      (case side1 => repeat (first | exact (Kd.RrZ A1.o).2.2 | (with_reducible refine Kd.C_alloc ?_ _) | (with_reducible refine Kd.C_drewN ?_ _) | (with_reducible refine Kd.C_drew ?_)))
      (case side2 => exact (Kd.RrZ A1.o).2.1)
      (case side3 => repeat (first | exact (Kd.RrZ Aw.o).2.2 | (with_reducible refine Kd.C_alloc ?_ _) | (with_reducible refine Kd.C_drewN ?_ _) | (with_reducible refine Kd.C_drew ?_)))
      (case side4 => exact (Kd.RrZ Aw.o).2.1)
      rintro e Dr ⟨rfl, hb⟩
      refine ⟨_, rfl, ?_⟩
      replace Ae := Z.m (Kd.S_below (vS Ae) hb)
      replace Ab := Z.m (Kd.S_below (vS Ab) hb)
      replace A1 := Z.m (Kd.Rb (vR A1) hb)
      replace Aw := Z.m (Kd.Rb (vR Aw) hb)
      replace A0 := kB A0 hb
      replace A2 := kB A2 hb
      replace HB := bB HB hb
      (try clear hb)
      refine hK.out _ _ ⟨(ql A2.o 0).trans rfl, (ql A2.o 1).trans rfl, (ql A2.o 2).trans rfl, (ql A0.o 0).trans rfl, (ql A0.o 1).trans rfl, (ql A0.o 2).trans rfl⟩ (fun hHeld => ?_)
      clear hK K
      refine norm_ (a' := ?_) ?_ ?_
      rotate_left
      ·show Act.put _ (some 48) _ = _
       simp only [Act.put, q1, q2, q3, i64_w, i32_w]
       rfl
      refine pure_ (i := 4) (N := some 49) (v := ?_) (a' := ?_) #[true, true, true, true, true] rfl rfl (by kernel_rfl) (fun _ _ _ h => h) (Or.inl ⟨by rfl, ?_⟩) ?_ ?_
      rotate_left
      ·intro w'
       go_simp
       with_reducible rfl
      rotate_left
      ·simp only [Act.put, q1, q2, q3, i64_w, i32_w]
       rfl
      refine done_ (by kernel_rfl) ?_
      have CO := Ar.o
      have CR := Ah.o
      have Ba := bc0 A2
      have Bb := bc1 A2
      have Bc := bc2 A2
      have Bs := qz A2.o 0
      have Bt := qz A2.o 1
      have Bu := qz A2.o 2
      go_upto_region 14 with (first | ((with_reducible refine gc (f := 23) rfl ?_); refine gA (some 52) _ #[.agg #[.int .i64 Ac, .int .i64 Ad, .slice An Aa.length Al], .int .i64 1] ?_ Try.func23; (with_reducible refine (laws_markBoard.calls kj11 Ac Ad (fun k_ => some k_ = (.slice An Aa.length Al : Value).ownBlock) (.slice An Aa.length Al) Aa 1 BP AP w _ ?side1 ?side2 CY.o).mono ?_); (case side1 => repeat (first | (with_reducible first | exact HB.o | apply qa | apply qn | apply qd | refine qx ?_ AK.o | refine qx ?_ BH.o) | exact HB.o)); (case side2 => exact Kd.Rg rfl A1.o); rintro e Ds ⟨rfl, Ca, hb, hkp⟩; refine ⟨_, rfl, ?_⟩; replace Ae := Z.m (Kd.S_mono (ok' := fun k_ => k_ < N_) (Kd.S_keptB ((Kd.S_apart' Ae.o (Kd.Rt A1.o) (by decide))) hkp (fun k_ hk_ hs_ => (hk_.2) hs_)) (fun k_ hk_ => hk_.1.1)); replace Ab := Z.m (Kd.S_mono (ok' := fun k_ => N_ ≤ k_) (Kd.S_keptB ((Kd.S_apart' Ab.o (Kd.Rt A1.o) (by decide))) hkp (fun k_ hk_ hs_ => (hk_.2) hs_)) (fun k_ hk_ => hk_.1.1)); replace A0 := Z.m (qk (vK A0) hkp (fun hs_ => (fun e_ => (Kd.R_ne A1.o A0.o (by decide)) e_) hs_)); replace A2 := Z.m (qk (vK A2) hkp (fun hs_ => (fun e_ => (Kd.R_ne A1.o A2.o (by decide)) e_) hs_)); replace A1 := Z.m (Kd.Re rfl Ca (fun k_ e_ => A1.o.1 k_ e_)); replace Aw := Z.m (Kd.Rm (ok' := fun k_ => some k_ ≠ (.slice An Aa.length Al : Value).ownBlock) (Kd.Rk (Aw.o) hkp (fun k_ hk_ hs_ => (hk_.2) hs_)) (fun k_ hk_ => hk_.1.2)); replace HB := Z.m (hb); (try clear hb); (try clear hkp); (try clear Ca)))
      (try simp only [Act.put, q1, q2, q3])
      go_cut [65] (fun v65 wc => ∃ (kq : Nat) (AB : Bool), v65 = .bool AB ∧ Z (laws_FnExactWayOf.j1 kq a1 A6 A5 A7 AB a0_0 a0_1 l0_2 = some true) ∧ Z (kq ≤ kj11) ∧ Z (Kd.S (Kd.slice 3 (Kd.int .i64)) 43 wc w.heap.size (fun k_ => k_ < N_) Cb A6) ∧ Z (Kd.S (Kd.slice 3 (Kd.int .i64)) 43 wc w.heap.size (fun k_ => N_ ≤ k_) Cd A7) ∧ Z (Kd.R k89 89 wc w.heap.size (fun _ => True) (.slice An Aa.length Al) AP) ∧ Z (wc.heap[Ap]? = some (.cells #[.int .i64 a0_0, .int .i64 a0_1, (.slice A0_2 l0_2.length c0_2)] 24 (0, 0))) ∧ Z (wc.heap[Am]? = some (.cells #[.int .i64 Ac, .int .i64 Ad, (.slice An Aa.length Al)] 32 (0, 0))) ∧ Z (Below w.heap.size w wc))
      case first =>
       have H := BL.o
       clear BL
       by_cases c46 : BP < 0
       ·rw [if_pos c46] at H
        have AE := decide_eq_true c46
        clear c46
        (first | rw [AE] | (simp only [i64_w, i32_w]; rw [AE]) | skip)
        have H' := Z.m H
        clear H
        go_wp2
        go_meet
        case rel => exact ⟨_, (true), (by first | rfl | (simp; done) | (simp [*]; done)), H', ⟨by have := BN.o; first | omega | exact Nat.le_refl _⟩, ⟨vS Ae⟩, ⟨vS Ab⟩, ⟨by refine rK ?_; exact Kd.Rm A1.o (fun _ hk => trivial)⟩, ⟨vK A0⟩, ⟨vK A2⟩, ⟨vB HB⟩⟩
       ·rw [if_neg c46] at H
        have AE := decide_eq_false c46
        clear c46
        (first | rw [AE] | (simp only [i64_w, i32_w]; rw [AE]) | skip)
        replace H := Option.bind_eq_some_iff.mp H
        obtain ⟨Au, BW, H⟩ := H
        replace H : (if Au = true then (laws_FnExactWayOf.j1 kj11 a1 A6 A5 A7 (Ai != A5) a0_0 a0_1 l0_2) else (laws_FnExactWayOf.j1 kj11 a1 A6 A5 A7 true a0_0 a0_1 l0_2)) = some true := H
        have CZ := Z.m BW
        clear BW
        by_cases c48 : Au = true
        ·subst c48
         have H1 : (laws_FnExactWayOf.j1 kj11 a1 A6 A5 A7 (Ai != A5) a0_0 a0_1 l0_2) = some true := by rw [if_pos rfl] at H; exact H
         clear H
         have H := H1
         clear H1
         have H' := Z.m H
         clear H
         obtain ⟨D6, D9, Cw⟩ := Kd.S_slice Ab.o
         subst Cw
         obtain ⟨D7, Da, Cx⟩ := Kd.S_slice Ae.o
         subst Cx
         go_wp2_with (first | (go_at_call 37; (with_reducible refine (laws_eqIntSS.calls kj11 _ _ A7 _ _ A6 true _ ?side1 ?side2 ?side3 ?side4 CZ.o).mono ?_); (case side1 => repeat (first | exact (Kd.S_reads' Ab.o).2.2 | (with_reducible refine Kd.C_alloc ?_ _) | (with_reducible refine Kd.C_drewN ?_ _) | (with_reducible refine Kd.C_drew ?_))); (case side2 => exact (Kd.S_reads' Ab.o).2.1); (case side3 => repeat (first | exact (Kd.S_reads' Ae.o).2.2 | (with_reducible refine Kd.C_alloc ?_ _) | (with_reducible refine Kd.C_drewN ?_ _) | (with_reducible refine Kd.C_drew ?_))); (case side4 => exact (Kd.S_reads' Ae.o).2.1); rintro e w' ⟨rfl, ⟨nd, rfl⟩⟩))
         go_meet
         case rel => exact ⟨_, ((Ai != A5)), (by first | rfl | (simp; done) | (simp [*]; done)), H', ⟨by have := BN.o; first | omega | exact Nat.le_refl _⟩, ⟨vS Ae⟩, ⟨vS Ab⟩, ⟨by refine rK ?_; exact Kd.Rm A1.o (fun _ hk => trivial)⟩, ⟨vK A0⟩, ⟨vK A2⟩, ⟨vB HB⟩⟩
        ·(rw [if_neg c48] at H; exact absurd H (laws_FnExactWayOf.bad_j1 _ _ _ _ _ _ _ _))
      case rest =>
       clear BL
       (try clear c33); (try clear c36)
       (try clear Ba); (try clear Bb); (try clear Bc); (try clear Bs); (try clear Bt); (try clear Bu)
       obtain ⟨kq, AB, rfl, HA, Cl, Ae, Ab, A1, A0, A2, HB⟩ := hcut
       have A4 := (Kd.RrZ A1.o).1
       rw [A4] at A1
       (try simp only [A4])
       (try simp only [A4] at A0)
       (try simp only [A4] at A2)
       (try simp only [A4] at Ae)
       (try simp only [A4] at Ab)
       cases kq with
       | zero => exact absurd HA.o (by simp [laws_FnExactWayOf.j1])
       | succ kj37 =>
        have H := HA.o
        clear HA
        simp only [laws_FnExactWayOf.j1] at H
        by_cases c53 : AB = true
        ·(rw [if_pos c53] at H; exact absurd H (by decide))
        ·replace c53 := Bool.eq_false_iff.mpr c53
         subst c53
         have H1 : ((laws_markIntSS.f kj37 A7 1).bind fun bt408 => ((laws_heldIntSS.f kj37 bt408.2 1).bind fun Ax => (if Ax < 0 then (some false) else (if Ax = bt408.1 then ((laws_toBoard.f kj37 a0_0 a0_1 l0_2).bind fun bt411 => ((impl_WayOf.f kj37 bt411.1 bt411.2.1 bt411.2.2 a1).bind fun bt416 => ((laws_eqIntSS.f kj37 bt416.1 A6).bind fun Av => (if Av = true then (laws_FnExactWayOf.j2 kj37 bt408.2 bt408.1 (bt416.2 != A5)) else (laws_FnExactWayOf.j2 kj37 bt408.2 bt408.1 true))))) else (some false))))) = some true := by rw [if_neg (show ¬ (false = true) by decide)] at H; exact H
         clear H
         have H := H1
         clear H1
         replace H := Option.bind_eq_some_iff.mp H
         obtain ⟨⟨Aj, Af⟩, BX, H⟩ := H
         replace H : ((laws_heldIntSS.f kj37 Af 1).bind fun Ax => (if Ax < 0 then (some false) else (if Ax = Aj then ((laws_toBoard.f kj37 a0_0 a0_1 l0_2).bind fun bt411 => ((impl_WayOf.f kj37 bt411.1 bt411.2.1 bt411.2.2 a1).bind fun bt416 => ((laws_eqIntSS.f kj37 bt416.1 A6).bind fun Av => (if Av = true then (laws_FnExactWayOf.j2 kj37 Af Aj (bt416.2 != A5)) else (laws_FnExactWayOf.j2 kj37 Af Aj true))))) else (some false)))) = some true := H
         have D0 := Z.m BX
         clear BX
         replace H := Option.bind_eq_some_iff.mp H
         obtain ⟨Ax, BY, H⟩ := H
         replace H : (if Ax < 0 then (some false) else (if Ax = Aj then ((laws_toBoard.f kj37 a0_0 a0_1 l0_2).bind fun bt411 => ((impl_WayOf.f kj37 bt411.1 bt411.2.1 bt411.2.2 a1).bind fun bt416 => ((laws_eqIntSS.f kj37 bt416.1 A6).bind fun Av => (if Av = true then (laws_FnExactWayOf.j2 kj37 Af Aj (bt416.2 != A5)) else (laws_FnExactWayOf.j2 kj37 Af Aj true))))) else (some false))) = some true := H
         have D1 := Z.m BY
         clear BY
         by_cases c56 : Ax < 0
         ·(rw [if_pos c56] at H; exact absurd H (by decide))
         ·rw [if_neg c56] at H
          have BI := decide_eq_false c56
          (try simp only [A4] at BI)
          clear c56
          by_cases c59 : Ax = Aj
          ·rw [if_pos c59] at H
           have C6 := beq_iff_eq.mpr c59
           have C7 := bne_eq_false_iff_eq.mpr c59
           clear c59
           replace H := Option.bind_eq_some_iff.mp H
           obtain ⟨⟨BD, BE, BF⟩, BZ, H⟩ := H
           replace H : ((impl_WayOf.f kj37 BD BE BF a1).bind fun bt416 => ((laws_eqIntSS.f kj37 bt416.1 A6).bind fun Av => (if Av = true then (laws_FnExactWayOf.j2 kj37 Af Aj (bt416.2 != A5)) else (laws_FnExactWayOf.j2 kj37 Af Aj true)))) = some true := H
           have D2 := Z.m BZ
           clear BZ
           replace H := Option.bind_eq_some_iff.mp H
           obtain ⟨⟨BG, AQ⟩, C0, H⟩ := H
           replace H : ((laws_eqIntSS.f kj37 BG A6).bind fun Av => (if Av = true then (laws_FnExactWayOf.j2 kj37 Af Aj (AQ != A5)) else (laws_FnExactWayOf.j2 kj37 Af Aj true))) = some true := H
           have D3 := Z.m C0
           clear C0
           have BM := Z.m H
           clear H
           obtain ⟨AJ, AN, Cy⟩ := Kd.S_slice Ab.o
           subst Cy
           go_upto_region 25 with (first | ((with_reducible refine gc (f := 38) rfl ?_); refine gA (some 68) _ #[.slice AJ A7.length AN, .int .i64 1] ?_ Try.func38; (with_reducible refine (laws_markIntSS.calls kj37 (fun k_ => N_ ≤ k_) (.slice AJ A7.length AN) A7 1 Aj Af w _ ?side1 ?side2 D0.o).mono ?_); (case side1 => repeat (first | (with_reducible first | exact HB.o | apply qa | apply qn | apply qd | refine qx ?_ AK.o | refine qx ?_ BH.o) | exact HB.o)); (case side2 => exact Ab.o); rintro e Dt ⟨rfl, Ca, hb, hkp⟩; refine ⟨_, rfl, ?_⟩; replace Ae := Z.m (Kd.S_kept (Ae.o) hkp (fun k_ hk_ hs_ => Nat.not_le.2 hk_ hs_)); replace Ab := Z.m (Kd.S_mono (ok' := fun _ => True) Ca (fun _ _ => trivial)); replace A1 := Z.m (Kd.Rm (ok' := fun k_ => True) (Kd.R_kept (Kd.Rg rfl A1.o) hkp (fun k_ hk_ hs_ => Nat.not_le.2 (HXN.o k_ (hk_.trans (way_own _ _ _ _ _))) hs_)) (fun _ _ => trivial)); replace A0 := Z.m (qk (vK A0) hkp (fun hs_ => Nat.not_le.2 GN377.o hs_)); replace A2 := Z.m (qk (vK A2) hkp (fun hs_ => Nat.not_le.2 GN393.o hs_)); replace HB := Z.m (hb); (try clear hb); (try clear hkp); (try clear Ca)) | ((with_reducible refine gc (f := 39) rfl ?_); refine goesL_ (some 71) rfl rfl Try.func39 (by kernel_rfl) rfl #[.slice AJ Af.length AN, .int .i64 1] rfl (by (try simp only [List.map_toArray, List.map_cons, List.map_nil]); first | done | (rw [show Af.length = A7.length from (Kd.S_reads' Ab.o).1.symm] <;> rfl) | rfl | (simp only [List.length_drop, List.length_take]; rfl)) ?_; (with_reducible refine (laws_heldIntSS.calls kj37 _ _ Af 1 Ax _ ?side1 ?side2 D1.o).mono ?_); (case side1 => repeat (first | exact (Kd.S_reads' Ab.o).2.2 | (with_reducible refine Kd.C_alloc ?_ _) | (with_reducible refine Kd.C_drewN ?_ _) | (with_reducible refine Kd.C_drew ?_))); (case side2 => rw [show Af.length = A7.length from (Kd.S_reads' Ab.o).1.symm]; exact (Kd.S_reads' Ab.o).2.1); rintro e w' ⟨rfl, ⟨nd, rfl⟩⟩; refine ⟨_, rfl, ?_⟩; have CP := Ah.o; have CS := Ar.o; have Bd := bc0 A0; have Be := bc1 A0; have Bf := bc2 A0; have Bv := qz A0.o 0; have Bw := qz A0.o 1; have Bx := qz A0.o 2) | ((with_reducible refine gc (f := 15) rfl ?_); refine gA (some 79) _ #[.agg #[.int .i64 a0_0, .int .i64 a0_1, .slice A0_2 l0_2.length c0_2]] ?_ Try.func15; (with_reducible refine (laws_toBoard.calls kj37 a0_0 a0_1 _ _ l0_2 BD BE BF _ ?side1 ?side2 D2.o).mono ?_); (case side1 => repeat (first | exact (Kd.C_below Az.o (vB HB)) | (with_reducible refine Kd.C_alloc ?_ _) | (with_reducible refine Kd.C_drewN ?_ _) | (with_reducible refine Kd.C_drew ?_))); (case side2 => exact Ay.o); rintro e Du ⟨Dg, rfl, At, hb⟩; refine ⟨_, rfl, ?_⟩; have AD := Z.m (Kd.R_lower (Kd.R_new' At (Kd.R_lt (vR A1))) (below_size (vB HB))); replace Ae := Z.m (Kd.S_below (vS Ae) hb); replace Ab := Z.m (Kd.S_below (vS Ab) hb); replace A1 := Z.m (Kd.R_elder' (vR A1) (Kd.R_base At) hb); replace A0 := kB A0 hb; replace A2 := kB A2 hb; replace HB := bB HB hb; (try clear hb); (try clear BO); (try clear hk); (try clear hi); (try clear At); obtain ⟨Ch, Cp, Cz⟩ := Kd.R_slice AD.o; subst Cz) | ((with_reducible refine gc (f := 36) rfl ?_); refine gA (some 81) _ #[.agg #[.int .i64 BD, .int .i64 BE, .slice Ch BF.length Cp], .int .i64 a1] ?_ Try.func36; (with_reducible refine (impl_WayOf.calls kj37 BD BE _ _ BF a1 BG AQ _ ?side1 ?side2 D3.o).mono ?_); (case side1 => repeat (first | exact (Kd.RrZ AD.o).2.2 | (with_reducible refine Kd.C_alloc ?_ _) | (with_reducible refine Kd.C_drewN ?_ _) | (with_reducible refine Kd.C_drew ?_))); (case side2 => exact (Kd.RrZ AD.o).2.1); rintro e Dv ⟨Dh, rfl, At, hb⟩; refine ⟨_, rfl, ?_⟩; have AM := Z.m (Kd.S_lower (Kd.S_new' (Kd.S_new' At (Kd.S_lt (vS Ae))) (Kd.S_lt (vS Ab))) (below_size (vB HB))); replace Ae := Z.m (Kd.S_elder' (vS Ae) (Kd.S_base At) hb); replace Ab := Z.m (Kd.S_elder' (vS Ab) (Kd.S_base At) hb); replace A1 := Z.m (Kd.Rb (vR A1) hb); replace AD := Z.m (Kd.Rb (vR AD) hb); replace A0 := kB A0 hb; replace A2 := kB A2 hb; replace HB := bB HB hb; (try clear hb); (try clear BO); (try clear hk); (try clear hi); (try clear At)))
           (try simp only [Act.put, q1, q2, q3])
           go_cut [92] (fun v92 wc => ∃ (kq : Nat) (AC : Bool), v92 = .bool AC ∧ Z (laws_FnExactWayOf.j2 kq Af Aj AC = some true) ∧ Z (kq ≤ kj37) ∧ Z (Kd.S (Kd.slice 3 (Kd.int .i64)) 43 wc w.heap.size (fun _ => True) (.slice AJ A7.length AN) Af) ∧ Z (Kd.R k89 89 wc w.heap.size (fun _ => True) (.slice An AP.length Al) AP) ∧ Z (wc.heap[Ap]? = some (.cells #[.int .i64 a0_0, .int .i64 a0_1, (.slice A0_2 l0_2.length c0_2)] 24 (0, 0))) ∧ Z (wc.heap[Am]? = some (.cells #[.int .i64 Ac, .int .i64 Ad, (.slice An AP.length Al)] 32 (0, 0))) ∧ Z (Below w.heap.size w wc))
           case first =>
            have H := BM.o
            clear BM
            replace H := Option.bind_eq_some_iff.mp H
            obtain ⟨Av, C1, H⟩ := H
            replace H : (if Av = true then (laws_FnExactWayOf.j2 kj37 Af Aj (AQ != A5)) else (laws_FnExactWayOf.j2 kj37 Af Aj true)) = some true := H
            have D4 := Z.m C1
            clear C1
            by_cases c71 : Av = true
            ·subst c71
             have H1 : (laws_FnExactWayOf.j2 kj37 Af Aj (AQ != A5)) = some true := by rw [if_pos rfl] at H; exact H
             clear H
             have H := H1
             clear H1
             have H' := Z.m H
             clear H
             obtain ⟨Ci, Cq, CA⟩ := Kd.S_slice AM.o
             subst CA
             obtain ⟨Cj, Cr, CB⟩ := Kd.S_slice Ae.o
             subst CB
             go_wp2_with (first | ((with_reducible refine gc (f := 37) rfl ?_); refine gA (some 86) _ #[.slice Ci BG.length Cq, .slice Cj A6.length Cr] ?_ Try.func37; (with_reducible refine (laws_eqIntSS.calls kj37 _ _ BG _ _ A6 true _ ?side1 ?side2 ?side3 ?side4 D4.o).mono ?_); (case side1 => repeat (first | exact (Kd.S_reads' AM.o).2.2 | (with_reducible refine Kd.C_alloc ?_ _) | (with_reducible refine Kd.C_drewN ?_ _) | (with_reducible refine Kd.C_drew ?_))); (case side2 => exact (Kd.S_reads' AM.o).2.1); (case side3 => repeat (first | exact (Kd.S_reads' Ae.o).2.2 | (with_reducible refine Kd.C_alloc ?_ _) | (with_reducible refine Kd.C_drewN ?_ _) | (with_reducible refine Kd.C_drew ?_))); (case side4 => exact (Kd.S_reads' Ae.o).2.1); rintro e w' ⟨rfl, ⟨nd, rfl⟩⟩; refine ⟨_, rfl, ?_⟩))
             go_meet
             case rel => exact ⟨_, ((AQ != A5)), (by first | rfl | (simp; done) | (simp [*]; done)), H', ⟨by have := BN.o; have := Cl.o; first | omega | exact Nat.le_refl _⟩, ⟨by (try simp only [A4]); (with_reducible repeat (first | apply Kd.S_alloc | apply Kd.S_drewN | apply Kd.S_drew)); exact Kd.S_mono Ab.o (fun _ hk => trivial)⟩, ⟨by (try simp only [A4]); refine rK ?_; exact Kd.Rm A1.o (fun _ hk => trivial)⟩, ⟨by (try simp only [A4]); refine bK ?_; exact A0.o⟩, ⟨by (try simp only [A4]); refine bK ?_; exact A2.o⟩, ⟨vB HB⟩⟩
            ·(rw [if_neg c71] at H; exact absurd H (laws_FnExactWayOf.bad_j2 _ _ _))
           case rest =>
            clear BM
            (try clear c53); (try clear BI); (try clear C6); (try clear C7)
            (try clear Bd); (try clear Be); (try clear Bf); (try clear Bv); (try clear Bw); (try clear Bx)
            obtain ⟨kq, AC, rfl, HA, D8, Ab, A1, A0, A2, HB⟩ := hcut
            have As := (Kd.S_reads' Ab.o).1
            rw [As] at Ab
            (try simp only [As])
            (try simp only [As] at A0)
            (try simp only [As] at A2)
            (try simp only [As] at A1)
            cases kq with
            | zero => exact absurd HA.o (by simp [laws_FnExactWayOf.j2])
            | succ kj61 =>
             have H := HA.o
             clear HA
             simp only [laws_FnExactWayOf.j2] at H
             by_cases c76 : AC = true
             ·(rw [if_pos c76] at H; exact absurd H (by decide))
             ·replace c76 := Bool.eq_false_iff.mpr c76
              subst c76
              have H1 : ((laws_heldIntSS.f kj61 Af 1).bind fun AF => (if AF < 0 then (some false) else (if AF = Aj then (some true) else (some false)))) = some true := by rw [if_neg (show ¬ (false = true) by decide)] at H; exact H
              clear H
              have H := H1
              clear H1
              replace H := Option.bind_eq_some_iff.mp H
              obtain ⟨AF, C2, H⟩ := H
              replace H : (if AF < 0 then (some false) else (if AF = Aj then (some true) else (some false))) = some true := H
              have D5 := Z.m C2
              clear C2
              by_cases c78 : AF < 0
              ·(rw [if_pos c78] at H; exact absurd H (by decide))
              ·rw [if_neg c78] at H
               have BJ := decide_eq_false c78
               (try simp only [A4] at BJ)
               (try simp only [As] at BJ)
               clear c78
               by_cases c79 : AF = Aj
               ·rw [if_pos c79] at H
                have CL := beq_iff_eq.mpr c79
                have CM := bne_eq_false_iff_eq.mpr c79
                clear c79
                clear H
                go_wp2_with (first | ((with_reducible refine gc (f := 39) rfl ?_); refine gA (some 95) _ #[.slice AJ Af.length AN, .int .i64 1] ?_ Try.func39; (with_reducible refine (laws_heldIntSS.calls kj61 _ _ Af 1 AF _ ?side1 ?side2 D5.o).mono ?_); (case side1 => repeat (first | exact (Kd.S_reads' Ab.o).2.2 | (with_reducible refine Kd.C_alloc ?_ _) | (with_reducible refine Kd.C_drewN ?_ _) | (with_reducible refine Kd.C_drew ?_))); (case side2 => exact (Kd.S_reads' Ab.o).2.1); rintro e w' ⟨rfl, ⟨nd, rfl⟩⟩; refine ⟨_, rfl, ?_⟩))
                go_ret
                exact ⟨by first | rfl | (simp [eN, eS] <;> rfl) | (simp [*, eN, eS] <;> rfl), vB HB⟩
               ·(rw [if_neg c79] at H; exact absurd H (by decide))
          ·(rw [if_neg c59] at H; exact absurd H (by decide))
     ·(rw [if_neg c36] at H; exact absurd H (by decide))

end Go.Proofs.Ytoklfgjemfojgaa.PAll
