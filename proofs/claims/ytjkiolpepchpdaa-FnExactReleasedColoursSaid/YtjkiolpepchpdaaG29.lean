/- Began as a text that print.sh wrote (of the functions named below); turned and shortened by this session. -/
import Derived.Test.YtjkiolpepchpdaaG0
import Derived.Test.YtjkiolpepchpdaaG1
import Derived.Test.YtjkiolpepchpdaaG11
import Derived.Test.YtjkiolpepchpdaaG22
import Derived.Test.YtjkiolpepchpdaaG23
import Derived.Test.YtjkiolpepchpdaaG28
namespace Go.Proofs.Ytjkiolpepchpdaa.PAll
open Go.RowKit Go.Proofs.YtjkiolpepchpdaaW.PrintWords Go.Proofs.YtjkiolpepchpdaaW.PrintLast Go.Proofs.YtjkiolpepchpdaaW.PrintMore
attribute [local go_sem] max2_int min2_int max_two min_two max_three min_three max_four min_four   -- for this text's walks alone
set_option linter.unusedVariables false
set_option linter.unusedSimpArgs false

/-! ### laws_FnExactReleasedColours: function 5 -/
mutual
def laws_FnExactReleasedColours.j0 : Nat → List Int → Bool → List Int → Bool → Bool → Int → Int → List (S93) → Int → Int → Int → Int → Int → Int → Int → List (S88) → Int → Int → Int → Int → Int → Option (Bool)
 | 0, _, _, _, _, _, _, _, _, _, _, _, _, _, _, _, _, _, _, _, _, _ => none
 | k + 1, x4, x5, x7, x8, x40, x765000, x765001, x765002, x765003, x765004, x765005, x765006, x765007, x791000, x791001, x791002, x791003, x791004, x791005, x791006, x791007 => if x40 = true then (some false) else ((laws_toMachine.f k x765000 x765001 x765002 x765003 x765004 x765005 x765006 x765007).bind fun bt796 => ((laws_eqMachine.f k x791000 x791001 x791002 x791003 x791004 x791005 x791006 x791007 bt796.1 bt796.2.1 bt796.2.2.1 bt796.2.2.2.1 bt796.2.2.2.2.1 bt796.2.2.2.2.2.1 bt796.2.2.2.2.2.2.1 bt796.2.2.2.2.2.2.2).bind fun t806 => (if t806 = true then ((laws_markMachine.f k x791000 x791001 x791002 x791003 x791004 x791005 x791006 x791007 1).bind fun bt807 => (if bt807.1 < 0 then (laws_FnExactReleasedColours.j1 k x4 x5 x7 true x765000 x765001 x765002 x765003 x765004 x765005 x765006 x765007) else ((laws_eqIntS.f k x7 x4).bind fun t809 => (if t809 = true then (laws_FnExactReleasedColours.j1 k x4 x5 x7 (x8 != x5) x765000 x765001 x765002 x765003 x765004 x765005 x765006 x765007) else (laws_FnExactReleasedColours.j1 k x4 x5 x7 true x765000 x765001 x765002 x765003 x765004 x765005 x765006 x765007))))) else (some false))))
def laws_FnExactReleasedColours.j1 : Nat → List Int → Bool → List Int → Bool → Int → Int → List (S93) → Int → Int → Int → Int → Int → Option (Bool)
 | 0, _, _, _, _, _, _, _, _, _, _, _, _ => none
 | k + 1, x4, x5, x7, x61, x765000, x765001, x765002, x765003, x765004, x765005, x765006, x765007 => if x61 = true then (some false) else ((laws_markIntS.f k x7 1).bind fun bt810 => ((laws_heldIntS.f k bt810.2 1).bind fun t812 => (if t812 < 0 then (some false) else (if t812 = bt810.1 then ((laws_toMachine.f k x765000 x765001 x765002 x765003 x765004 x765005 x765006 x765007).bind fun bt813 => ((impl_ReleasedColours.f k bt813.1 bt813.2.1 bt813.2.2.1 bt813.2.2.2.1 bt813.2.2.2.2.1 bt813.2.2.2.2.2.1 bt813.2.2.2.2.2.2.1 bt813.2.2.2.2.2.2.2).bind fun bt823 => ((laws_eqIntS.f k bt823.1 x4).bind fun t827 => (if t827 = true then (laws_FnExactReleasedColours.j2 k bt810.2 bt810.1 (bt823.2 != x5)) else (laws_FnExactReleasedColours.j2 k bt810.2 bt810.1 true))))) else (some false)))))
def laws_FnExactReleasedColours.j2 : Nat → List Int → Int → Bool → Option (Bool)
 | 0, _, _, _ => none
 | k + 1, x7, x10, x87 => if x87 = true then (some false) else ((laws_heldIntS.f k x7 1).bind fun t828 => (if t828 < 0 then (some false) else (if t828 = x10 then (some true) else (some false))))
end
def laws_FnExactReleasedColours.f (k : Nat) (a0_0 : Int) (a0_1 : Int) (l0_2 : List (S93)) (a0_3 : Int) (a0_4 : Int) (a0_5 : Int) (a0_6 : Int) (a0_7 : Int) : Option (Bool) := (laws_szMachine.f a0_0 a0_1 l0_2 a0_3 a0_4 a0_5 a0_6 a0_7 1048576).bind fun t765 => (if t765 < 0 then (some true) else ((laws_toMachine.f k a0_0 a0_1 l0_2 a0_3 a0_4 a0_5 a0_6 a0_7).bind fun bt766 => ((spec_ReleasedColours.f k bt766.1 bt766.2.1 bt766.2.2.1 bt766.2.2.2.1 bt766.2.2.2.2.1 bt766.2.2.2.2.2.1 bt766.2.2.2.2.2.2.1 bt766.2.2.2.2.2.2.2).bind fun bt776 => ((laws_toMachine.f k a0_0 a0_1 l0_2 a0_3 a0_4 a0_5 a0_6 a0_7).bind fun bt780 => ((impl_ReleasedColours.f k bt780.1 bt780.2.1 bt780.2.2.1 bt780.2.2.2.1 bt780.2.2.2.2.1 bt780.2.2.2.2.2.1 bt780.2.2.2.2.2.2.1 bt780.2.2.2.2.2.2.2).bind fun bt791 => ((laws_eqIntS.f k bt791.1 bt776.1).bind fun t795 => (if t795 = true then (laws_FnExactReleasedColours.j0 k bt776.1 bt776.2 bt791.1 bt791.2 (bt791.2 != bt776.2) a0_0 a0_1 l0_2 a0_3 a0_4 a0_5 a0_6 a0_7 bt780.1 bt780.2.1 bt780.2.2.1 bt780.2.2.2.1 bt780.2.2.2.2.1 bt780.2.2.2.2.2.1 bt780.2.2.2.2.2.2.1 bt780.2.2.2.2.2.2.2) else (laws_FnExactReleasedColours.j0 k bt776.1 bt776.2 bt791.1 bt791.2 true a0_0 a0_1 l0_2 a0_3 a0_4 a0_5 a0_6 a0_7 bt780.1 bt780.2.1 bt780.2.2.1 bt780.2.2.2.1 bt780.2.2.2.2.1 bt780.2.2.2.2.2.1 bt780.2.2.2.2.2.2.1 bt780.2.2.2.2.2.2.2))))))))
theorem laws_FnExactReleasedColours.bad_j0 (k : Nat) (y0 : List Int) (y1 : Bool) (y2 : List Int) (y3 : Bool) (y5 : Int) (y6 : Int) (y7 : List (S93)) (y8 : Int) (y9 : Int) (y10 : Int) (y11 : Int) (y12 : Int) (y13 : Int) (y14 : Int) (y15 : List (S88)) (y16 : Int) (y17 : Int) (y18 : Int) (y19 : Int) (y20 : Int) : ¬ laws_FnExactReleasedColours.j0 k y0 y1 y2 y3 true y5 y6 y7 y8 y9 y10 y11 y12 y13 y14 y15 y16 y17 y18 y19 y20 = some true := by
 cases k <;> simp [laws_FnExactReleasedColours.j0]
theorem laws_FnExactReleasedColours.bad_j1 (k : Nat) (y0 : List Int) (y1 : Bool) (y2 : List Int) (y4 : Int) (y5 : Int) (y6 : List (S93)) (y7 : Int) (y8 : Int) (y9 : Int) (y10 : Int) (y11 : Int) : ¬ laws_FnExactReleasedColours.j1 k y0 y1 y2 true y4 y5 y6 y7 y8 y9 y10 y11 = some true := by
 cases k <;> simp [laws_FnExactReleasedColours.j1]
theorem laws_FnExactReleasedColours.bad_j2 (k : Nat) (y0 : List Int) (y1 : Int) : ¬ laws_FnExactReleasedColours.j2 k y0 y1 true = some true := by
 cases k <;> simp [laws_FnExactReleasedColours.j2]
set_option maxHeartbeats 8000000 in
set_option maxRecDepth 100000 in
theorem laws_FnExactReleasedColours.calls (k : Nat) (a0_0 : Int) (a0_1 : Int) (A0_2 : Option Addr) (c0_2 : Nat) (l0_2 : List (S93)) (a0_3 : Int) (a0_4 : Int) (a0_5 : Int) (a0_6 : Int) (a0_7 : Int) (w : World) (hr0_2 : Kd.C k93 w A0_2 l0_2.length l0_2) (hc0_2 : l0_2.length ≤ c0_2) (h : laws_FnExactReleasedColours.f k a0_0 a0_1 l0_2 a0_3 a0_4 a0_5 a0_6 a0_7 = some true) :
 Calls Try.prog 5 #[.agg #[.int .i64 a0_0, .int .i64 a0_1, .slice A0_2 l0_2.length c0_2, .int .i64 a0_3, .int .i64 a0_4, .int .i64 a0_5, .int .i64 a0_6, .int .i64 a0_7]] w fun e w' => e = .returned (.bool true) ∧ Below w.heap.size w w' := by
 have ED := Try.underlying26
 have EE := Try.underlying32
 have AF := Z.m hr0_2
 have AE := Z.m hc0_2
 clear hr0_2 hc0_2
 have HB := Z.m (Below.refl w.heap.size w)
 have H : ((laws_szMachine.f a0_0 a0_1 l0_2 a0_3 a0_4 a0_5 a0_6 a0_7 1048576).bind fun AP => (if AP < 0 then (some true) else ((laws_toMachine.f k a0_0 a0_1 l0_2 a0_3 a0_4 a0_5 a0_6 a0_7).bind fun bt766 => ((spec_ReleasedColours.f k bt766.1 bt766.2.1 bt766.2.2.1 bt766.2.2.2.1 bt766.2.2.2.2.1 bt766.2.2.2.2.2.1 bt766.2.2.2.2.2.2.1 bt766.2.2.2.2.2.2.2).bind fun bt776 => ((laws_toMachine.f k a0_0 a0_1 l0_2 a0_3 a0_4 a0_5 a0_6 a0_7).bind fun bt780 => ((impl_ReleasedColours.f k bt780.1 bt780.2.1 bt780.2.2.1 bt780.2.2.2.1 bt780.2.2.2.2.1 bt780.2.2.2.2.2.1 bt780.2.2.2.2.2.2.1 bt780.2.2.2.2.2.2.2).bind fun bt791 => ((laws_eqIntS.f k bt791.1 bt776.1).bind fun Av => (if Av = true then (laws_FnExactReleasedColours.j0 k bt776.1 bt776.2 bt791.1 bt791.2 (bt791.2 != bt776.2) a0_0 a0_1 l0_2 a0_3 a0_4 a0_5 a0_6 a0_7 bt780.1 bt780.2.1 bt780.2.2.1 bt780.2.2.2.1 bt780.2.2.2.2.1 bt780.2.2.2.2.2.1 bt780.2.2.2.2.2.2.1 bt780.2.2.2.2.2.2.2) else (laws_FnExactReleasedColours.j0 k bt776.1 bt776.2 bt791.1 bt791.2 true a0_0 a0_1 l0_2 a0_3 a0_4 a0_5 a0_6 a0_7 bt780.1 bt780.2.1 bt780.2.2.1 bt780.2.2.2.1 bt780.2.2.2.2.1 bt780.2.2.2.2.2.1 bt780.2.2.2.2.2.2.1 bt780.2.2.2.2.2.2.2))))))))) = some true := h
 clear h
 replace H := Option.bind_eq_some_iff.mp H
 obtain ⟨AP, E8, H⟩ := H
 replace H : (if AP < 0 then (some true) else ((laws_toMachine.f k a0_0 a0_1 l0_2 a0_3 a0_4 a0_5 a0_6 a0_7).bind fun bt766 => ((spec_ReleasedColours.f k bt766.1 bt766.2.1 bt766.2.2.1 bt766.2.2.2.1 bt766.2.2.2.2.1 bt766.2.2.2.2.2.1 bt766.2.2.2.2.2.2.1 bt766.2.2.2.2.2.2.2).bind fun bt776 => ((laws_toMachine.f k a0_0 a0_1 l0_2 a0_3 a0_4 a0_5 a0_6 a0_7).bind fun bt780 => ((impl_ReleasedColours.f k bt780.1 bt780.2.1 bt780.2.2.1 bt780.2.2.2.1 bt780.2.2.2.2.1 bt780.2.2.2.2.2.1 bt780.2.2.2.2.2.2.1 bt780.2.2.2.2.2.2.2).bind fun bt791 => ((laws_eqIntS.f k bt791.1 bt776.1).bind fun Av => (if Av = true then (laws_FnExactReleasedColours.j0 k bt776.1 bt776.2 bt791.1 bt791.2 (bt791.2 != bt776.2) a0_0 a0_1 l0_2 a0_3 a0_4 a0_5 a0_6 a0_7 bt780.1 bt780.2.1 bt780.2.2.1 bt780.2.2.2.1 bt780.2.2.2.2.1 bt780.2.2.2.2.2.1 bt780.2.2.2.2.2.2.1 bt780.2.2.2.2.2.2.2) else (laws_FnExactReleasedColours.j0 k bt776.1 bt776.2 bt791.1 bt791.2 true a0_0 a0_1 l0_2 a0_3 a0_4 a0_5 a0_6 a0_7 bt780.1 bt780.2.1 bt780.2.2.1 bt780.2.2.2.1 bt780.2.2.2.2.1 bt780.2.2.2.2.2.1 bt780.2.2.2.2.2.2.1 bt780.2.2.2.2.2.2.2)))))))) = some true := H
 have A2 := Z.m E8
 clear E8
 by_cases c3 : AP < 0
 ·rw [if_pos c3] at H
  have Dp := decide_eq_true c3
  clear c3
  clear H
  go_enter Try.func5, Try.ntmps5
  go_wp2_with (first | ((with_reducible refine gq (N := 1) rfl ?_); refine be (N := 1) (cs := #[.int .i64 a0_0, .int .i64 a0_1, .slice A0_2 l0_2.length c0_2, .int .i64 a0_3, .int .i64 a0_4, .int .i64 a0_5, .int .i64 a0_6, .int .i64 a0_7]) (t := 26) ?_; intro Am hg w4 hbox hb; have A0 := Z.m (hbox); have AS := gW (w := w) HB hg; have AR := AS; replace HB := bB HB hb; clear hb hbox hg; have DS := bc0 A0; have DT := bc1 A0; have DU := bc2 A0; have DV := bc3 A0; have DW := bc4 A0; have DX := bc5 A0; have DY := bc6 A0; have DZ := bc7 A0; have E0 := qz A0.o 0; have E1 := qz A0.o 1; have E2 := qz A0.o 2; have E3 := qz A0.o 3; have E4 := qz A0.o 4; have E5 := qz A0.o 5; have E6 := qz A0.o 6; have E7 := qz A0.o 7) | ((with_reducible refine gc (f := 10) rfl ?_); refine gA (some 16) _ #[.agg #[.int .i64 a0_0, .int .i64 a0_1, .slice A0_2 l0_2.length c0_2, .int .i64 a0_3, .int .i64 a0_4, .int .i64 a0_5, .int .i64 a0_6, .int .i64 a0_7], .int .i64 1048576] ?_ Try.func10; (with_reducible refine (laws_szMachine.calls a0_0 a0_1 _ _ l0_2 a0_3 a0_4 a0_5 a0_6 a0_7 1048576 AP _ ?side1 ?side2 A2.o).mono ?_); (case side1 => repeat (first | exact (Kd.C_below AF.o HB.o) | (with_reducible refine Kd.C_alloc ?_ _) | (with_reducible refine Kd.C_drewN ?_ _) | (with_reducible refine Kd.C_drew ?_))); (case side2 => exact AE.o); rintro e w6 ⟨rfl, hb⟩; refine ⟨_, rfl, ?_⟩; replace A0 := kB A0 hb; replace HB := bB HB hb; (try clear hb); (try clear D9); (try clear hk); (try clear hi)))
  go_ret
  exact ⟨by first | rfl | (simp [eN, eS] <;> rfl) | (simp [*, eN, eS] <;> rfl), vB HB⟩
 ·rw [if_neg c3] at H
  have Dp := decide_eq_false c3
  clear c3
  replace H := Option.bind_eq_some_iff.mp H
  obtain ⟨⟨CE, CF, AU, CG, CH, CI, CJ, CK⟩, E9, H⟩ := H
  replace H : ((spec_ReleasedColours.f k CE CF AU CG CH CI CJ CK).bind fun bt776 => ((laws_toMachine.f k a0_0 a0_1 l0_2 a0_3 a0_4 a0_5 a0_6 a0_7).bind fun bt780 => ((impl_ReleasedColours.f k bt780.1 bt780.2.1 bt780.2.2.1 bt780.2.2.2.1 bt780.2.2.2.2.1 bt780.2.2.2.2.2.1 bt780.2.2.2.2.2.2.1 bt780.2.2.2.2.2.2.2).bind fun bt791 => ((laws_eqIntS.f k bt791.1 bt776.1).bind fun Av => (if Av = true then (laws_FnExactReleasedColours.j0 k bt776.1 bt776.2 bt791.1 bt791.2 (bt791.2 != bt776.2) a0_0 a0_1 l0_2 a0_3 a0_4 a0_5 a0_6 a0_7 bt780.1 bt780.2.1 bt780.2.2.1 bt780.2.2.2.1 bt780.2.2.2.2.1 bt780.2.2.2.2.2.1 bt780.2.2.2.2.2.2.1 bt780.2.2.2.2.2.2.2) else (laws_FnExactReleasedColours.j0 k bt776.1 bt776.2 bt791.1 bt791.2 true a0_0 a0_1 l0_2 a0_3 a0_4 a0_5 a0_6 a0_7 bt780.1 bt780.2.1 bt780.2.2.1 bt780.2.2.2.1 bt780.2.2.2.2.1 bt780.2.2.2.2.2.1 bt780.2.2.2.2.2.2.1 bt780.2.2.2.2.2.2.2)))))) = some true := H
  have A7 := Z.m E9
  clear E9
  replace H := Option.bind_eq_some_iff.mp H
  obtain ⟨⟨A6, A5⟩, Ea, H⟩ := H
  replace H : ((laws_toMachine.f k a0_0 a0_1 l0_2 a0_3 a0_4 a0_5 a0_6 a0_7).bind fun bt780 => ((impl_ReleasedColours.f k bt780.1 bt780.2.1 bt780.2.2.1 bt780.2.2.2.1 bt780.2.2.2.2.1 bt780.2.2.2.2.2.1 bt780.2.2.2.2.2.2.1 bt780.2.2.2.2.2.2.2).bind fun bt791 => ((laws_eqIntS.f k bt791.1 A6).bind fun Av => (if Av = true then (laws_FnExactReleasedColours.j0 k A6 A5 bt791.1 bt791.2 (bt791.2 != A5) a0_0 a0_1 l0_2 a0_3 a0_4 a0_5 a0_6 a0_7 bt780.1 bt780.2.1 bt780.2.2.1 bt780.2.2.2.1 bt780.2.2.2.2.1 bt780.2.2.2.2.2.1 bt780.2.2.2.2.2.2.1 bt780.2.2.2.2.2.2.2) else (laws_FnExactReleasedColours.j0 k A6 A5 bt791.1 bt791.2 true a0_0 a0_1 l0_2 a0_3 a0_4 a0_5 a0_6 a0_7 bt780.1 bt780.2.1 bt780.2.2.1 bt780.2.2.2.1 bt780.2.2.2.2.1 bt780.2.2.2.2.2.1 bt780.2.2.2.2.2.2.1 bt780.2.2.2.2.2.2.2))))) = some true := H
  have A8 := Z.m Ea
  clear Ea
  replace H := Option.bind_eq_some_iff.mp H
  obtain ⟨⟨Ad, Ae, Ac, Af, Ag, Ah, Ai, Aj⟩, Eb, H⟩ := H
  replace H : ((impl_ReleasedColours.f k Ad Ae Ac Af Ag Ah Ai Aj).bind fun bt791 => ((laws_eqIntS.f k bt791.1 A6).bind fun Av => (if Av = true then (laws_FnExactReleasedColours.j0 k A6 A5 bt791.1 bt791.2 (bt791.2 != A5) a0_0 a0_1 l0_2 a0_3 a0_4 a0_5 a0_6 a0_7 Ad Ae Ac Af Ag Ah Ai Aj) else (laws_FnExactReleasedColours.j0 k A6 A5 bt791.1 bt791.2 true a0_0 a0_1 l0_2 a0_3 a0_4 a0_5 a0_6 a0_7 Ad Ae Ac Af Ag Ah Ai Aj)))) = some true := H
  have A9 := Z.m Eb
  clear Eb
  replace H := Option.bind_eq_some_iff.mp H
  obtain ⟨⟨Aa, An⟩, Db, H⟩ := H
  replace H : ((laws_eqIntS.f k Aa A6).bind fun Av => (if Av = true then (laws_FnExactReleasedColours.j0 k A6 A5 Aa An (An != A5) a0_0 a0_1 l0_2 a0_3 a0_4 a0_5 a0_6 a0_7 Ad Ae Ac Af Ag Ah Ai Aj) else (laws_FnExactReleasedColours.j0 k A6 A5 Aa An true a0_0 a0_1 l0_2 a0_3 a0_4 a0_5 a0_6 a0_7 Ad Ae Ac Af Ag Ah Ai Aj))) = some true := H
  have Ek := Z.m Db
  clear Db
  have D5 := Z.m H
  clear H
  go_enter Try.func5, Try.ntmps5
  go_upto_region 8 with (first | ((with_reducible refine gq (N := 1) rfl ?_); refine be (N := 1) (cs := #[.int .i64 a0_0, .int .i64 a0_1, .slice A0_2 l0_2.length c0_2, .int .i64 a0_3, .int .i64 a0_4, .int .i64 a0_5, .int .i64 a0_6, .int .i64 a0_7]) (t := 26) ?_; intro Am hg EK hbox hb; have A0 := Z.m (hbox); have AS := gW (w := w) HB hg; have AR := AS; replace HB := bB HB hb; clear hb hbox hg; have AZ := bc0 A0; have B0 := bc1 A0; have B2 := bc2 A0; have B3 := bc3 A0; have B7 := bc4 A0; have B8 := bc5 A0; have Ba := bc6 A0; have Bb := bc7 A0; have BQ := qz A0.o 0; have BR := qz A0.o 1; have BS := qz A0.o 2; have BT := qz A0.o 3; have BU := qz A0.o 4; have BV := qz A0.o 5; have BW := qz A0.o 6; have BX := qz A0.o 7) | ((with_reducible refine gc (f := 10) rfl ?_); refine gA (some 16) _ #[.agg #[.int .i64 a0_0, .int .i64 a0_1, .slice A0_2 l0_2.length c0_2, .int .i64 a0_3, .int .i64 a0_4, .int .i64 a0_5, .int .i64 a0_6, .int .i64 a0_7], .int .i64 1048576] ?_ Try.func10; (with_reducible refine (laws_szMachine.calls a0_0 a0_1 _ _ l0_2 a0_3 a0_4 a0_5 a0_6 a0_7 1048576 AP _ ?side1 ?side2 A2.o).mono ?_); (case side1 => repeat (first | exact (Kd.C_below AF.o HB.o) | (with_reducible refine Kd.C_alloc ?_ _) | (with_reducible refine Kd.C_drewN ?_ _) | (with_reducible refine Kd.C_drew ?_))); (case side2 => exact AE.o); rintro e EL ⟨rfl, hb⟩; refine ⟨_, rfl, ?_⟩; replace A0 := kB A0 hb; replace HB := bB HB hb; (try clear hb); (try clear D9); (try clear hk); (try clear hi); have Bc := bc0 A0; have Bd := bc1 A0; have Be := bc2 A0; have Bf := bc3 A0; have Bg := bc4 A0; have Bh := bc5 A0; have Bi := bc6 A0; have Bj := bc7 A0; have BY := qz A0.o 0; have BZ := qz A0.o 1; have C0 := qz A0.o 2; have C1 := qz A0.o 3; have C2 := qz A0.o 4; have C3 := qz A0.o 5; have C4 := qz A0.o 6; have C5 := qz A0.o 7) | ((with_reducible refine gc (f := 12) rfl ?_); refine gA (some 21) _ #[.agg #[.int .i64 a0_0, .int .i64 a0_1, .slice A0_2 l0_2.length c0_2, .int .i64 a0_3, .int .i64 a0_4, .int .i64 a0_5, .int .i64 a0_6, .int .i64 a0_7]] ?_ Try.func12; (with_reducible refine (laws_toMachine.calls k a0_0 a0_1 _ _ l0_2 a0_3 a0_4 a0_5 a0_6 a0_7 CE CF AU CG CH CI CJ CK _ ?side1 ?side2 A7.o).mono ?_); (case side1 => repeat (first | exact (Kd.C_below AF.o HB.o) | (with_reducible refine Kd.C_alloc ?_ _) | (with_reducible refine Kd.C_drewN ?_ _) | (with_reducible refine Kd.C_drew ?_))); (case side2 => exact AE.o); rintro e EM ⟨EF, rfl, Az, hb⟩; refine ⟨_, rfl, ?_⟩; have Ap := Z.m (Kd.R_lower Az (below_size (vB HB))); replace A0 := kB A0 hb; replace HB := bB HB hb; (try clear hb); (try clear D9); (try clear hk); (try clear hi); (try clear Az); obtain ⟨Dn, Ds, DI⟩ := Kd.R_slice Ap.o; subst DI) | ((with_reducible refine gc (f := 19) rfl ?_); refine gA (some 22) _ #[.agg #[.int .i64 CE, .int .i64 CF, .slice Dn AU.length Ds, .int .i64 CG, .int .i64 CH, .int .i64 CI, .int .i64 CJ, .int .i64 CK]] ?_ Try.func19; (with_reducible refine (spec_ReleasedColours.calls k CE CF _ _ AU CG CH CI CJ CK A6 A5 _ ?side1 ?side2 A8.o).mono ?_); (case side1 => repeat (first | exact (Kd.RrZ Ap.o).2.2 | (with_reducible refine Kd.C_alloc ?_ _) | (with_reducible refine Kd.C_drewN ?_ _) | (with_reducible refine Kd.C_drew ?_))); (case side2 => exact (Kd.RrZ Ap.o).2.1); rintro e EN ⟨AX, rfl, Az, hb⟩; refine ⟨_, rfl, ?_⟩; have Ar := Z.m (Kd.R_lower Az (below_size (vB HB))); replace Ap := Z.m (Kd.Rb (vR Ap) hb); replace A0 := kB A0 hb; replace HB := bB HB hb; (try clear hb); (try clear D9); (try clear hk); (try clear hi); (try clear Az); have Bk := bc0 A0; have Bl := bc1 A0; have Bm := bc2 A0; have Bn := bc3 A0; have Bo := bc4 A0; have Bp := bc5 A0; have Bq := bc6 A0; have Br := bc7 A0; have C6 := qz A0.o 0; have C7 := qz A0.o 1; have C8 := qz A0.o 2; have C9 := qz A0.o 3; have Ca := qz A0.o 4; have Cb := qz A0.o 5; have Cd := qz A0.o 6; have Ce := qz A0.o 7) | ((with_reducible refine gc (f := 12) rfl ?_); refine gA (some 26) _ #[.agg #[.int .i64 a0_0, .int .i64 a0_1, .slice A0_2 l0_2.length c0_2, .int .i64 a0_3, .int .i64 a0_4, .int .i64 a0_5, .int .i64 a0_6, .int .i64 a0_7]] ?_ Try.func12; (with_reducible refine (laws_toMachine.calls k a0_0 a0_1 _ _ l0_2 a0_3 a0_4 a0_5 a0_6 a0_7 Ad Ae Ac Af Ag Ah Ai Aj _ ?side1 ?side2 A9.o).mono ?_); (case side1 => repeat (first | exact (Kd.C_below AF.o HB.o) | (with_reducible refine Kd.C_alloc ?_ _) | (with_reducible refine Kd.C_drewN ?_ _) | (with_reducible refine Kd.C_drew ?_))); (case side2 => exact AE.o); rintro e EO ⟨EG, rfl, Az, hb⟩; refine ⟨_, rfl, ?_⟩; have Ay := Z.m (Kd.R_lower (Kd.R_new' Az (Kd.R_lt (vR Ap))) (below_size (vB HB))); replace Ap := Z.m (Kd.R_elder' (vR Ap) (Kd.R_base Az) hb); replace Ar := Z.m (Kd.Rb (vR Ar) hb); replace A0 := kB A0 hb; replace HB := bB HB hb; (try clear hb); (try clear D9); (try clear hk); (try clear hi); (try clear Az)) | ((with_reducible refine gq (N := 6) rfl ?_); refine be (N := 6) (cs := #[.int .i64 0, .int .i64 0, .slice none 0 0, .int .i64 0, .int .i64 0, .int .i64 0, .int .i64 0, .int .i64 0]) (t := 32) ?_; intro Aq hg EP hbox hb; have A1 := Z.m (hbox); have Do := gW (w := w) HB hg; have D2 := Do; have As := neL A0 hg; have Aw := neG A0 hg; replace Ap := Z.m (Kd.Rb (vR Ap) hb); replace Ar := Z.m (Kd.Rb (vR Ar) hb); replace Ay := Z.m (Kd.Rb (vR Ay) hb); replace A0 := kB A0 hb; replace HB := bB HB hb; clear hb hbox hg; have Ee := Aw.o; have Eh := As.o; have Bs := bc0 A1; have Bt := bc1 A1; have Bu := bc2 A1; have Bv := bc3 A1; have Bw := bc4 A1; have Bx := bc5 A1; have By := bc6 A1; have Bz := bc7 A1; have Cf := qz A1.o 0; have Cg := qz A1.o 1; have Ch := qz A1.o 2; have Ci := qz A1.o 3; have Cj := qz A1.o 4; have Cl := qz A1.o 5; have Cm := qz A1.o 6; have Cn := qz A1.o 7; obtain ⟨Au, At, DJ⟩ := Kd.R_slice Ay.o; subst DJ) | ((with_reducible refine gc (f := 20) rfl ?_); refine gA (some 29) _ #[.agg #[.int .i64 Ad, .int .i64 Ae, .slice Au Ac.length At, .int .i64 Af, .int .i64 Ag, .int .i64 Ah, .int .i64 Ai, .int .i64 Aj]] ?_ Try.func20; (with_reducible refine (impl_ReleasedColours.calls k Ad Ae _ _ Ac Af Ag Ah Ai Aj Aa An _ ?side1 ?side2 Ek.o).mono ?_); (case side1 => refine (Kd.RrZ (e := 88) (base := w.heap.size) (ok := fun k_ => (True ∧ some k_ ≠ (.slice Dn AU.length Ds : Value).ownBlock)) (n := Ac.length) (c := At) ?_).2.2; exact (by refine rK ?_; exact (Kd.Rm (rf (rf (rf (rf (rf (rf (rf (rf (Kd.Ry Ay.o A1.o (by decide)))))))))) (fun _ h_ => h_.1)))); (case side2 => exact (Kd.RrZ Ay.o).2.1); rintro e EQ ⟨AY, rfl, Az, hb⟩; refine ⟨_, rfl, ?_⟩; have AO := Z.m (Kd.R_lower (Kd.R_new' Az (Kd.R_lt (by refine rK ?_; exact (Kd.Rm (rf (rf (rf (rf (rf (rf (rf (rf (Kd.Ry Ar.o A1.o (by decide)))))))))) (fun _ h_ => h_.1))))) (below_size (vB HB))); replace Ap := Z.m (Kd.Rb (by refine rK ?_; exact (Kd.Rm (rf (rf (rf (rf (rf (rf (rf (rf (Kd.Ry Ap.o A1.o (by decide)))))))))) (fun _ h_ => h_.1))) hb); replace Ar := Z.m (Kd.R_elder' (by refine rK ?_; exact (Kd.Rm (rf (rf (rf (rf (rf (rf (rf (rf (Kd.Ry Ar.o A1.o (by decide)))))))))) (fun _ h_ => h_.1))) (Kd.R_base Az) hb); replace Ay := Z.m (Kd.Rb (by refine rK ?_; exact (Kd.Rm (rf (rf (rf (rf (rf (rf (rf (rf (Kd.Ry Ay.o A1.o (by decide)))))))))) (fun _ h_ => h_.1))) hb); replace A0 := Z.m (qb (g := Am) (o := .cells #[.int .i64 a0_0, .int .i64 a0_1, .slice A0_2 l0_2.length c0_2, .int .i64 a0_3, .int .i64 a0_4, .int .i64 a0_5, .int .i64 a0_6, .int .i64 a0_7] 26 (0, 0)) (by refine bK ?_; (iterate 8 refine qF ?_ As); exact A0.o) hb); replace A1 := Z.m (qb (g := Aq) (o := .cells #[.int .i64 Ad, .int .i64 Ae, .slice Au Ac.length At, .int .i64 Af, .int .i64 Ag, .int .i64 Ah, .int .i64 Ai, .int .i64 Aj] 32 (0, 0)) (by refine bK ?_; apply st8; refine bK ?_; exact A1.o) hb); replace HB := bB HB hb; (try clear hb); (try clear D9); (try clear hk); (try clear hi); (try clear Az)))
  (try simp only [Act.put, q1, q2, q3])
  go_cut [40] (fun v40 wc => ∃ (kq : Nat) (AG : Bool), v40 = .bool AG ∧ Z (laws_FnExactReleasedColours.j0 kq A6 A5 Aa An AG a0_0 a0_1 l0_2 a0_3 a0_4 a0_5 a0_6 a0_7 Ad Ae Ac Af Ag Ah Ai Aj = some true) ∧ Z (kq ≤ k) ∧ Z (Kd.R (Kd.int .i64) 3 wc w.heap.size (fun k_ => some k_ ≠ (AY : Value).ownBlock) AX A6) ∧ Z (Kd.R (Kd.int .i64) 3 wc w.heap.size (fun k_ => some k_ ≠ (AX : Value).ownBlock) AY Aa) ∧ Z (Kd.R k88 88 wc w.heap.size (fun _ => True) (.slice Au Ac.length At) Ac) ∧ Z (wc.heap[Am]? = some (.cells #[.int .i64 a0_0, .int .i64 a0_1, (.slice A0_2 l0_2.length c0_2), .int .i64 a0_3, .int .i64 a0_4, .int .i64 a0_5, .int .i64 a0_6, .int .i64 a0_7] 26 (0, 0))) ∧ Z (wc.heap[Aq]? = some (.cells #[.int .i64 Ad, .int .i64 Ae, (.slice Au Ac.length At), .int .i64 Af, .int .i64 Ag, .int .i64 Ah, .int .i64 Ai, .int .i64 Aj] 32 (0, 0))) ∧ Z (Below w.heap.size w wc))
  case first =>
   have H := D5.o
   clear D5
   replace H := Option.bind_eq_some_iff.mp H
   obtain ⟨Av, Dc, H⟩ := H
   replace H : (if Av = true then (laws_FnExactReleasedColours.j0 k A6 A5 Aa An (An != A5) a0_0 a0_1 l0_2 a0_3 a0_4 a0_5 a0_6 a0_7 Ad Ae Ac Af Ag Ah Ai Aj) else (laws_FnExactReleasedColours.j0 k A6 A5 Aa An true a0_0 a0_1 l0_2 a0_3 a0_4 a0_5 a0_6 a0_7 Ad Ae Ac Af Ag Ah Ai Aj)) = some true := H
   have El := Z.m Dc
   clear Dc
   by_cases c27 : Av = true
   ·subst c27
    have H1 : (laws_FnExactReleasedColours.j0 k A6 A5 Aa An (An != A5) a0_0 a0_1 l0_2 a0_3 a0_4 a0_5 a0_6 a0_7 Ad Ae Ac Af Ag Ah Ai Aj) = some true := by rw [if_pos rfl] at H; exact H
    clear H
    have H := H1
    clear H1
    have H' := Z.m H
    clear H
    obtain ⟨Dv, DC, DK⟩ := Kd.R_slice AO.o
    subst DK
    obtain ⟨Dw, DD, DL⟩ := Kd.R_slice Ar.o
    subst DL
    go_wp2_with (first | ((with_reducible refine gc (f := 21) rfl ?_); refine gA (some 34) _ #[.slice Dv Aa.length DC, .slice Dw A6.length DD] ?_ Try.func21; (with_reducible refine (laws_eqIntS.calls k _ _ Aa _ _ A6 true _ ?side1 ?side2 ?side3 ?side4 El.o).mono ?_); (case side1 => repeat (first | exact (Kd.RrZ AO.o).2.2 | (with_reducible refine Kd.C_alloc ?_ _) | (with_reducible refine Kd.C_drewN ?_ _) | (with_reducible refine Kd.C_drew ?_))); (case side2 => exact (Kd.RrZ AO.o).2.1); (case side3 => repeat (first | exact (Kd.RrZ Ar.o).2.2 | (with_reducible refine Kd.C_alloc ?_ _) | (with_reducible refine Kd.C_drewN ?_ _) | (with_reducible refine Kd.C_drew ?_))); (case side4 => exact (Kd.RrZ Ar.o).2.1); rintro e w' ⟨rfl, ⟨nd, rfl⟩⟩; refine ⟨_, rfl, ?_⟩))
    go_meet
    case rel => exact ⟨_, ((An != A5)), (by first | rfl | (simp; done) | (simp [*]; done)), H', ⟨by first | omega | exact Nat.le_refl _⟩, ⟨by refine rK ?_; exact Kd.Rm Ar.o (fun _ hk => hk.2)⟩, ⟨by refine rK ?_; exact Kd.Rm AO.o (fun _ hk => hk.2)⟩, ⟨by refine rK ?_; exact Kd.Rm Ay.o (fun _ hk => trivial)⟩, ⟨vK A0⟩, ⟨vK A1⟩, ⟨vB HB⟩⟩
   ·(rw [if_neg c27] at H; exact absurd H (laws_FnExactReleasedColours.bad_j0 _ _ _ _ _ _ _ _ _ _ _ _ _ _ _ _ _ _ _ _ _))
  case rest =>
   clear D5
   (try clear Dp)
   (try clear AZ); (try clear B0); (try clear B2); (try clear B3); (try clear B7); (try clear B8); (try clear Ba); (try clear Bb)
   (try clear Bc); (try clear Bd); (try clear Be); (try clear Bf); (try clear Bg); (try clear Bh); (try clear Bi); (try clear Bj)
   (try clear Bk); (try clear Bl); (try clear Bm); (try clear Bn); (try clear Bo); (try clear Bp); (try clear Bq); (try clear Br)
   (try clear Bs); (try clear Bt); (try clear Bu); (try clear Bv); (try clear Bw); (try clear Bx); (try clear By); (try clear Bz)
   (try clear BQ); (try clear BR); (try clear BS); (try clear BT); (try clear BU); (try clear BV); (try clear BW); (try clear BX)
   (try clear BY); (try clear BZ); (try clear C0); (try clear C1); (try clear C2); (try clear C3); (try clear C4); (try clear C5)
   (try clear C6); (try clear C7); (try clear C8); (try clear C9); (try clear Ca); (try clear Cb); (try clear Cd); (try clear Ce)
   (try clear Cf); (try clear Cg); (try clear Ch); (try clear Ci); (try clear Cj); (try clear Cl); (try clear Cm); (try clear Cn)
   obtain ⟨kq, AG, rfl, HA, D8, Ak, Ab, A3, A0, A1, HB⟩ := hcut
   cases kq with
   | zero => exact absurd HA.o (by simp [laws_FnExactReleasedColours.j0])
   | succ kj10 =>
    have H := HA.o
    clear HA
    simp only [laws_FnExactReleasedColours.j0] at H
    by_cases c32 : AG = true
    ·(rw [if_pos c32] at H; exact absurd H (by decide))
    ·replace c32 := Bool.eq_false_iff.mpr c32
     subst c32
     have H1 : ((laws_toMachine.f kj10 a0_0 a0_1 l0_2 a0_3 a0_4 a0_5 a0_6 a0_7).bind fun bt796 => ((laws_eqMachine.f kj10 Ad Ae Ac Af Ag Ah Ai Aj bt796.1 bt796.2.1 bt796.2.2.1 bt796.2.2.2.1 bt796.2.2.2.2.1 bt796.2.2.2.2.2.1 bt796.2.2.2.2.2.2.1 bt796.2.2.2.2.2.2.2).bind fun AQ => (if AQ = true then ((laws_markMachine.f kj10 Ad Ae Ac Af Ag Ah Ai Aj 1).bind fun bt807 => (if bt807.1 < 0 then (laws_FnExactReleasedColours.j1 kj10 A6 A5 Aa true a0_0 a0_1 l0_2 a0_3 a0_4 a0_5 a0_6 a0_7) else ((laws_eqIntS.f kj10 Aa A6).bind fun AA => (if AA = true then (laws_FnExactReleasedColours.j1 kj10 A6 A5 Aa (An != A5) a0_0 a0_1 l0_2 a0_3 a0_4 a0_5 a0_6 a0_7) else (laws_FnExactReleasedColours.j1 kj10 A6 A5 Aa true a0_0 a0_1 l0_2 a0_3 a0_4 a0_5 a0_6 a0_7))))) else (some false)))) = some true := by rw [if_neg (show ¬ (false = true) by decide)] at H; exact H
     clear H
     have H := H1
     clear H1
     replace H := Option.bind_eq_some_iff.mp H
     obtain ⟨⟨CL, CM, CN, CO, CP, CQ, CR, CS⟩, Dd, H⟩ := H
     replace H : ((laws_eqMachine.f kj10 Ad Ae Ac Af Ag Ah Ai Aj CL CM CN CO CP CQ CR CS).bind fun AQ => (if AQ = true then ((laws_markMachine.f kj10 Ad Ae Ac Af Ag Ah Ai Aj 1).bind fun bt807 => (if bt807.1 < 0 then (laws_FnExactReleasedColours.j1 kj10 A6 A5 Aa true a0_0 a0_1 l0_2 a0_3 a0_4 a0_5 a0_6 a0_7) else ((laws_eqIntS.f kj10 Aa A6).bind fun AA => (if AA = true then (laws_FnExactReleasedColours.j1 kj10 A6 A5 Aa (An != A5) a0_0 a0_1 l0_2 a0_3 a0_4 a0_5 a0_6 a0_7) else (laws_FnExactReleasedColours.j1 kj10 A6 A5 Aa true a0_0 a0_1 l0_2 a0_3 a0_4 a0_5 a0_6 a0_7))))) else (some false))) = some true := H
     have Em := Z.m Dd
     clear Dd
     replace H := Option.bind_eq_some_iff.mp H
     obtain ⟨AQ, De, H⟩ := H
     replace H : (if AQ = true then ((laws_markMachine.f kj10 Ad Ae Ac Af Ag Ah Ai Aj 1).bind fun bt807 => (if bt807.1 < 0 then (laws_FnExactReleasedColours.j1 kj10 A6 A5 Aa true a0_0 a0_1 l0_2 a0_3 a0_4 a0_5 a0_6 a0_7) else ((laws_eqIntS.f kj10 Aa A6).bind fun AA => (if AA = true then (laws_FnExactReleasedColours.j1 kj10 A6 A5 Aa (An != A5) a0_0 a0_1 l0_2 a0_3 a0_4 a0_5 a0_6 a0_7) else (laws_FnExactReleasedColours.j1 kj10 A6 A5 Aa true a0_0 a0_1 l0_2 a0_3 a0_4 a0_5 a0_6 a0_7))))) else (some false)) = some true := H
     have En := Z.m De
     clear De
     by_cases c35 : AQ = true
     ·subst c35
      have H1 : ((laws_markMachine.f kj10 Ad Ae Ac Af Ag Ah Ai Aj 1).bind fun bt807 => (if bt807.1 < 0 then (laws_FnExactReleasedColours.j1 kj10 A6 A5 Aa true a0_0 a0_1 l0_2 a0_3 a0_4 a0_5 a0_6 a0_7) else ((laws_eqIntS.f kj10 Aa A6).bind fun AA => (if AA = true then (laws_FnExactReleasedColours.j1 kj10 A6 A5 Aa (An != A5) a0_0 a0_1 l0_2 a0_3 a0_4 a0_5 a0_6 a0_7) else (laws_FnExactReleasedColours.j1 kj10 A6 A5 Aa true a0_0 a0_1 l0_2 a0_3 a0_4 a0_5 a0_6 a0_7))))) = some true := by rw [if_pos rfl] at H; exact H
      clear H
      have H := H1
      clear H1
      replace H := Option.bind_eq_some_iff.mp H
      obtain ⟨⟨Da, AV⟩, Df, H⟩ := H
      replace H : (if Da < 0 then (laws_FnExactReleasedColours.j1 kj10 A6 A5 Aa true a0_0 a0_1 l0_2 a0_3 a0_4 a0_5 a0_6 a0_7) else ((laws_eqIntS.f kj10 Aa A6).bind fun AA => (if AA = true then (laws_FnExactReleasedColours.j1 kj10 A6 A5 Aa (An != A5) a0_0 a0_1 l0_2 a0_3 a0_4 a0_5 a0_6 a0_7) else (laws_FnExactReleasedColours.j1 kj10 A6 A5 Aa true a0_0 a0_1 l0_2 a0_3 a0_4 a0_5 a0_6 a0_7)))) = some true := H
      have Eo := Z.m Df
      clear Df
      have D6 := Z.m H
      clear H
      try go_wp2
      replace Ak := Z.m (Kd.R_drew Ak.o)
      replace Ab := Z.m (Kd.R_drew Ab.o)
      replace A3 := Z.m (Kd.R_drew A3.o)
      replace A0 := Z.m (blk_drew A0.o)
      replace A1 := Z.m (blk_drew A1.o)
      replace HB := Z.m (qd HB.o)
      refine start_ (n := 5) (S := fun w' => w'.cell? ⟨Aq, 0, none⟩ = some (.int .i64 Ad) ∧ w'.cell? ⟨Aq, 1, none⟩ = some (.int .i64 Ae) ∧ w'.cell? ⟨Aq, 2, none⟩ = some (.slice Au Ac.length At) ∧ w'.cell? ⟨Aq, 3, none⟩ = some (.int .i64 Af) ∧ w'.cell? ⟨Aq, 4, none⟩ = some (.int .i64 Ag) ∧ w'.cell? ⟨Aq, 5, none⟩ = some (.int .i64 Ah) ∧ w'.cell? ⟨Aq, 6, none⟩ = some (.int .i64 Ai) ∧ w'.cell? ⟨Aq, 7, none⟩ = some (.int .i64 Aj) ∧ w'.cell? ⟨Am, 0, none⟩ = some (.int .i64 a0_0) ∧ w'.cell? ⟨Am, 1, none⟩ = some (.int .i64 a0_1) ∧ w'.cell? ⟨Am, 2, none⟩ = some (.slice A0_2 l0_2.length c0_2) ∧ w'.cell? ⟨Am, 3, none⟩ = some (.int .i64 a0_3) ∧ w'.cell? ⟨Am, 4, none⟩ = some (.int .i64 a0_4) ∧ w'.cell? ⟨Am, 5, none⟩ = some (.int .i64 a0_5) ∧ w'.cell? ⟨Am, 6, none⟩ = some (.int .i64 a0_6) ∧ w'.cell? ⟨Am, 7, none⟩ = some (.int .i64 a0_7)) (ds := []) #[false, false, false, false, false] (by kernel_rfl) rfl rfl ⟨(ql A1.o 0).trans rfl, (ql A1.o 1).trans rfl, (ql A1.o 2).trans rfl, (ql A1.o 3).trans rfl, (ql A1.o 4).trans rfl, (ql A1.o 5).trans rfl, (ql A1.o 6).trans rfl, (ql A1.o 7).trans rfl, (ql A0.o 0).trans rfl, (ql A0.o 1).trans rfl, (ql A0.o 2).trans rfl, (ql A0.o 3).trans rfl, (ql A0.o 4).trans rfl, (ql A0.o 5).trans rfl, (ql A0.o 6).trans rfl, (ql A0.o 7).trans rfl⟩ (fun hHeld => ?_)
      generalize wc.drew = ER at Ak Ab A3 A0 A1 HB hHeld ⊢
      refine take_ (i := 0) (N := some 41) (v := ?_) (a' := ?_) #[true, false, false, false, false] rfl rfl (by kernel_rfl) (fun _ _ _ h => h) (Or.inl ⟨by rfl, ?_⟩) hHeld ?_ ?_
      rotate_left
      ·rintro w' ⟨s0, s1, s2, s3, s4, s5, s6, s7, s8, s9, s10, s11, s12, s13, s14, s15⟩
       go_simp
       with_reducible rfl
      rotate_left
      ·simp only [Act.put, q1, q2, q3, i64_w, i32_w]
       rfl
      refine take_ (i := 1) (N := some 42) (v := ?_) (a' := ?_) #[true, true, false, false, false] rfl rfl (by kernel_rfl) (fun _ _ _ h => h) (Or.inl ⟨by rfl, ?_⟩) hHeld ?_ ?_
      rotate_left
      ·rintro w' ⟨s0, s1, s2, s3, s4, s5, s6, s7, s8, s9, s10, s11, s12, s13, s14, s15⟩
       go_simp
       with_reducible rfl
      rotate_left
      ·simp only [Act.put, q1, q2, q3, i64_w, i32_w]
       rfl
      refine one_ (i := 2) (N := some 43) #[true, true, true, false, false] rfl rfl (by kernel_rfl) (by decide) (fun K hK => ?_)
      refine goes_ Try.func12 (by kernel_rfl) rfl #[.agg #[.int .i64 a0_0, .int .i64 a0_1, .slice A0_2 l0_2.length c0_2, .int .i64 a0_3, .int .i64 a0_4, .int .i64 a0_5, .int .i64 a0_6, .int .i64 a0_7]] (by rfl) rfl rfl (by (try simp only [List.map_toArray, List.map_cons, List.map_nil]); first | done | rfl | (simp only [List.length_drop, List.length_take]; rfl)) ?_
      with_reducible refine (laws_toMachine.calls kj10 a0_0 a0_1 _ _ l0_2 a0_3 a0_4 a0_5 a0_6 a0_7 CL CM CN CO CP CQ CR CS _ ?side1 ?side2 Em.o).mono ?_
      (case side1 => repeat (first | exact (Kd.C_below AF.o HB.o) | (with_reducible refine Kd.C_alloc ?_ _) | (with_reducible refine Kd.C_drewN ?_ _) | (with_reducible refine Kd.C_drew ?_)))
      (case side2 => exact AE.o)
      rintro e ES ⟨EH, rfl, Az, hb⟩
      refine ⟨_, rfl, ?_⟩
      have AC := Z.m (Kd.R_lower (Kd.R_new' Az (Kd.R_lt (vR A3))) (below_size (vB HB)))
      replace Ak := Z.m (Kd.Rb (vR Ak) hb)
      replace Ab := Z.m (Kd.Rb (vR Ab) hb)
      replace A3 := Z.m (Kd.R_elder' (vR A3) (Kd.R_base Az) hb)
      replace A0 := kB A0 hb
      replace A1 := kB A1 hb
      replace HB := bB HB hb
      (try clear hb); (try clear Az)
      obtain ⟨Dx, DE, Dt⟩ := Kd.R_slice AC.o
      (first | subst Dt | (injection Dt with f1_ f2_ f3_; have f4_ := f1_.symm; have f5_ := f3_.symm; clear f1_ f2_ f3_; subst f4_; subst f5_))
      refine hK.out _ _ ⟨(ql A1.o 0).trans rfl, (ql A1.o 1).trans rfl, (ql A1.o 2).trans rfl, (ql A1.o 3).trans rfl, (ql A1.o 4).trans rfl, (ql A1.o 5).trans rfl, (ql A1.o 6).trans rfl, (ql A1.o 7).trans rfl, (ql A0.o 0).trans rfl, (ql A0.o 1).trans rfl, (ql A0.o 2).trans rfl, (ql A0.o 3).trans rfl, (ql A0.o 4).trans rfl, (ql A0.o 5).trans rfl, (ql A0.o 6).trans rfl, (ql A0.o 7).trans rfl⟩ (fun hHeld => ?_)
      clear hK K
      refine norm_ (a' := ?_) ?_ ?_
      rotate_left
      ·show Act.put _ (some 43) _ = _
       simp only [Act.put, q1, q2, q3, i64_w, i32_w]
       rfl
      refine one_ (i := 3) (N := some 44) #[true, true, true, true, false] rfl rfl (by kernel_rfl) (by decide) (fun K hK => ?_)
      refine goes_ Try.func14 (by kernel_rfl) rfl #[.agg #[.int .i64 Ad, .int .i64 Ae, .slice Au Ac.length At, .int .i64 Af, .int .i64 Ag, .int .i64 Ah, .int .i64 Ai, .int .i64 Aj], .agg #[.int .i64 CL, .int .i64 CM, .slice Dx CN.length DE, .int .i64 CO, .int .i64 CP, .int .i64 CQ, .int .i64 CR, .int .i64 CS]] (by rfl) rfl rfl (by (try simp only [List.map_toArray, List.map_cons, List.map_nil]); first | done | rfl | (simp only [List.length_drop, List.length_take]; rfl)) ?_
      with_reducible refine (laws_eqMachine.calls kj10 Ad Ae _ _ Ac Af Ag Ah Ai Aj CL CM _ _ CN CO CP CQ CR CS true _ ?side1 ?side2 ?side3 ?side4 En.o).mono ?_
      (case side1 => repeat (first | exact (Kd.RrZ A3.o).2.2 | (with_reducible refine Kd.C_alloc ?_ _) | (with_reducible refine Kd.C_drewN ?_ _) | (with_reducible refine Kd.C_drew ?_)))
      (case side2 => exact (Kd.RrZ A3.o).2.1)
      (case side3 => repeat (first | exact (Kd.RrZ AC.o).2.2 | (with_reducible refine Kd.C_alloc ?_ _) | (with_reducible refine Kd.C_drewN ?_ _) | (with_reducible refine Kd.C_drew ?_)))
      (case side4 => exact (Kd.RrZ AC.o).2.1)
      rintro e ET ⟨rfl, hb⟩
      refine ⟨_, rfl, ?_⟩
      replace Ak := Z.m (Kd.Rb (vR Ak) hb)
      replace Ab := Z.m (Kd.Rb (vR Ab) hb)
      replace A3 := Z.m (Kd.Rb (vR A3) hb)
      replace AC := Z.m (Kd.Rb (vR AC) hb)
      replace A0 := kB A0 hb
      replace A1 := kB A1 hb
      replace HB := bB HB hb
      (try clear hb)
      refine hK.out _ _ ⟨(ql A1.o 0).trans rfl, (ql A1.o 1).trans rfl, (ql A1.o 2).trans rfl, (ql A1.o 3).trans rfl, (ql A1.o 4).trans rfl, (ql A1.o 5).trans rfl, (ql A1.o 6).trans rfl, (ql A1.o 7).trans rfl, (ql A0.o 0).trans rfl, (ql A0.o 1).trans rfl, (ql A0.o 2).trans rfl, (ql A0.o 3).trans rfl, (ql A0.o 4).trans rfl, (ql A0.o 5).trans rfl, (ql A0.o 6).trans rfl, (ql A0.o 7).trans rfl⟩ (fun hHeld => ?_)
      clear hK K
      refine norm_ (a' := ?_) ?_ ?_
      rotate_left
      ·show Act.put _ (some 44) _ = _
       simp only [Act.put, q1, q2, q3, i64_w, i32_w]
       rfl
      refine pure_ (i := 4) (N := some 45) (v := ?_) (a' := ?_) #[true, true, true, true, true] rfl rfl (by kernel_rfl) (fun _ _ _ h => h) (Or.inl ⟨by rfl, ?_⟩) ?_ ?_
      rotate_left
      ·intro w'
       go_simp
       with_reducible rfl
      rotate_left
      ·simp only [Act.put, q1, q2, q3, i64_w, i32_w]
       rfl
      refine done_ (by kernel_rfl) ?_
      have Ef := Aw.o
      have Ei := As.o
      have BA := bc0 A1
      have BB := bc1 A1
      have BC := bc2 A1
      have BD := bc3 A1
      have BE := bc4 A1
      have BF := bc5 A1
      have BG := bc6 A1
      have BH := bc7 A1
      have Co := qz A1.o 0
      have Cp := qz A1.o 1
      have Cq := qz A1.o 2
      have Cr := qz A1.o 3
      have Cs := qz A1.o 4
      have Ct := qz A1.o 5
      have Cu := qz A1.o 6
      have Cv := qz A1.o 7
      go_upto_region 14 with (first | ((with_reducible refine gc (f := 15) rfl ?_); refine gA (some 48) _ #[.agg #[.int .i64 Ad, .int .i64 Ae, .slice Au Ac.length At, .int .i64 Af, .int .i64 Ag, .int .i64 Ah, .int .i64 Ai, .int .i64 Aj], .int .i64 1] ?_ Try.func15; (with_reducible refine (laws_markMachine.calls kj10 Ad Ae (fun k_ => some k_ = (.slice Au Ac.length At : Value).ownBlock) (.slice Au Ac.length At) Ac Af Ag Ah Ai Aj 1 Da AV w _ ?side1 ?side2 Eo.o).mono ?_); (case side1 => repeat (first | (with_reducible first | exact HB.o | apply qa | apply qn | apply qd | refine qx ?_ AR.o | refine qx ?_ D2.o) | exact HB.o)); (case side2 => exact Kd.Rg rfl A3.o); rintro e EU ⟨rfl, Du, hb, hkp⟩; refine ⟨_, rfl, ?_⟩; replace Ak := Z.m (Kd.Rm (ok' := fun k_ => some k_ ≠ (AY : Value).ownBlock) (Kd.Rk ((Kd.Ra Ak.o (Kd.Rt A3.o) (by decide))) hkp (fun k_ hk_ hs_ => (hk_.2) hs_)) (fun k_ hk_ => hk_.1.1)); replace Ab := Z.m (Kd.Rm (ok' := fun k_ => some k_ ≠ (AX : Value).ownBlock) (Kd.Rk ((Kd.Ra Ab.o (Kd.Rt A3.o) (by decide))) hkp (fun k_ hk_ hs_ => (hk_.2) hs_)) (fun k_ hk_ => hk_.1.1)); replace A0 := Z.m (qk (vK A0) hkp (fun hs_ => (fun e_ => (Kd.R_ne A3.o A0.o (by decide)) e_) hs_)); replace A1 := Z.m (qk (vK A1) hkp (fun hs_ => (fun e_ => (Kd.R_ne A3.o A1.o (by decide)) e_) hs_)); replace A3 := Z.m (Kd.Re rfl Du (fun k_ e_ => A3.o.1 k_ e_)); replace AC := Z.m (Kd.Rm (ok' := fun k_ => some k_ ≠ (.slice Au Ac.length At : Value).ownBlock) (Kd.Rk (AC.o) hkp (fun k_ hk_ hs_ => (hk_.2) hs_)) (fun k_ hk_ => hk_.1.2)); replace HB := Z.m (hb); (try clear hb); (try clear hkp); (try clear Du)))
      (try simp only [Act.put, q1, q2, q3])
      go_cut [61] (fun v61 wc => ∃ (kq : Nat) (AH : Bool), v61 = .bool AH ∧ Z (laws_FnExactReleasedColours.j1 kq A6 A5 Aa AH a0_0 a0_1 l0_2 a0_3 a0_4 a0_5 a0_6 a0_7 = some true) ∧ Z (kq ≤ kj10) ∧ Z (Kd.R (Kd.int .i64) 3 wc w.heap.size (fun k_ => some k_ ≠ (AY : Value).ownBlock) AX A6) ∧ Z (Kd.R (Kd.int .i64) 3 wc w.heap.size (fun k_ => some k_ ≠ (AX : Value).ownBlock) AY Aa) ∧ Z (Kd.R k88 88 wc w.heap.size (fun _ => True) (.slice Au Ac.length At) AV) ∧ Z (wc.heap[Am]? = some (.cells #[.int .i64 a0_0, .int .i64 a0_1, (.slice A0_2 l0_2.length c0_2), .int .i64 a0_3, .int .i64 a0_4, .int .i64 a0_5, .int .i64 a0_6, .int .i64 a0_7] 26 (0, 0))) ∧ Z (wc.heap[Aq]? = some (.cells #[.int .i64 Ad, .int .i64 Ae, (.slice Au Ac.length At), .int .i64 Af, .int .i64 Ag, .int .i64 Ah, .int .i64 Ai, .int .i64 Aj] 32 (0, 0))) ∧ Z (Below w.heap.size w wc))
      case first =>
       have H := D6.o
       clear D6
       by_cases c45 : Da < 0
       ·rw [if_pos c45] at H
        have AK := decide_eq_true c45
        clear c45
        (first | rw [AK] | (simp only [i64_w, i32_w]; rw [AK]) | skip)
        have H' := Z.m H
        clear H
        go_wp2
        go_meet
        case rel => exact ⟨_, (true), (by first | rfl | (simp; done) | (simp [*]; done)), H', ⟨by have := D8.o; first | omega | exact Nat.le_refl _⟩, ⟨vR Ak⟩, ⟨vR Ab⟩, ⟨by refine rK ?_; exact Kd.Rm A3.o (fun _ hk => trivial)⟩, ⟨vK A0⟩, ⟨vK A1⟩, ⟨vB HB⟩⟩
       ·rw [if_neg c45] at H
        have AK := decide_eq_false c45
        clear c45
        (first | rw [AK] | (simp only [i64_w, i32_w]; rw [AK]) | skip)
        replace H := Option.bind_eq_some_iff.mp H
        obtain ⟨AA, Dg, H⟩ := H
        replace H : (if AA = true then (laws_FnExactReleasedColours.j1 kj10 A6 A5 Aa (An != A5) a0_0 a0_1 l0_2 a0_3 a0_4 a0_5 a0_6 a0_7) else (laws_FnExactReleasedColours.j1 kj10 A6 A5 Aa true a0_0 a0_1 l0_2 a0_3 a0_4 a0_5 a0_6 a0_7)) = some true := H
        have Ep := Z.m Dg
        clear Dg
        by_cases c47 : AA = true
        ·subst c47
         have H1 : (laws_FnExactReleasedColours.j1 kj10 A6 A5 Aa (An != A5) a0_0 a0_1 l0_2 a0_3 a0_4 a0_5 a0_6 a0_7) = some true := by rw [if_pos rfl] at H; exact H
         clear H
         have H := H1
         clear H1
         have H' := Z.m H
         clear H
         obtain ⟨Ey, EB, DM⟩ := Kd.R_slice Ab.o
         subst DM
         obtain ⟨Ez, EC, DN⟩ := Kd.R_slice Ak.o
         subst DN
         go_wp2_with (first | (go_at_call 21; (with_reducible refine (laws_eqIntS.calls kj10 _ _ Aa _ _ A6 true _ ?side1 ?side2 ?side3 ?side4 Ep.o).mono ?_); (case side1 => repeat (first | exact (Kd.RrZ Ab.o).2.2 | (with_reducible refine Kd.C_alloc ?_ _) | (with_reducible refine Kd.C_drewN ?_ _) | (with_reducible refine Kd.C_drew ?_))); (case side2 => exact (Kd.RrZ Ab.o).2.1); (case side3 => repeat (first | exact (Kd.RrZ Ak.o).2.2 | (with_reducible refine Kd.C_alloc ?_ _) | (with_reducible refine Kd.C_drewN ?_ _) | (with_reducible refine Kd.C_drew ?_))); (case side4 => exact (Kd.RrZ Ak.o).2.1); rintro e w' ⟨rfl, ⟨nd, rfl⟩⟩))
         go_meet
         case rel => exact ⟨_, ((An != A5)), (by first | rfl | (simp; done) | (simp [*]; done)), H', ⟨by have := D8.o; first | omega | exact Nat.le_refl _⟩, ⟨vR Ak⟩, ⟨vR Ab⟩, ⟨by refine rK ?_; exact Kd.Rm A3.o (fun _ hk => trivial)⟩, ⟨vK A0⟩, ⟨vK A1⟩, ⟨vB HB⟩⟩
        ·(rw [if_neg c47] at H; exact absurd H (laws_FnExactReleasedColours.bad_j1 _ _ _ _ _ _ _ _ _ _ _ _))
      case rest =>
       clear D6
       (try clear c32); (try clear c35)
       (try clear BA); (try clear BB); (try clear BC); (try clear BD); (try clear BE); (try clear BF); (try clear BG); (try clear BH)
       (try clear Co); (try clear Cp); (try clear Cq); (try clear Cr); (try clear Cs); (try clear Ct); (try clear Cu); (try clear Cv)
       obtain ⟨kq, AH, rfl, HA, DB, Ak, Ab, A3, A0, A1, HB⟩ := hcut
       have A4 := (Kd.RrZ A3.o).1
       rw [A4] at A3
       (try simp only [A4])
       (try simp only [A4] at A0)
       (try simp only [A4] at A1)
       (try simp only [A4] at Ak)
       (try simp only [A4] at Ab)
       cases kq with
       | zero => exact absurd HA.o (by simp [laws_FnExactReleasedColours.j1])
       | succ kj36 =>
        have H := HA.o
        clear HA
        simp only [laws_FnExactReleasedColours.j1] at H
        by_cases c52 : AH = true
        ·(rw [if_pos c52] at H; exact absurd H (by decide))
        ·replace c52 := Bool.eq_false_iff.mpr c52
         subst c52
         have H1 : ((laws_markIntS.f kj36 Aa 1).bind fun bt810 => ((laws_heldIntS.f kj36 bt810.2 1).bind fun AD => (if AD < 0 then (some false) else (if AD = bt810.1 then ((laws_toMachine.f kj36 a0_0 a0_1 l0_2 a0_3 a0_4 a0_5 a0_6 a0_7).bind fun bt813 => ((impl_ReleasedColours.f kj36 bt813.1 bt813.2.1 bt813.2.2.1 bt813.2.2.2.1 bt813.2.2.2.2.1 bt813.2.2.2.2.2.1 bt813.2.2.2.2.2.2.1 bt813.2.2.2.2.2.2.2).bind fun bt823 => ((laws_eqIntS.f kj36 bt823.1 A6).bind fun AB => (if AB = true then (laws_FnExactReleasedColours.j2 kj36 bt810.2 bt810.1 (bt823.2 != A5)) else (laws_FnExactReleasedColours.j2 kj36 bt810.2 bt810.1 true))))) else (some false))))) = some true := by rw [if_neg (show ¬ (false = true) by decide)] at H; exact H
         clear H
         have H := H1
         clear H1
         replace H := Option.bind_eq_some_iff.mp H
         obtain ⟨⟨Ao, Al⟩, Dh, H⟩ := H
         replace H : ((laws_heldIntS.f kj36 Al 1).bind fun AD => (if AD < 0 then (some false) else (if AD = Ao then ((laws_toMachine.f kj36 a0_0 a0_1 l0_2 a0_3 a0_4 a0_5 a0_6 a0_7).bind fun bt813 => ((impl_ReleasedColours.f kj36 bt813.1 bt813.2.1 bt813.2.2.1 bt813.2.2.2.1 bt813.2.2.2.2.1 bt813.2.2.2.2.2.1 bt813.2.2.2.2.2.2.1 bt813.2.2.2.2.2.2.2).bind fun bt823 => ((laws_eqIntS.f kj36 bt823.1 A6).bind fun AB => (if AB = true then (laws_FnExactReleasedColours.j2 kj36 Al Ao (bt823.2 != A5)) else (laws_FnExactReleasedColours.j2 kj36 Al Ao true))))) else (some false)))) = some true := H
         have Er := Z.m Dh
         clear Dh
         replace H := Option.bind_eq_some_iff.mp H
         obtain ⟨AD, Di, H⟩ := H
         replace H : (if AD < 0 then (some false) else (if AD = Ao then ((laws_toMachine.f kj36 a0_0 a0_1 l0_2 a0_3 a0_4 a0_5 a0_6 a0_7).bind fun bt813 => ((impl_ReleasedColours.f kj36 bt813.1 bt813.2.1 bt813.2.2.1 bt813.2.2.2.1 bt813.2.2.2.2.1 bt813.2.2.2.2.2.1 bt813.2.2.2.2.2.2.1 bt813.2.2.2.2.2.2.2).bind fun bt823 => ((laws_eqIntS.f kj36 bt823.1 A6).bind fun AB => (if AB = true then (laws_FnExactReleasedColours.j2 kj36 Al Ao (bt823.2 != A5)) else (laws_FnExactReleasedColours.j2 kj36 Al Ao true))))) else (some false))) = some true := H
         have Es := Z.m Di
         clear Di
         by_cases c55 : AD < 0
         ·(rw [if_pos c55] at H; exact absurd H (by decide))
         ·rw [if_neg c55] at H
          have D3 := decide_eq_false c55
          (try simp only [A4] at D3)
          clear c55
          by_cases c58 : AD = Ao
          ·rw [if_pos c58] at H
           have Dq := beq_iff_eq.mpr c58
           have Dr := bne_eq_false_iff_eq.mpr c58
           clear c58
           replace H := Option.bind_eq_some_iff.mp H
           obtain ⟨⟨CT, CU, CV, CW, CX, CY, CZ, D0⟩, Dj, H⟩ := H
           replace H : ((impl_ReleasedColours.f kj36 CT CU CV CW CX CY CZ D0).bind fun bt823 => ((laws_eqIntS.f kj36 bt823.1 A6).bind fun AB => (if AB = true then (laws_FnExactReleasedColours.j2 kj36 Al Ao (bt823.2 != A5)) else (laws_FnExactReleasedColours.j2 kj36 Al Ao true)))) = some true := H
           have Et := Z.m Dj
           clear Dj
           replace H := Option.bind_eq_some_iff.mp H
           obtain ⟨⟨D1, AW⟩, Dk, H⟩ := H
           replace H : ((laws_eqIntS.f kj36 D1 A6).bind fun AB => (if AB = true then (laws_FnExactReleasedColours.j2 kj36 Al Ao (AW != A5)) else (laws_FnExactReleasedColours.j2 kj36 Al Ao true))) = some true := H
           have Eu := Z.m Dk
           clear Dk
           have D7 := Z.m H
           clear H
           obtain ⟨AM, AN, DO⟩ := Kd.R_slice Ab.o
           subst DO
           go_upto_region 25 with (first | ((with_reducible refine gc (f := 22) rfl ?_); refine gA (some 64) _ #[.slice AM Aa.length AN, .int .i64 1] ?_ Try.func22; (with_reducible refine (laws_markIntS.calls kj36 (fun k_ => some k_ = (.slice AM Aa.length AN : Value).ownBlock) (.slice AM Aa.length AN) Aa 1 Ao Al w _ ?side1 ?side2 Er.o).mono ?_); (case side1 => repeat (first | (with_reducible first | exact HB.o | apply qa | apply qn | apply qd | refine qx ?_ AR.o | refine qx ?_ D2.o) | exact HB.o)); (case side2 => exact Kd.Rg rfl Ab.o); rintro e EV ⟨rfl, Du, hb, hkp⟩; refine ⟨_, rfl, ?_⟩; replace Ak := Z.m (Kd.Rm (ok' := fun k_ => some k_ ≠ (.slice AM Aa.length AN : Value).ownBlock) (Kd.Rk (Ak.o) hkp (fun k_ hk_ hs_ => (hk_) hs_)) (fun k_ hk_ => hk_.1)); replace A3 := Z.m (Kd.Rm (ok' := fun k_ => True) (Kd.Rk ((Kd.Ra A3.o (Kd.Rt Ab.o) (by decide))) hkp (fun k_ hk_ hs_ => (hk_.2) hs_)) (fun k_ hk_ => trivial)); replace A0 := Z.m (qk (vK A0) hkp (fun hs_ => (fun e_ => (Kd.R_ne Ab.o A0.o (by decide)) e_) hs_)); replace A1 := Z.m (qk (vK A1) hkp (fun hs_ => (fun e_ => (Kd.R_ne Ab.o A1.o (by decide)) e_) hs_)); replace Ab := Z.m (Kd.Re rfl Du (fun k_ e_ => Ab.o.1 k_ e_)); replace HB := Z.m (hb); (try clear hb); (try clear hkp); (try clear Du)) | ((with_reducible refine gc (f := 23) rfl ?_); refine goesL_ (some 67) rfl rfl Try.func23 (by kernel_rfl) rfl #[.slice AM Al.length AN, .int .i64 1] rfl (by (try simp only [List.map_toArray, List.map_cons, List.map_nil]); first | done | (rw [show Al.length = Aa.length from (Kd.RrZ Ab.o).1.symm] <;> rfl) | rfl | (simp only [List.length_drop, List.length_take]; rfl)) ?_; (with_reducible refine (laws_heldIntS.calls kj36 _ _ Al 1 AD _ ?side1 ?side2 Es.o).mono ?_); (case side1 => repeat (first | exact (Kd.RrZ Ab.o).2.2 | (with_reducible refine Kd.C_alloc ?_ _) | (with_reducible refine Kd.C_drewN ?_ _) | (with_reducible refine Kd.C_drew ?_))); (case side2 => rw [show Al.length = Aa.length from (Kd.RrZ Ab.o).1.symm]; exact (Kd.RrZ Ab.o).2.1); rintro e w' ⟨rfl, ⟨nd, rfl⟩⟩; refine ⟨_, rfl, ?_⟩; have Eg := As.o; have Ej := Aw.o; have BI := bc0 A0; have BJ := bc1 A0; have BK := bc2 A0; have BL := bc3 A0; have BM := bc4 A0; have BN := bc5 A0; have BO := bc6 A0; have BP := bc7 A0; have Cw := qz A0.o 0; have Cx := qz A0.o 1; have Cy := qz A0.o 2; have Cz := qz A0.o 3; have CA := qz A0.o 4; have CB := qz A0.o 5; have CC := qz A0.o 6; have CD := qz A0.o 7) | ((with_reducible refine gc (f := 12) rfl ?_); refine gA (some 75) _ #[.agg #[.int .i64 a0_0, .int .i64 a0_1, .slice A0_2 l0_2.length c0_2, .int .i64 a0_3, .int .i64 a0_4, .int .i64 a0_5, .int .i64 a0_6, .int .i64 a0_7]] ?_ Try.func12; (with_reducible refine (laws_toMachine.calls kj36 a0_0 a0_1 _ _ l0_2 a0_3 a0_4 a0_5 a0_6 a0_7 CT CU CV CW CX CY CZ D0 _ ?side1 ?side2 Et.o).mono ?_); (case side1 => repeat (first | exact (Kd.C_below AF.o (vB HB)) | (with_reducible refine Kd.C_alloc ?_ _) | (with_reducible refine Kd.C_drewN ?_ _) | (with_reducible refine Kd.C_drew ?_))); (case side2 => exact AE.o); rintro e EW ⟨EI, rfl, Az, hb⟩; refine ⟨_, rfl, ?_⟩; have AJ := Z.m (Kd.R_lower (Kd.R_new' Az (Kd.R_lt (vR A3))) (below_size (vB HB))); replace Ak := Z.m (Kd.Rb (vR Ak) hb); replace Ab := Z.m (Kd.Rb (vR Ab) hb); replace A3 := Z.m (Kd.R_elder' (vR A3) (Kd.R_base Az) hb); replace A0 := kB A0 hb; replace A1 := kB A1 hb; replace HB := bB HB hb; (try clear hb); (try clear D9); (try clear hk); (try clear hi); (try clear Az); obtain ⟨Dy, DF, DP⟩ := Kd.R_slice AJ.o; subst DP) | ((with_reducible refine gc (f := 20) rfl ?_); refine gA (some 76) _ #[.agg #[.int .i64 CT, .int .i64 CU, .slice Dy CV.length DF, .int .i64 CW, .int .i64 CX, .int .i64 CY, .int .i64 CZ, .int .i64 D0]] ?_ Try.func20; (with_reducible refine (impl_ReleasedColours.calls kj36 CT CU _ _ CV CW CX CY CZ D0 D1 AW _ ?side1 ?side2 Eu.o).mono ?_); (case side1 => repeat (first | exact (Kd.RrZ AJ.o).2.2 | (with_reducible refine Kd.C_alloc ?_ _) | (with_reducible refine Kd.C_drewN ?_ _) | (with_reducible refine Kd.C_drew ?_))); (case side2 => exact (Kd.RrZ AJ.o).2.1); rintro e EX ⟨EJ, rfl, Az, hb⟩; refine ⟨_, rfl, ?_⟩; have AT := Z.m (Kd.R_lower (Kd.R_new' (Kd.R_new' Az (Kd.R_lt (vR Ak))) (Kd.R_lt (vR Ab))) (below_size (vB HB))); replace Ak := Z.m (Kd.R_elder' (vR Ak) (Kd.R_base Az) hb); replace Ab := Z.m (Kd.R_elder' (vR Ab) (Kd.R_base Az) hb); replace A3 := Z.m (Kd.Rb (vR A3) hb); replace AJ := Z.m (Kd.Rb (vR AJ) hb); replace A0 := kB A0 hb; replace A1 := kB A1 hb; replace HB := bB HB hb; (try clear hb); (try clear D9); (try clear hk); (try clear hi); (try clear Az)))
           (try simp only [Act.put, q1, q2, q3])
           go_cut [87] (fun v87 wc => ∃ (kq : Nat) (AI : Bool), v87 = .bool AI ∧ Z (laws_FnExactReleasedColours.j2 kq Al Ao AI = some true) ∧ Z (kq ≤ kj36) ∧ Z (Kd.R (Kd.int .i64) 3 wc w.heap.size (fun _ => True) (.slice AM Aa.length AN) Al) ∧ Z (Kd.R k88 88 wc w.heap.size (fun _ => True) (.slice Au AV.length At) AV) ∧ Z (wc.heap[Am]? = some (.cells #[.int .i64 a0_0, .int .i64 a0_1, (.slice A0_2 l0_2.length c0_2), .int .i64 a0_3, .int .i64 a0_4, .int .i64 a0_5, .int .i64 a0_6, .int .i64 a0_7] 26 (0, 0))) ∧ Z (wc.heap[Aq]? = some (.cells #[.int .i64 Ad, .int .i64 Ae, (.slice Au AV.length At), .int .i64 Af, .int .i64 Ag, .int .i64 Ah, .int .i64 Ai, .int .i64 Aj] 32 (0, 0))) ∧ Z (Below w.heap.size w wc))
           case first =>
            have H := D7.o
            clear D7
            replace H := Option.bind_eq_some_iff.mp H
            obtain ⟨AB, Dl, H⟩ := H
            replace H : (if AB = true then (laws_FnExactReleasedColours.j2 kj36 Al Ao (AW != A5)) else (laws_FnExactReleasedColours.j2 kj36 Al Ao true)) = some true := H
            have Ew := Z.m Dl
            clear Dl
            by_cases c70 : AB = true
            ·subst c70
             have H1 : (laws_FnExactReleasedColours.j2 kj36 Al Ao (AW != A5)) = some true := by rw [if_pos rfl] at H; exact H
             clear H
             have H := H1
             clear H1
             have H' := Z.m H
             clear H
             obtain ⟨Dz, DG, DQ⟩ := Kd.R_slice AT.o
             subst DQ
             obtain ⟨DA, DH, DR⟩ := Kd.R_slice Ak.o
             subst DR
             go_wp2_with (first | ((with_reducible refine gc (f := 21) rfl ?_); refine gA (some 81) _ #[.slice Dz D1.length DG, .slice DA A6.length DH] ?_ Try.func21; (with_reducible refine (laws_eqIntS.calls kj36 _ _ D1 _ _ A6 true _ ?side1 ?side2 ?side3 ?side4 Ew.o).mono ?_); (case side1 => repeat (first | exact (Kd.RrZ AT.o).2.2 | (with_reducible refine Kd.C_alloc ?_ _) | (with_reducible refine Kd.C_drewN ?_ _) | (with_reducible refine Kd.C_drew ?_))); (case side2 => exact (Kd.RrZ AT.o).2.1); (case side3 => repeat (first | exact (Kd.RrZ Ak.o).2.2 | (with_reducible refine Kd.C_alloc ?_ _) | (with_reducible refine Kd.C_drewN ?_ _) | (with_reducible refine Kd.C_drew ?_))); (case side4 => exact (Kd.RrZ Ak.o).2.1); rintro e w' ⟨rfl, ⟨nd, rfl⟩⟩; refine ⟨_, rfl, ?_⟩))
             go_meet
             case rel => exact ⟨_, ((AW != A5)), (by first | rfl | (simp; done) | (simp [*]; done)), H', ⟨by have := D8.o; have := DB.o; first | omega | exact Nat.le_refl _⟩, ⟨by (try simp only [A4]); refine rK ?_; exact Kd.Rm Ab.o (fun _ hk => trivial)⟩, ⟨by (try simp only [A4]); refine rK ?_; exact Kd.Rm A3.o (fun _ hk => trivial)⟩, ⟨by (try simp only [A4]); refine bK ?_; exact A0.o⟩, ⟨by (try simp only [A4]); refine bK ?_; exact A1.o⟩, ⟨vB HB⟩⟩
            ·(rw [if_neg c70] at H; exact absurd H (laws_FnExactReleasedColours.bad_j2 _ _ _))
           case rest =>
            clear D7
            (try clear c52); (try clear D3); (try clear Dq); (try clear Dr)
            (try clear BI); (try clear BJ); (try clear BK); (try clear BL); (try clear BM); (try clear BN); (try clear BO); (try clear BP)
            (try clear Cw); (try clear Cx); (try clear Cy); (try clear Cz); (try clear CA); (try clear CB); (try clear CC); (try clear CD)
            obtain ⟨kq, AI, rfl, HA, EA, Ab, A3, A0, A1, HB⟩ := hcut
            have Ax := (Kd.RrZ Ab.o).1
            rw [Ax] at Ab
            (try simp only [Ax])
            (try simp only [Ax] at A0)
            (try simp only [Ax] at A1)
            (try simp only [Ax] at A3)
            cases kq with
            | zero => exact absurd HA.o (by simp [laws_FnExactReleasedColours.j2])
            | succ kj60 =>
             have H := HA.o
             clear HA
             simp only [laws_FnExactReleasedColours.j2] at H
             by_cases c75 : AI = true
             ·(rw [if_pos c75] at H; exact absurd H (by decide))
             ·replace c75 := Bool.eq_false_iff.mpr c75
              subst c75
              have H1 : ((laws_heldIntS.f kj60 Al 1).bind fun AL => (if AL < 0 then (some false) else (if AL = Ao then (some true) else (some false)))) = some true := by rw [if_neg (show ¬ (false = true) by decide)] at H; exact H
              clear H
              have H := H1
              clear H1
              replace H := Option.bind_eq_some_iff.mp H
              obtain ⟨AL, Dm, H⟩ := H
              replace H : (if AL < 0 then (some false) else (if AL = Ao then (some true) else (some false))) = some true := H
              have Ex := Z.m Dm
              clear Dm
              by_cases c77 : AL < 0
              ·(rw [if_pos c77] at H; exact absurd H (by decide))
              ·rw [if_neg c77] at H
               have D4 := decide_eq_false c77
               (try simp only [A4] at D4)
               (try simp only [Ax] at D4)
               clear c77
               by_cases c78 : AL = Ao
               ·rw [if_pos c78] at H
                have Ec := beq_iff_eq.mpr c78
                have Ed := bne_eq_false_iff_eq.mpr c78
                clear c78
                clear H
                go_wp2_with (first | ((with_reducible refine gc (f := 23) rfl ?_); refine gA (some 90) _ #[.slice AM Al.length AN, .int .i64 1] ?_ Try.func23; (with_reducible refine (laws_heldIntS.calls kj60 _ _ Al 1 AL _ ?side1 ?side2 Ex.o).mono ?_); (case side1 => repeat (first | exact (Kd.RrZ Ab.o).2.2 | (with_reducible refine Kd.C_alloc ?_ _) | (with_reducible refine Kd.C_drewN ?_ _) | (with_reducible refine Kd.C_drew ?_))); (case side2 => exact (Kd.RrZ Ab.o).2.1); rintro e w' ⟨rfl, ⟨nd, rfl⟩⟩; refine ⟨_, rfl, ?_⟩))
                go_ret
                exact ⟨by first | rfl | (simp [eN, eS] <;> rfl) | (simp [*, eN, eS] <;> rfl), vB HB⟩
               ·(rw [if_neg c78] at H; exact absurd H (by decide))
          ·(rw [if_neg c58] at H; exact absurd H (by decide))
     ·(rw [if_neg c35] at H; exact absurd H (by decide))

end Go.Proofs.Ytjkiolpepchpdaa.PAll
