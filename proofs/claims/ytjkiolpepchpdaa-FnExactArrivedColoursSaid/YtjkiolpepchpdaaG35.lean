/- Began as a text that print.sh wrote (of the functions named below); turned and shortened by this session. -/
import Derived.Test.YtjkiolpepchpdaaG0
import Derived.Test.YtjkiolpepchpdaaG1
import Derived.Test.YtjkiolpepchpdaaG11
import Derived.Test.YtjkiolpepchpdaaG22
import Derived.Test.YtjkiolpepchpdaaG33
import Derived.Test.YtjkiolpepchpdaaG34
namespace Go.Proofs.Ytjkiolpepchpdaa.PAll
open Go.RowKit Go.Proofs.YtjkiolpepchpdaaW.PrintWords Go.Proofs.YtjkiolpepchpdaaW.PrintLast Go.Proofs.YtjkiolpepchpdaaW.PrintMore
attribute [local go_sem] max2_int min2_int max_two min_two max_three min_three max_four min_four   -- for this text's walks alone
set_option linter.unusedVariables false
set_option linter.unusedSimpArgs false

/-! ### laws_FnExactArrivedColours: function 8 -/
def laws_FnExactArrivedColours.j0 : Nat → Bool → Int → Int → List (S93) → Int → Int → Int → Int → Int → Int → Int → List (S88) → Int → Int → Int → Int → Int → Option (Bool)
 | 0, _, _, _, _, _, _, _, _, _, _, _, _, _, _, _, _, _ => none
 | k + 1, x43, x1028000, x1028001, x1028002, x1028003, x1028004, x1028005, x1028006, x1028007, x1053000, x1053001, x1053002, x1053003, x1053004, x1053005, x1053006, x1053007 => if x43 = true then (some false) else ((laws_toMachine.f k x1028000 x1028001 x1028002 x1028003 x1028004 x1028005 x1028006 x1028007).bind fun bt1056 => ((laws_eqMachine.f k x1053000 x1053001 x1053002 x1053003 x1053004 x1053005 x1053006 x1053007 bt1056.1 bt1056.2.1 bt1056.2.2.1 bt1056.2.2.2.1 bt1056.2.2.2.2.1 bt1056.2.2.2.2.2.1 bt1056.2.2.2.2.2.2.1 bt1056.2.2.2.2.2.2.2).bind fun t1066 => (if t1066 = true then (some true) else (some false))))
def laws_FnExactArrivedColours.f (k : Nat) (a0_0 : Int) (a0_1 : Int) (l0_2 : List (S93)) (a0_3 : Int) (a0_4 : Int) (a0_5 : Int) (a0_6 : Int) (a0_7 : Int) : Option (Bool) := (laws_szMachine.f a0_0 a0_1 l0_2 a0_3 a0_4 a0_5 a0_6 a0_7 1048576).bind fun t1028 => (if t1028 < 0 then (some true) else ((laws_toMachine.f k a0_0 a0_1 l0_2 a0_3 a0_4 a0_5 a0_6 a0_7).bind fun bt1029 => ((spec_ArrivedColours.f k bt1029.1 bt1029.2.1 bt1029.2.2.1 bt1029.2.2.2.1 bt1029.2.2.2.2.1 bt1029.2.2.2.2.2.1 bt1029.2.2.2.2.2.2.1 bt1029.2.2.2.2.2.2.2).bind fun bt1039 => ((laws_toMachine.f k a0_0 a0_1 l0_2 a0_3 a0_4 a0_5 a0_6 a0_7).bind fun bt1042 => ((impl_ArrivedColours.f k bt1042.1 bt1042.2.1 bt1042.2.2.1 bt1042.2.2.2.1 bt1042.2.2.2.2.1 bt1042.2.2.2.2.2.1 bt1042.2.2.2.2.2.2.1 bt1042.2.2.2.2.2.2.2).bind fun bt1053 => (if bt1053.1 = bt1039.1 then (if bt1053.2.1 = bt1039.2.1 then (laws_FnExactArrivedColours.j0 k (bt1053.2.2 != bt1039.2.2) a0_0 a0_1 l0_2 a0_3 a0_4 a0_5 a0_6 a0_7 bt1042.1 bt1042.2.1 bt1042.2.2.1 bt1042.2.2.2.1 bt1042.2.2.2.2.1 bt1042.2.2.2.2.2.1 bt1042.2.2.2.2.2.2.1 bt1042.2.2.2.2.2.2.2) else (laws_FnExactArrivedColours.j0 k true a0_0 a0_1 l0_2 a0_3 a0_4 a0_5 a0_6 a0_7 bt1042.1 bt1042.2.1 bt1042.2.2.1 bt1042.2.2.2.1 bt1042.2.2.2.2.1 bt1042.2.2.2.2.2.1 bt1042.2.2.2.2.2.2.1 bt1042.2.2.2.2.2.2.2)) else (laws_FnExactArrivedColours.j0 k true a0_0 a0_1 l0_2 a0_3 a0_4 a0_5 a0_6 a0_7 bt1042.1 bt1042.2.1 bt1042.2.2.1 bt1042.2.2.2.1 bt1042.2.2.2.2.1 bt1042.2.2.2.2.2.1 bt1042.2.2.2.2.2.2.1 bt1042.2.2.2.2.2.2.2)))))))
theorem laws_FnExactArrivedColours.bad_j0 (k : Nat) (y1 : Int) (y2 : Int) (y3 : List (S93)) (y4 : Int) (y5 : Int) (y6 : Int) (y7 : Int) (y8 : Int) (y9 : Int) (y10 : Int) (y11 : List (S88)) (y12 : Int) (y13 : Int) (y14 : Int) (y15 : Int) (y16 : Int) : ¬ laws_FnExactArrivedColours.j0 k true y1 y2 y3 y4 y5 y6 y7 y8 y9 y10 y11 y12 y13 y14 y15 y16 = some true := by
 cases k <;> simp [laws_FnExactArrivedColours.j0]
set_option maxHeartbeats 8000000 in
set_option maxRecDepth 100000 in
theorem laws_FnExactArrivedColours.calls (k : Nat) (a0_0 : Int) (a0_1 : Int) (A0_2 : Option Addr) (c0_2 : Nat) (l0_2 : List (S93)) (a0_3 : Int) (a0_4 : Int) (a0_5 : Int) (a0_6 : Int) (a0_7 : Int) (w : World) (hr0_2 : Kd.C k93 w A0_2 l0_2.length l0_2) (hc0_2 : l0_2.length ≤ c0_2) (h : laws_FnExactArrivedColours.f k a0_0 a0_1 l0_2 a0_3 a0_4 a0_5 a0_6 a0_7 = some true) :
 Calls Try.prog 8 #[.agg #[.int .i64 a0_0, .int .i64 a0_1, .slice A0_2 l0_2.length c0_2, .int .i64 a0_3, .int .i64 a0_4, .int .i64 a0_5, .int .i64 a0_6, .int .i64 a0_7]] w fun e w' => e = .returned (.bool true) ∧ Below w.heap.size w w' := by
 have CN := Try.underlying26
 have CO := Try.underlying32
 have Ap := Z.m hr0_2
 have Ao := Z.m hc0_2
 clear hr0_2 hc0_2
 have HB := Z.m (Below.refl w.heap.size w)
 have H : ((laws_szMachine.f a0_0 a0_1 l0_2 a0_3 a0_4 a0_5 a0_6 a0_7 1048576).bind fun Al => (if Al < 0 then (some true) else ((laws_toMachine.f k a0_0 a0_1 l0_2 a0_3 a0_4 a0_5 a0_6 a0_7).bind fun bt1029 => ((spec_ArrivedColours.f k bt1029.1 bt1029.2.1 bt1029.2.2.1 bt1029.2.2.2.1 bt1029.2.2.2.2.1 bt1029.2.2.2.2.2.1 bt1029.2.2.2.2.2.2.1 bt1029.2.2.2.2.2.2.2).bind fun bt1039 => ((laws_toMachine.f k a0_0 a0_1 l0_2 a0_3 a0_4 a0_5 a0_6 a0_7).bind fun bt1042 => ((impl_ArrivedColours.f k bt1042.1 bt1042.2.1 bt1042.2.2.1 bt1042.2.2.2.1 bt1042.2.2.2.2.1 bt1042.2.2.2.2.2.1 bt1042.2.2.2.2.2.2.1 bt1042.2.2.2.2.2.2.2).bind fun bt1053 => (if bt1053.1 = bt1039.1 then (if bt1053.2.1 = bt1039.2.1 then (laws_FnExactArrivedColours.j0 k (bt1053.2.2 != bt1039.2.2) a0_0 a0_1 l0_2 a0_3 a0_4 a0_5 a0_6 a0_7 bt1042.1 bt1042.2.1 bt1042.2.2.1 bt1042.2.2.2.1 bt1042.2.2.2.2.1 bt1042.2.2.2.2.2.1 bt1042.2.2.2.2.2.2.1 bt1042.2.2.2.2.2.2.2) else (laws_FnExactArrivedColours.j0 k true a0_0 a0_1 l0_2 a0_3 a0_4 a0_5 a0_6 a0_7 bt1042.1 bt1042.2.1 bt1042.2.2.1 bt1042.2.2.2.1 bt1042.2.2.2.2.1 bt1042.2.2.2.2.2.1 bt1042.2.2.2.2.2.2.1 bt1042.2.2.2.2.2.2.2)) else (laws_FnExactArrivedColours.j0 k true a0_0 a0_1 l0_2 a0_3 a0_4 a0_5 a0_6 a0_7 bt1042.1 bt1042.2.1 bt1042.2.2.1 bt1042.2.2.2.1 bt1042.2.2.2.2.1 bt1042.2.2.2.2.2.1 bt1042.2.2.2.2.2.2.1 bt1042.2.2.2.2.2.2.2)))))))) = some true := h
 clear h
 replace H := Option.bind_eq_some_iff.mp H
 obtain ⟨Al, Cy, H⟩ := H
 replace H : (if Al < 0 then (some true) else ((laws_toMachine.f k a0_0 a0_1 l0_2 a0_3 a0_4 a0_5 a0_6 a0_7).bind fun bt1029 => ((spec_ArrivedColours.f k bt1029.1 bt1029.2.1 bt1029.2.2.1 bt1029.2.2.2.1 bt1029.2.2.2.2.1 bt1029.2.2.2.2.2.1 bt1029.2.2.2.2.2.2.1 bt1029.2.2.2.2.2.2.2).bind fun bt1039 => ((laws_toMachine.f k a0_0 a0_1 l0_2 a0_3 a0_4 a0_5 a0_6 a0_7).bind fun bt1042 => ((impl_ArrivedColours.f k bt1042.1 bt1042.2.1 bt1042.2.2.1 bt1042.2.2.2.1 bt1042.2.2.2.2.1 bt1042.2.2.2.2.2.1 bt1042.2.2.2.2.2.2.1 bt1042.2.2.2.2.2.2.2).bind fun bt1053 => (if bt1053.1 = bt1039.1 then (if bt1053.2.1 = bt1039.2.1 then (laws_FnExactArrivedColours.j0 k (bt1053.2.2 != bt1039.2.2) a0_0 a0_1 l0_2 a0_3 a0_4 a0_5 a0_6 a0_7 bt1042.1 bt1042.2.1 bt1042.2.2.1 bt1042.2.2.2.1 bt1042.2.2.2.2.1 bt1042.2.2.2.2.2.1 bt1042.2.2.2.2.2.2.1 bt1042.2.2.2.2.2.2.2) else (laws_FnExactArrivedColours.j0 k true a0_0 a0_1 l0_2 a0_3 a0_4 a0_5 a0_6 a0_7 bt1042.1 bt1042.2.1 bt1042.2.2.1 bt1042.2.2.2.1 bt1042.2.2.2.2.1 bt1042.2.2.2.2.2.1 bt1042.2.2.2.2.2.2.1 bt1042.2.2.2.2.2.2.2)) else (laws_FnExactArrivedColours.j0 k true a0_0 a0_1 l0_2 a0_3 a0_4 a0_5 a0_6 a0_7 bt1042.1 bt1042.2.1 bt1042.2.2.1 bt1042.2.2.2.1 bt1042.2.2.2.2.1 bt1042.2.2.2.2.2.1 bt1042.2.2.2.2.2.2.1 bt1042.2.2.2.2.2.2.2))))))) = some true := H
 have A2 := Z.m Cy
 clear Cy
 by_cases c3 : Al < 0
 ·rw [if_pos c3] at H
  have C7 := decide_eq_true c3
  clear c3
  clear H
  go_enter Try.func8, Try.ntmps8
  go_wp2_with (first | ((with_reducible refine gq (N := 1) rfl ?_); refine be (N := 1) (cs := #[.int .i64 a0_0, .int .i64 a0_1, .slice A0_2 l0_2.length c0_2, .int .i64 a0_3, .int .i64 a0_4, .int .i64 a0_5, .int .i64 a0_6, .int .i64 a0_7]) (t := 26) ?_; intro Ag hg w4 hbox hb; have A0 := Z.m (hbox); have Aw := gW (w := w) HB hg; have BZ := Aw; replace HB := bB HB hb; clear hb hbox hg; have Ch := bc0 A0; have Ci := bc1 A0; have Cj := bc2 A0; have Cl := bc3 A0; have Cm := bc4 A0; have Cn := bc5 A0; have Co := bc6 A0; have Cp := bc7 A0; have Cq := qz A0.o 0; have Cr := qz A0.o 1; have Cs := qz A0.o 2; have Ct := qz A0.o 3; have Cu := qz A0.o 4; have Cv := qz A0.o 5; have Cw := qz A0.o 6; have Cx := qz A0.o 7) | ((with_reducible refine gc (f := 10) rfl ?_); refine gA (some 13) _ #[.agg #[.int .i64 a0_0, .int .i64 a0_1, .slice A0_2 l0_2.length c0_2, .int .i64 a0_3, .int .i64 a0_4, .int .i64 a0_5, .int .i64 a0_6, .int .i64 a0_7], .int .i64 1048576] ?_ Try.func10; (with_reducible refine (laws_szMachine.calls a0_0 a0_1 _ _ l0_2 a0_3 a0_4 a0_5 a0_6 a0_7 1048576 Al _ ?side1 ?side2 A2.o).mono ?_); (case side1 => repeat (first | exact (Kd.C_below Ap.o HB.o) | (with_reducible refine Kd.C_alloc ?_ _) | (with_reducible refine Kd.C_drewN ?_ _) | (with_reducible refine Kd.C_drew ?_))); (case side2 => exact Ao.o); rintro e w6 ⟨rfl, hb⟩; refine ⟨_, rfl, ?_⟩; replace A0 := kB A0 hb; replace HB := bB HB hb; (try clear hb); (try clear Ca); (try clear hk); (try clear hi)))
  go_ret
  exact ⟨by first | rfl | (simp [eN, eS] <;> rfl) | (simp [*, eN, eS] <;> rfl), vB HB⟩
 ·rw [if_neg c3] at H
  have C7 := decide_eq_false c3
  clear c3
  replace H := Option.bind_eq_some_iff.mp H
  obtain ⟨⟨Ay, Az, As, AA, AB, AC, AD, AE⟩, Cz, H⟩ := H
  replace H : ((spec_ArrivedColours.f k Ay Az As AA AB AC AD AE).bind fun bt1039 => ((laws_toMachine.f k a0_0 a0_1 l0_2 a0_3 a0_4 a0_5 a0_6 a0_7).bind fun bt1042 => ((impl_ArrivedColours.f k bt1042.1 bt1042.2.1 bt1042.2.2.1 bt1042.2.2.2.1 bt1042.2.2.2.2.1 bt1042.2.2.2.2.2.1 bt1042.2.2.2.2.2.2.1 bt1042.2.2.2.2.2.2.2).bind fun bt1053 => (if bt1053.1 = bt1039.1 then (if bt1053.2.1 = bt1039.2.1 then (laws_FnExactArrivedColours.j0 k (bt1053.2.2 != bt1039.2.2) a0_0 a0_1 l0_2 a0_3 a0_4 a0_5 a0_6 a0_7 bt1042.1 bt1042.2.1 bt1042.2.2.1 bt1042.2.2.2.1 bt1042.2.2.2.2.1 bt1042.2.2.2.2.2.1 bt1042.2.2.2.2.2.2.1 bt1042.2.2.2.2.2.2.2) else (laws_FnExactArrivedColours.j0 k true a0_0 a0_1 l0_2 a0_3 a0_4 a0_5 a0_6 a0_7 bt1042.1 bt1042.2.1 bt1042.2.2.1 bt1042.2.2.2.1 bt1042.2.2.2.2.1 bt1042.2.2.2.2.2.1 bt1042.2.2.2.2.2.2.1 bt1042.2.2.2.2.2.2.2)) else (laws_FnExactArrivedColours.j0 k true a0_0 a0_1 l0_2 a0_3 a0_4 a0_5 a0_6 a0_7 bt1042.1 bt1042.2.1 bt1042.2.2.1 bt1042.2.2.2.1 bt1042.2.2.2.2.1 bt1042.2.2.2.2.2.1 bt1042.2.2.2.2.2.2.1 bt1042.2.2.2.2.2.2.2))))) = some true := H
  have A7 := Z.m Cz
  clear Cz
  replace H := Option.bind_eq_some_iff.mp H
  obtain ⟨⟨At, Au, Av⟩, CA, H⟩ := H
  replace H : ((laws_toMachine.f k a0_0 a0_1 l0_2 a0_3 a0_4 a0_5 a0_6 a0_7).bind fun bt1042 => ((impl_ArrivedColours.f k bt1042.1 bt1042.2.1 bt1042.2.2.1 bt1042.2.2.2.1 bt1042.2.2.2.2.1 bt1042.2.2.2.2.2.1 bt1042.2.2.2.2.2.2.1 bt1042.2.2.2.2.2.2.2).bind fun bt1053 => (if bt1053.1 = At then (if bt1053.2.1 = Au then (laws_FnExactArrivedColours.j0 k (bt1053.2.2 != Av) a0_0 a0_1 l0_2 a0_3 a0_4 a0_5 a0_6 a0_7 bt1042.1 bt1042.2.1 bt1042.2.2.1 bt1042.2.2.2.1 bt1042.2.2.2.2.1 bt1042.2.2.2.2.2.1 bt1042.2.2.2.2.2.2.1 bt1042.2.2.2.2.2.2.2) else (laws_FnExactArrivedColours.j0 k true a0_0 a0_1 l0_2 a0_3 a0_4 a0_5 a0_6 a0_7 bt1042.1 bt1042.2.1 bt1042.2.2.1 bt1042.2.2.2.1 bt1042.2.2.2.2.1 bt1042.2.2.2.2.2.1 bt1042.2.2.2.2.2.2.1 bt1042.2.2.2.2.2.2.2)) else (laws_FnExactArrivedColours.j0 k true a0_0 a0_1 l0_2 a0_3 a0_4 a0_5 a0_6 a0_7 bt1042.1 bt1042.2.1 bt1042.2.2.1 bt1042.2.2.2.1 bt1042.2.2.2.2.1 bt1042.2.2.2.2.2.1 bt1042.2.2.2.2.2.2.1 bt1042.2.2.2.2.2.2.2)))) = some true := H
  have A8 := Z.m CA
  clear CA
  replace H := Option.bind_eq_some_iff.mp H
  obtain ⟨⟨A5, A6, A4, Aa, Ab, Ac, Ad, Ae⟩, CB, H⟩ := H
  replace H : ((impl_ArrivedColours.f k A5 A6 A4 Aa Ab Ac Ad Ae).bind fun bt1053 => (if bt1053.1 = At then (if bt1053.2.1 = Au then (laws_FnExactArrivedColours.j0 k (bt1053.2.2 != Av) a0_0 a0_1 l0_2 a0_3 a0_4 a0_5 a0_6 a0_7 A5 A6 A4 Aa Ab Ac Ad Ae) else (laws_FnExactArrivedColours.j0 k true a0_0 a0_1 l0_2 a0_3 a0_4 a0_5 a0_6 a0_7 A5 A6 A4 Aa Ab Ac Ad Ae)) else (laws_FnExactArrivedColours.j0 k true a0_0 a0_1 l0_2 a0_3 a0_4 a0_5 a0_6 a0_7 A5 A6 A4 Aa Ab Ac Ad Ae))) = some true := H
  have A9 := Z.m CB
  clear CB
  replace H := Option.bind_eq_some_iff.mp H
  obtain ⟨⟨AO, AP, AQ⟩, C2, H⟩ := H
  replace H : (if AO = At then (if AP = Au then (laws_FnExactArrivedColours.j0 k (AQ != Av) a0_0 a0_1 l0_2 a0_3 a0_4 a0_5 a0_6 a0_7 A5 A6 A4 Aa Ab Ac Ad Ae) else (laws_FnExactArrivedColours.j0 k true a0_0 a0_1 l0_2 a0_3 a0_4 a0_5 a0_6 a0_7 A5 A6 A4 Aa Ab Ac Ad Ae)) else (laws_FnExactArrivedColours.j0 k true a0_0 a0_1 l0_2 a0_3 a0_4 a0_5 a0_6 a0_7 A5 A6 A4 Aa Ab Ac Ad Ae)) = some true := H
  have CJ := Z.m C2
  clear C2
  have C1 := Z.m H
  clear H
  go_enter Try.func8, Try.ntmps8
  go_upto_region 8 with (first | ((with_reducible refine gq (N := 1) rfl ?_); refine be (N := 1) (cs := #[.int .i64 a0_0, .int .i64 a0_1, .slice A0_2 l0_2.length c0_2, .int .i64 a0_3, .int .i64 a0_4, .int .i64 a0_5, .int .i64 a0_6, .int .i64 a0_7]) (t := 26) ?_; intro Ag hg CP hbox hb; have A0 := Z.m (hbox); have Aw := gW (w := w) HB hg; have BZ := Aw; replace HB := bB HB hb; clear hb hbox hg; have AS := bc0 A0; have AT := bc1 A0; have AU := bc2 A0; have AV := bc3 A0; have AW := bc4 A0; have AX := bc5 A0; have AY := bc6 A0; have AZ := bc7 A0; have Bt := qz A0.o 0; have Bu := qz A0.o 1; have Bv := qz A0.o 2; have Bw := qz A0.o 3; have Bx := qz A0.o 4; have By := qz A0.o 5; have Bz := qz A0.o 6; have BA := qz A0.o 7) | ((with_reducible refine gc (f := 10) rfl ?_); refine gA (some 13) _ #[.agg #[.int .i64 a0_0, .int .i64 a0_1, .slice A0_2 l0_2.length c0_2, .int .i64 a0_3, .int .i64 a0_4, .int .i64 a0_5, .int .i64 a0_6, .int .i64 a0_7], .int .i64 1048576] ?_ Try.func10; (with_reducible refine (laws_szMachine.calls a0_0 a0_1 _ _ l0_2 a0_3 a0_4 a0_5 a0_6 a0_7 1048576 Al _ ?side1 ?side2 A2.o).mono ?_); (case side1 => repeat (first | exact (Kd.C_below Ap.o HB.o) | (with_reducible refine Kd.C_alloc ?_ _) | (with_reducible refine Kd.C_drewN ?_ _) | (with_reducible refine Kd.C_drew ?_))); (case side2 => exact Ao.o); rintro e CQ ⟨rfl, hb⟩; refine ⟨_, rfl, ?_⟩; replace A0 := kB A0 hb; replace HB := bB HB hb; (try clear hb); (try clear Ca); (try clear hk); (try clear hi); have B0 := bc0 A0; have B2 := bc1 A0; have B3 := bc2 A0; have B7 := bc3 A0; have B8 := bc4 A0; have Ba := bc5 A0; have Bb := bc6 A0; have Bc := bc7 A0; have BB := qz A0.o 0; have BC := qz A0.o 1; have BD := qz A0.o 2; have BE := qz A0.o 3; have BF := qz A0.o 4; have BG := qz A0.o 5; have BH := qz A0.o 6; have BI := qz A0.o 7) | ((with_reducible refine gc (f := 12) rfl ?_); refine gA (some 18) _ #[.agg #[.int .i64 a0_0, .int .i64 a0_1, .slice A0_2 l0_2.length c0_2, .int .i64 a0_3, .int .i64 a0_4, .int .i64 a0_5, .int .i64 a0_6, .int .i64 a0_7]] ?_ Try.func12; (with_reducible refine (laws_toMachine.calls k a0_0 a0_1 _ _ l0_2 a0_3 a0_4 a0_5 a0_6 a0_7 Ay Az As AA AB AC AD AE _ ?side1 ?side2 A7.o).mono ?_); (case side1 => repeat (first | exact (Kd.C_below Ap.o HB.o) | (with_reducible refine Kd.C_alloc ?_ _) | (with_reducible refine Kd.C_drewN ?_ _) | (with_reducible refine Kd.C_drew ?_))); (case side2 => exact Ao.o); rintro e CR ⟨CG, rfl, AR, hb⟩; refine ⟨_, rfl, ?_⟩; have Af := Z.m (Kd.R_lower AR (below_size (vB HB))); replace A0 := kB A0 hb; replace HB := bB HB hb; (try clear hb); (try clear Ca); (try clear hk); (try clear hi); (try clear AR); obtain ⟨C5, C8, Cf⟩ := Kd.R_slice Af.o; subst Cf) | ((with_reducible refine gc (f := 28) rfl ?_); refine gA (some 19) _ #[.agg #[.int .i64 Ay, .int .i64 Az, .slice C5 As.length C8, .int .i64 AA, .int .i64 AB, .int .i64 AC, .int .i64 AD, .int .i64 AE]] ?_ Try.func28; (with_reducible refine (spec_ArrivedColours.calls k Ay Az _ _ As AA AB AC AD AE At Au Av _ ?side1 ?side2 A8.o).mono ?_); (case side1 => repeat (first | exact (Kd.RrZ Af.o).2.2 | (with_reducible refine Kd.C_alloc ?_ _) | (with_reducible refine Kd.C_drewN ?_ _) | (with_reducible refine Kd.C_drew ?_))); (case side2 => exact (Kd.RrZ Af.o).2.1); rintro e CS ⟨rfl, hb⟩; refine ⟨_, rfl, ?_⟩; replace Af := Z.m (Kd.Rb (vR Af) hb); replace A0 := kB A0 hb; replace HB := bB HB hb; (try clear hb); (try clear Ca); (try clear hk); (try clear hi); have Bd := bc0 A0; have Be := bc1 A0; have Bf := bc2 A0; have Bg := bc3 A0; have Bh := bc4 A0; have Bi := bc5 A0; have Bj := bc6 A0; have Bk := bc7 A0; have BJ := qz A0.o 0; have BK := qz A0.o 1; have BL := qz A0.o 2; have BM := qz A0.o 3; have BN := qz A0.o 4; have BO := qz A0.o 5; have BP := qz A0.o 6; have BQ := qz A0.o 7) | ((with_reducible refine gc (f := 12) rfl ?_); refine gA (some 24) _ #[.agg #[.int .i64 a0_0, .int .i64 a0_1, .slice A0_2 l0_2.length c0_2, .int .i64 a0_3, .int .i64 a0_4, .int .i64 a0_5, .int .i64 a0_6, .int .i64 a0_7]] ?_ Try.func12; (with_reducible refine (laws_toMachine.calls k a0_0 a0_1 _ _ l0_2 a0_3 a0_4 a0_5 a0_6 a0_7 A5 A6 A4 Aa Ab Ac Ad Ae _ ?side1 ?side2 A9.o).mono ?_); (case side1 => repeat (first | exact (Kd.C_below Ap.o HB.o) | (with_reducible refine Kd.C_alloc ?_ _) | (with_reducible refine Kd.C_drewN ?_ _) | (with_reducible refine Kd.C_drew ?_))); (case side2 => exact Ao.o); rintro e CT ⟨CH, rfl, AR, hb⟩; refine ⟨_, rfl, ?_⟩; have Ai := Z.m (Kd.R_lower (Kd.R_new' AR (Kd.R_lt (vR Af))) (below_size (vB HB))); replace Af := Z.m (Kd.R_elder' (vR Af) (Kd.R_base AR) hb); replace A0 := kB A0 hb; replace HB := bB HB hb; (try clear hb); (try clear Ca); (try clear hk); (try clear hi); (try clear AR)) | ((with_reducible refine gq (N := 7) rfl ?_); refine be (N := 7) (cs := #[.int .i64 0, .int .i64 0, .slice none 0 0, .int .i64 0, .int .i64 0, .int .i64 0, .int .i64 0, .int .i64 0]) (t := 32) ?_; intro Ah hg CU hbox hb; have A1 := Z.m (hbox); have C0 := gW (w := w) HB hg; have Cd := C0; have Aj := neL A0 hg; have Aq := neG A0 hg; replace Af := Z.m (Kd.Rb (vR Af) hb); replace Ai := Z.m (Kd.Rb (vR Ai) hb); replace A0 := kB A0 hb; replace HB := bB HB hb; clear hb hbox hg; have CE := Aq.o; have CF := Aj.o; have Bl := bc0 A1; have Bm := bc1 A1; have Bn := bc2 A1; have Bo := bc3 A1; have Bp := bc4 A1; have Bq := bc5 A1; have Br := bc6 A1; have Bs := bc7 A1; have BR := qz A1.o 0; have BS := qz A1.o 1; have BT := qz A1.o 2; have BU := qz A1.o 3; have BV := qz A1.o 4; have BW := qz A1.o 5; have BX := qz A1.o 6; have BY := qz A1.o 7; obtain ⟨AN, Ax, Cg⟩ := Kd.R_slice Ai.o; subst Cg) | ((with_reducible refine gc (f := 29) rfl ?_); refine gA (some 27) _ #[.agg #[.int .i64 A5, .int .i64 A6, .slice AN A4.length Ax, .int .i64 Aa, .int .i64 Ab, .int .i64 Ac, .int .i64 Ad, .int .i64 Ae]] ?_ Try.func29; (with_reducible refine (impl_ArrivedColours.calls k A5 A6 _ _ A4 Aa Ab Ac Ad Ae AO AP AQ _ ?side1 ?side2 CJ.o).mono ?_); (case side1 => refine (Kd.RrZ (e := 88) (base := w.heap.size) (ok := fun k_ => (True ∧ some k_ ≠ (.slice C5 As.length C8 : Value).ownBlock)) (n := A4.length) (c := Ax) ?_).2.2; exact (by refine rK ?_; exact (Kd.Rm (rf (rf (rf (rf (rf (rf (rf (rf (Kd.Ry Ai.o A1.o (by decide)))))))))) (fun _ h_ => h_.1)))); (case side2 => exact (Kd.RrZ Ai.o).2.1); rintro e CV ⟨rfl, hb⟩; refine ⟨_, rfl, ?_⟩; replace Af := Z.m (Kd.Rb (by refine rK ?_; exact (Kd.Rm (rf (rf (rf (rf (rf (rf (rf (rf (Kd.Ry Af.o A1.o (by decide)))))))))) (fun _ h_ => h_.1))) hb); replace Ai := Z.m (Kd.Rb (by refine rK ?_; exact (Kd.Rm (rf (rf (rf (rf (rf (rf (rf (rf (Kd.Ry Ai.o A1.o (by decide)))))))))) (fun _ h_ => h_.1))) hb); replace A0 := Z.m (qb (g := Ag) (o := .cells #[.int .i64 a0_0, .int .i64 a0_1, .slice A0_2 l0_2.length c0_2, .int .i64 a0_3, .int .i64 a0_4, .int .i64 a0_5, .int .i64 a0_6, .int .i64 a0_7] 26 (0, 0)) (by refine bK ?_; (iterate 8 refine qF ?_ Aj); exact A0.o) hb); replace A1 := Z.m (qb (g := Ah) (o := .cells #[.int .i64 A5, .int .i64 A6, .slice AN A4.length Ax, .int .i64 Aa, .int .i64 Ab, .int .i64 Ac, .int .i64 Ad, .int .i64 Ae] 32 (0, 0)) (by refine bK ?_; apply st8; refine bK ?_; exact A1.o) hb); replace HB := bB HB hb; (try clear hb); (try clear Ca); (try clear hk); (try clear hi)))
  (try simp only [Act.put, q1, q2, q3])
  go_cut [43] (fun v43 wc => ∃ (kq : Nat) (An : Bool), v43 = .bool An ∧ Z (laws_FnExactArrivedColours.j0 kq An a0_0 a0_1 l0_2 a0_3 a0_4 a0_5 a0_6 a0_7 A5 A6 A4 Aa Ab Ac Ad Ae = some true) ∧ Z (kq ≤ k) ∧ Z (Kd.R k88 88 wc w.heap.size (fun _ => True) (.slice AN A4.length Ax) A4) ∧ Z (wc.heap[Ag]? = some (.cells #[.int .i64 a0_0, .int .i64 a0_1, (.slice A0_2 l0_2.length c0_2), .int .i64 a0_3, .int .i64 a0_4, .int .i64 a0_5, .int .i64 a0_6, .int .i64 a0_7] 26 (0, 0))) ∧ Z (wc.heap[Ah]? = some (.cells #[.int .i64 A5, .int .i64 A6, (.slice AN A4.length Ax), .int .i64 Aa, .int .i64 Ab, .int .i64 Ac, .int .i64 Ad, .int .i64 Ae] 32 (0, 0))) ∧ Z (Below w.heap.size w wc))
  case first =>
   have H := C1.o
   clear C1
   by_cases c26 : AO = At
   ·rw [if_pos c26] at H
    have Ar := beq_iff_eq.mpr c26
    have C6 := bne_eq_false_iff_eq.mpr c26
    clear c26
    (first | rw [Ar] | (simp only [i64_w, i32_w]; rw [Ar]) | skip)
    by_cases c27 : AP = Au
    ·rw [if_pos c27] at H
     have CC := beq_iff_eq.mpr c27
     have CD := bne_eq_false_iff_eq.mpr c27
     clear c27
     have H' := Z.m H
     clear H
     go_wp2
     go_meet
     case rel => exact ⟨_, ((AQ != Av)), (by first | rfl | (simp; done) | (simp [*]; done)), H', ⟨by first | omega | exact Nat.le_refl _⟩, ⟨by refine rK ?_; exact Kd.Rm Ai.o (fun _ hk => trivial)⟩, ⟨vK A0⟩, ⟨vK A1⟩, ⟨vB HB⟩⟩
    ·(rw [if_neg c27] at H; exact absurd H (laws_FnExactArrivedColours.bad_j0 _ _ _ _ _ _ _ _ _ _ _ _ _ _ _ _ _))
   ·rw [if_neg c26] at H
    have Ar := beq_eq_false_iff_ne.mpr c26
    have C6 := bne_iff_ne.mpr c26
    (first | rw [Ar] | (simp only [i64_w, i32_w]; rw [Ar]) | skip)
    have H' := Z.m H
    clear H
    go_wp2
    go_meet
    case rel => exact ⟨_, (true), (by first | rfl | (simp; done) | (simp [*]; done)), H', ⟨by first | omega | exact Nat.le_refl _⟩, ⟨by refine rK ?_; exact Kd.Rm Ai.o (fun _ hk => trivial)⟩, ⟨vK A0⟩, ⟨vK A1⟩, ⟨vB HB⟩⟩
  case rest =>
   clear C1
   (try clear C7)
   (try clear AS); (try clear AT); (try clear AU); (try clear AV); (try clear AW); (try clear AX); (try clear AY); (try clear AZ)
   (try clear B0); (try clear B2); (try clear B3); (try clear B7); (try clear B8); (try clear Ba); (try clear Bb); (try clear Bc)
   (try clear Bd); (try clear Be); (try clear Bf); (try clear Bg); (try clear Bh); (try clear Bi); (try clear Bj); (try clear Bk)
   (try clear Bl); (try clear Bm); (try clear Bn); (try clear Bo); (try clear Bp); (try clear Bq); (try clear Br); (try clear Bs)
   (try clear Bt); (try clear Bu); (try clear Bv); (try clear Bw); (try clear Bx); (try clear By); (try clear Bz); (try clear BA)
   (try clear BB); (try clear BC); (try clear BD); (try clear BE); (try clear BF); (try clear BG); (try clear BH); (try clear BI)
   (try clear BJ); (try clear BK); (try clear BL); (try clear BM); (try clear BN); (try clear BO); (try clear BP); (try clear BQ)
   (try clear BR); (try clear BS); (try clear BT); (try clear BU); (try clear BV); (try clear BW); (try clear BX); (try clear BY)
   obtain ⟨kq, An, rfl, HA, CM, A3, A0, A1, HB⟩ := hcut
   cases kq with
   | zero => exact absurd HA.o (by simp [laws_FnExactArrivedColours.j0])
   | succ kj10 =>
    have H := HA.o
    clear HA
    simp only [laws_FnExactArrivedColours.j0] at H
    by_cases c28 : An = true
    ·(rw [if_pos c28] at H; exact absurd H (by decide))
    ·replace c28 := Bool.eq_false_iff.mpr c28
     subst c28
     have H1 : ((laws_toMachine.f kj10 a0_0 a0_1 l0_2 a0_3 a0_4 a0_5 a0_6 a0_7).bind fun bt1056 => ((laws_eqMachine.f kj10 A5 A6 A4 Aa Ab Ac Ad Ae bt1056.1 bt1056.2.1 bt1056.2.2.1 bt1056.2.2.2.1 bt1056.2.2.2.2.1 bt1056.2.2.2.2.2.1 bt1056.2.2.2.2.2.2.1 bt1056.2.2.2.2.2.2.2).bind fun Am => (if Am = true then (some true) else (some false)))) = some true := by rw [if_neg (show ¬ (false = true) by decide)] at H; exact H
     clear H
     have H := H1
     clear H1
     replace H := Option.bind_eq_some_iff.mp H
     obtain ⟨⟨AF, AG, AH, AI, AJ, AK, AL, AM⟩, C3, H⟩ := H
     replace H : ((laws_eqMachine.f kj10 A5 A6 A4 Aa Ab Ac Ad Ae AF AG AH AI AJ AK AL AM).bind fun Am => (if Am = true then (some true) else (some false))) = some true := H
     have CK := Z.m C3
     clear C3
     replace H := Option.bind_eq_some_iff.mp H
     obtain ⟨Am, C4, H⟩ := H
     replace H : (if Am = true then (some true) else (some false)) = some true := H
     have CL := Z.m C4
     clear C4
     by_cases c31 : Am = true
     ·subst c31
      have H1 : (some true) = some true := rfl
      clear H
      have H := H1
      clear H1
      clear H
      try go_wp2
      replace A3 := Z.m (Kd.R_drew A3.o)
      replace A0 := Z.m (blk_drew A0.o)
      replace A1 := Z.m (blk_drew A1.o)
      replace HB := Z.m (qd HB.o)
      refine start_ (n := 5) (S := fun w' => w'.cell? ⟨Ah, 0, none⟩ = some (.int .i64 A5) ∧ w'.cell? ⟨Ah, 1, none⟩ = some (.int .i64 A6) ∧ w'.cell? ⟨Ah, 2, none⟩ = some (.slice AN A4.length Ax) ∧ w'.cell? ⟨Ah, 3, none⟩ = some (.int .i64 Aa) ∧ w'.cell? ⟨Ah, 4, none⟩ = some (.int .i64 Ab) ∧ w'.cell? ⟨Ah, 5, none⟩ = some (.int .i64 Ac) ∧ w'.cell? ⟨Ah, 6, none⟩ = some (.int .i64 Ad) ∧ w'.cell? ⟨Ah, 7, none⟩ = some (.int .i64 Ae) ∧ w'.cell? ⟨Ag, 0, none⟩ = some (.int .i64 a0_0) ∧ w'.cell? ⟨Ag, 1, none⟩ = some (.int .i64 a0_1) ∧ w'.cell? ⟨Ag, 2, none⟩ = some (.slice A0_2 l0_2.length c0_2) ∧ w'.cell? ⟨Ag, 3, none⟩ = some (.int .i64 a0_3) ∧ w'.cell? ⟨Ag, 4, none⟩ = some (.int .i64 a0_4) ∧ w'.cell? ⟨Ag, 5, none⟩ = some (.int .i64 a0_5) ∧ w'.cell? ⟨Ag, 6, none⟩ = some (.int .i64 a0_6) ∧ w'.cell? ⟨Ag, 7, none⟩ = some (.int .i64 a0_7)) (ds := []) #[false, false, false, false, false] (by kernel_rfl) rfl rfl ⟨(ql A1.o 0).trans rfl, (ql A1.o 1).trans rfl, (ql A1.o 2).trans rfl, (ql A1.o 3).trans rfl, (ql A1.o 4).trans rfl, (ql A1.o 5).trans rfl, (ql A1.o 6).trans rfl, (ql A1.o 7).trans rfl, (ql A0.o 0).trans rfl, (ql A0.o 1).trans rfl, (ql A0.o 2).trans rfl, (ql A0.o 3).trans rfl, (ql A0.o 4).trans rfl, (ql A0.o 5).trans rfl, (ql A0.o 6).trans rfl, (ql A0.o 7).trans rfl⟩ (fun hHeld => ?_)
      generalize wc.drew = CW at A3 A0 A1 HB hHeld ⊢
      refine take_ (i := 0) (N := some 44) (v := ?_) (a' := ?_) #[true, false, false, false, false] rfl rfl (by kernel_rfl) (fun _ _ _ h => h) (Or.inl ⟨by rfl, ?_⟩) hHeld ?_ ?_
      rotate_left
      ·rintro w' ⟨s0, s1, s2, s3, s4, s5, s6, s7, s8, s9, s10, s11, s12, s13, s14, s15⟩
       go_simp
       with_reducible rfl
      rotate_left
      ·simp only [Act.put, q1, q2, q3, i64_w, i32_w]
       rfl
      refine take_ (i := 1) (N := some 45) (v := ?_) (a' := ?_) #[true, true, false, false, false] rfl rfl (by kernel_rfl) (fun _ _ _ h => h) (Or.inl ⟨by rfl, ?_⟩) hHeld ?_ ?_
      rotate_left
      ·rintro w' ⟨s0, s1, s2, s3, s4, s5, s6, s7, s8, s9, s10, s11, s12, s13, s14, s15⟩
       go_simp
       with_reducible rfl
      rotate_left
      ·simp only [Act.put, q1, q2, q3, i64_w, i32_w]
       rfl
      refine one_ (i := 2) (N := some 46) #[true, true, true, false, false] rfl rfl (by kernel_rfl) (by decide) (fun K hK => ?_)
      refine goes_ Try.func12 (by kernel_rfl) rfl #[.agg #[.int .i64 a0_0, .int .i64 a0_1, .slice A0_2 l0_2.length c0_2, .int .i64 a0_3, .int .i64 a0_4, .int .i64 a0_5, .int .i64 a0_6, .int .i64 a0_7]] (by rfl) rfl rfl (by (try simp only [List.map_toArray, List.map_cons, List.map_nil]); first | done | rfl | (simp only [List.length_drop, List.length_take]; rfl)) ?_
      with_reducible refine (laws_toMachine.calls kj10 a0_0 a0_1 _ _ l0_2 a0_3 a0_4 a0_5 a0_6 a0_7 AF AG AH AI AJ AK AL AM _ ?side1 ?side2 CK.o).mono ?_
      (case side1 => repeat (first | exact (Kd.C_below Ap.o HB.o) | (with_reducible refine Kd.C_alloc ?_ _) | (with_reducible refine Kd.C_drewN ?_ _) | (with_reducible refine Kd.C_drew ?_)))
      (case side2 => exact Ao.o)
      rintro e CX ⟨CI, rfl, AR, hb⟩
      refine ⟨_, rfl, ?_⟩
      have Ak := Z.m (Kd.R_lower (Kd.R_new' AR (Kd.R_lt (vR A3))) (below_size (vB HB)))
      replace A3 := Z.m (Kd.R_elder' (vR A3) (Kd.R_base AR) hb)
      replace A0 := kB A0 hb
      replace A1 := kB A1 hb
      replace HB := bB HB hb
      (try clear hb); (try clear AR)
      obtain ⟨Cb, Ce, C9⟩ := Kd.R_slice Ak.o
      (first | subst C9 | (injection C9 with f1_ f2_ f3_; have f4_ := f1_.symm; have f5_ := f3_.symm; clear f1_ f2_ f3_; subst f4_; subst f5_))
      refine hK.out _ _ ⟨(ql A1.o 0).trans rfl, (ql A1.o 1).trans rfl, (ql A1.o 2).trans rfl, (ql A1.o 3).trans rfl, (ql A1.o 4).trans rfl, (ql A1.o 5).trans rfl, (ql A1.o 6).trans rfl, (ql A1.o 7).trans rfl, (ql A0.o 0).trans rfl, (ql A0.o 1).trans rfl, (ql A0.o 2).trans rfl, (ql A0.o 3).trans rfl, (ql A0.o 4).trans rfl, (ql A0.o 5).trans rfl, (ql A0.o 6).trans rfl, (ql A0.o 7).trans rfl⟩ (fun hHeld => ?_)
      clear hK K
      refine norm_ (a' := ?_) ?_ ?_
      rotate_left
      ·show Act.put _ (some 46) _ = _
       simp only [Act.put, q1, q2, q3, i64_w, i32_w]
       rfl
      refine one_ (i := 3) (N := some 47) #[true, true, true, true, false] rfl rfl (by kernel_rfl) (by decide) (fun K hK => ?_)
      refine goes_ Try.func14 (by kernel_rfl) rfl #[.agg #[.int .i64 A5, .int .i64 A6, .slice AN A4.length Ax, .int .i64 Aa, .int .i64 Ab, .int .i64 Ac, .int .i64 Ad, .int .i64 Ae], .agg #[.int .i64 AF, .int .i64 AG, .slice Cb AH.length Ce, .int .i64 AI, .int .i64 AJ, .int .i64 AK, .int .i64 AL, .int .i64 AM]] (by rfl) rfl rfl (by (try simp only [List.map_toArray, List.map_cons, List.map_nil]); first | done | rfl | (simp only [List.length_drop, List.length_take]; rfl)) ?_
      with_reducible refine (laws_eqMachine.calls kj10 A5 A6 _ _ A4 Aa Ab Ac Ad Ae AF AG _ _ AH AI AJ AK AL AM true _ ?side1 ?side2 ?side3 ?side4 CL.o).mono ?_
      (case side1 => repeat (first | exact (Kd.RrZ A3.o).2.2 | (with_reducible refine Kd.C_alloc ?_ _) | (with_reducible refine Kd.C_drewN ?_ _) | (with_reducible refine Kd.C_drew ?_)))
      (case side2 => exact (Kd.RrZ A3.o).2.1)
      (case side3 => repeat (first | exact (Kd.RrZ Ak.o).2.2 | (with_reducible refine Kd.C_alloc ?_ _) | (with_reducible refine Kd.C_drewN ?_ _) | (with_reducible refine Kd.C_drew ?_)))
      (case side4 => exact (Kd.RrZ Ak.o).2.1)
      rintro e CY ⟨rfl, hb⟩
      refine ⟨_, rfl, ?_⟩
      replace A3 := Z.m (Kd.Rb (vR A3) hb)
      replace Ak := Z.m (Kd.Rb (vR Ak) hb)
      replace A0 := kB A0 hb
      replace A1 := kB A1 hb
      replace HB := bB HB hb
      (try clear hb)
      refine hK.out _ _ ⟨(ql A1.o 0).trans rfl, (ql A1.o 1).trans rfl, (ql A1.o 2).trans rfl, (ql A1.o 3).trans rfl, (ql A1.o 4).trans rfl, (ql A1.o 5).trans rfl, (ql A1.o 6).trans rfl, (ql A1.o 7).trans rfl, (ql A0.o 0).trans rfl, (ql A0.o 1).trans rfl, (ql A0.o 2).trans rfl, (ql A0.o 3).trans rfl, (ql A0.o 4).trans rfl, (ql A0.o 5).trans rfl, (ql A0.o 6).trans rfl, (ql A0.o 7).trans rfl⟩ (fun hHeld => ?_)
      clear hK K
      refine norm_ (a' := ?_) ?_ ?_
      rotate_left
      ·show Act.put _ (some 47) _ = _
       simp only [Act.put, q1, q2, q3, i64_w, i32_w]
       rfl
      refine pure_ (i := 4) (N := some 48) (v := ?_) (a' := ?_) #[true, true, true, true, true] rfl rfl (by kernel_rfl) (fun _ _ _ h => h) (Or.inl ⟨by rfl, ?_⟩) ?_ ?_
      rotate_left
      ·intro w'
       go_simp
       with_reducible rfl
      rotate_left
      ·simp only [Act.put, q1, q2, q3, i64_w, i32_w]
       rfl
      refine done_ (by kernel_rfl) ?_
      try go_wp2
      go_ret
      exact ⟨by first | rfl | (simp [eN, eS] <;> rfl) | (simp [*, eN, eS] <;> rfl), vB HB⟩
     ·(rw [if_neg c31] at H; exact absurd H (by decide))

end Go.Proofs.Ytjkiolpepchpdaa.PAll
