/- Began as a text that print.sh wrote (of the functions named below); turned and shortened by this session. -/
import Derived.Test.YtjkiolpepchpdaaG0
import Derived.Test.YtjkiolpepchpdaaG1
import Derived.Test.YtjkiolpepchpdaaG11
import Derived.Test.YtjkiolpepchpdaaG22
import Derived.Test.YtjkiolpepchpdaaG31
namespace Go.Proofs.Ytjkiolpepchpdaa.PAll
open Go.RowKit Go.Proofs.YtjkiolpepchpdaaW.PrintWords Go.Proofs.YtjkiolpepchpdaaW.PrintLast Go.Proofs.YtjkiolpepchpdaaW.PrintMore
attribute [local go_sem] max2_int min2_int max_two min_two max_three min_three max_four min_four   -- for this text's walks alone
set_option linter.unusedVariables false
set_option linter.unusedSimpArgs false

/-! ### laws_FnExactFirstArrivalIn: function 7 -/
def laws_FnExactFirstArrivalIn.j0 : Nat → Bool → Int → Int → List (S93) → Int → Int → Int → Int → Int → Int → Int → List (S88) → Int → Int → Int → Int → Int → Option (Bool)
 | 0, _, _, _, _, _, _, _, _, _, _, _, _, _, _, _, _, _ => none
 | k + 1, x38, x942000, x942001, x942002, x942003, x942004, x942005, x942006, x942007, x966000, x966001, x966002, x966003, x966004, x966005, x966006, x966007 => if x38 = true then (some false) else ((laws_toMachine.f k x942000 x942001 x942002 x942003 x942004 x942005 x942006 x942007).bind fun bt968 => ((laws_eqMachine.f k x966000 x966001 x966002 x966003 x966004 x966005 x966006 x966007 bt968.1 bt968.2.1 bt968.2.2.1 bt968.2.2.2.1 bt968.2.2.2.2.1 bt968.2.2.2.2.2.1 bt968.2.2.2.2.2.2.1 bt968.2.2.2.2.2.2.2).bind fun t978 => (if t978 = true then (some true) else (some false))))
def laws_FnExactFirstArrivalIn.f (k : Nat) (a0_0 : Int) (a0_1 : Int) (l0_2 : List (S93)) (a0_3 : Int) (a0_4 : Int) (a0_5 : Int) (a0_6 : Int) (a0_7 : Int) (a1 : Int) : Option (Bool) := (laws_szMachine.f a0_0 a0_1 l0_2 a0_3 a0_4 a0_5 a0_6 a0_7 1048576).bind fun t942 => (if t942 < 0 then (some true) else ((laws_toMachine.f k a0_0 a0_1 l0_2 a0_3 a0_4 a0_5 a0_6 a0_7).bind fun bt943 => ((spec_FirstArrivalIn.f k bt943.1 bt943.2.1 bt943.2.2.1 bt943.2.2.2.1 bt943.2.2.2.2.1 bt943.2.2.2.2.2.1 bt943.2.2.2.2.2.2.1 bt943.2.2.2.2.2.2.2 a1).bind fun bt953 => ((laws_toMachine.f k a0_0 a0_1 l0_2 a0_3 a0_4 a0_5 a0_6 a0_7).bind fun bt955 => ((impl_FirstArrivalIn.f k bt955.1 bt955.2.1 bt955.2.2.1 bt955.2.2.2.1 bt955.2.2.2.2.1 bt955.2.2.2.2.2.1 bt955.2.2.2.2.2.2.1 bt955.2.2.2.2.2.2.2 a1).bind fun bt966 => (if bt966.1 = bt953.1 then (laws_FnExactFirstArrivalIn.j0 k (bt966.2 != bt953.2) a0_0 a0_1 l0_2 a0_3 a0_4 a0_5 a0_6 a0_7 bt955.1 bt955.2.1 bt955.2.2.1 bt955.2.2.2.1 bt955.2.2.2.2.1 bt955.2.2.2.2.2.1 bt955.2.2.2.2.2.2.1 bt955.2.2.2.2.2.2.2) else (laws_FnExactFirstArrivalIn.j0 k true a0_0 a0_1 l0_2 a0_3 a0_4 a0_5 a0_6 a0_7 bt955.1 bt955.2.1 bt955.2.2.1 bt955.2.2.2.1 bt955.2.2.2.2.1 bt955.2.2.2.2.2.1 bt955.2.2.2.2.2.2.1 bt955.2.2.2.2.2.2.2)))))))
theorem laws_FnExactFirstArrivalIn.bad_j0 (k : Nat) (y1 : Int) (y2 : Int) (y3 : List (S93)) (y4 : Int) (y5 : Int) (y6 : Int) (y7 : Int) (y8 : Int) (y9 : Int) (y10 : Int) (y11 : List (S88)) (y12 : Int) (y13 : Int) (y14 : Int) (y15 : Int) (y16 : Int) : ¬ laws_FnExactFirstArrivalIn.j0 k true y1 y2 y3 y4 y5 y6 y7 y8 y9 y10 y11 y12 y13 y14 y15 y16 = some true := by
 cases k <;> simp [laws_FnExactFirstArrivalIn.j0]
set_option maxHeartbeats 8000000 in
set_option maxRecDepth 100000 in
theorem laws_FnExactFirstArrivalIn.calls (k : Nat) (a0_0 : Int) (a0_1 : Int) (A0_2 : Option Addr) (c0_2 : Nat) (l0_2 : List (S93)) (a0_3 : Int) (a0_4 : Int) (a0_5 : Int) (a0_6 : Int) (a0_7 : Int) (a1 : Int) (w : World) (hr0_2 : Kd.C k93 w A0_2 l0_2.length l0_2) (hc0_2 : l0_2.length ≤ c0_2) (h : laws_FnExactFirstArrivalIn.f k a0_0 a0_1 l0_2 a0_3 a0_4 a0_5 a0_6 a0_7 a1 = some true) :
 Calls Try.prog 7 #[.agg #[.int .i64 a0_0, .int .i64 a0_1, .slice A0_2 l0_2.length c0_2, .int .i64 a0_3, .int .i64 a0_4, .int .i64 a0_5, .int .i64 a0_6, .int .i64 a0_7], .int .i64 a1] w fun e w' => e = .returned (.bool true) ∧ Below w.heap.size w w' := by
 have CF := Try.underlying26
 have CG := Try.underlying32
 have Am := Z.m hr0_2
 have Ak := Z.m hc0_2
 clear hr0_2 hc0_2
 have HB := Z.m (Below.refl w.heap.size w)
 have H : ((laws_szMachine.f a0_0 a0_1 l0_2 a0_3 a0_4 a0_5 a0_6 a0_7 1048576).bind fun Aq => (if Aq < 0 then (some true) else ((laws_toMachine.f k a0_0 a0_1 l0_2 a0_3 a0_4 a0_5 a0_6 a0_7).bind fun bt943 => ((spec_FirstArrivalIn.f k bt943.1 bt943.2.1 bt943.2.2.1 bt943.2.2.2.1 bt943.2.2.2.2.1 bt943.2.2.2.2.2.1 bt943.2.2.2.2.2.2.1 bt943.2.2.2.2.2.2.2 a1).bind fun bt953 => ((laws_toMachine.f k a0_0 a0_1 l0_2 a0_3 a0_4 a0_5 a0_6 a0_7).bind fun bt955 => ((impl_FirstArrivalIn.f k bt955.1 bt955.2.1 bt955.2.2.1 bt955.2.2.2.1 bt955.2.2.2.2.1 bt955.2.2.2.2.2.1 bt955.2.2.2.2.2.2.1 bt955.2.2.2.2.2.2.2 a1).bind fun bt966 => (if bt966.1 = bt953.1 then (laws_FnExactFirstArrivalIn.j0 k (bt966.2 != bt953.2) a0_0 a0_1 l0_2 a0_3 a0_4 a0_5 a0_6 a0_7 bt955.1 bt955.2.1 bt955.2.2.1 bt955.2.2.2.1 bt955.2.2.2.2.1 bt955.2.2.2.2.2.1 bt955.2.2.2.2.2.2.1 bt955.2.2.2.2.2.2.2) else (laws_FnExactFirstArrivalIn.j0 k true a0_0 a0_1 l0_2 a0_3 a0_4 a0_5 a0_6 a0_7 bt955.1 bt955.2.1 bt955.2.2.1 bt955.2.2.2.1 bt955.2.2.2.2.1 bt955.2.2.2.2.2.1 bt955.2.2.2.2.2.2.1 bt955.2.2.2.2.2.2.2)))))))) = some true := h
 clear h
 replace H := Option.bind_eq_some_iff.mp H
 obtain ⟨Aq, C8, H⟩ := H
 replace H : (if Aq < 0 then (some true) else ((laws_toMachine.f k a0_0 a0_1 l0_2 a0_3 a0_4 a0_5 a0_6 a0_7).bind fun bt943 => ((spec_FirstArrivalIn.f k bt943.1 bt943.2.1 bt943.2.2.1 bt943.2.2.2.1 bt943.2.2.2.2.1 bt943.2.2.2.2.2.1 bt943.2.2.2.2.2.2.1 bt943.2.2.2.2.2.2.2 a1).bind fun bt953 => ((laws_toMachine.f k a0_0 a0_1 l0_2 a0_3 a0_4 a0_5 a0_6 a0_7).bind fun bt955 => ((impl_FirstArrivalIn.f k bt955.1 bt955.2.1 bt955.2.2.1 bt955.2.2.2.1 bt955.2.2.2.2.1 bt955.2.2.2.2.2.1 bt955.2.2.2.2.2.2.1 bt955.2.2.2.2.2.2.2 a1).bind fun bt966 => (if bt966.1 = bt953.1 then (laws_FnExactFirstArrivalIn.j0 k (bt966.2 != bt953.2) a0_0 a0_1 l0_2 a0_3 a0_4 a0_5 a0_6 a0_7 bt955.1 bt955.2.1 bt955.2.2.1 bt955.2.2.2.1 bt955.2.2.2.2.1 bt955.2.2.2.2.2.1 bt955.2.2.2.2.2.2.1 bt955.2.2.2.2.2.2.2) else (laws_FnExactFirstArrivalIn.j0 k true a0_0 a0_1 l0_2 a0_3 a0_4 a0_5 a0_6 a0_7 bt955.1 bt955.2.1 bt955.2.2.1 bt955.2.2.2.1 bt955.2.2.2.2.1 bt955.2.2.2.2.2.1 bt955.2.2.2.2.2.2.1 bt955.2.2.2.2.2.2.2))))))) = some true := H
 have A3 := Z.m C8
 clear C8
 by_cases c4 : Aq < 0
 ·rw [if_pos c4] at H
  have C4 := decide_eq_true c4
  clear c4
  clear H
  go_enter Try.func7, Try.ntmps7
  go_wp2_with (first | ((with_reducible refine gq (N := 2) rfl ?_); refine be (N := 2) (cs := #[.int .i64 a0_0, .int .i64 a0_1, .slice A0_2 l0_2.length c0_2, .int .i64 a0_3, .int .i64 a0_4, .int .i64 a0_5, .int .i64 a0_6, .int .i64 a0_7]) (t := 26) ?_; intro A6 hg w5 hbox hb; have A0 := Z.m (hbox); have As := gW (w := w) HB hg; have C2 := As; replace HB := bB HB hb; clear hb hbox hg; have Ce := bc0 A0; have Cf := bc1 A0; have Cg := bc2 A0; have Ch := bc3 A0; have Ci := bc4 A0; have Cj := bc5 A0; have Cl := bc6 A0; have Cm := bc7 A0; have Cn := qz A0.o 0; have Co := qz A0.o 1; have Cp := qz A0.o 2; have Cq := qz A0.o 3; have Cr := qz A0.o 4; have Cs := qz A0.o 5; have Ct := qz A0.o 6; have Cu := qz A0.o 7) | ((with_reducible refine gc (f := 10) rfl ?_); refine gA (some 13) _ #[.agg #[.int .i64 a0_0, .int .i64 a0_1, .slice A0_2 l0_2.length c0_2, .int .i64 a0_3, .int .i64 a0_4, .int .i64 a0_5, .int .i64 a0_6, .int .i64 a0_7], .int .i64 1048576] ?_ Try.func10; (with_reducible refine (laws_szMachine.calls a0_0 a0_1 _ _ l0_2 a0_3 a0_4 a0_5 a0_6 a0_7 1048576 Aq _ ?side1 ?side2 A3.o).mono ?_); (case side1 => repeat (first | exact (Kd.C_below Am.o HB.o) | (with_reducible refine Kd.C_alloc ?_ _) | (with_reducible refine Kd.C_drewN ?_ _) | (with_reducible refine Kd.C_drew ?_))); (case side2 => exact Ak.o); rintro e w7 ⟨rfl, hb⟩; refine ⟨_, rfl, ?_⟩; replace A0 := kB A0 hb; replace HB := bB HB hb; (try clear hb); (try clear C7); (try clear hk); (try clear hi)))
  go_ret
  exact ⟨by first | rfl | (simp [eN, eS] <;> rfl) | (simp [*, eN, eS] <;> rfl), vB HB⟩
 ·rw [if_neg c4] at H
  have C4 := decide_eq_false c4
  clear c4
  replace H := Option.bind_eq_some_iff.mp H
  obtain ⟨⟨BE, BF, At, BG, BH, BI, BJ, BK⟩, Cv, H⟩ := H
  replace H : ((spec_FirstArrivalIn.f k BE BF At BG BH BI BJ BK a1).bind fun bt953 => ((laws_toMachine.f k a0_0 a0_1 l0_2 a0_3 a0_4 a0_5 a0_6 a0_7).bind fun bt955 => ((impl_FirstArrivalIn.f k bt955.1 bt955.2.1 bt955.2.2.1 bt955.2.2.2.1 bt955.2.2.2.2.1 bt955.2.2.2.2.2.1 bt955.2.2.2.2.2.2.1 bt955.2.2.2.2.2.2.2 a1).bind fun bt966 => (if bt966.1 = bt953.1 then (laws_FnExactFirstArrivalIn.j0 k (bt966.2 != bt953.2) a0_0 a0_1 l0_2 a0_3 a0_4 a0_5 a0_6 a0_7 bt955.1 bt955.2.1 bt955.2.2.1 bt955.2.2.2.1 bt955.2.2.2.2.1 bt955.2.2.2.2.2.1 bt955.2.2.2.2.2.2.1 bt955.2.2.2.2.2.2.2) else (laws_FnExactFirstArrivalIn.j0 k true a0_0 a0_1 l0_2 a0_3 a0_4 a0_5 a0_6 a0_7 bt955.1 bt955.2.1 bt955.2.2.1 bt955.2.2.2.1 bt955.2.2.2.2.1 bt955.2.2.2.2.2.1 bt955.2.2.2.2.2.2.1 bt955.2.2.2.2.2.2.2))))) = some true := H
  have A8 := Z.m Cv
  clear Cv
  replace H := Option.bind_eq_some_iff.mp H
  obtain ⟨⟨Au, Av⟩, Cw, H⟩ := H
  replace H : ((laws_toMachine.f k a0_0 a0_1 l0_2 a0_3 a0_4 a0_5 a0_6 a0_7).bind fun bt955 => ((impl_FirstArrivalIn.f k bt955.1 bt955.2.1 bt955.2.2.1 bt955.2.2.2.1 bt955.2.2.2.2.1 bt955.2.2.2.2.2.1 bt955.2.2.2.2.2.2.1 bt955.2.2.2.2.2.2.2 a1).bind fun bt966 => (if bt966.1 = Au then (laws_FnExactFirstArrivalIn.j0 k (bt966.2 != Av) a0_0 a0_1 l0_2 a0_3 a0_4 a0_5 a0_6 a0_7 bt955.1 bt955.2.1 bt955.2.2.1 bt955.2.2.2.1 bt955.2.2.2.2.1 bt955.2.2.2.2.2.1 bt955.2.2.2.2.2.2.1 bt955.2.2.2.2.2.2.2) else (laws_FnExactFirstArrivalIn.j0 k true a0_0 a0_1 l0_2 a0_3 a0_4 a0_5 a0_6 a0_7 bt955.1 bt955.2.1 bt955.2.2.1 bt955.2.2.2.1 bt955.2.2.2.2.1 bt955.2.2.2.2.2.1 bt955.2.2.2.2.2.2.1 bt955.2.2.2.2.2.2.2)))) = some true := H
  have A9 := Z.m Cw
  clear Cw
  replace H := Option.bind_eq_some_iff.mp H
  obtain ⟨⟨A7, Aa, A4, Ab, Ac, Ad, Ae, Af⟩, BX, H⟩ := H
  replace H : ((impl_FirstArrivalIn.f k A7 Aa A4 Ab Ac Ad Ae Af a1).bind fun bt966 => (if bt966.1 = Au then (laws_FnExactFirstArrivalIn.j0 k (bt966.2 != Av) a0_0 a0_1 l0_2 a0_3 a0_4 a0_5 a0_6 a0_7 A7 Aa A4 Ab Ac Ad Ae Af) else (laws_FnExactFirstArrivalIn.j0 k true a0_0 a0_1 l0_2 a0_3 a0_4 a0_5 a0_6 a0_7 A7 Aa A4 Ab Ac Ad Ae Af))) = some true := H
  have CB := Z.m BX
  clear BX
  replace H := Option.bind_eq_some_iff.mp H
  obtain ⟨⟨BV, BW⟩, BY, H⟩ := H
  replace H : (if BV = Au then (laws_FnExactFirstArrivalIn.j0 k (BW != Av) a0_0 a0_1 l0_2 a0_3 a0_4 a0_5 a0_6 a0_7 A7 Aa A4 Ab Ac Ad Ae Af) else (laws_FnExactFirstArrivalIn.j0 k true a0_0 a0_1 l0_2 a0_3 a0_4 a0_5 a0_6 a0_7 A7 Aa A4 Ab Ac Ad Ae Af)) = some true := H
  have CC := Z.m BY
  clear BY
  have BU := Z.m H
  clear H
  go_enter Try.func7, Try.ntmps7
  go_upto_region 8 with (first | ((with_reducible refine gq (N := 2) rfl ?_); refine be (N := 2) (cs := #[.int .i64 a0_0, .int .i64 a0_1, .slice A0_2 l0_2.length c0_2, .int .i64 a0_3, .int .i64 a0_4, .int .i64 a0_5, .int .i64 a0_6, .int .i64 a0_7]) (t := 26) ?_; intro A6 hg CK hbox hb; have A0 := Z.m (hbox); have As := gW (w := w) HB hg; have C2 := As; replace HB := bB HB hb; clear hb hbox hg; have Ax := bc0 A0; have Ay := bc1 A0; have Az := bc2 A0; have AA := bc3 A0; have AB := bc4 A0; have AC := bc5 A0; have AD := bc6 A0; have AE := bc7 A0; have B7 := qz A0.o 0; have B8 := qz A0.o 1; have Ba := qz A0.o 2; have Bb := qz A0.o 3; have Bc := qz A0.o 4; have Bd := qz A0.o 5; have Be := qz A0.o 6; have Bf := qz A0.o 7) | ((with_reducible refine gc (f := 10) rfl ?_); refine gA (some 13) _ #[.agg #[.int .i64 a0_0, .int .i64 a0_1, .slice A0_2 l0_2.length c0_2, .int .i64 a0_3, .int .i64 a0_4, .int .i64 a0_5, .int .i64 a0_6, .int .i64 a0_7], .int .i64 1048576] ?_ Try.func10; (with_reducible refine (laws_szMachine.calls a0_0 a0_1 _ _ l0_2 a0_3 a0_4 a0_5 a0_6 a0_7 1048576 Aq _ ?side1 ?side2 A3.o).mono ?_); (case side1 => repeat (first | exact (Kd.C_below Am.o HB.o) | (with_reducible refine Kd.C_alloc ?_ _) | (with_reducible refine Kd.C_drewN ?_ _) | (with_reducible refine Kd.C_drew ?_))); (case side2 => exact Ak.o); rintro e CL ⟨rfl, hb⟩; refine ⟨_, rfl, ?_⟩; replace A0 := kB A0 hb; replace HB := bB HB hb; (try clear hb); (try clear C7); (try clear hk); (try clear hi); have AF := bc0 A0; have AG := bc1 A0; have AH := bc2 A0; have AI := bc3 A0; have AJ := bc4 A0; have AK := bc5 A0; have AL := bc6 A0; have AM := bc7 A0; have Bg := qz A0.o 0; have Bh := qz A0.o 1; have Bi := qz A0.o 2; have Bj := qz A0.o 3; have Bk := qz A0.o 4; have Bl := qz A0.o 5; have Bm := qz A0.o 6; have Bn := qz A0.o 7) | ((with_reducible refine gc (f := 12) rfl ?_); refine gA (some 18) _ #[.agg #[.int .i64 a0_0, .int .i64 a0_1, .slice A0_2 l0_2.length c0_2, .int .i64 a0_3, .int .i64 a0_4, .int .i64 a0_5, .int .i64 a0_6, .int .i64 a0_7]] ?_ Try.func12; (with_reducible refine (laws_toMachine.calls k a0_0 a0_1 _ _ l0_2 a0_3 a0_4 a0_5 a0_6 a0_7 BE BF At BG BH BI BJ BK _ ?side1 ?side2 A8.o).mono ?_); (case side1 => repeat (first | exact (Kd.C_below Am.o HB.o) | (with_reducible refine Kd.C_alloc ?_ _) | (with_reducible refine Kd.C_drewN ?_ _) | (with_reducible refine Kd.C_drew ?_))); (case side2 => exact Ak.o); rintro e CM ⟨CH, rfl, Aw, hb⟩; refine ⟨_, rfl, ?_⟩; have A5 := Z.m (Kd.R_lower Aw (below_size (vB HB))); replace A0 := kB A0 hb; replace HB := bB HB hb; (try clear hb); (try clear C7); (try clear hk); (try clear hi); (try clear Aw); obtain ⟨C1, C5, Cb⟩ := Kd.R_slice A5.o; subst Cb) | ((with_reducible refine gc (f := 26) rfl ?_); refine gA (some 20) _ #[.agg #[.int .i64 BE, .int .i64 BF, .slice C1 At.length C5, .int .i64 BG, .int .i64 BH, .int .i64 BI, .int .i64 BJ, .int .i64 BK], .int .i64 a1] ?_ Try.func26; (with_reducible refine (spec_FirstArrivalIn.calls k BE BF _ _ At BG BH BI BJ BK a1 Au Av _ ?side1 ?side2 A9.o).mono ?_); (case side1 => repeat (first | exact (Kd.RrZ A5.o).2.2 | (with_reducible refine Kd.C_alloc ?_ _) | (with_reducible refine Kd.C_drewN ?_ _) | (with_reducible refine Kd.C_drew ?_))); (case side2 => exact (Kd.RrZ A5.o).2.1); rintro e CN ⟨rfl, hb⟩; refine ⟨_, rfl, ?_⟩; replace A5 := Z.m (Kd.Rb (vR A5) hb); replace A0 := kB A0 hb; replace HB := bB HB hb; (try clear hb); (try clear C7); (try clear hk); (try clear hi); have AN := bc0 A0; have AO := bc1 A0; have AP := bc2 A0; have AQ := bc3 A0; have AR := bc4 A0; have AS := bc5 A0; have AT := bc6 A0; have AU := bc7 A0; have Bo := qz A0.o 0; have Bp := qz A0.o 1; have Bq := qz A0.o 2; have Br := qz A0.o 3; have Bs := qz A0.o 4; have Bt := qz A0.o 5; have Bu := qz A0.o 6; have Bv := qz A0.o 7) | ((with_reducible refine gc (f := 12) rfl ?_); refine gA (some 24) _ #[.agg #[.int .i64 a0_0, .int .i64 a0_1, .slice A0_2 l0_2.length c0_2, .int .i64 a0_3, .int .i64 a0_4, .int .i64 a0_5, .int .i64 a0_6, .int .i64 a0_7]] ?_ Try.func12; (with_reducible refine (laws_toMachine.calls k a0_0 a0_1 _ _ l0_2 a0_3 a0_4 a0_5 a0_6 a0_7 A7 Aa A4 Ab Ac Ad Ae Af _ ?side1 ?side2 CB.o).mono ?_); (case side1 => repeat (first | exact (Kd.C_below Am.o HB.o) | (with_reducible refine Kd.C_alloc ?_ _) | (with_reducible refine Kd.C_drewN ?_ _) | (with_reducible refine Kd.C_drew ?_))); (case side2 => exact Ak.o); rintro e CO ⟨CI, rfl, Aw, hb⟩; refine ⟨_, rfl, ?_⟩; have Ah := Z.m (Kd.R_lower (Kd.R_new' Aw (Kd.R_lt (vR A5))) (below_size (vB HB))); replace A5 := Z.m (Kd.R_elder' (vR A5) (Kd.R_base Aw) hb); replace A0 := kB A0 hb; replace HB := bB HB hb; (try clear hb); (try clear C7); (try clear hk); (try clear hi); (try clear Aw)) | ((with_reducible refine gq (N := 8) rfl ?_); refine be (N := 8) (cs := #[.int .i64 0, .int .i64 0, .slice none 0 0, .int .i64 0, .int .i64 0, .int .i64 0, .int .i64 0, .int .i64 0]) (t := 32) ?_; intro Ag hg CP hbox hb; have A1 := Z.m (hbox); have C3 := gW (w := w) HB hg; have Cx := C3; have Ai := neL A0 hg; have Ap := neG A0 hg; replace A5 := Z.m (Kd.Rb (vR A5) hb); replace Ah := Z.m (Kd.Rb (vR Ah) hb); replace A0 := kB A0 hb; replace HB := bB HB hb; clear hb hbox hg; have Cz := Ap.o; have CA := Ai.o; have AV := bc0 A1; have AW := bc1 A1; have AX := bc2 A1; have AY := bc3 A1; have AZ := bc4 A1; have B0 := bc5 A1; have B2 := bc6 A1; have B3 := bc7 A1; have Bw := qz A1.o 0; have Bx := qz A1.o 1; have By := qz A1.o 2; have Bz := qz A1.o 3; have BA := qz A1.o 4; have BB := qz A1.o 5; have BC := qz A1.o 6; have BD := qz A1.o 7; obtain ⟨Ao, An, Cd⟩ := Kd.R_slice Ah.o; subst Cd) | ((with_reducible refine gc (f := 27) rfl ?_); refine gA (some 28) _ #[.agg #[.int .i64 A7, .int .i64 Aa, .slice Ao A4.length An, .int .i64 Ab, .int .i64 Ac, .int .i64 Ad, .int .i64 Ae, .int .i64 Af], .int .i64 a1] ?_ Try.func27; (with_reducible refine (impl_FirstArrivalIn.calls k A7 Aa _ _ A4 Ab Ac Ad Ae Af a1 BV BW _ ?side1 ?side2 CC.o).mono ?_); (case side1 => refine (Kd.RrZ (e := 88) (base := w.heap.size) (ok := fun k_ => (True ∧ some k_ ≠ (.slice C1 At.length C5 : Value).ownBlock)) (n := A4.length) (c := An) ?_).2.2; exact (by refine rK ?_; exact (Kd.Rm (rf (rf (rf (rf (rf (rf (rf (rf (Kd.Ry Ah.o A1.o (by decide)))))))))) (fun _ h_ => h_.1)))); (case side2 => exact (Kd.RrZ Ah.o).2.1); rintro e CQ ⟨rfl, hb⟩; refine ⟨_, rfl, ?_⟩; replace A5 := Z.m (Kd.Rb (by refine rK ?_; exact (Kd.Rm (rf (rf (rf (rf (rf (rf (rf (rf (Kd.Ry A5.o A1.o (by decide)))))))))) (fun _ h_ => h_.1))) hb); replace Ah := Z.m (Kd.Rb (by refine rK ?_; exact (Kd.Rm (rf (rf (rf (rf (rf (rf (rf (rf (Kd.Ry Ah.o A1.o (by decide)))))))))) (fun _ h_ => h_.1))) hb); replace A0 := Z.m (qb (g := A6) (o := .cells #[.int .i64 a0_0, .int .i64 a0_1, .slice A0_2 l0_2.length c0_2, .int .i64 a0_3, .int .i64 a0_4, .int .i64 a0_5, .int .i64 a0_6, .int .i64 a0_7] 26 (0, 0)) (by refine bK ?_; (iterate 8 refine qF ?_ Ai); exact A0.o) hb); replace A1 := Z.m (qb (g := Ag) (o := .cells #[.int .i64 A7, .int .i64 Aa, .slice Ao A4.length An, .int .i64 Ab, .int .i64 Ac, .int .i64 Ad, .int .i64 Ae, .int .i64 Af] 32 (0, 0)) (by refine bK ?_; apply st8; refine bK ?_; exact A1.o) hb); replace HB := bB HB hb; (try clear hb); (try clear C7); (try clear hk); (try clear hi)))
  (try simp only [Act.put, q1, q2, q3])
  go_cut [38] (fun v38 wc => ∃ (kq : Nat) (Aj : Bool), v38 = .bool Aj ∧ Z (laws_FnExactFirstArrivalIn.j0 kq Aj a0_0 a0_1 l0_2 a0_3 a0_4 a0_5 a0_6 a0_7 A7 Aa A4 Ab Ac Ad Ae Af = some true) ∧ Z (kq ≤ k) ∧ Z (Kd.R k88 88 wc w.heap.size (fun _ => True) (.slice Ao A4.length An) A4) ∧ Z (wc.heap[A6]? = some (.cells #[.int .i64 a0_0, .int .i64 a0_1, (.slice A0_2 l0_2.length c0_2), .int .i64 a0_3, .int .i64 a0_4, .int .i64 a0_5, .int .i64 a0_6, .int .i64 a0_7] 26 (0, 0))) ∧ Z (wc.heap[Ag]? = some (.cells #[.int .i64 A7, .int .i64 Aa, (.slice Ao A4.length An), .int .i64 Ab, .int .i64 Ac, .int .i64 Ad, .int .i64 Ae, .int .i64 Af] 32 (0, 0))) ∧ Z (Below w.heap.size w wc))
  case first =>
   have H := BU.o
   clear BU
   by_cases c27 : BV = Au
   ·rw [if_pos c27] at H
    have BT := beq_iff_eq.mpr c27
    have Cy := bne_eq_false_iff_eq.mpr c27
    clear c27
    (first | rw [BT] | (simp only [i64_w, i32_w]; rw [BT]) | skip)
    have H' := Z.m H
    clear H
    go_wp2
    go_meet
    case rel => exact ⟨_, ((BW != Av)), (by first | rfl | (simp; done) | (simp [*]; done)), H', ⟨by first | omega | exact Nat.le_refl _⟩, ⟨by refine rK ?_; exact Kd.Rm Ah.o (fun _ hk => trivial)⟩, ⟨vK A0⟩, ⟨vK A1⟩, ⟨vB HB⟩⟩
   ·(rw [if_neg c27] at H; exact absurd H (laws_FnExactFirstArrivalIn.bad_j0 _ _ _ _ _ _ _ _ _ _ _ _ _ _ _ _ _))
  case rest =>
   clear BU
   (try clear C4)
   (try clear Ax); (try clear Ay); (try clear Az); (try clear AA); (try clear AB); (try clear AC); (try clear AD); (try clear AE)
   (try clear AF); (try clear AG); (try clear AH); (try clear AI); (try clear AJ); (try clear AK); (try clear AL); (try clear AM)
   (try clear AN); (try clear AO); (try clear AP); (try clear AQ); (try clear AR); (try clear AS); (try clear AT); (try clear AU)
   (try clear AV); (try clear AW); (try clear AX); (try clear AY); (try clear AZ); (try clear B0); (try clear B2); (try clear B3)
   (try clear B7); (try clear B8); (try clear Ba); (try clear Bb); (try clear Bc); (try clear Bd); (try clear Be); (try clear Bf)
   (try clear Bg); (try clear Bh); (try clear Bi); (try clear Bj); (try clear Bk); (try clear Bl); (try clear Bm); (try clear Bn)
   (try clear Bo); (try clear Bp); (try clear Bq); (try clear Br); (try clear Bs); (try clear Bt); (try clear Bu); (try clear Bv)
   (try clear Bw); (try clear Bx); (try clear By); (try clear Bz); (try clear BA); (try clear BB); (try clear BC); (try clear BD)
   obtain ⟨kq, Aj, rfl, HA, CE, A2, A0, A1, HB⟩ := hcut
   cases kq with
   | zero => exact absurd HA.o (by simp [laws_FnExactFirstArrivalIn.j0])
   | succ kj11 =>
    have H := HA.o
    clear HA
    simp only [laws_FnExactFirstArrivalIn.j0] at H
    by_cases c28 : Aj = true
    ·(rw [if_pos c28] at H; exact absurd H (by decide))
    ·replace c28 := Bool.eq_false_iff.mpr c28
     subst c28
     have H1 : ((laws_toMachine.f kj11 a0_0 a0_1 l0_2 a0_3 a0_4 a0_5 a0_6 a0_7).bind fun bt968 => ((laws_eqMachine.f kj11 A7 Aa A4 Ab Ac Ad Ae Af bt968.1 bt968.2.1 bt968.2.2.1 bt968.2.2.2.1 bt968.2.2.2.2.1 bt968.2.2.2.2.2.1 bt968.2.2.2.2.2.2.1 bt968.2.2.2.2.2.2.2).bind fun Ar => (if Ar = true then (some true) else (some false)))) = some true := by rw [if_neg (show ¬ (false = true) by decide)] at H; exact H
     clear H
     have H := H1
     clear H1
     replace H := Option.bind_eq_some_iff.mp H
     obtain ⟨⟨BL, BM, BN, BO, BP, BQ, BR, BS⟩, BZ, H⟩ := H
     replace H : ((laws_eqMachine.f kj11 A7 Aa A4 Ab Ac Ad Ae Af BL BM BN BO BP BQ BR BS).bind fun Ar => (if Ar = true then (some true) else (some false))) = some true := H
     have CD := Z.m BZ
     clear BZ
     replace H := Option.bind_eq_some_iff.mp H
     obtain ⟨Ar, C0, H⟩ := H
     replace H : (if Ar = true then (some true) else (some false)) = some true := H
     have C8 := Z.m C0
     clear C0
     by_cases c31 : Ar = true
     ·subst c31
      have H1 : (some true) = some true := rfl
      clear H
      have H := H1
      clear H1
      clear H
      try go_wp2
      replace A2 := Z.m (Kd.R_drew A2.o)
      replace A0 := Z.m (blk_drew A0.o)
      replace A1 := Z.m (blk_drew A1.o)
      replace HB := Z.m (qd HB.o)
      refine start_ (n := 5) (S := fun w' => w'.cell? ⟨Ag, 0, none⟩ = some (.int .i64 A7) ∧ w'.cell? ⟨Ag, 1, none⟩ = some (.int .i64 Aa) ∧ w'.cell? ⟨Ag, 2, none⟩ = some (.slice Ao A4.length An) ∧ w'.cell? ⟨Ag, 3, none⟩ = some (.int .i64 Ab) ∧ w'.cell? ⟨Ag, 4, none⟩ = some (.int .i64 Ac) ∧ w'.cell? ⟨Ag, 5, none⟩ = some (.int .i64 Ad) ∧ w'.cell? ⟨Ag, 6, none⟩ = some (.int .i64 Ae) ∧ w'.cell? ⟨Ag, 7, none⟩ = some (.int .i64 Af) ∧ w'.cell? ⟨A6, 0, none⟩ = some (.int .i64 a0_0) ∧ w'.cell? ⟨A6, 1, none⟩ = some (.int .i64 a0_1) ∧ w'.cell? ⟨A6, 2, none⟩ = some (.slice A0_2 l0_2.length c0_2) ∧ w'.cell? ⟨A6, 3, none⟩ = some (.int .i64 a0_3) ∧ w'.cell? ⟨A6, 4, none⟩ = some (.int .i64 a0_4) ∧ w'.cell? ⟨A6, 5, none⟩ = some (.int .i64 a0_5) ∧ w'.cell? ⟨A6, 6, none⟩ = some (.int .i64 a0_6) ∧ w'.cell? ⟨A6, 7, none⟩ = some (.int .i64 a0_7)) (ds := []) #[false, false, false, false, false] (by kernel_rfl) rfl rfl ⟨(ql A1.o 0).trans rfl, (ql A1.o 1).trans rfl, (ql A1.o 2).trans rfl, (ql A1.o 3).trans rfl, (ql A1.o 4).trans rfl, (ql A1.o 5).trans rfl, (ql A1.o 6).trans rfl, (ql A1.o 7).trans rfl, (ql A0.o 0).trans rfl, (ql A0.o 1).trans rfl, (ql A0.o 2).trans rfl, (ql A0.o 3).trans rfl, (ql A0.o 4).trans rfl, (ql A0.o 5).trans rfl, (ql A0.o 6).trans rfl, (ql A0.o 7).trans rfl⟩ (fun hHeld => ?_)
      generalize wc.drew = CR at A2 A0 A1 HB hHeld ⊢
      refine take_ (i := 0) (N := some 39) (v := ?_) (a' := ?_) #[true, false, false, false, false] rfl rfl (by kernel_rfl) (fun _ _ _ h => h) (Or.inl ⟨by rfl, ?_⟩) hHeld ?_ ?_
      rotate_left
      ·rintro w' ⟨s0, s1, s2, s3, s4, s5, s6, s7, s8, s9, s10, s11, s12, s13, s14, s15⟩
       go_simp
       with_reducible rfl
      rotate_left
      ·simp only [Act.put, q1, q2, q3, i64_w, i32_w]
       rfl
      refine take_ (i := 1) (N := some 40) (v := ?_) (a' := ?_) #[true, true, false, false, false] rfl rfl (by kernel_rfl) (fun _ _ _ h => h) (Or.inl ⟨by rfl, ?_⟩) hHeld ?_ ?_
      rotate_left
      ·rintro w' ⟨s0, s1, s2, s3, s4, s5, s6, s7, s8, s9, s10, s11, s12, s13, s14, s15⟩
       go_simp
       with_reducible rfl
      rotate_left
      ·simp only [Act.put, q1, q2, q3, i64_w, i32_w]
       rfl
      refine one_ (i := 2) (N := some 41) #[true, true, true, false, false] rfl rfl (by kernel_rfl) (by decide) (fun K hK => ?_)
      refine goes_ Try.func12 (by kernel_rfl) rfl #[.agg #[.int .i64 a0_0, .int .i64 a0_1, .slice A0_2 l0_2.length c0_2, .int .i64 a0_3, .int .i64 a0_4, .int .i64 a0_5, .int .i64 a0_6, .int .i64 a0_7]] (by rfl) rfl rfl (by (try simp only [List.map_toArray, List.map_cons, List.map_nil]); first | done | rfl | (simp only [List.length_drop, List.length_take]; rfl)) ?_
      with_reducible refine (laws_toMachine.calls kj11 a0_0 a0_1 _ _ l0_2 a0_3 a0_4 a0_5 a0_6 a0_7 BL BM BN BO BP BQ BR BS _ ?side1 ?side2 CD.o).mono ?_
      (case side1 => repeat (first | exact (Kd.C_below Am.o HB.o) | (with_reducible refine Kd.C_alloc ?_ _) | (with_reducible refine Kd.C_drewN ?_ _) | (with_reducible refine Kd.C_drew ?_)))
      (case side2 => exact Ak.o)
      rintro e CS ⟨CJ, rfl, Aw, hb⟩
      refine ⟨_, rfl, ?_⟩
      have Al := Z.m (Kd.R_lower (Kd.R_new' Aw (Kd.R_lt (vR A2))) (below_size (vB HB)))
      replace A2 := Z.m (Kd.R_elder' (vR A2) (Kd.R_base Aw) hb)
      replace A0 := kB A0 hb
      replace A1 := kB A1 hb
      replace HB := bB HB hb
      (try clear hb); (try clear Aw)
      obtain ⟨C9, Ca, C6⟩ := Kd.R_slice Al.o
      (first | subst C6 | (injection C6 with f1_ f2_ f3_; have f4_ := f1_.symm; have f5_ := f3_.symm; clear f1_ f2_ f3_; subst f4_; subst f5_))
      refine hK.out _ _ ⟨(ql A1.o 0).trans rfl, (ql A1.o 1).trans rfl, (ql A1.o 2).trans rfl, (ql A1.o 3).trans rfl, (ql A1.o 4).trans rfl, (ql A1.o 5).trans rfl, (ql A1.o 6).trans rfl, (ql A1.o 7).trans rfl, (ql A0.o 0).trans rfl, (ql A0.o 1).trans rfl, (ql A0.o 2).trans rfl, (ql A0.o 3).trans rfl, (ql A0.o 4).trans rfl, (ql A0.o 5).trans rfl, (ql A0.o 6).trans rfl, (ql A0.o 7).trans rfl⟩ (fun hHeld => ?_)
      clear hK K
      refine norm_ (a' := ?_) ?_ ?_
      rotate_left
      ·show Act.put _ (some 41) _ = _
       simp only [Act.put, q1, q2, q3, i64_w, i32_w]
       rfl
      refine one_ (i := 3) (N := some 42) #[true, true, true, true, false] rfl rfl (by kernel_rfl) (by decide) (fun K hK => ?_)
      refine goes_ Try.func14 (by kernel_rfl) rfl #[.agg #[.int .i64 A7, .int .i64 Aa, .slice Ao A4.length An, .int .i64 Ab, .int .i64 Ac, .int .i64 Ad, .int .i64 Ae, .int .i64 Af], .agg #[.int .i64 BL, .int .i64 BM, .slice C9 BN.length Ca, .int .i64 BO, .int .i64 BP, .int .i64 BQ, .int .i64 BR, .int .i64 BS]] (by rfl) rfl rfl (by (try simp only [List.map_toArray, List.map_cons, List.map_nil]); first | done | rfl | (simp only [List.length_drop, List.length_take]; rfl)) ?_
      with_reducible refine (laws_eqMachine.calls kj11 A7 Aa _ _ A4 Ab Ac Ad Ae Af BL BM _ _ BN BO BP BQ BR BS true _ ?side1 ?side2 ?side3 ?side4 C8.o).mono ?_
      (case side1 => repeat (first | exact (Kd.RrZ A2.o).2.2 | (with_reducible refine Kd.C_alloc ?_ _) | (with_reducible refine Kd.C_drewN ?_ _) | (with_reducible refine Kd.C_drew ?_)))
      (case side2 => exact (Kd.RrZ A2.o).2.1)
      (case side3 => repeat (first | exact (Kd.RrZ Al.o).2.2 | (with_reducible refine Kd.C_alloc ?_ _) | (with_reducible refine Kd.C_drewN ?_ _) | (with_reducible refine Kd.C_drew ?_)))
      (case side4 => exact (Kd.RrZ Al.o).2.1)
      rintro e CT ⟨rfl, hb⟩
      refine ⟨_, rfl, ?_⟩
      replace A2 := Z.m (Kd.Rb (vR A2) hb)
      replace Al := Z.m (Kd.Rb (vR Al) hb)
      replace A0 := kB A0 hb
      replace A1 := kB A1 hb
      replace HB := bB HB hb
      (try clear hb)
      refine hK.out _ _ ⟨(ql A1.o 0).trans rfl, (ql A1.o 1).trans rfl, (ql A1.o 2).trans rfl, (ql A1.o 3).trans rfl, (ql A1.o 4).trans rfl, (ql A1.o 5).trans rfl, (ql A1.o 6).trans rfl, (ql A1.o 7).trans rfl, (ql A0.o 0).trans rfl, (ql A0.o 1).trans rfl, (ql A0.o 2).trans rfl, (ql A0.o 3).trans rfl, (ql A0.o 4).trans rfl, (ql A0.o 5).trans rfl, (ql A0.o 6).trans rfl, (ql A0.o 7).trans rfl⟩ (fun hHeld => ?_)
      clear hK K
      refine norm_ (a' := ?_) ?_ ?_
      rotate_left
      ·show Act.put _ (some 42) _ = _
       simp only [Act.put, q1, q2, q3, i64_w, i32_w]
       rfl
      refine pure_ (i := 4) (N := some 43) (v := ?_) (a' := ?_) #[true, true, true, true, true] rfl rfl (by kernel_rfl) (fun _ _ _ h => h) (Or.inl ⟨by rfl, ?_⟩) ?_ ?_
      rotate_left
      ·intro w'
       go_simp
       with_reducible rfl
      rotate_left
      ·simp only [Act.put, q1, q2, q3, i64_w, i32_w]
       rfl
      refine done_ (by kernel_rfl) ?_
      try go_wp2
      go_ret
      exact ⟨by first | rfl | (simp [eN, eS] <;> rfl) | (simp [*, eN, eS] <;> rfl), vB HB⟩
     ·(rw [if_neg c31] at H; exact absurd H (by decide))

end Go.Proofs.Ytjkiolpepchpdaa.PAll
