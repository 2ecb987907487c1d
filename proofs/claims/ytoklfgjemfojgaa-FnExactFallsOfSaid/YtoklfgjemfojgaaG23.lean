/- Began as a text that print.sh wrote (of the functions named below); turned and shortened by this session. -/
import Derived.Test.YtoklfgjemfojgaaG0
import Derived.Test.YtoklfgjemfojgaaG2
import Derived.Test.YtoklfgjemfojgaaG13
import Derived.Test.YtoklfgjemfojgaaG14
import Derived.Test.YtoklfgjemfojgaaG15
import Derived.Test.YtoklfgjemfojgaaG18
import Derived.Test.YtoklfgjemfojgaaG21
import Derived.Test.YtoklfgjemfojgaaG22
namespace Go.Proofs.Ytoklfgjemfojgaa.PAll
open Go.RowKit Go.Proofs.YtoklfgjemfojgaaW.PrintWords Go.Proofs.YtoklfgjemfojgaaW.PrintLast Go.Proofs.YtoklfgjemfojgaaW.PrintMore
attribute [local go_sem] max2_int min2_int max_two min_two max_three min_three max_four min_four   -- for this text's walks alone
set_option linter.unusedVariables false
set_option linter.unusedSimpArgs false

/-! ### laws_FnExactFallsOf: function 12 -/
mutual
def laws_FnExactFallsOf.j0 : Nat → List Int → List (S27) → Bool → List Int → List (S27) → Bool → Bool → Int → Int → List (S91) → Int → Int → List (S89) → Int → Int → List (S89) → Int → Int → List (S89) → Option (Bool)
 | 0, _, _, _, _, _, _, _, _, _, _, _, _, _, _, _, _, _, _, _ => none
 | k + 1, x1, x6, x8, x10, x11, x13, x62, x1080000, x1080001, x1080002, x1099000, x1099001, x1099002, x1105000, x1105001, x1105002, x1118000, x1118001, x1118002 => if x62 = true then (some false) else ((laws_toBoard.f k x1080000 x1080001 x1080002).bind fun bt1120 => ((laws_eqBoard.f k x1105000 x1105001 x1105002 bt1120.1 bt1120.2.1 bt1120.2.2).bind fun t1125 => (if t1125 = true then ((laws_toIntS.f k x1).bind fun t1126 => ((laws_eqIntS.f k x10 t1126).bind fun t1129 => (if t1129 = true then ((laws_markBoard.f k x1105000 x1105001 x1105002 1).bind fun bt1130 => ((laws_markIntS.f k x10 bt1130.1).bind fun bt1132 => (if bt1132.1 < 0 then (laws_FnExactFallsOf.j1 k x1 x6 x8 x11 true x1080000 x1080001 x1080002 x1099000 x1099001 x1099002 x1118000 x1118001 x1118002) else ((laws_eqFallS.f k x11 x6).bind fun t1134 => (if t1134 = true then ((laws_eqBoard.f k x1118000 x1118001 x1118002 x1099000 x1099001 x1099002).bind fun t1135 => (if t1135 = true then (laws_FnExactFallsOf.j1 k x1 x6 x8 x11 (x13 != x8) x1080000 x1080001 x1080002 x1099000 x1099001 x1099002 x1118000 x1118001 x1118002) else (laws_FnExactFallsOf.j1 k x1 x6 x8 x11 true x1080000 x1080001 x1080002 x1099000 x1099001 x1099002 x1118000 x1118001 x1118002))) else (laws_FnExactFallsOf.j1 k x1 x6 x8 x11 true x1080000 x1080001 x1080002 x1099000 x1099001 x1099002 x1118000 x1118001 x1118002)))))) else (some false)))) else (some false))))
def laws_FnExactFallsOf.j1 : Nat → List Int → List (S27) → Bool → List (S27) → Bool → Int → Int → List (S91) → Int → Int → List (S89) → Int → Int → List (S89) → Option (Bool)
 | 0, _, _, _, _, _, _, _, _, _, _, _, _, _, _ => none
 | k + 1, x1, x6, x8, x11, x97, x1080000, x1080001, x1080002, x1099000, x1099001, x1099002, x1118000, x1118001, x1118002 => if x97 = true then (some false) else ((laws_markFallS.f k x11 1).bind fun bt1136 => ((laws_markBoard.f k x1118000 x1118001 x1118002 bt1136.1).bind fun bt1138 => ((laws_heldFallS.f k bt1136.2 1).bind fun t1140 => (if t1140 < 0 then (some false) else ((laws_heldBoard.f k x1118000 x1118001 bt1138.2 t1140).bind fun t1141 => (if t1141 < 0 then (some false) else (if t1141 = bt1138.1 then ((laws_toBoard.f k x1080000 x1080001 x1080002).bind fun bt1142 => ((laws_toIntS.f k x1).bind fun t1147 => ((impl_FallsOf.f k bt1142.1 bt1142.2.1 bt1142.2.2 t1147).bind fun bt1150 => ((laws_eqFallS.f k bt1150.1 x6).bind fun t1160 => (if t1160 = true then ((laws_eqBoard.f k bt1150.2.1 bt1150.2.2.1 bt1150.2.2.2.1 x1099000 x1099001 x1099002).bind fun t1161 => (if t1161 = true then (laws_FnExactFallsOf.j2 k bt1136.2 bt1138.1 (bt1150.2.2.2.2 != x8) x1118000 x1118001 bt1138.2) else (laws_FnExactFallsOf.j2 k bt1136.2 bt1138.1 true x1118000 x1118001 bt1138.2))) else (laws_FnExactFallsOf.j2 k bt1136.2 bt1138.1 true x1118000 x1118001 bt1138.2)))))) else (some false))))))))
def laws_FnExactFallsOf.j2 : Nat → List (S27) → Int → Bool → Int → Int → List (S89) → Option (Bool)
 | 0, _, _, _, _, _, _ => none
 | k + 1, x11, x15, x140, x1118000, x1118001, x1118002 => if x140 = true then (some false) else ((laws_heldFallS.f k x11 1).bind fun t1162 => (if t1162 < 0 then (some false) else ((laws_heldBoard.f k x1118000 x1118001 x1118002 t1162).bind fun t1163 => (if t1163 < 0 then (some false) else (if t1163 = x15 then (some true) else (some false))))))
end
def laws_FnExactFallsOf.f (k : Nat) (a0_0 : Int) (a0_1 : Int) (l0_2 : List (S91)) (l1 : List Int) : Option (Bool) := if (l1.length : Int) > 1048576 then (some true) else ((laws_szBoard.f a0_0 a0_1 l0_2 1048576).bind fun t1080 => (if t1080 < 0 then (some true) else ((laws_toBoard.f k a0_0 a0_1 l0_2).bind fun bt1081 => ((laws_toIntS.f k l1).bind fun t1086 => ((spec_FallsOf.f k bt1081.1 bt1081.2.1 bt1081.2.2 t1086).bind fun bt1089 => ((laws_toBoard.f k a0_0 a0_1 l0_2).bind fun bt1099 => ((laws_toIntS.f k l1).bind fun t1105 => ((impl_FallsOf.f k bt1099.1 bt1099.2.1 bt1099.2.2 t1105).bind fun bt1108 => ((laws_eqFallS.f k bt1108.1 bt1089.1).bind fun t1118 => (if t1118 = true then ((laws_eqBoard.f k bt1108.2.1 bt1108.2.2.1 bt1108.2.2.2.1 bt1089.2.1 bt1089.2.2.1 bt1089.2.2.2.1).bind fun t1119 => (if t1119 = true then (laws_FnExactFallsOf.j0 k l1 bt1089.1 bt1089.2.2.2.2 t1105 bt1108.1 bt1108.2.2.2.2 (bt1108.2.2.2.2 != bt1089.2.2.2.2) a0_0 a0_1 l0_2 bt1089.2.1 bt1089.2.2.1 bt1089.2.2.2.1 bt1099.1 bt1099.2.1 bt1099.2.2 bt1108.2.1 bt1108.2.2.1 bt1108.2.2.2.1) else (laws_FnExactFallsOf.j0 k l1 bt1089.1 bt1089.2.2.2.2 t1105 bt1108.1 bt1108.2.2.2.2 true a0_0 a0_1 l0_2 bt1089.2.1 bt1089.2.2.1 bt1089.2.2.2.1 bt1099.1 bt1099.2.1 bt1099.2.2 bt1108.2.1 bt1108.2.2.1 bt1108.2.2.2.1))) else (laws_FnExactFallsOf.j0 k l1 bt1089.1 bt1089.2.2.2.2 t1105 bt1108.1 bt1108.2.2.2.2 true a0_0 a0_1 l0_2 bt1089.2.1 bt1089.2.2.1 bt1089.2.2.2.1 bt1099.1 bt1099.2.1 bt1099.2.2 bt1108.2.1 bt1108.2.2.1 bt1108.2.2.2.1)))))))))))
theorem laws_FnExactFallsOf.bad_j0 (k : Nat) (y0 : List Int) (y1 : List (S27)) (y2 : Bool) (y3 : List Int) (y4 : List (S27)) (y5 : Bool) (y7 : Int) (y8 : Int) (y9 : List (S91)) (y10 : Int) (y11 : Int) (y12 : List (S89)) (y13 : Int) (y14 : Int) (y15 : List (S89)) (y16 : Int) (y17 : Int) (y18 : List (S89)) : ¬ laws_FnExactFallsOf.j0 k y0 y1 y2 y3 y4 y5 true y7 y8 y9 y10 y11 y12 y13 y14 y15 y16 y17 y18 = some true := by
 cases k <;> simp [laws_FnExactFallsOf.j0]
theorem laws_FnExactFallsOf.bad_j1 (k : Nat) (y0 : List Int) (y1 : List (S27)) (y2 : Bool) (y3 : List (S27)) (y5 : Int) (y6 : Int) (y7 : List (S91)) (y8 : Int) (y9 : Int) (y10 : List (S89)) (y11 : Int) (y12 : Int) (y13 : List (S89)) : ¬ laws_FnExactFallsOf.j1 k y0 y1 y2 y3 true y5 y6 y7 y8 y9 y10 y11 y12 y13 = some true := by
 cases k <;> simp [laws_FnExactFallsOf.j1]
theorem laws_FnExactFallsOf.bad_j2 (k : Nat) (y0 : List (S27)) (y1 : Int) (y3 : Int) (y4 : Int) (y5 : List (S89)) : ¬ laws_FnExactFallsOf.j2 k y0 y1 true y3 y4 y5 = some true := by
 cases k <;> simp [laws_FnExactFallsOf.j2]
set_option maxHeartbeats 8000000 in
set_option maxRecDepth 100000 in
theorem laws_FnExactFallsOf.calls (k : Nat) (a0_0 : Int) (a0_1 : Int) (A0_2 : Option Addr) (c0_2 : Nat) (l0_2 : List (S91)) (A1 : Option Addr) (c1 : Nat) (l1 : List Int) (w : World) (hr0_2 : Kd.C k91 w A0_2 l0_2.length l0_2) (hc0_2 : l0_2.length ≤ c0_2) (hr1 : Kd.C (Kd.int .i64) w A1 l1.length l1) (hc1 : l1.length ≤ c1) (h : laws_FnExactFallsOf.f k a0_0 a0_1 l0_2 l1 = some true) :
 Calls Try.prog 12 #[.agg #[.int .i64 a0_0, .int .i64 a0_1, .slice A0_2 l0_2.length c0_2], .slice A1 l1.length c1] w fun e w' => e = .returned (.bool true) ∧ Below w.heap.size w w' := by
 have J2 := Try.underlying24
 have J3 := Try.underlying32
 have BS := Z.m hr0_2
 have BR := Z.m hc0_2
 clear hr0_2 hc0_2
 have Fn := Z.m hr1
 have Fm := Z.m hc1
 clear hr1 hc1
 have HB := Z.m (Below.refl w.heap.size w)
 have H : (if (l1.length : Int) > 1048576 then (some true) else ((laws_szBoard.f a0_0 a0_1 l0_2 1048576).bind fun BT => (if BT < 0 then (some true) else ((laws_toBoard.f k a0_0 a0_1 l0_2).bind fun bt1081 => ((laws_toIntS.f k l1).bind fun Bz => ((spec_FallsOf.f k bt1081.1 bt1081.2.1 bt1081.2.2 Bz).bind fun bt1089 => ((laws_toBoard.f k a0_0 a0_1 l0_2).bind fun bt1099 => ((laws_toIntS.f k l1).bind fun Ak => ((impl_FallsOf.f k bt1099.1 bt1099.2.1 bt1099.2.2 Ak).bind fun bt1108 => ((laws_eqFallS.f k bt1108.1 bt1089.1).bind fun AZ => (if AZ = true then ((laws_eqBoard.f k bt1108.2.1 bt1108.2.2.1 bt1108.2.2.2.1 bt1089.2.1 bt1089.2.2.1 bt1089.2.2.2.1).bind fun AL => (if AL = true then (laws_FnExactFallsOf.j0 k l1 bt1089.1 bt1089.2.2.2.2 Ak bt1108.1 bt1108.2.2.2.2 (bt1108.2.2.2.2 != bt1089.2.2.2.2) a0_0 a0_1 l0_2 bt1089.2.1 bt1089.2.2.1 bt1089.2.2.2.1 bt1099.1 bt1099.2.1 bt1099.2.2 bt1108.2.1 bt1108.2.2.1 bt1108.2.2.2.1) else (laws_FnExactFallsOf.j0 k l1 bt1089.1 bt1089.2.2.2.2 Ak bt1108.1 bt1108.2.2.2.2 true a0_0 a0_1 l0_2 bt1089.2.1 bt1089.2.2.1 bt1089.2.2.2.1 bt1099.1 bt1099.2.1 bt1099.2.2 bt1108.2.1 bt1108.2.2.1 bt1108.2.2.2.1))) else (laws_FnExactFallsOf.j0 k l1 bt1089.1 bt1089.2.2.2.2 Ak bt1108.1 bt1108.2.2.2.2 true a0_0 a0_1 l0_2 bt1089.2.1 bt1089.2.2.1 bt1089.2.2.2.1 bt1099.1 bt1099.2.1 bt1099.2.2 bt1108.2.1 bt1108.2.2.1 bt1108.2.2.2.1)))))))))))) = some true := h
 clear h
 by_cases c3 : (l1.length : Int) > 1048576
 ·rw [if_pos c3] at H
  have Ey := decide_eq_true c3
  have Ez : decide (1048576 < l1.length) = true := decide_eq_true (by omega)
  clear c3
  clear H
  go_enter Try.func12, Try.ntmps12
  go_wp2_with (first | ((with_reducible refine gq (N := 2) rfl ?_); refine be (N := 2) (cs := #[.int .i64 a0_0, .int .i64 a0_1, .slice A0_2 l0_2.length c0_2]) (t := 24) ?_; intro AS hg w4 hbox hb; have A2 := Z.m (hbox); have BN := gW (w := w) HB hg; have BF := BN; replace HB := bB HB hb; clear hb hbox hg))
  go_ret
  exact ⟨by first | rfl | (simp [eN, eS] <;> rfl) | (simp [*, eN, eS] <;> rfl), vB HB⟩
 ·rw [if_neg c3] at H
  have Ey := decide_eq_false c3
  have Ez : decide (1048576 < l1.length) = false := decide_eq_false (by omega)
  clear c3
  replace H := Option.bind_eq_some_iff.mp H
  obtain ⟨BT, GX, H⟩ := H
  replace H : (if BT < 0 then (some true) else ((laws_toBoard.f k a0_0 a0_1 l0_2).bind fun bt1081 => ((laws_toIntS.f k l1).bind fun Bz => ((spec_FallsOf.f k bt1081.1 bt1081.2.1 bt1081.2.2 Bz).bind fun bt1089 => ((laws_toBoard.f k a0_0 a0_1 l0_2).bind fun bt1099 => ((laws_toIntS.f k l1).bind fun Ak => ((impl_FallsOf.f k bt1099.1 bt1099.2.1 bt1099.2.2 Ak).bind fun bt1108 => ((laws_eqFallS.f k bt1108.1 bt1089.1).bind fun AZ => (if AZ = true then ((laws_eqBoard.f k bt1108.2.1 bt1108.2.2.1 bt1108.2.2.2.1 bt1089.2.1 bt1089.2.2.1 bt1089.2.2.2.1).bind fun AL => (if AL = true then (laws_FnExactFallsOf.j0 k l1 bt1089.1 bt1089.2.2.2.2 Ak bt1108.1 bt1108.2.2.2.2 (bt1108.2.2.2.2 != bt1089.2.2.2.2) a0_0 a0_1 l0_2 bt1089.2.1 bt1089.2.2.1 bt1089.2.2.2.1 bt1099.1 bt1099.2.1 bt1099.2.2 bt1108.2.1 bt1108.2.2.1 bt1108.2.2.2.1) else (laws_FnExactFallsOf.j0 k l1 bt1089.1 bt1089.2.2.2.2 Ak bt1108.1 bt1108.2.2.2.2 true a0_0 a0_1 l0_2 bt1089.2.1 bt1089.2.2.1 bt1089.2.2.2.1 bt1099.1 bt1099.2.1 bt1099.2.2 bt1108.2.1 bt1108.2.2.1 bt1108.2.2.2.1))) else (laws_FnExactFallsOf.j0 k l1 bt1089.1 bt1089.2.2.2.2 Ak bt1108.1 bt1108.2.2.2.2 true a0_0 a0_1 l0_2 bt1089.2.1 bt1089.2.2.1 bt1089.2.2.2.1 bt1099.1 bt1099.2.1 bt1099.2.2 bt1108.2.1 bt1108.2.2.1 bt1108.2.2.2.1)))))))))) = some true := H
  have A5 := Z.m GX
  clear GX
  by_cases c6 : BT < 0
  ·rw [if_pos c6] at H
   have EA := decide_eq_true c6
   clear c6
   clear H
   go_enter Try.func12, Try.ntmps12
   go_wp2_with (first | ((with_reducible refine gq (N := 2) rfl ?_); refine be (N := 2) (cs := #[.int .i64 a0_0, .int .i64 a0_1, .slice A0_2 l0_2.length c0_2]) (t := 24) ?_; intro AS hg w7 hbox hb; have A2 := Z.m (hbox); have BN := gW (w := w) HB hg; have BF := BN; replace HB := bB HB hb; clear hb hbox hg; have G2 := bc0 A2; have G3 := bc1 A2; have G4 := bc2 A2; have G5 := qz A2.o 0; have G6 := qz A2.o 1; have G7 := qz A2.o 2) | ((with_reducible refine gc (f := 13) rfl ?_); refine gA (some 25) _ #[.agg #[.int .i64 a0_0, .int .i64 a0_1, .slice A0_2 l0_2.length c0_2], .int .i64 1048576] ?_ Try.func13; (with_reducible refine (laws_szBoard.calls a0_0 a0_1 _ _ l0_2 1048576 BT _ ?side1 ?side2 A5.o).mono ?_); (case side1 => repeat (first | exact (Kd.C_below BS.o HB.o) | (with_reducible refine Kd.C_alloc ?_ _) | (with_reducible refine Kd.C_drewN ?_ _) | (with_reducible refine Kd.C_drew ?_))); (case side2 => exact BR.o); rintro e w9 ⟨rfl, hb⟩; refine ⟨_, rfl, ?_⟩; replace A2 := kB A2 hb; replace HB := bB HB hb; (try clear hb); (try clear BQ); (try clear hk); (try clear hi)))
   go_ret
   exact ⟨by first | rfl | (simp [eN, eS] <;> rfl) | (simp [*, eN, eS] <;> rfl), vB HB⟩
  ·rw [if_neg c6] at H
   have EA := decide_eq_false c6
   clear c6
   replace H := Option.bind_eq_some_iff.mp H
   obtain ⟨⟨C4, C5, C6⟩, Ea, H⟩ := H
   replace H : ((laws_toIntS.f k l1).bind fun Bz => ((spec_FallsOf.f k C4 C5 C6 Bz).bind fun bt1089 => ((laws_toBoard.f k a0_0 a0_1 l0_2).bind fun bt1099 => ((laws_toIntS.f k l1).bind fun Ak => ((impl_FallsOf.f k bt1099.1 bt1099.2.1 bt1099.2.2 Ak).bind fun bt1108 => ((laws_eqFallS.f k bt1108.1 bt1089.1).bind fun AZ => (if AZ = true then ((laws_eqBoard.f k bt1108.2.1 bt1108.2.2.1 bt1108.2.2.2.1 bt1089.2.1 bt1089.2.2.1 bt1089.2.2.2.1).bind fun AL => (if AL = true then (laws_FnExactFallsOf.j0 k l1 bt1089.1 bt1089.2.2.2.2 Ak bt1108.1 bt1108.2.2.2.2 (bt1108.2.2.2.2 != bt1089.2.2.2.2) a0_0 a0_1 l0_2 bt1089.2.1 bt1089.2.2.1 bt1089.2.2.2.1 bt1099.1 bt1099.2.1 bt1099.2.2 bt1108.2.1 bt1108.2.2.1 bt1108.2.2.2.1) else (laws_FnExactFallsOf.j0 k l1 bt1089.1 bt1089.2.2.2.2 Ak bt1108.1 bt1108.2.2.2.2 true a0_0 a0_1 l0_2 bt1089.2.1 bt1089.2.2.1 bt1089.2.2.2.1 bt1099.1 bt1099.2.1 bt1099.2.2 bt1108.2.1 bt1108.2.2.1 bt1108.2.2.2.1))) else (laws_FnExactFallsOf.j0 k l1 bt1089.1 bt1089.2.2.2.2 Ak bt1108.1 bt1108.2.2.2.2 true a0_0 a0_1 l0_2 bt1089.2.1 bt1089.2.2.1 bt1089.2.2.2.1 bt1099.1 bt1099.2.1 bt1099.2.2 bt1108.2.1 bt1108.2.2.1 bt1108.2.2.2.1)))))))) = some true := H
   have HP := Z.m Ea
   clear Ea
   replace H := Option.bind_eq_some_iff.mp H
   obtain ⟨Bz, Eb, H⟩ := H
   replace H : ((spec_FallsOf.f k C4 C5 C6 Bz).bind fun bt1089 => ((laws_toBoard.f k a0_0 a0_1 l0_2).bind fun bt1099 => ((laws_toIntS.f k l1).bind fun Ak => ((impl_FallsOf.f k bt1099.1 bt1099.2.1 bt1099.2.2 Ak).bind fun bt1108 => ((laws_eqFallS.f k bt1108.1 bt1089.1).bind fun AZ => (if AZ = true then ((laws_eqBoard.f k bt1108.2.1 bt1108.2.2.1 bt1108.2.2.2.1 bt1089.2.1 bt1089.2.2.1 bt1089.2.2.2.1).bind fun AL => (if AL = true then (laws_FnExactFallsOf.j0 k l1 bt1089.1 bt1089.2.2.2.2 Ak bt1108.1 bt1108.2.2.2.2 (bt1108.2.2.2.2 != bt1089.2.2.2.2) a0_0 a0_1 l0_2 bt1089.2.1 bt1089.2.2.1 bt1089.2.2.2.1 bt1099.1 bt1099.2.1 bt1099.2.2 bt1108.2.1 bt1108.2.2.1 bt1108.2.2.2.1) else (laws_FnExactFallsOf.j0 k l1 bt1089.1 bt1089.2.2.2.2 Ak bt1108.1 bt1108.2.2.2.2 true a0_0 a0_1 l0_2 bt1089.2.1 bt1089.2.2.1 bt1089.2.2.2.1 bt1099.1 bt1099.2.1 bt1099.2.2 bt1108.2.1 bt1108.2.2.1 bt1108.2.2.2.1))) else (laws_FnExactFallsOf.j0 k l1 bt1089.1 bt1089.2.2.2.2 Ak bt1108.1 bt1108.2.2.2.2 true a0_0 a0_1 l0_2 bt1089.2.1 bt1089.2.2.1 bt1089.2.2.2.1 bt1099.1 bt1099.2.1 bt1099.2.2 bt1108.2.1 bt1108.2.2.1 bt1108.2.2.2.1))))))) = some true := H
   have HQ := Z.m Eb
   clear Eb
   replace H := Option.bind_eq_some_iff.mp H
   obtain ⟨⟨Ae, Af, Ag, A9, Ah⟩, Ec, H⟩ := H
   replace H : ((laws_toBoard.f k a0_0 a0_1 l0_2).bind fun bt1099 => ((laws_toIntS.f k l1).bind fun Ak => ((impl_FallsOf.f k bt1099.1 bt1099.2.1 bt1099.2.2 Ak).bind fun bt1108 => ((laws_eqFallS.f k bt1108.1 Ae).bind fun AZ => (if AZ = true then ((laws_eqBoard.f k bt1108.2.1 bt1108.2.2.1 bt1108.2.2.2.1 Af Ag A9).bind fun AL => (if AL = true then (laws_FnExactFallsOf.j0 k l1 Ae Ah Ak bt1108.1 bt1108.2.2.2.2 (bt1108.2.2.2.2 != Ah) a0_0 a0_1 l0_2 Af Ag A9 bt1099.1 bt1099.2.1 bt1099.2.2 bt1108.2.1 bt1108.2.2.1 bt1108.2.2.2.1) else (laws_FnExactFallsOf.j0 k l1 Ae Ah Ak bt1108.1 bt1108.2.2.2.2 true a0_0 a0_1 l0_2 Af Ag A9 bt1099.1 bt1099.2.1 bt1099.2.2 bt1108.2.1 bt1108.2.2.1 bt1108.2.2.2.1))) else (laws_FnExactFallsOf.j0 k l1 Ae Ah Ak bt1108.1 bt1108.2.2.2.2 true a0_0 a0_1 l0_2 Af Ag A9 bt1099.1 bt1099.2.1 bt1099.2.2 bt1108.2.1 bt1108.2.2.1 bt1108.2.2.2.1)))))) = some true := H
   have HR := Z.m Ec
   clear Ec
   replace H := Option.bind_eq_some_iff.mp H
   obtain ⟨⟨Ao, Ap, Am⟩, CU, H⟩ := H
   replace H : ((laws_toIntS.f k l1).bind fun Ak => ((impl_FallsOf.f k Ao Ap Am Ak).bind fun bt1108 => ((laws_eqFallS.f k bt1108.1 Ae).bind fun AZ => (if AZ = true then ((laws_eqBoard.f k bt1108.2.1 bt1108.2.2.1 bt1108.2.2.2.1 Af Ag A9).bind fun AL => (if AL = true then (laws_FnExactFallsOf.j0 k l1 Ae Ah Ak bt1108.1 bt1108.2.2.2.2 (bt1108.2.2.2.2 != Ah) a0_0 a0_1 l0_2 Af Ag A9 Ao Ap Am bt1108.2.1 bt1108.2.2.1 bt1108.2.2.2.1) else (laws_FnExactFallsOf.j0 k l1 Ae Ah Ak bt1108.1 bt1108.2.2.2.2 true a0_0 a0_1 l0_2 Af Ag A9 Ao Ap Am bt1108.2.1 bt1108.2.2.1 bt1108.2.2.2.1))) else (laws_FnExactFallsOf.j0 k l1 Ae Ah Ak bt1108.1 bt1108.2.2.2.2 true a0_0 a0_1 l0_2 Af Ag A9 Ao Ap Am bt1108.2.1 bt1108.2.2.1 bt1108.2.2.2.1))))) = some true := H
   have HS := Z.m CU
   clear CU
   replace H := Option.bind_eq_some_iff.mp H
   obtain ⟨Ak, CV, H⟩ := H
   replace H : ((impl_FallsOf.f k Ao Ap Am Ak).bind fun bt1108 => ((laws_eqFallS.f k bt1108.1 Ae).bind fun AZ => (if AZ = true then ((laws_eqBoard.f k bt1108.2.1 bt1108.2.2.1 bt1108.2.2.2.1 Af Ag A9).bind fun AL => (if AL = true then (laws_FnExactFallsOf.j0 k l1 Ae Ah Ak bt1108.1 bt1108.2.2.2.2 (bt1108.2.2.2.2 != Ah) a0_0 a0_1 l0_2 Af Ag A9 Ao Ap Am bt1108.2.1 bt1108.2.2.1 bt1108.2.2.2.1) else (laws_FnExactFallsOf.j0 k l1 Ae Ah Ak bt1108.1 bt1108.2.2.2.2 true a0_0 a0_1 l0_2 Af Ag A9 Ao Ap Am bt1108.2.1 bt1108.2.2.1 bt1108.2.2.2.1))) else (laws_FnExactFallsOf.j0 k l1 Ae Ah Ak bt1108.1 bt1108.2.2.2.2 true a0_0 a0_1 l0_2 Af Ag A9 Ao Ap Am bt1108.2.1 bt1108.2.2.1 bt1108.2.2.2.1)))) = some true := H
   have HT := Z.m CV
   clear CV
   replace H := Option.bind_eq_some_iff.mp H
   obtain ⟨⟨Ai, Aa, Ab, Ac, Aw⟩, Ed, H⟩ := H
   replace H : ((laws_eqFallS.f k Ai Ae).bind fun AZ => (if AZ = true then ((laws_eqBoard.f k Aa Ab Ac Af Ag A9).bind fun AL => (if AL = true then (laws_FnExactFallsOf.j0 k l1 Ae Ah Ak Ai Aw (Aw != Ah) a0_0 a0_1 l0_2 Af Ag A9 Ao Ap Am Aa Ab Ac) else (laws_FnExactFallsOf.j0 k l1 Ae Ah Ak Ai Aw true a0_0 a0_1 l0_2 Af Ag A9 Ao Ap Am Aa Ab Ac))) else (laws_FnExactFallsOf.j0 k l1 Ae Ah Ak Ai Aw true a0_0 a0_1 l0_2 Af Ag A9 Ao Ap Am Aa Ab Ac))) = some true := H
   have HU := Z.m Ed
   clear Ed
   have E2 := Z.m H
   clear H
   go_enter Try.func12, Try.ntmps12
   go_upto_region 11 with (first | ((with_reducible refine gq (N := 2) rfl ?_); refine be (N := 2) (cs := #[.int .i64 a0_0, .int .i64 a0_1, .slice A0_2 l0_2.length c0_2]) (t := 24) ?_; intro AS hg Jh hbox hb; have A2 := Z.m (hbox); have BN := gW (w := w) HB hg; have BF := BN; replace HB := bB HB hb; clear hb hbox hg; have CW := bc0 A2; have CX := bc1 A2; have CY := bc2 A2; have Dk := qz A2.o 0; have Dl := qz A2.o 1; have Dm := qz A2.o 2) | ((with_reducible refine gc (f := 13) rfl ?_); refine gA (some 25) _ #[.agg #[.int .i64 a0_0, .int .i64 a0_1, .slice A0_2 l0_2.length c0_2], .int .i64 1048576] ?_ Try.func13; (with_reducible refine (laws_szBoard.calls a0_0 a0_1 _ _ l0_2 1048576 BT _ ?side1 ?side2 A5.o).mono ?_); (case side1 => repeat (first | exact (Kd.C_below BS.o HB.o) | (with_reducible refine Kd.C_alloc ?_ _) | (with_reducible refine Kd.C_drewN ?_ _) | (with_reducible refine Kd.C_drew ?_))); (case side2 => exact BR.o); rintro e Ji ⟨rfl, hb⟩; refine ⟨_, rfl, ?_⟩; replace A2 := kB A2 hb; replace HB := bB HB hb; (try clear hb); (try clear BQ); (try clear hk); (try clear hi); have CZ := bc0 A2; have D0 := bc1 A2; have D1 := bc2 A2; have Dn := qz A2.o 0; have Do := qz A2.o 1; have Dp := qz A2.o 2) | ((with_reducible refine gc (f := 15) rfl ?_); refine gA (some 30) _ #[.agg #[.int .i64 a0_0, .int .i64 a0_1, .slice A0_2 l0_2.length c0_2]] ?_ Try.func15; (with_reducible refine (laws_toBoard.calls k a0_0 a0_1 _ _ l0_2 C4 C5 C6 _ ?side1 ?side2 HP.o).mono ?_); (case side1 => repeat (first | exact (Kd.C_below BS.o HB.o) | (with_reducible refine Kd.C_alloc ?_ _) | (with_reducible refine Kd.C_drewN ?_ _) | (with_reducible refine Kd.C_drew ?_))); (case side2 => exact BR.o); rintro e Jj ⟨HD, rfl, Bj, hb⟩; refine ⟨_, rfl, ?_⟩; have At := Z.m (Kd.R_lower Bj (below_size (vB HB))); replace A2 := kB A2 hb; replace HB := bB HB hb; (try clear hb); (try clear BQ); (try clear hk); (try clear hi); (try clear Bj)) | ((with_reducible refine gc (f := 33) rfl ?_); refine gA (some 32) _ #[.slice A1 l1.length c1] ?_ Try.func33; (with_reducible refine (laws_toIntS.calls k _ _ l1 Bz _ ?side1 ?side2 HQ.o).mono ?_); (case side1 => repeat (first | exact (Kd.C_below Fn.o HB.o) | (with_reducible refine Kd.C_alloc ?_ _) | (with_reducible refine Kd.C_drewN ?_ _) | (with_reducible refine Kd.C_drew ?_))); (case side2 => exact Fm.o); rintro e Jk ⟨HE, rfl, Bj, hb⟩; refine ⟨_, rfl, ?_⟩; have Az := Z.m (Kd.R_lower Bj (below_size (vB HB))); replace At := Z.m (Kd.Rb (vR At) hb); replace A2 := kB A2 hb; replace HB := bB HB hb; (try clear hb); (try clear BQ); (try clear hk); (try clear hi); (try clear Bj); obtain ⟨FJ, FP, FR⟩ := Kd.R_slice At.o; subst FR; obtain ⟨FL, FQ, FS⟩ := Kd.R_slice Az.o; subst FS) | ((with_reducible refine gc (f := 44) rfl ?_); refine gA (some 33) _ #[.agg #[.int .i64 C4, .int .i64 C5, .slice FJ C6.length FP], .slice FL Bz.length FQ] ?_ Try.func44; (with_reducible refine (spec_FallsOf.calls k C4 C5 _ _ C6 _ _ Bz Ae Af Ag A9 Ah _ ?side1 ?side2 ?side3 ?side4 HR.o).mono ?_); (case side1 => repeat (first | exact (Kd.RrZ At.o).2.2 | (with_reducible refine Kd.C_alloc ?_ _) | (with_reducible refine Kd.C_drewN ?_ _) | (with_reducible refine Kd.C_drew ?_))); (case side2 => exact (Kd.RrZ At.o).2.1); (case side3 => repeat (first | exact (Kd.RrZ Az.o).2.2 | (with_reducible refine Kd.C_alloc ?_ _) | (with_reducible refine Kd.C_drewN ?_ _) | (with_reducible refine Kd.C_drew ?_))); (case side4 => exact (Kd.RrZ Az.o).2.1); rintro e Jl ⟨BD, HF, rfl, Bj, Ca, hb⟩; refine ⟨_, rfl, ?_⟩; have Av := Z.m (Kd.R_lower Bj (below_size (vB HB))); have Ax := Z.m (Kd.R_lower (Kd.R_new' Ca (Kd.R_lt (vR At))) (below_size (vB HB))); replace At := Z.m (Kd.R_elder' (vR At) (Kd.R_base Ca) hb); replace Az := Z.m (Kd.Rb (vR Az) hb); replace A2 := kB A2 hb; replace HB := bB HB hb; (try clear hb); (try clear BQ); (try clear hk); (try clear hi); (try clear Bj); (try clear Ca)) | ((with_reducible refine gq (N := 7) rfl ?_); refine be (N := 7) (cs := #[.int .i64 0, .int .i64 0, .slice none 0 0]) (t := 32) ?_; intro Bq hg Jm hbox hb; have A7 := Z.m (hbox); have DY := gW (w := w) HB hg; have BW := DY; have AT := neL A2 hg; have Bb := neG A2 hg; replace At := Z.m (Kd.Rb (vR At) hb); replace Az := Z.m (Kd.Rb (vR Az) hb); replace Av := Z.m (Kd.Rb (vR Av) hb); replace Ax := Z.m (Kd.Rb (vR Ax) hb); replace A2 := kB A2 hb; replace HB := bB HB hb; clear hb hbox hg; have H9 := Bb.o; have Hn := AT.o; have D2 := bc0 A7; have D3 := bc1 A7; have D4 := bc2 A7; have Dq := qz A7.o 0; have Dr := qz A7.o 1; have Ds := qz A7.o 2; obtain ⟨AP, AR, FT⟩ := Kd.R_slice Ax.o; subst FT; have D5 := bc0 A2; have D6 := bc1 A2; have D7 := bc2 A2; have Dt := qz A2.o 0; have Du := qz A2.o 1; have Dv := qz A2.o 2) | ((with_reducible refine gc (f := 15) rfl ?_); refine gA (some 38) _ #[.agg #[.int .i64 a0_0, .int .i64 a0_1, .slice A0_2 l0_2.length c0_2]] ?_ Try.func15; (with_reducible refine (laws_toBoard.calls k a0_0 a0_1 _ _ l0_2 Ao Ap Am _ ?side1 ?side2 HS.o).mono ?_); (case side1 => exact Kd.C_below BS.o (vB HB)); (case side2 => exact BR.o); rintro e Jn ⟨HG, rfl, Bj, hb⟩; refine ⟨_, rfl, ?_⟩; have AA := Z.m (Kd.R_lower (Kd.R_new' (Kd.R_new' Bj (Kd.R_lt (by refine rK ?_; exact (Kd.Rm (rf (rf (rf (Kd.Ry At.o A7.o (by decide))))) (fun _ h_ => h_.1))))) (Kd.R_lt (by refine rK ?_; exact (Kd.Rm (rf (rf (rf (Kd.Ry Ax.o A7.o (by decide))))) (fun _ h_ => h_.1))))) (below_size (vB HB))); replace At := Z.m (Kd.R_elder' (by refine rK ?_; exact (Kd.Rm (rf (rf (rf (Kd.Ry At.o A7.o (by decide))))) (fun _ h_ => h_.1))) (Kd.R_base Bj) hb); replace Az := Z.m (Kd.Rb (by refine rK ?_; exact (Kd.Rm (rf (rf (rf (Kd.Ry Az.o A7.o (by decide))))) (fun _ h_ => h_.1))) hb); replace Av := Z.m (Kd.Rb (by refine rK ?_; exact (Kd.Rm (rf (rf (rf (Kd.Ry Av.o A7.o (by decide))))) (fun _ h_ => h_.1))) hb); replace Ax := Z.m (Kd.R_elder' (by refine rK ?_; exact (Kd.Rm (rf (rf (rf (Kd.Ry Ax.o A7.o (by decide))))) (fun _ h_ => h_.1))) (Kd.R_base Bj) hb); replace A2 := Z.m (qb (g := AS) (o := .cells #[.int .i64 a0_0, .int .i64 a0_1, .slice A0_2 l0_2.length c0_2] 24 (0, 0)) (by refine bK ?_; (iterate 3 refine qF ?_ AT); exact A2.o) hb); replace A7 := Z.m (qb (g := Bq) (o := .cells #[.int .i64 Af, .int .i64 Ag, .slice AP A9.length AR] 32 (0, 0)) (by refine bK ?_; apply st3; refine bK ?_; exact A7.o) hb); replace HB := bB HB hb; (try clear hb); (try clear BQ); (try clear hk); (try clear hi); (try clear Bj)) | ((with_reducible refine gq (N := 9) rfl ?_); refine be (N := 9) (cs := #[.int .i64 0, .int .i64 0, .slice none 0 0]) (t := 32) ?_; intro Bg hg Jo hbox hb; have A8 := Z.m (hbox); have DZ := gW (w := w) HB hg; have BX := DZ; have Bl := neL A2 hg; have Bv := neG A2 hg; have AU := neL A7 hg; have Bc := neG A7 hg; replace At := Z.m (Kd.Rb (vR At) hb); replace Az := Z.m (Kd.Rb (vR Az) hb); replace Av := Z.m (Kd.Rb (vR Av) hb); replace Ax := Z.m (Kd.Rb (vR Ax) hb); replace AA := Z.m (Kd.Rb (vR AA) hb); replace A2 := kB A2 hb; replace A7 := kB A7 hb; replace HB := bB HB hb; clear hb hbox hg; have Ha := Bv.o; have Ho := Bl.o; have Hb := Bc.o; have Hp := AU.o; have D8 := bc0 A8; have D9 := bc1 A8; have Da := bc2 A8; have Dw := qz A8.o 0; have Dx := qz A8.o 1; have Dy := qz A8.o 2; obtain ⟨AE, AF, FU⟩ := Kd.R_slice AA.o; subst FU) | ((with_reducible refine gc (f := 33) rfl ?_); refine gA (some 40) _ #[.slice A1 l1.length c1] ?_ Try.func33; (with_reducible refine (laws_toIntS.calls k _ _ l1 Ak _ ?side1 ?side2 HT.o).mono ?_); (case side1 => exact Kd.C_below Fn.o (vB HB)); (case side2 => exact Fm.o); rintro e Jp ⟨HH, rfl, Bj, hb⟩; refine ⟨_, rfl, ?_⟩; have AQ := Z.m (Kd.R_lower (Kd.R_new' Bj (Kd.R_lt (by refine rK ?_; exact (Kd.Rm (rf (rf (rf (Kd.Ry Az.o A8.o (by decide))))) (fun _ h_ => h_.1))))) (below_size (vB HB))); replace At := Z.m (Kd.Rb (by refine rK ?_; exact (Kd.Rm (rf (rf (rf (Kd.Ry At.o A8.o (by decide))))) (fun _ h_ => h_.1))) hb); replace Az := Z.m (Kd.R_elder' (by refine rK ?_; exact (Kd.Rm (rf (rf (rf (Kd.Ry Az.o A8.o (by decide))))) (fun _ h_ => h_.1))) (Kd.R_base Bj) hb); replace Av := Z.m (Kd.Rb (by refine rK ?_; exact (Kd.Rm (rf (rf (rf (Kd.Ry Av.o A8.o (by decide))))) (fun _ h_ => h_.1))) hb); replace Ax := Z.m (Kd.Rb (by refine rK ?_; exact (Kd.Rm (rf (rf (rf (Kd.Ry Ax.o A8.o (by decide))))) (fun _ h_ => h_.1))) hb); replace AA := Z.m (Kd.Rb (by refine rK ?_; exact (Kd.Rm (rf (rf (rf (Kd.Ry AA.o A8.o (by decide))))) (fun _ h_ => h_.1))) hb); replace A2 := Z.m (qb (g := AS) (o := .cells #[.int .i64 a0_0, .int .i64 a0_1, .slice A0_2 l0_2.length c0_2] 24 (0, 0)) (by refine bK ?_; (iterate 3 refine qF ?_ Bl); exact A2.o) hb); replace A7 := Z.m (qb (g := Bq) (o := .cells #[.int .i64 Af, .int .i64 Ag, .slice AP A9.length AR] 32 (0, 0)) (by refine bK ?_; (iterate 3 refine qF ?_ AU); exact A7.o) hb); replace A8 := Z.m (qb (g := Bg) (o := .cells #[.int .i64 Ao, .int .i64 Ap, .slice AE Am.length AF] 32 (0, 0)) (by refine bK ?_; apply st3; refine bK ?_; exact A8.o) hb); replace HB := bB HB hb; (try clear hb); (try clear BQ); (try clear hk); (try clear hi); (try clear Bj); have Db := bc0 A8; have Dc := bc1 A8; have Dd := bc2 A8; have Dz := qz A8.o 0; have DA := qz A8.o 1; have DB := qz A8.o 2; obtain ⟨C1, C3, FV⟩ := Kd.R_slice AQ.o; subst FV) | ((with_reducible refine gc (f := 45) rfl ?_); refine gA (some 44) _ #[.agg #[.int .i64 Ao, .int .i64 Ap, .slice AE Am.length AF], .slice C1 Ak.length C3] ?_ Try.func45; (with_reducible refine (impl_FallsOf.calls k Ao Ap _ _ Am _ _ Ak Ai Aa Ab Ac Aw _ ?side1 ?side2 ?side3 ?side4 HU.o).mono ?_); (case side1 => repeat (first | exact (Kd.RrZ AA.o).2.2 | (with_reducible refine Kd.C_alloc ?_ _) | (with_reducible refine Kd.C_drewN ?_ _) | (with_reducible refine Kd.C_drew ?_))); (case side2 => exact (Kd.RrZ AA.o).2.1); (case side3 => repeat (first | exact (Kd.RrZ AQ.o).2.2 | (with_reducible refine Kd.C_alloc ?_ _) | (with_reducible refine Kd.C_drewN ?_ _) | (with_reducible refine Kd.C_drew ?_))); (case side4 => exact (Kd.RrZ AQ.o).2.1); rintro e Jq ⟨BV, HI, rfl, Bj, Ca, hb⟩; refine ⟨_, rfl, ?_⟩; have AN := Z.m (Kd.R_lower (Kd.R_new' Bj (Kd.R_lt (vR Av))) (below_size (vB HB))); have B3 := Z.m (Kd.R_lower (Kd.R_new' (Kd.R_new' (Kd.R_new' Ca (Kd.R_lt (vR At))) (Kd.R_lt (vR Ax))) (Kd.R_lt (vR AA))) (below_size (vB HB))); replace At := Z.m (Kd.R_elder' (vR At) (Kd.R_base Ca) hb); replace Az := Z.m (Kd.Rb (vR Az) hb); replace Av := Z.m (Kd.R_elder' (vR Av) (Kd.R_base Bj) hb); replace Ax := Z.m (Kd.R_elder' (vR Ax) (Kd.R_base Ca) hb); replace AA := Z.m (Kd.R_elder' (vR AA) (Kd.R_base Ca) hb); replace AQ := Z.m (Kd.Rb (vR AQ) hb); replace A2 := kB A2 hb; replace A7 := kB A7 hb; replace A8 := kB A8 hb; replace HB := bB HB hb; (try clear hb); (try clear BQ); (try clear hk); (try clear hi); (try clear Bj); (try clear Ca)) | ((with_reducible refine gq (N := 12) rfl ?_); refine be (N := 12) (cs := #[.int .i64 0, .int .i64 0, .slice none 0 0]) (t := 32) ?_; intro Bx hg Jr hbox hb; have A4 := Z.m (hbox); have E0 := gW (w := w) HB hg; have BY := E0; have AJ := neL A2 hg; have Bd := neG A2 hg; have AC := neL A7 hg; have AV := neG A7 hg; have AD := neL A8 hg; have AW := neG A8 hg; replace At := Z.m (Kd.Rb (vR At) hb); replace Az := Z.m (Kd.Rb (vR Az) hb); replace Av := Z.m (Kd.Rb (vR Av) hb); replace Ax := Z.m (Kd.Rb (vR Ax) hb); replace AA := Z.m (Kd.Rb (vR AA) hb); replace AQ := Z.m (Kd.Rb (vR AQ) hb); replace AN := Z.m (Kd.Rb (vR AN) hb); replace B3 := Z.m (Kd.Rb (vR B3) hb); replace A2 := kB A2 hb; replace A7 := kB A7 hb; replace A8 := kB A8 hb; replace HB := bB HB hb; clear hb hbox hg; have Hc := Bd.o; have Hq := AJ.o; have Hd := AV.o; have Hr := AC.o; have He := AW.o; have Hs := AD.o; have De := bc0 A4; have Df := bc1 A4; have Dg := bc2 A4; have DC := qz A4.o 0; have DD := qz A4.o 1; have DE := qz A4.o 2; obtain ⟨AH, AK, FW⟩ := Kd.R_slice B3.o; subst FW))
   (try simp only [Act.put, q1, q2, q3])
   go_cut [62] (fun v62 wc => ∃ (kq : Nat) (BZ : Bool), v62 = .bool BZ ∧ Z (laws_FnExactFallsOf.j0 kq l1 Ae Ah Ak Ai Aw BZ a0_0 a0_1 l0_2 Af Ag A9 Ao Ap Am Aa Ab Ac = some true) ∧ Z (kq ≤ k) ∧ Z (Kd.R k27 27 wc w.heap.size (fun k_ => some k_ ≠ (BV : Value).ownBlock) BD Ae) ∧ Z (Kd.R (Kd.int .i64) 3 wc w.heap.size (fun _ => True) (.slice C1 Ak.length C3) Ak) ∧ Z (Kd.R k27 27 wc w.heap.size (fun k_ => some k_ ≠ (BD : Value).ownBlock) BV Ai) ∧ Z (Kd.R k89 89 wc w.heap.size (fun k_ => some k_ ≠ ((.slice AE Am.length AF) : Value).ownBlock ∧ some k_ ≠ ((.slice AH Ac.length AK) : Value).ownBlock) (.slice AP A9.length AR) A9) ∧ Z (Kd.R k89 89 wc w.heap.size (fun k_ => some k_ ≠ ((.slice AP A9.length AR) : Value).ownBlock ∧ some k_ ≠ ((.slice AH Ac.length AK) : Value).ownBlock) (.slice AE Am.length AF) Am) ∧ Z (Kd.R k89 89 wc w.heap.size (fun k_ => some k_ ≠ ((.slice AP A9.length AR) : Value).ownBlock ∧ some k_ ≠ ((.slice AE Am.length AF) : Value).ownBlock) (.slice AH Ac.length AK) Ac) ∧ Z (wc.heap[AS]? = some (.cells #[.int .i64 a0_0, .int .i64 a0_1, (.slice A0_2 l0_2.length c0_2)] 24 (0, 0))) ∧ Z (wc.heap[Bq]? = some (.cells #[.int .i64 Af, .int .i64 Ag, (.slice AP A9.length AR)] 32 (0, 0))) ∧ Z (wc.heap[Bg]? = some (.cells #[.int .i64 Ao, .int .i64 Ap, (.slice AE Am.length AF)] 32 (0, 0))) ∧ Z (wc.heap[Bx]? = some (.cells #[.int .i64 Aa, .int .i64 Ab, (.slice AH Ac.length AK)] 32 (0, 0))) ∧ Z (Below w.heap.size w wc))
   case first =>
    have H := E2.o
    clear E2
    replace H := Option.bind_eq_some_iff.mp H
    obtain ⟨AZ, Ef, H⟩ := H
    replace H : (if AZ = true then ((laws_eqBoard.f k Aa Ab Ac Af Ag A9).bind fun AL => (if AL = true then (laws_FnExactFallsOf.j0 k l1 Ae Ah Ak Ai Aw (Aw != Ah) a0_0 a0_1 l0_2 Af Ag A9 Ao Ap Am Aa Ab Ac) else (laws_FnExactFallsOf.j0 k l1 Ae Ah Ak Ai Aw true a0_0 a0_1 l0_2 Af Ag A9 Ao Ap Am Aa Ab Ac))) else (laws_FnExactFallsOf.j0 k l1 Ae Ah Ak Ai Aw true a0_0 a0_1 l0_2 Af Ag A9 Ao Ap Am Aa Ab Ac)) = some true := H
    have GW := Z.m Ef
    clear Ef
    by_cases c48 : AZ = true
    ·subst c48
     have H1 : ((laws_eqBoard.f k Aa Ab Ac Af Ag A9).bind fun AL => (if AL = true then (laws_FnExactFallsOf.j0 k l1 Ae Ah Ak Ai Aw (Aw != Ah) a0_0 a0_1 l0_2 Af Ag A9 Ao Ap Am Aa Ab Ac) else (laws_FnExactFallsOf.j0 k l1 Ae Ah Ak Ai Aw true a0_0 a0_1 l0_2 Af Ag A9 Ao Ap Am Aa Ab Ac))) = some true := by rw [if_pos rfl] at H; exact H
     clear H
     have H := H1
     clear H1
     replace H := Option.bind_eq_some_iff.mp H
     obtain ⟨AL, Eg, H⟩ := H
     replace H : (if AL = true then (laws_FnExactFallsOf.j0 k l1 Ae Ah Ak Ai Aw (Aw != Ah) a0_0 a0_1 l0_2 Af Ag A9 Ao Ap Am Aa Ab Ac) else (laws_FnExactFallsOf.j0 k l1 Ae Ah Ak Ai Aw true a0_0 a0_1 l0_2 Af Ag A9 Ao Ap Am Aa Ab Ac)) = some true := H
     have HV := Z.m Eg
     clear Eg
     by_cases c50 : AL = true
     ·subst c50
      have H1 : (laws_FnExactFallsOf.j0 k l1 Ae Ah Ak Ai Aw (Aw != Ah) a0_0 a0_1 l0_2 Af Ag A9 Ao Ap Am Aa Ab Ac) = some true := by rw [if_pos rfl] at H; exact H
      clear H
      have H := H1
      clear H1
      have H' := Z.m H
      clear H
      obtain ⟨Er, E6, FX⟩ := Kd.R_slice AN.o
      subst FX
      obtain ⟨Es, E7, FY⟩ := Kd.R_slice Av.o
      subst FY
      go_wp2_with (first | ((with_reducible refine gc (f := 46) rfl ?_); refine gA (some 50) _ #[.slice Er Ai.length E6, .slice Es Ae.length E7] ?_ Try.func46; (with_reducible refine (laws_eqFallS.calls k _ _ Ai _ _ Ae true _ ?side1 ?side2 ?side3 ?side4 GW.o).mono ?_); (case side1 => refine (Kd.RrZ (e := 27) (base := w.heap.size) (ok := fun k_ => (True ∧ some k_ ≠ (.slice Es Ae.length E7 : Value).ownBlock)) (n := Ai.length) (c := E6) ?_).2.2; exact (by refine rK ?_; exact (Kd.Rm (rf (rf (rf (Kd.Ry AN.o A4.o (by decide))))) (fun _ h_ => h_.1)))); (case side2 => exact (Kd.RrZ AN.o).2.1); (case side3 => refine (Kd.RrZ (e := 27) (base := w.heap.size) (ok := fun k_ => (True ∧ some k_ ≠ (.slice Er Ai.length E6 : Value).ownBlock)) (n := Ae.length) (c := E7) ?_).2.2; exact (by refine rK ?_; exact (Kd.Rm (rf (rf (rf (Kd.Ry Av.o A4.o (by decide))))) (fun _ h_ => h_.1)))); (case side4 => exact (Kd.RrZ Av.o).2.1); rintro e Js ⟨rfl, hb⟩; refine ⟨_, rfl, ?_⟩; replace At := Z.m (Kd.Rb (by refine rK ?_; exact (Kd.Rm (rf (rf (rf (Kd.Ry At.o A4.o (by decide))))) (fun _ h_ => h_.1))) hb); replace Az := Z.m (Kd.Rb (by refine rK ?_; exact (Kd.Rm (rf (rf (rf (Kd.Ry Az.o A4.o (by decide))))) (fun _ h_ => h_.1))) hb); replace Av := Z.m (Kd.Rb (by refine rK ?_; exact (Kd.Rm (rf (rf (rf (Kd.Ry Av.o A4.o (by decide))))) (fun _ h_ => h_.1))) hb); replace Ax := Z.m (Kd.Rb (by refine rK ?_; exact (Kd.Rm (rf (rf (rf (Kd.Ry Ax.o A4.o (by decide))))) (fun _ h_ => h_.1))) hb); replace AA := Z.m (Kd.Rb (by refine rK ?_; exact (Kd.Rm (rf (rf (rf (Kd.Ry AA.o A4.o (by decide))))) (fun _ h_ => h_.1))) hb); replace AQ := Z.m (Kd.Rb (by refine rK ?_; exact (Kd.Rm (rf (rf (rf (Kd.Ry AQ.o A4.o (by decide))))) (fun _ h_ => h_.1))) hb); replace AN := Z.m (Kd.Rb (by refine rK ?_; exact (Kd.Rm (rf (rf (rf (Kd.Ry AN.o A4.o (by decide))))) (fun _ h_ => h_.1))) hb); replace B3 := Z.m (Kd.Rb (by refine rK ?_; exact (Kd.Rm (rf (rf (rf (Kd.Ry B3.o A4.o (by decide))))) (fun _ h_ => h_.1))) hb); replace A2 := Z.m (qb (g := AS) (o := .cells #[.int .i64 a0_0, .int .i64 a0_1, .slice A0_2 l0_2.length c0_2] 24 (0, 0)) (by refine bK ?_; (iterate 3 refine qF ?_ AJ); exact A2.o) hb); replace A7 := Z.m (qb (g := Bq) (o := .cells #[.int .i64 Af, .int .i64 Ag, .slice AP A9.length AR] 32 (0, 0)) (by refine bK ?_; (iterate 3 refine qF ?_ AC); exact A7.o) hb); replace A8 := Z.m (qb (g := Bg) (o := .cells #[.int .i64 Ao, .int .i64 Ap, .slice AE Am.length AF] 32 (0, 0)) (by refine bK ?_; (iterate 3 refine qF ?_ AD); exact A8.o) hb); replace A4 := Z.m (qb (g := Bx) (o := .cells #[.int .i64 Aa, .int .i64 Ab, .slice AH Ac.length AK] 32 (0, 0)) (by refine bK ?_; apply st3; refine bK ?_; exact A4.o) hb); replace HB := bB HB hb; (try clear hb); (try clear BQ); (try clear hk); (try clear hi); have Hf := Bd.o; have Ht := AJ.o; have Hg := AV.o; have Hu := AC.o; have Hh := AW.o; have Hv := AD.o; have Fo := bc0 A4; have Fp := bc1 A4; have Fq := bc2 A4; have Fu := qz A4.o 0; have Fv := qz A4.o 1; have Fw := qz A4.o 2; have Hi := Bb.o; have Hw := AT.o; have Hj := AU.o; have Hx := Bc.o; have Fr := bc0 A7; have Fs := bc1 A7; have Ft := bc2 A7; have Fx := qz A7.o 0; have Fy := qz A7.o 1; have Fz := qz A7.o 2) | (go_at_call 18; (with_reducible refine (laws_eqBoard.calls k Aa Ab _ _ Ac Af Ag _ _ A9 true _ ?side1 ?side2 ?side3 ?side4 HV.o).mono ?_); (case side1 => repeat (first | exact (Kd.RrZ B3.o).2.2 | (with_reducible refine Kd.C_alloc ?_ _) | (with_reducible refine Kd.C_drewN ?_ _) | (with_reducible refine Kd.C_drew ?_))); (case side2 => exact (Kd.RrZ B3.o).2.1); (case side3 => repeat (first | exact (Kd.RrZ Ax.o).2.2 | (with_reducible refine Kd.C_alloc ?_ _) | (with_reducible refine Kd.C_drewN ?_ _) | (with_reducible refine Kd.C_drew ?_))); (case side4 => exact (Kd.RrZ Ax.o).2.1); rintro e Jt ⟨rfl, hb⟩; replace At := Z.m (Kd.Rb (vR At) hb); replace Az := Z.m (Kd.Rb (vR Az) hb); replace Av := Z.m (Kd.Rb (vR Av) hb); replace Ax := Z.m (Kd.Rb (vR Ax) hb); replace AA := Z.m (Kd.Rb (vR AA) hb); replace AQ := Z.m (Kd.Rb (vR AQ) hb); replace AN := Z.m (Kd.Rb (vR AN) hb); replace B3 := Z.m (Kd.Rb (vR B3) hb); replace A2 := kB A2 hb; replace A7 := kB A7 hb; replace A8 := kB A8 hb; replace A4 := kB A4 hb; replace HB := bB HB hb; (try clear hb); (try clear BQ); (try clear hk); (try clear hi)))
      go_meet
      case rel => exact ⟨_, ((Aw != Ah)), (by first | rfl | (simp; done) | (simp [*]; done)), H', ⟨by first | omega | exact Nat.le_refl _⟩, ⟨by refine rK ?_; exact Kd.Rm Av.o (fun _ hk => hk.2)⟩, ⟨by refine rK ?_; exact Kd.Rm AQ.o (fun _ hk => trivial)⟩, ⟨by refine rK ?_; exact Kd.Rm AN.o (fun _ hk => hk.2)⟩, ⟨by refine rK ?_; exact Kd.Rm Ax.o (fun _ hk => ⟨hk.1.2, hk.2⟩)⟩, ⟨by refine rK ?_; exact Kd.Rm AA.o (fun _ hk => ⟨hk.1.2, hk.2⟩)⟩, ⟨by refine rK ?_; exact Kd.Rm B3.o (fun _ hk => ⟨hk.1.2, hk.2⟩)⟩, ⟨vK A2⟩, ⟨vK A7⟩, ⟨vK A8⟩, ⟨vK A4⟩, ⟨vB HB⟩⟩
     ·(rw [if_neg c50] at H; exact absurd H (laws_FnExactFallsOf.bad_j0 _ _ _ _ _ _ _ _ _ _ _ _ _ _ _ _ _ _ _))
    ·replace c48 := Bool.eq_false_iff.mpr c48
     subst c48
     have H1 : (laws_FnExactFallsOf.j0 k l1 Ae Ah Ak Ai Aw true a0_0 a0_1 l0_2 Af Ag A9 Ao Ap Am Aa Ab Ac) = some true := by rw [if_neg (show ¬ (false = true) by decide)] at H; exact H
     clear H
     have H := H1
     clear H1
     have H' := Z.m H
     clear H
     obtain ⟨Et, E8, FZ⟩ := Kd.R_slice AN.o
     subst FZ
     obtain ⟨Eu, E9, G0⟩ := Kd.R_slice Av.o
     subst G0
     go_wp2_with (first | ((with_reducible refine gc (f := 46) rfl ?_); refine gA (some 50) _ #[.slice Et Ai.length E8, .slice Eu Ae.length E9] ?_ Try.func46; (with_reducible refine (laws_eqFallS.calls k _ _ Ai _ _ Ae false _ ?side1 ?side2 ?side3 ?side4 GW.o).mono ?_); (case side1 => refine (Kd.RrZ (e := 27) (base := w.heap.size) (ok := fun k_ => (True ∧ some k_ ≠ (.slice Eu Ae.length E9 : Value).ownBlock)) (n := Ai.length) (c := E8) ?_).2.2; exact (by refine rK ?_; exact (Kd.Rm (rf (rf (rf (Kd.Ry AN.o A4.o (by decide))))) (fun _ h_ => h_.1)))); (case side2 => exact (Kd.RrZ AN.o).2.1); (case side3 => refine (Kd.RrZ (e := 27) (base := w.heap.size) (ok := fun k_ => (True ∧ some k_ ≠ (.slice Et Ai.length E8 : Value).ownBlock)) (n := Ae.length) (c := E9) ?_).2.2; exact (by refine rK ?_; exact (Kd.Rm (rf (rf (rf (Kd.Ry Av.o A4.o (by decide))))) (fun _ h_ => h_.1)))); (case side4 => exact (Kd.RrZ Av.o).2.1); rintro e Ju ⟨rfl, hb⟩; refine ⟨_, rfl, ?_⟩; replace At := Z.m (Kd.Rb (by refine rK ?_; exact (Kd.Rm (rf (rf (rf (Kd.Ry At.o A4.o (by decide))))) (fun _ h_ => h_.1))) hb); replace Az := Z.m (Kd.Rb (by refine rK ?_; exact (Kd.Rm (rf (rf (rf (Kd.Ry Az.o A4.o (by decide))))) (fun _ h_ => h_.1))) hb); replace Av := Z.m (Kd.Rb (by refine rK ?_; exact (Kd.Rm (rf (rf (rf (Kd.Ry Av.o A4.o (by decide))))) (fun _ h_ => h_.1))) hb); replace Ax := Z.m (Kd.Rb (by refine rK ?_; exact (Kd.Rm (rf (rf (rf (Kd.Ry Ax.o A4.o (by decide))))) (fun _ h_ => h_.1))) hb); replace AA := Z.m (Kd.Rb (by refine rK ?_; exact (Kd.Rm (rf (rf (rf (Kd.Ry AA.o A4.o (by decide))))) (fun _ h_ => h_.1))) hb); replace AQ := Z.m (Kd.Rb (by refine rK ?_; exact (Kd.Rm (rf (rf (rf (Kd.Ry AQ.o A4.o (by decide))))) (fun _ h_ => h_.1))) hb); replace AN := Z.m (Kd.Rb (by refine rK ?_; exact (Kd.Rm (rf (rf (rf (Kd.Ry AN.o A4.o (by decide))))) (fun _ h_ => h_.1))) hb); replace B3 := Z.m (Kd.Rb (by refine rK ?_; exact (Kd.Rm (rf (rf (rf (Kd.Ry B3.o A4.o (by decide))))) (fun _ h_ => h_.1))) hb); replace A2 := Z.m (qb (g := AS) (o := .cells #[.int .i64 a0_0, .int .i64 a0_1, .slice A0_2 l0_2.length c0_2] 24 (0, 0)) (by refine bK ?_; (iterate 3 refine qF ?_ AJ); exact A2.o) hb); replace A7 := Z.m (qb (g := Bq) (o := .cells #[.int .i64 Af, .int .i64 Ag, .slice AP A9.length AR] 32 (0, 0)) (by refine bK ?_; (iterate 3 refine qF ?_ AC); exact A7.o) hb); replace A8 := Z.m (qb (g := Bg) (o := .cells #[.int .i64 Ao, .int .i64 Ap, .slice AE Am.length AF] 32 (0, 0)) (by refine bK ?_; (iterate 3 refine qF ?_ AD); exact A8.o) hb); replace A4 := Z.m (qb (g := Bx) (o := .cells #[.int .i64 Aa, .int .i64 Ab, .slice AH Ac.length AK] 32 (0, 0)) (by refine bK ?_; apply st3; refine bK ?_; exact A4.o) hb); replace HB := bB HB hb; (try clear hb); (try clear BQ); (try clear hk); (try clear hi)))
     go_meet
     case rel => exact ⟨_, (true), (by first | rfl | (simp; done) | (simp [*]; done)), H', ⟨by first | omega | exact Nat.le_refl _⟩, ⟨by refine rK ?_; exact Kd.Rm Av.o (fun _ hk => hk.2)⟩, ⟨by refine rK ?_; exact Kd.Rm AQ.o (fun _ hk => trivial)⟩, ⟨by refine rK ?_; exact Kd.Rm AN.o (fun _ hk => hk.2)⟩, ⟨by refine rK ?_; exact Kd.Rm Ax.o (fun _ hk => ⟨hk.1.2, hk.2⟩)⟩, ⟨by refine rK ?_; exact Kd.Rm AA.o (fun _ hk => ⟨hk.1.2, hk.2⟩)⟩, ⟨by refine rK ?_; exact Kd.Rm B3.o (fun _ hk => ⟨hk.1.2, hk.2⟩)⟩, ⟨vK A2⟩, ⟨vK A7⟩, ⟨vK A8⟩, ⟨vK A4⟩, ⟨vB HB⟩⟩
   case rest =>
    clear E2
    (try clear Ey); (try clear Ez); (try clear EA)
    (try clear CW); (try clear CX); (try clear CY); (try clear CZ); (try clear D0); (try clear D1); (try clear D2); (try clear D3)
    (try clear D4); (try clear D5); (try clear D6); (try clear D7); (try clear D8); (try clear D9); (try clear Da); (try clear Db)
    (try clear Dc); (try clear Dd); (try clear De); (try clear Df); (try clear Dg); (try clear Dk); (try clear Dl); (try clear Dm)
    (try clear Dn); (try clear Do); (try clear Dp); (try clear Dq); (try clear Dr); (try clear Ds); (try clear Dt); (try clear Du)
    (try clear Dv); (try clear Dw); (try clear Dx); (try clear Dy); (try clear Dz); (try clear DA); (try clear DB); (try clear DC)
    (try clear DD); (try clear DE)
    obtain ⟨kq, BZ, rfl, HA, Cn, As, Ay, Aj, A6, A3, A0, A2, A7, A8, A4, HB⟩ := hcut
    cases kq with
    | zero => exact absurd HA.o (by simp [laws_FnExactFallsOf.j0])
    | succ kj15 =>
     have H := HA.o
     clear HA
     simp only [laws_FnExactFallsOf.j0] at H
     by_cases c76 : BZ = true
     ·(rw [if_pos c76] at H; exact absurd H (by decide))
     ·replace c76 := Bool.eq_false_iff.mpr c76
      subst c76
      have H1 : ((laws_toBoard.f kj15 a0_0 a0_1 l0_2).bind fun bt1120 => ((laws_eqBoard.f kj15 Ao Ap Am bt1120.1 bt1120.2.1 bt1120.2.2).bind fun BU => (if BU = true then ((laws_toIntS.f kj15 l1).bind fun Br => ((laws_eqIntS.f kj15 Ak Br).bind fun Bu => (if Bu = true then ((laws_markBoard.f kj15 Ao Ap Am 1).bind fun bt1130 => ((laws_markIntS.f kj15 Ak bt1130.1).bind fun bt1132 => (if bt1132.1 < 0 then (laws_FnExactFallsOf.j1 kj15 l1 Ae Ah Ai true a0_0 a0_1 l0_2 Af Ag A9 Aa Ab Ac) else ((laws_eqFallS.f kj15 Ai Ae).bind fun AX => (if AX = true then ((laws_eqBoard.f kj15 Aa Ab Ac Af Ag A9).bind fun AG => (if AG = true then (laws_FnExactFallsOf.j1 kj15 l1 Ae Ah Ai (Aw != Ah) a0_0 a0_1 l0_2 Af Ag A9 Aa Ab Ac) else (laws_FnExactFallsOf.j1 kj15 l1 Ae Ah Ai true a0_0 a0_1 l0_2 Af Ag A9 Aa Ab Ac))) else (laws_FnExactFallsOf.j1 kj15 l1 Ae Ah Ai true a0_0 a0_1 l0_2 Af Ag A9 Aa Ab Ac)))))) else (some false)))) else (some false)))) = some true := by rw [if_neg (show ¬ (false = true) by decide)] at H; exact H
      clear H
      have H := H1
      clear H1
      replace H := Option.bind_eq_some_iff.mp H
      obtain ⟨⟨Cf, Cg, BB⟩, Eh, H⟩ := H
      replace H : ((laws_eqBoard.f kj15 Ao Ap Am Cf Cg BB).bind fun BU => (if BU = true then ((laws_toIntS.f kj15 l1).bind fun Br => ((laws_eqIntS.f kj15 Ak Br).bind fun Bu => (if Bu = true then ((laws_markBoard.f kj15 Ao Ap Am 1).bind fun bt1130 => ((laws_markIntS.f kj15 Ak bt1130.1).bind fun bt1132 => (if bt1132.1 < 0 then (laws_FnExactFallsOf.j1 kj15 l1 Ae Ah Ai true a0_0 a0_1 l0_2 Af Ag A9 Aa Ab Ac) else ((laws_eqFallS.f kj15 Ai Ae).bind fun AX => (if AX = true then ((laws_eqBoard.f kj15 Aa Ab Ac Af Ag A9).bind fun AG => (if AG = true then (laws_FnExactFallsOf.j1 kj15 l1 Ae Ah Ai (Aw != Ah) a0_0 a0_1 l0_2 Af Ag A9 Aa Ab Ac) else (laws_FnExactFallsOf.j1 kj15 l1 Ae Ah Ai true a0_0 a0_1 l0_2 Af Ag A9 Aa Ab Ac))) else (laws_FnExactFallsOf.j1 kj15 l1 Ae Ah Ai true a0_0 a0_1 l0_2 Af Ag A9 Aa Ab Ac)))))) else (some false)))) else (some false))) = some true := H
      have HW := Z.m Eh
      clear Eh
      replace H := Option.bind_eq_some_iff.mp H
      obtain ⟨BU, Ei, H⟩ := H
      replace H : (if BU = true then ((laws_toIntS.f kj15 l1).bind fun Br => ((laws_eqIntS.f kj15 Ak Br).bind fun Bu => (if Bu = true then ((laws_markBoard.f kj15 Ao Ap Am 1).bind fun bt1130 => ((laws_markIntS.f kj15 Ak bt1130.1).bind fun bt1132 => (if bt1132.1 < 0 then (laws_FnExactFallsOf.j1 kj15 l1 Ae Ah Ai true a0_0 a0_1 l0_2 Af Ag A9 Aa Ab Ac) else ((laws_eqFallS.f kj15 Ai Ae).bind fun AX => (if AX = true then ((laws_eqBoard.f kj15 Aa Ab Ac Af Ag A9).bind fun AG => (if AG = true then (laws_FnExactFallsOf.j1 kj15 l1 Ae Ah Ai (Aw != Ah) a0_0 a0_1 l0_2 Af Ag A9 Aa Ab Ac) else (laws_FnExactFallsOf.j1 kj15 l1 Ae Ah Ai true a0_0 a0_1 l0_2 Af Ag A9 Aa Ab Ac))) else (laws_FnExactFallsOf.j1 kj15 l1 Ae Ah Ai true a0_0 a0_1 l0_2 Af Ag A9 Aa Ab Ac)))))) else (some false)))) else (some false)) = some true := H
      have HX := Z.m Ei
      clear Ei
      by_cases c79 : BU = true
      ·subst c79
       have H1 : ((laws_toIntS.f kj15 l1).bind fun Br => ((laws_eqIntS.f kj15 Ak Br).bind fun Bu => (if Bu = true then ((laws_markBoard.f kj15 Ao Ap Am 1).bind fun bt1130 => ((laws_markIntS.f kj15 Ak bt1130.1).bind fun bt1132 => (if bt1132.1 < 0 then (laws_FnExactFallsOf.j1 kj15 l1 Ae Ah Ai true a0_0 a0_1 l0_2 Af Ag A9 Aa Ab Ac) else ((laws_eqFallS.f kj15 Ai Ae).bind fun AX => (if AX = true then ((laws_eqBoard.f kj15 Aa Ab Ac Af Ag A9).bind fun AG => (if AG = true then (laws_FnExactFallsOf.j1 kj15 l1 Ae Ah Ai (Aw != Ah) a0_0 a0_1 l0_2 Af Ag A9 Aa Ab Ac) else (laws_FnExactFallsOf.j1 kj15 l1 Ae Ah Ai true a0_0 a0_1 l0_2 Af Ag A9 Aa Ab Ac))) else (laws_FnExactFallsOf.j1 kj15 l1 Ae Ah Ai true a0_0 a0_1 l0_2 Af Ag A9 Aa Ab Ac)))))) else (some false)))) = some true := by rw [if_pos rfl] at H; exact H
       clear H
       have H := H1
       clear H1
       replace H := Option.bind_eq_some_iff.mp H
       obtain ⟨Br, Ej, H⟩ := H
       replace H : ((laws_eqIntS.f kj15 Ak Br).bind fun Bu => (if Bu = true then ((laws_markBoard.f kj15 Ao Ap Am 1).bind fun bt1130 => ((laws_markIntS.f kj15 Ak bt1130.1).bind fun bt1132 => (if bt1132.1 < 0 then (laws_FnExactFallsOf.j1 kj15 l1 Ae Ah Ai true a0_0 a0_1 l0_2 Af Ag A9 Aa Ab Ac) else ((laws_eqFallS.f kj15 Ai Ae).bind fun AX => (if AX = true then ((laws_eqBoard.f kj15 Aa Ab Ac Af Ag A9).bind fun AG => (if AG = true then (laws_FnExactFallsOf.j1 kj15 l1 Ae Ah Ai (Aw != Ah) a0_0 a0_1 l0_2 Af Ag A9 Aa Ab Ac) else (laws_FnExactFallsOf.j1 kj15 l1 Ae Ah Ai true a0_0 a0_1 l0_2 Af Ag A9 Aa Ab Ac))) else (laws_FnExactFallsOf.j1 kj15 l1 Ae Ah Ai true a0_0 a0_1 l0_2 Af Ag A9 Aa Ab Ac)))))) else (some false))) = some true := H
       have HY := Z.m Ej
       clear Ej
       replace H := Option.bind_eq_some_iff.mp H
       obtain ⟨Bu, Ek, H⟩ := H
       replace H : (if Bu = true then ((laws_markBoard.f kj15 Ao Ap Am 1).bind fun bt1130 => ((laws_markIntS.f kj15 Ak bt1130.1).bind fun bt1132 => (if bt1132.1 < 0 then (laws_FnExactFallsOf.j1 kj15 l1 Ae Ah Ai true a0_0 a0_1 l0_2 Af Ag A9 Aa Ab Ac) else ((laws_eqFallS.f kj15 Ai Ae).bind fun AX => (if AX = true then ((laws_eqBoard.f kj15 Aa Ab Ac Af Ag A9).bind fun AG => (if AG = true then (laws_FnExactFallsOf.j1 kj15 l1 Ae Ah Ai (Aw != Ah) a0_0 a0_1 l0_2 Af Ag A9 Aa Ab Ac) else (laws_FnExactFallsOf.j1 kj15 l1 Ae Ah Ai true a0_0 a0_1 l0_2 Af Ag A9 Aa Ab Ac))) else (laws_FnExactFallsOf.j1 kj15 l1 Ae Ah Ai true a0_0 a0_1 l0_2 Af Ag A9 Aa Ab Ac)))))) else (some false)) = some true := H
       have HZ := Z.m Ek
       clear Ek
       by_cases c82 : Bu = true
       ·subst c82
        have H1 : ((laws_markBoard.f kj15 Ao Ap Am 1).bind fun bt1130 => ((laws_markIntS.f kj15 Ak bt1130.1).bind fun bt1132 => (if bt1132.1 < 0 then (laws_FnExactFallsOf.j1 kj15 l1 Ae Ah Ai true a0_0 a0_1 l0_2 Af Ag A9 Aa Ab Ac) else ((laws_eqFallS.f kj15 Ai Ae).bind fun AX => (if AX = true then ((laws_eqBoard.f kj15 Aa Ab Ac Af Ag A9).bind fun AG => (if AG = true then (laws_FnExactFallsOf.j1 kj15 l1 Ae Ah Ai (Aw != Ah) a0_0 a0_1 l0_2 Af Ag A9 Aa Ab Ac) else (laws_FnExactFallsOf.j1 kj15 l1 Ae Ah Ai true a0_0 a0_1 l0_2 Af Ag A9 Aa Ab Ac))) else (laws_FnExactFallsOf.j1 kj15 l1 Ae Ah Ai true a0_0 a0_1 l0_2 Af Ag A9 Aa Ab Ac)))))) = some true := by rw [if_pos rfl] at H; exact H
        clear H
        have H := H1
        clear H1
        replace H := Option.bind_eq_some_iff.mp H
        obtain ⟨⟨Ch, B0⟩, El, H⟩ := H
        replace H : ((laws_markIntS.f kj15 Ak Ch).bind fun bt1132 => (if bt1132.1 < 0 then (laws_FnExactFallsOf.j1 kj15 l1 Ae Ah Ai true a0_0 a0_1 l0_2 Af Ag A9 Aa Ab Ac) else ((laws_eqFallS.f kj15 Ai Ae).bind fun AX => (if AX = true then ((laws_eqBoard.f kj15 Aa Ab Ac Af Ag A9).bind fun AG => (if AG = true then (laws_FnExactFallsOf.j1 kj15 l1 Ae Ah Ai (Aw != Ah) a0_0 a0_1 l0_2 Af Ag A9 Aa Ab Ac) else (laws_FnExactFallsOf.j1 kj15 l1 Ae Ah Ai true a0_0 a0_1 l0_2 Af Ag A9 Aa Ab Ac))) else (laws_FnExactFallsOf.j1 kj15 l1 Ae Ah Ai true a0_0 a0_1 l0_2 Af Ag A9 Aa Ab Ac))))) = some true := H
        have J0 := Z.m El
        clear El
        replace H := Option.bind_eq_some_iff.mp H
        obtain ⟨⟨CT, Fl⟩, Em, H⟩ := H
        replace H : (if CT < 0 then (laws_FnExactFallsOf.j1 kj15 l1 Ae Ah Ai true a0_0 a0_1 l0_2 Af Ag A9 Aa Ab Ac) else ((laws_eqFallS.f kj15 Ai Ae).bind fun AX => (if AX = true then ((laws_eqBoard.f kj15 Aa Ab Ac Af Ag A9).bind fun AG => (if AG = true then (laws_FnExactFallsOf.j1 kj15 l1 Ae Ah Ai (Aw != Ah) a0_0 a0_1 l0_2 Af Ag A9 Aa Ab Ac) else (laws_FnExactFallsOf.j1 kj15 l1 Ae Ah Ai true a0_0 a0_1 l0_2 Af Ag A9 Aa Ab Ac))) else (laws_FnExactFallsOf.j1 kj15 l1 Ae Ah Ai true a0_0 a0_1 l0_2 Af Ag A9 Aa Ab Ac)))) = some true := H
        have J1 := Z.m Em
        clear Em
        have E3 := Z.m H
        clear H
        try go_wp2
        replace As := Z.m (Kd.R_drew As.o)
        replace Ay := Z.m (Kd.R_drew Ay.o)
        replace Aj := Z.m (Kd.R_drew Aj.o)
        replace A6 := Z.m (Kd.R_drew A6.o)
        replace A3 := Z.m (Kd.R_drew A3.o)
        replace A0 := Z.m (Kd.R_drew A0.o)
        replace A2 := Z.m (blk_drew A2.o)
        replace A7 := Z.m (blk_drew A7.o)
        replace A8 := Z.m (blk_drew A8.o)
        replace A4 := Z.m (blk_drew A4.o)
        replace HB := Z.m (qd HB.o)
        refine start_ (n := 5) (S := fun w' => w'.cell? ⟨Bg, 0, none⟩ = some (.int .i64 Ao) ∧ w'.cell? ⟨Bg, 1, none⟩ = some (.int .i64 Ap) ∧ w'.cell? ⟨Bg, 2, none⟩ = some (.slice AE Am.length AF) ∧ w'.cell? ⟨AS, 0, none⟩ = some (.int .i64 a0_0) ∧ w'.cell? ⟨AS, 1, none⟩ = some (.int .i64 a0_1) ∧ w'.cell? ⟨AS, 2, none⟩ = some (.slice A0_2 l0_2.length c0_2)) (ds := []) #[false, false, false, false, false] (by kernel_rfl) rfl rfl ⟨(ql A8.o 0).trans rfl, (ql A8.o 1).trans rfl, (ql A8.o 2).trans rfl, (ql A2.o 0).trans rfl, (ql A2.o 1).trans rfl, (ql A2.o 2).trans rfl⟩ (fun hHeld => ?_)
        generalize wc.drew = Jv at As Ay Aj A6 A3 A0 A2 A7 A8 A4 HB hHeld ⊢
        refine take_ (i := 0) (N := some 63) (v := ?_) (a' := ?_) #[true, false, false, false, false] rfl rfl (by kernel_rfl) (fun _ _ _ h => h) (Or.inl ⟨by rfl, ?_⟩) hHeld ?_ ?_
        rotate_left
        ·rintro w' ⟨s0, s1, s2, s3, s4, s5⟩
         go_simp
         with_reducible rfl
        rotate_left
        ·simp only [Act.put, q1, q2, q3, i64_w, i32_w]
         rfl
        refine take_ (i := 1) (N := some 64) (v := ?_) (a' := ?_) #[true, true, false, false, false] rfl rfl (by kernel_rfl) (fun _ _ _ h => h) (Or.inl ⟨by rfl, ?_⟩) hHeld ?_ ?_
        rotate_left
        ·rintro w' ⟨s0, s1, s2, s3, s4, s5⟩
         go_simp
         with_reducible rfl
        rotate_left
        ·simp only [Act.put, q1, q2, q3, i64_w, i32_w]
         rfl
        refine one_ (i := 2) (N := some 65) #[true, true, true, false, false] rfl rfl (by kernel_rfl) (by decide) (fun K hK => ?_)
        refine goes_ Try.func15 (by kernel_rfl) rfl #[.agg #[.int .i64 a0_0, .int .i64 a0_1, .slice A0_2 l0_2.length c0_2]] (by rfl) rfl rfl (by (try simp only [List.map_toArray, List.map_cons, List.map_nil]); first | done | rfl | (simp only [List.length_drop, List.length_take]; rfl)) ?_
        with_reducible refine (laws_toBoard.calls kj15 a0_0 a0_1 _ _ l0_2 Cf Cg BB _ ?side1 ?side2 HW.o).mono ?_
        (case side1 => repeat (first | exact (Kd.C_below BS.o HB.o) | (with_reducible refine Kd.C_alloc ?_ _) | (with_reducible refine Kd.C_drewN ?_ _) | (with_reducible refine Kd.C_drew ?_)))
        (case side2 => exact BR.o)
        rintro e Jw ⟨HJ, rfl, Bj, hb⟩
        refine ⟨_, rfl, ?_⟩
        have AI := Z.m (Kd.R_lower (Kd.R_new' (Kd.R_new' (Kd.R_new' Bj (Kd.R_lt (vR A6))) (Kd.R_lt (vR A3))) (Kd.R_lt (vR A0))) (below_size (vB HB)))
        replace As := Z.m (Kd.Rb (vR As) hb)
        replace Ay := Z.m (Kd.Rb (vR Ay) hb)
        replace Aj := Z.m (Kd.Rb (vR Aj) hb)
        replace A6 := Z.m (Kd.R_elder' (vR A6) (Kd.R_base Bj) hb)
        replace A3 := Z.m (Kd.R_elder' (vR A3) (Kd.R_base Bj) hb)
        replace A0 := Z.m (Kd.R_elder' (vR A0) (Kd.R_base Bj) hb)
        replace A2 := kB A2 hb
        replace A7 := kB A7 hb
        replace A8 := kB A8 hb
        replace A4 := kB A4 hb
        replace HB := bB HB hb
        (try clear hb); (try clear Bj)
        obtain ⟨Cj, Cl, EQ⟩ := Kd.R_slice AI.o
        (first | subst EQ | (injection EQ with f1_ f2_ f3_; have f4_ := f1_.symm; have f5_ := f3_.symm; clear f1_ f2_ f3_; subst f4_; subst f5_))
        refine hK.out _ _ ⟨(ql A8.o 0).trans rfl, (ql A8.o 1).trans rfl, (ql A8.o 2).trans rfl, (ql A2.o 0).trans rfl, (ql A2.o 1).trans rfl, (ql A2.o 2).trans rfl⟩ (fun hHeld => ?_)
        clear hK K
        refine norm_ (a' := ?_) ?_ ?_
        rotate_left
        ·show Act.put _ (some 65) _ = _
         simp only [Act.put, q1, q2, q3, i64_w, i32_w]
         rfl
        refine one_ (i := 3) (N := some 66) #[true, true, true, true, false] rfl rfl (by kernel_rfl) (by decide) (fun K hK => ?_)
        refine goes_ Try.func18 (by kernel_rfl) rfl #[.agg #[.int .i64 Ao, .int .i64 Ap, .slice AE Am.length AF], .agg #[.int .i64 Cf, .int .i64 Cg, .slice Cj BB.length Cl]] (by rfl) rfl rfl (by (try simp only [List.map_toArray, List.map_cons, List.map_nil]); first | done | rfl | (simp only [List.length_drop, List.length_take]; rfl)) ?_
        with_reducible refine (laws_eqBoard.calls kj15 Ao Ap _ _ Am Cf Cg _ _ BB true _ ?side1 ?side2 ?side3 ?side4 HX.o).mono ?_
        (case side1 => repeat (first | exact (Kd.RrZ A3.o).2.2 | (with_reducible refine Kd.C_alloc ?_ _) | (with_reducible refine Kd.C_drewN ?_ _) | (with_reducible refine Kd.C_drew ?_)))
        (case side2 => exact (Kd.RrZ A3.o).2.1)
        (case side3 => repeat (first | exact (Kd.RrZ AI.o).2.2 | (with_reducible refine Kd.C_alloc ?_ _) | (with_reducible refine Kd.C_drewN ?_ _) | (with_reducible refine Kd.C_drew ?_)))
        (case side4 => exact (Kd.RrZ AI.o).2.1)
        rintro e Jx ⟨rfl, hb⟩
        refine ⟨_, rfl, ?_⟩
        replace As := Z.m (Kd.Rb (vR As) hb)
        replace Ay := Z.m (Kd.Rb (vR Ay) hb)
        replace Aj := Z.m (Kd.Rb (vR Aj) hb)
        replace A6 := Z.m (Kd.Rb (vR A6) hb)
        replace A3 := Z.m (Kd.Rb (vR A3) hb)
        replace A0 := Z.m (Kd.Rb (vR A0) hb)
        replace AI := Z.m (Kd.Rb (vR AI) hb)
        replace A2 := kB A2 hb
        replace A7 := kB A7 hb
        replace A8 := kB A8 hb
        replace A4 := kB A4 hb
        replace HB := bB HB hb
        (try clear hb)
        refine hK.out _ _ ⟨(ql A8.o 0).trans rfl, (ql A8.o 1).trans rfl, (ql A8.o 2).trans rfl, (ql A2.o 0).trans rfl, (ql A2.o 1).trans rfl, (ql A2.o 2).trans rfl⟩ (fun hHeld => ?_)
        clear hK K
        refine norm_ (a' := ?_) ?_ ?_
        rotate_left
        ·show Act.put _ (some 66) _ = _
         simp only [Act.put, q1, q2, q3, i64_w, i32_w]
         rfl
        refine pure_ (i := 4) (N := some 67) (v := ?_) (a' := ?_) #[true, true, true, true, true] rfl rfl (by kernel_rfl) (fun _ _ _ h => h) (Or.inl ⟨by rfl, ?_⟩) ?_ ?_
        rotate_left
        ·intro w'
         go_simp
         with_reducible rfl
        rotate_left
        ·simp only [Act.put, q1, q2, q3, i64_w, i32_w]
         rfl
        refine done_ (by kernel_rfl) ?_
        go_upto_region 20 with (first | ((with_reducible refine gc (f := 33) rfl ?_); refine gA (some 70) _ #[.slice A1 l1.length c1] ?_ Try.func33; (with_reducible refine (laws_toIntS.calls kj15 _ _ l1 Br _ ?side1 ?side2 HY.o).mono ?_); (case side1 => repeat (first | exact (Kd.C_below Fn.o HB.o) | (with_reducible refine Kd.C_alloc ?_ _) | (with_reducible refine Kd.C_drewN ?_ _) | (with_reducible refine Kd.C_drew ?_))); (case side2 => exact Fm.o); rintro e Jy ⟨HK, rfl, Bj, hb⟩; refine ⟨_, rfl, ?_⟩; have B7 := Z.m (Kd.R_lower (Kd.R_new' Bj (Kd.R_lt (vR Ay))) (below_size (vB HB))); replace As := Z.m (Kd.Rb (vR As) hb); replace Ay := Z.m (Kd.R_elder' (vR Ay) (Kd.R_base Bj) hb); replace Aj := Z.m (Kd.Rb (vR Aj) hb); replace A6 := Z.m (Kd.Rb (vR A6) hb); replace A3 := Z.m (Kd.Rb (vR A3) hb); replace A0 := Z.m (Kd.Rb (vR A0) hb); replace AI := Z.m (Kd.Rb (vR AI) hb); replace A2 := kB A2 hb; replace A7 := kB A7 hb; replace A8 := kB A8 hb; replace A4 := kB A4 hb; replace HB := bB HB hb; (try clear hb); (try clear BQ); (try clear hk); (try clear hi); (try clear Bj); obtain ⟨Ew, ED, G1⟩ := Kd.R_slice B7.o; subst G1) | ((with_reducible refine gc (f := 27) rfl ?_); refine gA (some 71) _ #[.slice C1 Ak.length C3, .slice Ew Br.length ED] ?_ Try.func27; (with_reducible refine (laws_eqIntS.calls kj15 _ _ Ak _ _ Br true _ ?side1 ?side2 ?side3 ?side4 HZ.o).mono ?_); (case side1 => repeat (first | exact (Kd.RrZ Ay.o).2.2 | (with_reducible refine Kd.C_alloc ?_ _) | (with_reducible refine Kd.C_drewN ?_ _) | (with_reducible refine Kd.C_drew ?_))); (case side2 => exact (Kd.RrZ Ay.o).2.1); (case side3 => repeat (first | exact (Kd.RrZ B7.o).2.2 | (with_reducible refine Kd.C_alloc ?_ _) | (with_reducible refine Kd.C_drewN ?_ _) | (with_reducible refine Kd.C_drew ?_))); (case side4 => exact (Kd.RrZ B7.o).2.1); rintro e w' ⟨rfl, ⟨nd, rfl⟩⟩; refine ⟨_, rfl, ?_⟩; have Hk := Bv.o; have Hy := Bl.o; have Hl := Bc.o; have Hz := AU.o; have Hm := AD.o; have HC := AW.o; have Dh := bc0 A8; have Di := bc1 A8; have Dj := bc2 A8; have DF := qz A8.o 0; have DG := qz A8.o 1; have DH := qz A8.o 2) | ((with_reducible refine gc (f := 23) rfl ?_); refine gA (some 75) _ #[.agg #[.int .i64 Ao, .int .i64 Ap, .slice AE Am.length AF], .int .i64 1] ?_ Try.func23; (with_reducible refine (laws_markBoard.calls kj15 Ao Ap (fun k_ => some k_ = (.slice AE Am.length AF : Value).ownBlock) (.slice AE Am.length AF) Am 1 Ch B0 w _ ?side1 ?side2 J0.o).mono ?_); (case side1 => repeat (first | (with_reducible first | exact HB.o | apply qa | apply qn | apply qd | refine qx ?_ BF.o | refine qx ?_ BW.o | refine qx ?_ BX.o | refine qx ?_ BY.o) | exact HB.o)); (case side2 => exact Kd.Rg rfl A3.o); rintro e Jz ⟨rfl, CS, hb, hkp⟩; refine ⟨_, rfl, ?_⟩; replace As := Z.m (Kd.Rm (ok' := fun k_ => some k_ ≠ (BV : Value).ownBlock) (Kd.Rk ((Kd.Ra As.o (Kd.Rt A3.o) (by decide))) hkp (fun k_ hk_ hs_ => (hk_.2) hs_)) (fun k_ hk_ => hk_.1.1)); replace Ay := Z.m (Kd.Rm (ok' := fun k_ => some k_ ≠ (.slice Ew Br.length ED : Value).ownBlock) (Kd.Rk ((Kd.Ra Ay.o (Kd.Rt A3.o) (by decide))) hkp (fun k_ hk_ hs_ => (hk_.2) hs_)) (fun k_ hk_ => hk_.1.1.2)); replace Aj := Z.m (Kd.Rm (ok' := fun k_ => some k_ ≠ (BD : Value).ownBlock) (Kd.Rk ((Kd.Ra Aj.o (Kd.Rt A3.o) (by decide))) hkp (fun k_ hk_ hs_ => (hk_.2) hs_)) (fun k_ hk_ => hk_.1.1)); replace A6 := Z.m (Kd.Rm (ok' := fun k_ => some k_ ≠ (.slice AE Am.length AF : Value).ownBlock ∧ some k_ ≠ (.slice AH Ac.length AK : Value).ownBlock ∧ some k_ ≠ (.slice Cj BB.length Cl : Value).ownBlock) (Kd.Rk (A6.o) hkp (fun k_ hk_ hs_ => (hk_.1.1) hs_)) (fun k_ hk_ => ⟨hk_.1.1.1, hk_.1.1.2, hk_.1.2⟩)); replace A0 := Z.m (Kd.Rm (ok' := fun k_ => some k_ ≠ (.slice AP A9.length AR : Value).ownBlock ∧ some k_ ≠ (.slice AE Am.length AF : Value).ownBlock ∧ some k_ ≠ (.slice Cj BB.length Cl : Value).ownBlock) (Kd.Rk (A0.o) hkp (fun k_ hk_ hs_ => (hk_.1.2) hs_)) (fun k_ hk_ => ⟨hk_.1.1.1, hk_.1.1.2, hk_.1.2⟩)); replace A2 := Z.m (qk A2.o hkp (fun hs_ => (fun e_ => (Kd.R_ne A3.o A2.o (by decide)) e_) hs_)); replace A7 := Z.m (qk A7.o hkp (fun hs_ => (fun e_ => (Kd.R_ne A3.o A7.o (by decide)) e_) hs_)); replace A8 := Z.m (qk A8.o hkp (fun hs_ => (fun e_ => (Kd.R_ne A3.o A8.o (by decide)) e_) hs_)); replace A4 := Z.m (qk A4.o hkp (fun hs_ => (fun e_ => (Kd.R_ne A3.o A4.o (by decide)) e_) hs_)); replace AI := Z.m (Kd.Rm (ok' := fun k_ => some k_ ≠ (.slice AP A9.length AR : Value).ownBlock ∧ some k_ ≠ (.slice AE Am.length AF : Value).ownBlock ∧ some k_ ≠ (.slice AH Ac.length AK : Value).ownBlock) (Kd.Rk (AI.o) hkp (fun k_ hk_ hs_ => (hk_.1.2) hs_)) (fun k_ hk_ => ⟨hk_.1.1.1.2, hk_.1.1.2, hk_.1.2⟩)); replace B7 := Z.m (Kd.Rm (ok' := fun k_ => some k_ ≠ (.slice C1 Ak.length C3 : Value).ownBlock) (Kd.Rk ((Kd.Ra B7.o (Kd.Rt A3.o) (by decide))) hkp (fun k_ hk_ hs_ => (hk_.2) hs_)) (fun k_ hk_ => hk_.1.1.2)); replace A3 := Z.m (Kd.Re rfl CS (fun k_ e_ => A3.o.1 k_ e_)); replace HB := Z.m (hb); (try clear hb); (try clear hkp); (try clear CS)) | ((with_reducible refine gc (f := 28) rfl ?_); refine gA (some 78) _ #[.slice C1 Ak.length C3, .int .i64 Ch] ?_ Try.func28; (with_reducible refine (laws_markIntS.calls kj15 (fun k_ => some k_ = (.slice C1 Ak.length C3 : Value).ownBlock) (.slice C1 Ak.length C3) Ak Ch CT Fl w _ ?side1 ?side2 J1.o).mono ?_); (case side1 => repeat (first | (with_reducible first | exact HB.o | apply qa | apply qn | apply qd | refine qx ?_ BF.o | refine qx ?_ BW.o | refine qx ?_ BX.o | refine qx ?_ BY.o) | exact HB.o)); (case side2 => exact Kd.Rg rfl Ay.o); rintro e JA ⟨rfl, CS, hb, hkp⟩; refine ⟨_, rfl, ?_⟩; replace As := Z.m (Kd.Rm (ok' := fun k_ => some k_ ≠ (BV : Value).ownBlock) (Kd.Rk ((Kd.Ra As.o (Kd.Rt Ay.o) (by decide))) hkp (fun k_ hk_ hs_ => (hk_.2) hs_)) (fun k_ hk_ => hk_.1.1)); replace Aj := Z.m (Kd.Rm (ok' := fun k_ => some k_ ≠ (BD : Value).ownBlock) (Kd.Rk ((Kd.Ra Aj.o (Kd.Rt Ay.o) (by decide))) hkp (fun k_ hk_ hs_ => (hk_.2) hs_)) (fun k_ hk_ => hk_.1.1)); replace A6 := Z.m (Kd.Rm (ok' := fun k_ => some k_ ≠ (.slice AE Am.length AF : Value).ownBlock ∧ some k_ ≠ (.slice AH Ac.length AK : Value).ownBlock ∧ some k_ ≠ (.slice Cj BB.length Cl : Value).ownBlock) (Kd.Rk ((Kd.Ra A6.o (Kd.Rt Ay.o) (by decide))) hkp (fun k_ hk_ hs_ => (hk_.2) hs_)) (fun k_ hk_ => ⟨hk_.1.1.1, hk_.1.1.2.1, hk_.1.1.2.2⟩)); replace A3 := Z.m (Kd.Rm (ok' := fun k_ => some k_ ≠ (.slice AP A9.length AR : Value).ownBlock ∧ some k_ ≠ (.slice AH Ac.length AK : Value).ownBlock ∧ some k_ ≠ (.slice Cj BB.length Cl : Value).ownBlock) (Kd.Rk ((Kd.Ra A3.o (Kd.Rt Ay.o) (by decide))) hkp (fun k_ hk_ hs_ => (hk_.2) hs_)) (fun k_ hk_ => ⟨hk_.1.1.1.1, hk_.1.1.1.2, hk_.1.1.2⟩)); replace A0 := Z.m (Kd.Rm (ok' := fun k_ => some k_ ≠ (.slice AP A9.length AR : Value).ownBlock ∧ some k_ ≠ (.slice AE Am.length AF : Value).ownBlock ∧ some k_ ≠ (.slice Cj BB.length Cl : Value).ownBlock) (Kd.Rk ((Kd.Ra A0.o (Kd.Rt Ay.o) (by decide))) hkp (fun k_ hk_ hs_ => (hk_.2) hs_)) (fun k_ hk_ => ⟨hk_.1.1.1, hk_.1.1.2.1, hk_.1.1.2.2⟩)); replace A2 := Z.m (qk A2.o hkp (fun hs_ => (fun e_ => (Kd.R_ne Ay.o A2.o (by decide)) e_) hs_)); replace A7 := Z.m (qk A7.o hkp (fun hs_ => (fun e_ => (Kd.R_ne Ay.o A7.o (by decide)) e_) hs_)); replace A8 := Z.m (qk A8.o hkp (fun hs_ => (fun e_ => (Kd.R_ne Ay.o A8.o (by decide)) e_) hs_)); replace A4 := Z.m (qk A4.o hkp (fun hs_ => (fun e_ => (Kd.R_ne Ay.o A4.o (by decide)) e_) hs_)); replace AI := Z.m (Kd.Rm (ok' := fun k_ => some k_ ≠ (.slice AP A9.length AR : Value).ownBlock ∧ some k_ ≠ (.slice AE Am.length AF : Value).ownBlock ∧ some k_ ≠ (.slice AH Ac.length AK : Value).ownBlock) (Kd.Rk ((Kd.Ra AI.o (Kd.Rt Ay.o) (by decide))) hkp (fun k_ hk_ hs_ => (hk_.2) hs_)) (fun k_ hk_ => ⟨hk_.1.1.1, hk_.1.1.2.1, hk_.1.1.2.2⟩)); replace Ay := Z.m (Kd.Re rfl CS (fun k_ e_ => Ay.o.1 k_ e_)); replace B7 := Z.m (Kd.Rm (ok' := fun k_ => some k_ ≠ (.slice C1 Ak.length C3 : Value).ownBlock) (Kd.Rk (B7.o) hkp (fun k_ hk_ hs_ => (hk_) hs_)) (fun k_ hk_ => hk_.1)); replace HB := Z.m (hb); (try clear hb); (try clear hkp); (try clear CS)))
        (try simp only [Act.put, q1, q2, q3])
        go_cut [97] (fun v97 wc => ∃ (kq : Nat) (C0 : Bool), v97 = .bool C0 ∧ Z (laws_FnExactFallsOf.j1 kq l1 Ae Ah Ai C0 a0_0 a0_1 l0_2 Af Ag A9 Aa Ab Ac = some true) ∧ Z (kq ≤ kj15) ∧ Z (Kd.R k27 27 wc w.heap.size (fun k_ => some k_ ≠ (BV : Value).ownBlock) BD Ae) ∧ Z (Kd.R k27 27 wc w.heap.size (fun k_ => some k_ ≠ (BD : Value).ownBlock) BV Ai) ∧ Z (Kd.R k89 89 wc w.heap.size (fun k_ => some k_ ≠ ((.slice AE Am.length AF) : Value).ownBlock ∧ some k_ ≠ ((.slice AH Ac.length AK) : Value).ownBlock) (.slice AP A9.length AR) A9) ∧ Z (Kd.R k89 89 wc w.heap.size (fun k_ => some k_ ≠ ((.slice AP A9.length AR) : Value).ownBlock ∧ some k_ ≠ ((.slice AH Ac.length AK) : Value).ownBlock) (.slice AE Am.length AF) B0) ∧ Z (Kd.R k89 89 wc w.heap.size (fun k_ => some k_ ≠ ((.slice AP A9.length AR) : Value).ownBlock ∧ some k_ ≠ ((.slice AE Am.length AF) : Value).ownBlock) (.slice AH Ac.length AK) Ac) ∧ Z (wc.heap[AS]? = some (.cells #[.int .i64 a0_0, .int .i64 a0_1, (.slice A0_2 l0_2.length c0_2)] 24 (0, 0))) ∧ Z (wc.heap[Bq]? = some (.cells #[.int .i64 Af, .int .i64 Ag, (.slice AP A9.length AR)] 32 (0, 0))) ∧ Z (wc.heap[Bg]? = some (.cells #[.int .i64 Ao, .int .i64 Ap, (.slice AE Am.length AF)] 32 (0, 0))) ∧ Z (wc.heap[Bx]? = some (.cells #[.int .i64 Aa, .int .i64 Ab, (.slice AH Ac.length AK)] 32 (0, 0))) ∧ Z (Below w.heap.size w wc))
        case first =>
         have H := E3.o
         clear E3
         by_cases c98 : CT < 0
         ·rw [if_pos c98] at H
          have C2 := decide_eq_true c98
          clear c98
          (first | rw [C2] | (simp only [i64_w, i32_w]; rw [C2]) | skip)
          have H' := Z.m H
          clear H
          go_wp2
          go_meet
          case rel => exact ⟨_, (true), (by first | rfl | (simp; done) | (simp [*]; done)), H', ⟨by have := Cn.o; first | omega | exact Nat.le_refl _⟩, ⟨vR As⟩, ⟨vR Aj⟩, ⟨by refine rK ?_; exact Kd.Rm A6.o (fun _ hk => ⟨hk.1, hk.2.1⟩)⟩, ⟨by refine rK ?_; exact Kd.Rm A3.o (fun _ hk => ⟨hk.1, hk.2.1⟩)⟩, ⟨by refine rK ?_; exact Kd.Rm A0.o (fun _ hk => ⟨hk.1, hk.2.1⟩)⟩, ⟨vK A2⟩, ⟨vK A7⟩, ⟨vK A8⟩, ⟨vK A4⟩, ⟨vB HB⟩⟩
         ·rw [if_neg c98] at H
          have C2 := decide_eq_false c98
          clear c98
          (first | rw [C2] | (simp only [i64_w, i32_w]; rw [C2]) | skip)
          replace H := Option.bind_eq_some_iff.mp H
          obtain ⟨AX, En, H⟩ := H
          replace H : (if AX = true then ((laws_eqBoard.f kj15 Aa Ab Ac Af Ag A9).bind fun AG => (if AG = true then (laws_FnExactFallsOf.j1 kj15 l1 Ae Ah Ai (Aw != Ah) a0_0 a0_1 l0_2 Af Ag A9 Aa Ab Ac) else (laws_FnExactFallsOf.j1 kj15 l1 Ae Ah Ai true a0_0 a0_1 l0_2 Af Ag A9 Aa Ab Ac))) else (laws_FnExactFallsOf.j1 kj15 l1 Ae Ah Ai true a0_0 a0_1 l0_2 Af Ag A9 Aa Ab Ac)) = some true := H
          have GY := Z.m En
          clear En
          by_cases c100 : AX = true
          ·subst c100
           have H1 : ((laws_eqBoard.f kj15 Aa Ab Ac Af Ag A9).bind fun AG => (if AG = true then (laws_FnExactFallsOf.j1 kj15 l1 Ae Ah Ai (Aw != Ah) a0_0 a0_1 l0_2 Af Ag A9 Aa Ab Ac) else (laws_FnExactFallsOf.j1 kj15 l1 Ae Ah Ai true a0_0 a0_1 l0_2 Af Ag A9 Aa Ab Ac))) = some true := by rw [if_pos rfl] at H; exact H
           clear H
           have H := H1
           clear H1
           replace H := Option.bind_eq_some_iff.mp H
           obtain ⟨AG, DI, H⟩ := H
           replace H : (if AG = true then (laws_FnExactFallsOf.j1 kj15 l1 Ae Ah Ai (Aw != Ah) a0_0 a0_1 l0_2 Af Ag A9 Aa Ab Ac) else (laws_FnExactFallsOf.j1 kj15 l1 Ae Ah Ai true a0_0 a0_1 l0_2 Af Ag A9 Aa Ab Ac)) = some true := H
           have FA := Z.m DI
           clear DI
           by_cases c102 : AG = true
           ·subst c102
            have H1 : (laws_FnExactFallsOf.j1 kj15 l1 Ae Ah Ai (Aw != Ah) a0_0 a0_1 l0_2 Af Ag A9 Aa Ab Ac) = some true := by rw [if_pos rfl] at H; exact H
            clear H
            have H := H1
            clear H1
            have H' := Z.m H
            clear H
            obtain ⟨GZ, H5, EE⟩ := Kd.R_slice Aj.o
            subst EE
            obtain ⟨H0, H6, EF⟩ := Kd.R_slice As.o
            subst EF
            go_wp2_with (first | (go_at_call 46; (with_reducible refine (laws_eqFallS.calls kj15 _ _ Ai _ _ Ae true _ ?side1 ?side2 ?side3 ?side4 GY.o).mono ?_); (case side1 => repeat (first | exact (Kd.RrZ Aj.o).2.2 | (with_reducible refine Kd.C_alloc ?_ _) | (with_reducible refine Kd.C_drewN ?_ _) | (with_reducible refine Kd.C_drew ?_))); (case side2 => exact (Kd.RrZ Aj.o).2.1); (case side3 => repeat (first | exact (Kd.RrZ As.o).2.2 | (with_reducible refine Kd.C_alloc ?_ _) | (with_reducible refine Kd.C_drewN ?_ _) | (with_reducible refine Kd.C_drew ?_))); (case side4 => exact (Kd.RrZ As.o).2.1); rintro e J4 ⟨rfl, hb⟩; replace As := Z.m (Kd.Rb (vR As) hb); replace Ay := Z.m (Kd.Rb (vR Ay) hb); replace Aj := Z.m (Kd.Rb (vR Aj) hb); replace A6 := Z.m (Kd.Rb (vR A6) hb); replace A3 := Z.m (Kd.Rb (vR A3) hb); replace A0 := Z.m (Kd.Rb (vR A0) hb); replace AI := Z.m (Kd.Rb (vR AI) hb); replace B7 := Z.m (Kd.Rb (vR B7) hb); replace A2 := kB A2 hb; replace A7 := kB A7 hb; replace A8 := kB A8 hb; replace A4 := kB A4 hb; replace HB := bB HB hb; (try clear hb); (try clear BQ); (try clear hk); (try clear hi); have G8 := Bd.o; have Gx := AJ.o; have G9 := AV.o; have Gy := AC.o; have Ga := AW.o; have Gz := AD.o; have ER := bc0 A4; have ES := bc1 A4; have ET := bc2 A4; have F6 := qz A4.o 0; have F7 := qz A4.o 1; have F8 := qz A4.o 2; have Gb := Bb.o; have GA := AT.o; have Gc := AU.o; have GB := Bc.o; have EU := bc0 A7; have EV := bc1 A7; have EW := bc2 A7; have F9 := qz A7.o 0; have Fa := qz A7.o 1; have Fb := qz A7.o 2) | (go_at_call 18; (with_reducible refine (laws_eqBoard.calls kj15 Aa Ab _ _ Ac Af Ag _ _ A9 true _ ?side1 ?side2 ?side3 ?side4 FA.o).mono ?_); (case side1 => repeat (first | exact (Kd.RrZ A0.o).2.2 | (with_reducible refine Kd.C_alloc ?_ _) | (with_reducible refine Kd.C_drewN ?_ _) | (with_reducible refine Kd.C_drew ?_))); (case side2 => exact (Kd.RrZ A0.o).2.1); (case side3 => repeat (first | exact (Kd.RrZ A6.o).2.2 | (with_reducible refine Kd.C_alloc ?_ _) | (with_reducible refine Kd.C_drewN ?_ _) | (with_reducible refine Kd.C_drew ?_))); (case side4 => exact (Kd.RrZ A6.o).2.1); rintro e J5 ⟨rfl, hb⟩; replace As := Z.m (Kd.Rb (vR As) hb); replace Ay := Z.m (Kd.Rb (vR Ay) hb); replace Aj := Z.m (Kd.Rb (vR Aj) hb); replace A6 := Z.m (Kd.Rb (vR A6) hb); replace A3 := Z.m (Kd.Rb (vR A3) hb); replace A0 := Z.m (Kd.Rb (vR A0) hb); replace AI := Z.m (Kd.Rb (vR AI) hb); replace B7 := Z.m (Kd.Rb (vR B7) hb); replace A2 := kB A2 hb; replace A7 := kB A7 hb; replace A8 := kB A8 hb; replace A4 := kB A4 hb; replace HB := bB HB hb; (try clear hb); (try clear BQ); (try clear hk); (try clear hi)))
            go_meet
            case rel => exact ⟨_, ((Aw != Ah)), (by first | rfl | (simp; done) | (simp [*]; done)), H', ⟨by have := Cn.o; first | omega | exact Nat.le_refl _⟩, ⟨vR As⟩, ⟨vR Aj⟩, ⟨by refine rK ?_; exact Kd.Rm A6.o (fun _ hk => ⟨hk.1, hk.2.1⟩)⟩, ⟨by refine rK ?_; exact Kd.Rm A3.o (fun _ hk => ⟨hk.1, hk.2.1⟩)⟩, ⟨by refine rK ?_; exact Kd.Rm A0.o (fun _ hk => ⟨hk.1, hk.2.1⟩)⟩, ⟨vK A2⟩, ⟨vK A7⟩, ⟨vK A8⟩, ⟨vK A4⟩, ⟨vB HB⟩⟩
           ·(rw [if_neg c102] at H; exact absurd H (laws_FnExactFallsOf.bad_j1 _ _ _ _ _ _ _ _ _ _ _ _ _ _))
          ·replace c100 := Bool.eq_false_iff.mpr c100
           subst c100
           have H1 : (laws_FnExactFallsOf.j1 kj15 l1 Ae Ah Ai true a0_0 a0_1 l0_2 Af Ag A9 Aa Ab Ac) = some true := by rw [if_neg (show ¬ (false = true) by decide)] at H; exact H
           clear H
           have H := H1
           clear H1
           have H' := Z.m H
           clear H
           obtain ⟨H2, H7, EG⟩ := Kd.R_slice Aj.o
           subst EG
           obtain ⟨H3, H8, EH⟩ := Kd.R_slice As.o
           subst EH
           go_wp2_with (first | (go_at_call 46; (with_reducible refine (laws_eqFallS.calls kj15 _ _ Ai _ _ Ae false _ ?side1 ?side2 ?side3 ?side4 GY.o).mono ?_); (case side1 => repeat (first | exact (Kd.RrZ Aj.o).2.2 | (with_reducible refine Kd.C_alloc ?_ _) | (with_reducible refine Kd.C_drewN ?_ _) | (with_reducible refine Kd.C_drew ?_))); (case side2 => exact (Kd.RrZ Aj.o).2.1); (case side3 => repeat (first | exact (Kd.RrZ As.o).2.2 | (with_reducible refine Kd.C_alloc ?_ _) | (with_reducible refine Kd.C_drewN ?_ _) | (with_reducible refine Kd.C_drew ?_))); (case side4 => exact (Kd.RrZ As.o).2.1); rintro e J6 ⟨rfl, hb⟩; replace As := Z.m (Kd.Rb (vR As) hb); replace Ay := Z.m (Kd.Rb (vR Ay) hb); replace Aj := Z.m (Kd.Rb (vR Aj) hb); replace A6 := Z.m (Kd.Rb (vR A6) hb); replace A3 := Z.m (Kd.Rb (vR A3) hb); replace A0 := Z.m (Kd.Rb (vR A0) hb); replace AI := Z.m (Kd.Rb (vR AI) hb); replace B7 := Z.m (Kd.Rb (vR B7) hb); replace A2 := kB A2 hb; replace A7 := kB A7 hb; replace A8 := kB A8 hb; replace A4 := kB A4 hb; replace HB := bB HB hb; (try clear hb); (try clear BQ); (try clear hk); (try clear hi)))
           go_meet
           case rel => exact ⟨_, (true), (by first | rfl | (simp; done) | (simp [*]; done)), H', ⟨by have := Cn.o; first | omega | exact Nat.le_refl _⟩, ⟨vR As⟩, ⟨vR Aj⟩, ⟨by refine rK ?_; exact Kd.Rm A6.o (fun _ hk => ⟨hk.1, hk.2.1⟩)⟩, ⟨by refine rK ?_; exact Kd.Rm A3.o (fun _ hk => ⟨hk.1, hk.2.1⟩)⟩, ⟨by refine rK ?_; exact Kd.Rm A0.o (fun _ hk => ⟨hk.1, hk.2.1⟩)⟩, ⟨vK A2⟩, ⟨vK A7⟩, ⟨vK A8⟩, ⟨vK A4⟩, ⟨vB HB⟩⟩
        case rest =>
         clear E3
         (try clear c76); (try clear c79); (try clear c82)
         (try clear Dh); (try clear Di); (try clear Dj); (try clear DF); (try clear DG); (try clear DH)
         obtain ⟨kq, C0, rfl, HA, Ex, As, Aj, A6, A3, A0, A2, A7, A8, A4, HB⟩ := hcut
         have Ad := (Kd.RrZ A3.o).1
         rw [Ad] at A3
         (try simp only [Ad])
         (try simp only [Ad] at A2)
         (try simp only [Ad] at A7)
         (try simp only [Ad] at A8)
         (try simp only [Ad] at A4)
         (try simp only [Ad] at As)
         (try simp only [Ad] at Aj)
         (try simp only [Ad] at A6)
         (try simp only [Ad] at A0)
         cases kq with
         | zero => exact absurd HA.o (by simp [laws_FnExactFallsOf.j1])
         | succ kj84 =>
          have H := HA.o
          clear HA
          simp only [laws_FnExactFallsOf.j1] at H
          by_cases c128 : C0 = true
          ·(rw [if_pos c128] at H; exact absurd H (by decide))
          ·replace c128 := Bool.eq_false_iff.mpr c128
           subst c128
           have H1 : ((laws_markFallS.f kj84 Ai 1).bind fun bt1136 => ((laws_markBoard.f kj84 Aa Ab Ac bt1136.1).bind fun bt1138 => ((laws_heldFallS.f kj84 bt1136.2 1).bind fun Bi => (if Bi < 0 then (some false) else ((laws_heldBoard.f kj84 Aa Ab bt1138.2 Bi).bind fun Bf => (if Bf < 0 then (some false) else (if Bf = bt1138.1 then ((laws_toBoard.f kj84 a0_0 a0_1 l0_2).bind fun bt1142 => ((laws_toIntS.f kj84 l1).bind fun Bh => ((impl_FallsOf.f kj84 bt1142.1 bt1142.2.1 bt1142.2.2 Bh).bind fun bt1150 => ((laws_eqFallS.f kj84 bt1150.1 Ae).bind fun B2 => (if B2 = true then ((laws_eqBoard.f kj84 bt1150.2.1 bt1150.2.2.1 bt1150.2.2.2.1 Af Ag A9).bind fun AM => (if AM = true then (laws_FnExactFallsOf.j2 kj84 bt1136.2 bt1138.1 (bt1150.2.2.2.2 != Ah) Aa Ab bt1138.2) else (laws_FnExactFallsOf.j2 kj84 bt1136.2 bt1138.1 true Aa Ab bt1138.2))) else (laws_FnExactFallsOf.j2 kj84 bt1136.2 bt1138.1 true Aa Ab bt1138.2)))))) else (some false)))))))) = some true := by rw [if_neg (show ¬ (false = true) by decide)] at H; exact H
           clear H
           have H := H1
           clear H1
           replace H := Option.bind_eq_some_iff.mp H
           obtain ⟨⟨Ci, Aq⟩, DJ, H⟩ := H
           replace H : ((laws_markBoard.f kj84 Aa Ab Ac Ci).bind fun bt1138 => ((laws_heldFallS.f kj84 Aq 1).bind fun Bi => (if Bi < 0 then (some false) else ((laws_heldBoard.f kj84 Aa Ab bt1138.2 Bi).bind fun Bf => (if Bf < 0 then (some false) else (if Bf = bt1138.1 then ((laws_toBoard.f kj84 a0_0 a0_1 l0_2).bind fun bt1142 => ((laws_toIntS.f kj84 l1).bind fun Bh => ((impl_FallsOf.f kj84 bt1142.1 bt1142.2.1 bt1142.2.2 Bh).bind fun bt1150 => ((laws_eqFallS.f kj84 bt1150.1 Ae).bind fun B2 => (if B2 = true then ((laws_eqBoard.f kj84 bt1150.2.1 bt1150.2.2.1 bt1150.2.2.2.1 Af Ag A9).bind fun AM => (if AM = true then (laws_FnExactFallsOf.j2 kj84 Aq bt1138.1 (bt1150.2.2.2.2 != Ah) Aa Ab bt1138.2) else (laws_FnExactFallsOf.j2 kj84 Aq bt1138.1 true Aa Ab bt1138.2))) else (laws_FnExactFallsOf.j2 kj84 Aq bt1138.1 true Aa Ab bt1138.2)))))) else (some false))))))) = some true := H
           have FB := Z.m DJ
           clear DJ
           replace H := Option.bind_eq_some_iff.mp H
           obtain ⟨⟨Au, Ar⟩, DK, H⟩ := H
           replace H : ((laws_heldFallS.f kj84 Aq 1).bind fun Bi => (if Bi < 0 then (some false) else ((laws_heldBoard.f kj84 Aa Ab Ar Bi).bind fun Bf => (if Bf < 0 then (some false) else (if Bf = Au then ((laws_toBoard.f kj84 a0_0 a0_1 l0_2).bind fun bt1142 => ((laws_toIntS.f kj84 l1).bind fun Bh => ((impl_FallsOf.f kj84 bt1142.1 bt1142.2.1 bt1142.2.2 Bh).bind fun bt1150 => ((laws_eqFallS.f kj84 bt1150.1 Ae).bind fun B2 => (if B2 = true then ((laws_eqBoard.f kj84 bt1150.2.1 bt1150.2.2.1 bt1150.2.2.2.1 Af Ag A9).bind fun AM => (if AM = true then (laws_FnExactFallsOf.j2 kj84 Aq Au (bt1150.2.2.2.2 != Ah) Aa Ab Ar) else (laws_FnExactFallsOf.j2 kj84 Aq Au true Aa Ab Ar))) else (laws_FnExactFallsOf.j2 kj84 Aq Au true Aa Ab Ar)))))) else (some false)))))) = some true := H
           have CU := Z.m DK
           clear DK
           replace H := Option.bind_eq_some_iff.mp H
           obtain ⟨Bi, DL, H⟩ := H
           replace H : (if Bi < 0 then (some false) else ((laws_heldBoard.f kj84 Aa Ab Ar Bi).bind fun Bf => (if Bf < 0 then (some false) else (if Bf = Au then ((laws_toBoard.f kj84 a0_0 a0_1 l0_2).bind fun bt1142 => ((laws_toIntS.f kj84 l1).bind fun Bh => ((impl_FallsOf.f kj84 bt1142.1 bt1142.2.1 bt1142.2.2 Bh).bind fun bt1150 => ((laws_eqFallS.f kj84 bt1150.1 Ae).bind fun B2 => (if B2 = true then ((laws_eqBoard.f kj84 bt1150.2.1 bt1150.2.2.1 bt1150.2.2.2.1 Af Ag A9).bind fun AM => (if AM = true then (laws_FnExactFallsOf.j2 kj84 Aq Au (bt1150.2.2.2.2 != Ah) Aa Ab Ar) else (laws_FnExactFallsOf.j2 kj84 Aq Au true Aa Ab Ar))) else (laws_FnExactFallsOf.j2 kj84 Aq Au true Aa Ab Ar)))))) else (some false))))) = some true := H
           have FC := Z.m DL
           clear DL
           by_cases c132 : Bi < 0
           ·(rw [if_pos c132] at H; exact absurd H (by decide))
           ·rw [if_neg c132] at H
            have Co := decide_eq_false c132
            (try simp only [Ad] at Co)
            clear c132
            replace H := Option.bind_eq_some_iff.mp H
            obtain ⟨Bf, DM, H⟩ := H
            replace H : (if Bf < 0 then (some false) else (if Bf = Au then ((laws_toBoard.f kj84 a0_0 a0_1 l0_2).bind fun bt1142 => ((laws_toIntS.f kj84 l1).bind fun Bh => ((impl_FallsOf.f kj84 bt1142.1 bt1142.2.1 bt1142.2.2 Bh).bind fun bt1150 => ((laws_eqFallS.f kj84 bt1150.1 Ae).bind fun B2 => (if B2 = true then ((laws_eqBoard.f kj84 bt1150.2.1 bt1150.2.2.1 bt1150.2.2.2.1 Af Ag A9).bind fun AM => (if AM = true then (laws_FnExactFallsOf.j2 kj84 Aq Au (bt1150.2.2.2.2 != Ah) Aa Ab Ar) else (laws_FnExactFallsOf.j2 kj84 Aq Au true Aa Ab Ar))) else (laws_FnExactFallsOf.j2 kj84 Aq Au true Aa Ab Ar)))))) else (some false))) = some true := H
            have CV := Z.m DM
            clear DM
            by_cases c141 : Bf < 0
            ·(rw [if_pos c141] at H; exact absurd H (by decide))
            ·rw [if_neg c141] at H
             have Cp := decide_eq_false c141
             (try simp only [Ad] at Cp)
             clear c141
             by_cases c151 : Bf = Au
             ·rw [if_pos c151] at H
              have E4 := beq_iff_eq.mpr c151
              have E5 := bne_eq_false_iff_eq.mpr c151
              clear c151
              replace H := Option.bind_eq_some_iff.mp H
              obtain ⟨⟨C7, C8, C9⟩, DN, H⟩ := H
              replace H : ((laws_toIntS.f kj84 l1).bind fun Bh => ((impl_FallsOf.f kj84 C7 C8 C9 Bh).bind fun bt1150 => ((laws_eqFallS.f kj84 bt1150.1 Ae).bind fun B2 => (if B2 = true then ((laws_eqBoard.f kj84 bt1150.2.1 bt1150.2.2.1 bt1150.2.2.2.1 Af Ag A9).bind fun AM => (if AM = true then (laws_FnExactFallsOf.j2 kj84 Aq Au (bt1150.2.2.2.2 != Ah) Aa Ab Ar) else (laws_FnExactFallsOf.j2 kj84 Aq Au true Aa Ab Ar))) else (laws_FnExactFallsOf.j2 kj84 Aq Au true Aa Ab Ar))))) = some true := H
              have FD := Z.m DN
              clear DN
              replace H := Option.bind_eq_some_iff.mp H
              obtain ⟨Bh, DO, H⟩ := H
              replace H : ((impl_FallsOf.f kj84 C7 C8 C9 Bh).bind fun bt1150 => ((laws_eqFallS.f kj84 bt1150.1 Ae).bind fun B2 => (if B2 = true then ((laws_eqBoard.f kj84 bt1150.2.1 bt1150.2.2.1 bt1150.2.2.2.1 Af Ag A9).bind fun AM => (if AM = true then (laws_FnExactFallsOf.j2 kj84 Aq Au (bt1150.2.2.2.2 != Ah) Aa Ab Ar) else (laws_FnExactFallsOf.j2 kj84 Aq Au true Aa Ab Ar))) else (laws_FnExactFallsOf.j2 kj84 Aq Au true Aa Ab Ar)))) = some true := H
              have FE := Z.m DO
              clear DO
              replace H := Option.bind_eq_some_iff.mp H
              obtain ⟨⟨BA, BK, BL, Bs, BP⟩, DP, H⟩ := H
              replace H : ((laws_eqFallS.f kj84 BA Ae).bind fun B2 => (if B2 = true then ((laws_eqBoard.f kj84 BK BL Bs Af Ag A9).bind fun AM => (if AM = true then (laws_FnExactFallsOf.j2 kj84 Aq Au (BP != Ah) Aa Ab Ar) else (laws_FnExactFallsOf.j2 kj84 Aq Au true Aa Ab Ar))) else (laws_FnExactFallsOf.j2 kj84 Aq Au true Aa Ab Ar))) = some true := H
              have FF := Z.m DP
              clear DP
              have Cm := Z.m H
              clear H
              obtain ⟨Bk, Bp, EI⟩ := Kd.R_slice Aj.o
              subst EI
              go_upto_region 35 with (first | ((with_reducible refine gc (f := 47) rfl ?_); refine gA (some 100) _ #[.slice Bk Ai.length Bp, .int .i64 1] ?_ Try.func47; (with_reducible refine (laws_markFallS.calls kj84 (fun k_ => some k_ = (.slice Bk Ai.length Bp : Value).ownBlock) (.slice Bk Ai.length Bp) Ai 1 Ci Aq w _ ?side1 ?side2 FB.o).mono ?_); (case side1 => repeat (first | (with_reducible first | exact HB.o | apply qa | apply qn | apply qd | refine qx ?_ BF.o | refine qx ?_ BW.o | refine qx ?_ BX.o | refine qx ?_ BY.o) | exact HB.o)); (case side2 => exact Kd.Rg rfl Aj.o); rintro e J7 ⟨rfl, CS, hb, hkp⟩; refine ⟨_, rfl, ?_⟩; replace As := Z.m (Kd.Rm (ok' := fun k_ => some k_ ≠ (.slice Bk Ai.length Bp : Value).ownBlock) (Kd.Rk (As.o) hkp (fun k_ hk_ hs_ => (hk_) hs_)) (fun k_ hk_ => hk_.1)); replace A6 := Z.m (Kd.Rm (ok' := fun k_ => some k_ ≠ (.slice AE B0.length AF : Value).ownBlock ∧ some k_ ≠ (.slice AH Ac.length AK : Value).ownBlock) (Kd.Rk ((Kd.Ra A6.o (Kd.Rt Aj.o) (by decide))) hkp (fun k_ hk_ hs_ => (hk_.2) hs_)) (fun k_ hk_ => ⟨hk_.1.1.1, hk_.1.1.2⟩)); replace A3 := Z.m (Kd.Rm (ok' := fun k_ => some k_ ≠ (.slice AP A9.length AR : Value).ownBlock ∧ some k_ ≠ (.slice AH Ac.length AK : Value).ownBlock) (Kd.Rk ((Kd.Ra A3.o (Kd.Rt Aj.o) (by decide))) hkp (fun k_ hk_ hs_ => (hk_.2) hs_)) (fun k_ hk_ => ⟨hk_.1.1.1, hk_.1.1.2⟩)); replace A0 := Z.m (Kd.Rm (ok' := fun k_ => some k_ ≠ (.slice AP A9.length AR : Value).ownBlock ∧ some k_ ≠ (.slice AE B0.length AF : Value).ownBlock) (Kd.Rk ((Kd.Ra A0.o (Kd.Rt Aj.o) (by decide))) hkp (fun k_ hk_ hs_ => (hk_.2) hs_)) (fun k_ hk_ => ⟨hk_.1.1.1, hk_.1.1.2⟩)); replace A2 := Z.m (qk A2.o hkp (fun hs_ => (fun e_ => (Kd.R_ne Aj.o A2.o (by decide)) e_) hs_)); replace A7 := Z.m (qk A7.o hkp (fun hs_ => (fun e_ => (Kd.R_ne Aj.o A7.o (by decide)) e_) hs_)); replace A8 := Z.m (qk A8.o hkp (fun hs_ => (fun e_ => (Kd.R_ne Aj.o A8.o (by decide)) e_) hs_)); replace A4 := Z.m (qk A4.o hkp (fun hs_ => (fun e_ => (Kd.R_ne Aj.o A4.o (by decide)) e_) hs_)); replace Aj := Z.m (Kd.Re rfl CS (fun k_ e_ => Aj.o.1 k_ e_)); replace HB := Z.m (hb); (try clear hb); (try clear hkp); (try clear CS); have Gd := Bd.o; have GC := AJ.o; have Ge := AV.o; have GD := AC.o; have Gf := AW.o; have GE := AD.o; have Cu := bc0 A4; have Cv := bc1 A4; have Cw := bc2 A4; have CG := qz A4.o 0; have CH := qz A4.o 1; have CI := qz A4.o 2) | ((with_reducible refine gc (f := 23) rfl ?_); refine gA (some 103) _ #[.agg #[.int .i64 Aa, .int .i64 Ab, .slice AH Ac.length AK], .int .i64 Ci] ?_ Try.func23; (with_reducible refine (laws_markBoard.calls kj84 Aa Ab (fun k_ => some k_ = (.slice AH Ac.length AK : Value).ownBlock) (.slice AH Ac.length AK) Ac Ci Au Ar w _ ?side1 ?side2 CU.o).mono ?_); (case side1 => repeat (first | (with_reducible first | exact HB.o | apply qa | apply qn | apply qd | refine qx ?_ BF.o | refine qx ?_ BW.o | refine qx ?_ BX.o | refine qx ?_ BY.o) | exact HB.o)); (case side2 => exact Kd.Rg rfl A0.o); rintro e BG ⟨rfl, CS, hb, hkp⟩; refine ⟨_, rfl, ?_⟩; replace As := Z.m (Kd.Rm (ok' := fun k_ => some k_ ≠ (.slice Bk Ai.length Bp : Value).ownBlock) (Kd.Rk ((Kd.Ra As.o (Kd.Rt A0.o) (by decide))) hkp (fun k_ hk_ hs_ => (hk_.2) hs_)) (fun k_ hk_ => hk_.1.1)); replace Aj := Z.m (Kd.Rm (ok' := fun k_ => some k_ ≠ (BD : Value).ownBlock) (Kd.Rk ((Kd.Ra Aj.o (Kd.Rt A0.o) (by decide))) hkp (fun k_ hk_ hs_ => (hk_.2) hs_)) (fun k_ hk_ => hk_.1.1)); replace A6 := Z.m (Kd.Rm (ok' := fun k_ => some k_ ≠ (.slice AE B0.length AF : Value).ownBlock ∧ some k_ ≠ (.slice AH Ac.length AK : Value).ownBlock) (Kd.Rk (A6.o) hkp (fun k_ hk_ hs_ => (hk_.2) hs_)) (fun k_ hk_ => ⟨hk_.1.1, hk_.1.2⟩)); replace A3 := Z.m (Kd.Rm (ok' := fun k_ => some k_ ≠ (.slice AP A9.length AR : Value).ownBlock ∧ some k_ ≠ (.slice AH Ac.length AK : Value).ownBlock) (Kd.Rk (A3.o) hkp (fun k_ hk_ hs_ => (hk_.2) hs_)) (fun k_ hk_ => ⟨hk_.1.1, hk_.1.2⟩)); replace A2 := Z.m (qk A2.o hkp (fun hs_ => (fun e_ => (Kd.R_ne A0.o A2.o (by decide)) e_) hs_)); replace A7 := Z.m (qk A7.o hkp (fun hs_ => (fun e_ => (Kd.R_ne A0.o A7.o (by decide)) e_) hs_)); replace A8 := Z.m (qk A8.o hkp (fun hs_ => (fun e_ => (Kd.R_ne A0.o A8.o (by decide)) e_) hs_)); replace A4 := Z.m (qk A4.o hkp (fun hs_ => (fun e_ => (Kd.R_ne A0.o A4.o (by decide)) e_) hs_)); replace A0 := Z.m (Kd.Re rfl CS (fun k_ e_ => A0.o.1 k_ e_)); replace HB := Z.m (hb); (try clear hb); (try clear hkp); (try clear CS)) | ((with_reducible refine gc (f := 48) rfl ?_); refine goesL_ (some 106) rfl rfl Try.func48 (by kernel_rfl) rfl #[.slice Bk Aq.length Bp, .int .i64 1] rfl (by (try simp only [List.map_toArray, List.map_cons, List.map_nil]); first | done | (rw [show Aq.length = Ai.length from (Kd.RrZ Aj.o).1.symm] <;> rfl) | rfl | (simp only [List.length_drop, List.length_take]; rfl)) ?_; (with_reducible refine (laws_heldFallS.calls kj84 _ _ Aq 1 Bi _ ?side1 ?side2 FC.o).mono ?_); (case side1 => repeat (first | exact (Kd.RrZ Aj.o).2.2 | (with_reducible refine Kd.C_alloc ?_ _) | (with_reducible refine Kd.C_drewN ?_ _) | (with_reducible refine Kd.C_drew ?_))); (case side2 => rw [show Aq.length = Ai.length from (Kd.RrZ Aj.o).1.symm]; exact (Kd.RrZ Aj.o).2.1); rintro e w' ⟨rfl, ⟨nd, rfl⟩⟩; refine ⟨_, rfl, ?_⟩; (try (rw [drewN_self BG]; generalize hq_ : World.drewN BG _ = BG; replace A6 : Z (Kd.R k89 89 BG w.heap.size (fun k_ => some k_ ≠ (.slice AE B0.length AF : Value).ownBlock ∧ some k_ ≠ (.slice AH Ac.length AK : Value).ownBlock) (.slice AP A9.length AR) A9) := ⟨by rw [← hq_]; exact (vR A6)⟩; replace Aj : Z (Kd.R k27 27 BG w.heap.size (fun k_ => some k_ ≠ (BD : Value).ownBlock) (.slice Bk Ai.length Bp) Aq) := ⟨by rw [← hq_]; exact (vR Aj)⟩; replace A3 : Z (Kd.R k89 89 BG w.heap.size (fun k_ => some k_ ≠ (.slice AP A9.length AR : Value).ownBlock ∧ some k_ ≠ (.slice AH Ac.length AK : Value).ownBlock) (.slice AE B0.length AF) B0) := ⟨by rw [← hq_]; exact (vR A3)⟩; replace A0 : Z (Kd.R k89 89 BG w.heap.size (fun k_ => some k_ ≠ (.slice AP A9.length AR : Value).ownBlock ∧ some k_ ≠ (.slice AE B0.length AF : Value).ownBlock) (.slice AH Ac.length AK) Ar) := ⟨by rw [← hq_]; exact (vR A0)⟩; replace As : Z (Kd.R k27 27 BG w.heap.size (fun k_ => some k_ ≠ (.slice Bk Ai.length Bp : Value).ownBlock) BD Ae) := ⟨by rw [← hq_]; exact (vR As)⟩; replace A2 : Z (BG.heap[AS]? = some (.cells #[.int .i64 a0_0, .int .i64 a0_1, .slice A0_2 l0_2.length c0_2] 24 (0, 0))) := ⟨by rw [← hq_]; exact (vK A2)⟩; replace A7 : Z (BG.heap[Bq]? = some (.cells #[.int .i64 Af, .int .i64 Ag, .slice AP A9.length AR] 32 (0, 0))) := ⟨by rw [← hq_]; exact (vK A7)⟩; replace A8 : Z (BG.heap[Bg]? = some (.cells #[.int .i64 Ao, .int .i64 Ap, .slice AE B0.length AF] 32 (0, 0))) := ⟨by rw [← hq_]; exact (vK A8)⟩; replace A4 : Z (BG.heap[Bx]? = some (.cells #[.int .i64 Aa, .int .i64 Ab, .slice AH Ac.length AK] 32 (0, 0))) := ⟨by rw [← hq_]; exact (vK A4)⟩; replace HB : Z (Below w.heap.size w BG) := ⟨by rw [← hq_]; exact (vB HB)⟩; clear hq_)); have Cx := bc0 A4; have Cy := bc1 A4; have Cz := bc2 A4; have CJ := qz A4.o 0; have CK := qz A4.o 1; have CL := qz A4.o 2) | ((with_reducible refine gc (f := 24) rfl ?_); refine goesL_ (some 111) rfl rfl Try.func24 (by kernel_rfl) rfl #[.agg #[.int .i64 Aa, .int .i64 Ab, .slice AH Ar.length AK], .int .i64 Bi] rfl (by (try simp only [List.map_toArray, List.map_cons, List.map_nil]); first | done | (rw [show Ar.length = Ac.length from (Kd.RrZ A0.o).1.symm] <;> rfl) | rfl | (simp only [List.length_drop, List.length_take]; rfl)) ?_; (with_reducible refine (laws_heldBoard.calls kj84 Aa Ab _ _ Ar Bi Bf _ ?side1 ?side2 CV.o).mono ?_); (case side1 => repeat (first | exact (Kd.RrZ A0.o).2.2 | (with_reducible refine Kd.C_alloc ?_ _) | (with_reducible refine Kd.C_drewN ?_ _) | (with_reducible refine Kd.C_drew ?_))); (case side2 => rw [show Ar.length = Ac.length from (Kd.RrZ A0.o).1.symm]; exact (Kd.RrZ A0.o).2.1); rintro e J8 ⟨rfl, hb⟩; refine ⟨_, rfl, ?_⟩; replace As := Z.m (Kd.Rb (vR As) hb); replace Aj := Z.m (Kd.Rb (vR Aj) hb); replace A6 := Z.m (Kd.Rb (vR A6) hb); replace A3 := Z.m (Kd.Rb (vR A3) hb); replace A0 := Z.m (Kd.Rb (vR A0) hb); replace A2 := kB A2 hb; replace A7 := kB A7 hb; replace A8 := kB A8 hb; replace A4 := kB A4 hb; replace HB := bB HB hb; (try clear hb); (try clear BQ); (try clear hk); (try clear hi); have Gg := AT.o; have GF := Bb.o; have Gh := Bl.o; have GG := Bv.o; have CA := bc0 A2; have CB := bc1 A2; have CC := bc2 A2; have CM := qz A2.o 0; have CN := qz A2.o 1; have CO := qz A2.o 2) | ((with_reducible refine gc (f := 15) rfl ?_); refine gA (some 119) _ #[.agg #[.int .i64 a0_0, .int .i64 a0_1, .slice A0_2 l0_2.length c0_2]] ?_ Try.func15; (with_reducible refine (laws_toBoard.calls kj84 a0_0 a0_1 _ _ l0_2 C7 C8 C9 _ ?side1 ?side2 FD.o).mono ?_); (case side1 => repeat (first | exact (Kd.C_below BS.o HB.o) | (with_reducible refine Kd.C_alloc ?_ _) | (with_reducible refine Kd.C_drewN ?_ _) | (with_reducible refine Kd.C_drew ?_))); (case side2 => exact BR.o); rintro e J9 ⟨HL, rfl, Bj, hb⟩; refine ⟨_, rfl, ?_⟩; have AO := Z.m (Kd.R_lower (Kd.R_new' (Kd.R_new' (Kd.R_new' Bj (Kd.R_lt (vR A6))) (Kd.R_lt (vR A3))) (Kd.R_lt (vR A0))) (below_size (vB HB))); replace As := Z.m (Kd.Rb (vR As) hb); replace Aj := Z.m (Kd.Rb (vR Aj) hb); replace A6 := Z.m (Kd.R_elder' (vR A6) (Kd.R_base Bj) hb); replace A3 := Z.m (Kd.R_elder' (vR A3) (Kd.R_base Bj) hb); replace A0 := Z.m (Kd.R_elder' (vR A0) (Kd.R_base Bj) hb); replace A2 := kB A2 hb; replace A7 := kB A7 hb; replace A8 := kB A8 hb; replace A4 := kB A4 hb; replace HB := bB HB hb; (try clear hb); (try clear BQ); (try clear hk); (try clear hi); (try clear Bj)) | ((with_reducible refine gc (f := 33) rfl ?_); refine gA (some 121) _ #[.slice A1 l1.length c1] ?_ Try.func33; (with_reducible refine (laws_toIntS.calls kj84 _ _ l1 Bh _ ?side1 ?side2 FE.o).mono ?_); (case side1 => repeat (first | exact (Kd.C_below Fn.o HB.o) | (with_reducible refine Kd.C_alloc ?_ _) | (with_reducible refine Kd.C_drewN ?_ _) | (with_reducible refine Kd.C_drew ?_))); (case side2 => exact Fm.o); rintro e Ja ⟨HM, rfl, Bj, hb⟩; refine ⟨_, rfl, ?_⟩; have B8 := Z.m (Kd.R_lower Bj (below_size (vB HB))); replace As := Z.m (Kd.Rb (vR As) hb); replace Aj := Z.m (Kd.Rb (vR Aj) hb); replace A6 := Z.m (Kd.Rb (vR A6) hb); replace A3 := Z.m (Kd.Rb (vR A3) hb); replace A0 := Z.m (Kd.Rb (vR A0) hb); replace AO := Z.m (Kd.Rb (vR AO) hb); replace A2 := kB A2 hb; replace A7 := kB A7 hb; replace A8 := kB A8 hb; replace A4 := kB A4 hb; replace HB := bB HB hb; (try clear hb); (try clear BQ); (try clear hk); (try clear hi); (try clear Bj); obtain ⟨Eo, EB, EJ⟩ := Kd.R_slice AO.o; subst EJ; obtain ⟨Ep, EC, EK⟩ := Kd.R_slice B8.o; subst EK) | ((with_reducible refine gc (f := 45) rfl ?_); refine gA (some 122) _ #[.agg #[.int .i64 C7, .int .i64 C8, .slice Eo C9.length EB], .slice Ep Bh.length EC] ?_ Try.func45; (with_reducible refine (impl_FallsOf.calls kj84 C7 C8 _ _ C9 _ _ Bh BA BK BL Bs BP _ ?side1 ?side2 ?side3 ?side4 FF.o).mono ?_); (case side1 => repeat (first | exact (Kd.RrZ AO.o).2.2 | (with_reducible refine Kd.C_alloc ?_ _) | (with_reducible refine Kd.C_drewN ?_ _) | (with_reducible refine Kd.C_drew ?_))); (case side2 => exact (Kd.RrZ AO.o).2.1); (case side3 => repeat (first | exact (Kd.RrZ B8.o).2.2 | (with_reducible refine Kd.C_alloc ?_ _) | (with_reducible refine Kd.C_drewN ?_ _) | (with_reducible refine Kd.C_drew ?_))); (case side4 => exact (Kd.RrZ B8.o).2.1); rintro e Jb ⟨HN, HO, rfl, Bj, Ca, hb⟩; refine ⟨_, rfl, ?_⟩; have AY := Z.m (Kd.R_lower (Kd.R_new' (Kd.R_new' Bj (Kd.R_lt (vR As))) (Kd.R_lt (vR Aj))) (below_size (vB HB))); have Ba := Z.m (Kd.R_lower (Kd.R_new' (Kd.R_new' (Kd.R_new' (Kd.R_new' Ca (Kd.R_lt (vR A6))) (Kd.R_lt (vR A3))) (Kd.R_lt (vR A0))) (Kd.R_lt (vR AO))) (below_size (vB HB))); replace As := Z.m (Kd.R_elder' (vR As) (Kd.R_base Bj) hb); replace Aj := Z.m (Kd.R_elder' (vR Aj) (Kd.R_base Bj) hb); replace A6 := Z.m (Kd.R_elder' (vR A6) (Kd.R_base Ca) hb); replace A3 := Z.m (Kd.R_elder' (vR A3) (Kd.R_base Ca) hb); replace A0 := Z.m (Kd.R_elder' (vR A0) (Kd.R_base Ca) hb); replace AO := Z.m (Kd.R_elder' (vR AO) (Kd.R_base Ca) hb); replace B8 := Z.m (Kd.Rb (vR B8) hb); replace A2 := kB A2 hb; replace A7 := kB A7 hb; replace A8 := kB A8 hb; replace A4 := kB A4 hb; replace HB := bB HB hb; (try clear hb); (try clear BQ); (try clear hk); (try clear hi); (try clear Bj); (try clear Ca)) | ((with_reducible refine gq (N := 18) rfl ?_); refine be (N := 18) (cs := #[.int .i64 0, .int .i64 0, .slice none 0 0]) (t := 32) ?_; intro Ce hg Jc hbox hb; have Al := Z.m (hbox); have E1 := gW (w := w) HB hg; have FM := E1; have Bm := neL A2 hg; have BH := neG A2 hg; have Bn := neL A7 hg; have BI := neG A7 hg; have Bo := neL A8 hg; have BJ := neG A8 hg; have Be := neL A4 hg; have Bw := neG A4 hg; replace As := Z.m (Kd.Rb (vR As) hb); replace Aj := Z.m (Kd.Rb (vR Aj) hb); replace A6 := Z.m (Kd.Rb (vR A6) hb); replace A3 := Z.m (Kd.Rb (vR A3) hb); replace A0 := Z.m (Kd.Rb (vR A0) hb); replace AO := Z.m (Kd.Rb (vR AO) hb); replace B8 := Z.m (Kd.Rb (vR B8) hb); replace AY := Z.m (Kd.Rb (vR AY) hb); replace Ba := Z.m (Kd.Rb (vR Ba) hb); replace A2 := kB A2 hb; replace A7 := kB A7 hb; replace A8 := kB A8 hb; replace A4 := kB A4 hb; replace HB := bB HB hb; clear hb hbox hg; have Gi := BH.o; have GH := Bm.o; have Gj := BI.o; have GI := Bn.o; have Gk := BJ.o; have GJ := Bo.o; have Gl := Bw.o; have GK := Be.o; have CD := bc0 Al; have CE := bc1 Al; have CF := bc2 Al; have CP := qz Al.o 0; have CQ := qz Al.o 1; have CR := qz Al.o 2; obtain ⟨BM, BO, EL⟩ := Kd.R_slice Ba.o; subst EL))
              (try simp only [Act.put, q1, q2, q3])
              go_cut [140] (fun v140 wc => ∃ (kq : Nat) (BE : Bool), v140 = .bool BE ∧ Z (laws_FnExactFallsOf.j2 kq Aq Au BE Aa Ab Ar = some true) ∧ Z (kq ≤ kj84) ∧ Z (Kd.R k27 27 wc w.heap.size (fun _ => True) (.slice Bk Ai.length Bp) Aq) ∧ Z (Kd.R k89 89 wc w.heap.size (fun k_ => some k_ ≠ ((.slice AE B0.length AF) : Value).ownBlock ∧ some k_ ≠ ((.slice AH Ac.length AK) : Value).ownBlock ∧ some k_ ≠ ((.slice BM Bs.length BO) : Value).ownBlock) (.slice AP A9.length AR) A9) ∧ Z (Kd.R k89 89 wc w.heap.size (fun k_ => some k_ ≠ ((.slice AP A9.length AR) : Value).ownBlock ∧ some k_ ≠ ((.slice AH Ac.length AK) : Value).ownBlock ∧ some k_ ≠ ((.slice BM Bs.length BO) : Value).ownBlock) (.slice AE B0.length AF) B0) ∧ Z (Kd.R k89 89 wc w.heap.size (fun k_ => some k_ ≠ ((.slice AP A9.length AR) : Value).ownBlock ∧ some k_ ≠ ((.slice AE B0.length AF) : Value).ownBlock ∧ some k_ ≠ ((.slice BM Bs.length BO) : Value).ownBlock) (.slice AH Ac.length AK) Ar) ∧ Z (Kd.R k89 89 wc w.heap.size (fun k_ => some k_ ≠ ((.slice AP A9.length AR) : Value).ownBlock ∧ some k_ ≠ ((.slice AE B0.length AF) : Value).ownBlock ∧ some k_ ≠ ((.slice AH Ac.length AK) : Value).ownBlock) (.slice BM Bs.length BO) Bs) ∧ Z (wc.heap[AS]? = some (.cells #[.int .i64 a0_0, .int .i64 a0_1, (.slice A0_2 l0_2.length c0_2)] 24 (0, 0))) ∧ Z (wc.heap[Bq]? = some (.cells #[.int .i64 Af, .int .i64 Ag, (.slice AP A9.length AR)] 32 (0, 0))) ∧ Z (wc.heap[Bg]? = some (.cells #[.int .i64 Ao, .int .i64 Ap, (.slice AE B0.length AF)] 32 (0, 0))) ∧ Z (wc.heap[Bx]? = some (.cells #[.int .i64 Aa, .int .i64 Ab, (.slice AH Ac.length AK)] 32 (0, 0))) ∧ Z (wc.heap[Ce]? = some (.cells #[.int .i64 BK, .int .i64 BL, (.slice BM Bs.length BO)] 32 (0, 0))) ∧ Z (Below w.heap.size w wc))
              case first =>
               have H := Cm.o
               clear Cm
               replace H := Option.bind_eq_some_iff.mp H
               obtain ⟨B2, DQ, H⟩ := H
               replace H : (if B2 = true then ((laws_eqBoard.f kj84 BK BL Bs Af Ag A9).bind fun AM => (if AM = true then (laws_FnExactFallsOf.j2 kj84 Aq Au (BP != Ah) Aa Ab Ar) else (laws_FnExactFallsOf.j2 kj84 Aq Au true Aa Ab Ar))) else (laws_FnExactFallsOf.j2 kj84 Aq Au true Aa Ab Ar)) = some true := H
               have Ee := Z.m DQ
               clear DQ
               by_cases c181 : B2 = true
               ·subst c181
                have H1 : ((laws_eqBoard.f kj84 BK BL Bs Af Ag A9).bind fun AM => (if AM = true then (laws_FnExactFallsOf.j2 kj84 Aq Au (BP != Ah) Aa Ab Ar) else (laws_FnExactFallsOf.j2 kj84 Aq Au true Aa Ab Ar))) = some true := by rw [if_pos rfl] at H; exact H
                clear H
                have H := H1
                clear H1
                replace H := Option.bind_eq_some_iff.mp H
                obtain ⟨AM, DR, H⟩ := H
                replace H : (if AM = true then (laws_FnExactFallsOf.j2 kj84 Aq Au (BP != Ah) Aa Ab Ar) else (laws_FnExactFallsOf.j2 kj84 Aq Au true Aa Ab Ar)) = some true := H
                have FG := Z.m DR
                clear DR
                by_cases c183 : AM = true
                ·subst c183
                 have H1 : (laws_FnExactFallsOf.j2 kj84 Aq Au (BP != Ah) Aa Ab Ar) = some true := by rw [if_pos rfl] at H; exact H
                 clear H
                 have H := H1
                 clear H1
                 have H' := Z.m H
                 clear H
                 obtain ⟨DU, Cq, EM⟩ := Kd.R_slice AY.o
                 subst EM
                 obtain ⟨DV, Cr, EN⟩ := Kd.R_slice As.o
                 subst EN
                 go_wp2_with (first | ((with_reducible refine gc (f := 46) rfl ?_); refine gA (some 128) _ #[.slice DU BA.length Cq, .slice DV Ae.length Cr] ?_ Try.func46; (with_reducible refine (laws_eqFallS.calls kj84 _ _ BA _ _ Ae true _ ?side1 ?side2 ?side3 ?side4 Ee.o).mono ?_); (case side1 => refine (Kd.RrZ (e := 27) (base := w.heap.size) (ok := fun k_ => ((True ∧ some k_ ≠ (.slice DV Ae.length Cr : Value).ownBlock) ∧ some k_ ≠ (.slice Bk Ai.length Bp : Value).ownBlock)) (n := BA.length) (c := Cq) ?_).2.2; exact (by refine rK ?_; exact (Kd.Rm (rf (rf (rf (Kd.Ry AY.o Al.o (by decide))))) (fun _ h_ => h_.1)))); (case side2 => exact (Kd.RrZ AY.o).2.1); (case side3 => refine (Kd.RrZ (e := 27) (base := w.heap.size) (ok := fun k_ => (some k_ ≠ (.slice Bk Ai.length Bp : Value).ownBlock ∧ some k_ ≠ (.slice DU BA.length Cq : Value).ownBlock)) (n := Ae.length) (c := Cr) ?_).2.2; exact (by refine rK ?_; exact (Kd.Rm (rf (rf (rf (Kd.Ry As.o Al.o (by decide))))) (fun _ h_ => h_.1)))); (case side4 => exact (Kd.RrZ As.o).2.1); rintro e Jd ⟨rfl, hb⟩; refine ⟨_, rfl, ?_⟩; replace As := Z.m (Kd.Rb (by refine rK ?_; exact (Kd.Rm (rf (rf (rf (Kd.Ry As.o Al.o (by decide))))) (fun _ h_ => h_.1))) hb); replace Aj := Z.m (Kd.Rb (by refine rK ?_; exact (Kd.Rm (rf (rf (rf (Kd.Ry Aj.o Al.o (by decide))))) (fun _ h_ => h_.1))) hb); replace A6 := Z.m (Kd.Rb (by refine rK ?_; exact (Kd.Rm (rf (rf (rf (Kd.Ry A6.o Al.o (by decide))))) (fun _ h_ => h_.1))) hb); replace A3 := Z.m (Kd.Rb (by refine rK ?_; exact (Kd.Rm (rf (rf (rf (Kd.Ry A3.o Al.o (by decide))))) (fun _ h_ => h_.1))) hb); replace A0 := Z.m (Kd.Rb (by refine rK ?_; exact (Kd.Rm (rf (rf (rf (Kd.Ry A0.o Al.o (by decide))))) (fun _ h_ => h_.1))) hb); replace AO := Z.m (Kd.Rb (by refine rK ?_; exact (Kd.Rm (rf (rf (rf (Kd.Ry AO.o Al.o (by decide))))) (fun _ h_ => h_.1))) hb); replace B8 := Z.m (Kd.Rb (by refine rK ?_; exact (Kd.Rm (rf (rf (rf (Kd.Ry B8.o Al.o (by decide))))) (fun _ h_ => h_.1))) hb); replace AY := Z.m (Kd.Rb (by refine rK ?_; exact (Kd.Rm (rf (rf (rf (Kd.Ry AY.o Al.o (by decide))))) (fun _ h_ => h_.1))) hb); replace Ba := Z.m (Kd.Rb (by refine rK ?_; exact (Kd.Rm (rf (rf (rf (Kd.Ry Ba.o Al.o (by decide))))) (fun _ h_ => h_.1))) hb); replace A2 := Z.m (qb (g := AS) (o := .cells #[.int .i64 a0_0, .int .i64 a0_1, .slice A0_2 l0_2.length c0_2] 24 (0, 0)) (by refine bK ?_; (iterate 3 refine qF ?_ Bm); exact A2.o) hb); replace A7 := Z.m (qb (g := Bq) (o := .cells #[.int .i64 Af, .int .i64 Ag, .slice AP A9.length AR] 32 (0, 0)) (by refine bK ?_; (iterate 3 refine qF ?_ Bn); exact A7.o) hb); replace A8 := Z.m (qb (g := Bg) (o := .cells #[.int .i64 Ao, .int .i64 Ap, .slice AE B0.length AF] 32 (0, 0)) (by refine bK ?_; (iterate 3 refine qF ?_ Bo); exact A8.o) hb); replace A4 := Z.m (qb (g := Bx) (o := .cells #[.int .i64 Aa, .int .i64 Ab, .slice AH Ac.length AK] 32 (0, 0)) (by refine bK ?_; (iterate 3 refine qF ?_ Be); exact A4.o) hb); replace Al := Z.m (qb (g := Ce) (o := .cells #[.int .i64 BK, .int .i64 BL, .slice BM Bs.length BO] 32 (0, 0)) (by refine bK ?_; apply st3; refine bK ?_; exact Al.o) hb); replace HB := bB HB hb; (try clear hb); (try clear BQ); (try clear hk); (try clear hi); have Gm := BH.o; have GL := Bm.o; have Gn := BI.o; have GM := Bn.o; have Go := BJ.o; have GN := Bo.o; have Gp := Bw.o; have GO := Be.o; have EX := bc0 Al; have EY := bc1 Al; have EZ := bc2 Al; have Fc := qz Al.o 0; have Fd := qz Al.o 1; have Fe := qz Al.o 2; have Gq := Bb.o; have GP := AT.o; have Gr := AU.o; have GQ := Bc.o; have Gs := AC.o; have GR := AV.o; have F0 := bc0 A7; have F1 := bc1 A7; have F2 := bc2 A7; have Ff := qz A7.o 0; have Fg := qz A7.o 1; have Fh := qz A7.o 2) | (go_at_call 18; (with_reducible refine (laws_eqBoard.calls kj84 BK BL _ _ Bs Af Ag _ _ A9 true _ ?side1 ?side2 ?side3 ?side4 FG.o).mono ?_); (case side1 => repeat (first | exact (Kd.RrZ Ba.o).2.2 | (with_reducible refine Kd.C_alloc ?_ _) | (with_reducible refine Kd.C_drewN ?_ _) | (with_reducible refine Kd.C_drew ?_))); (case side2 => exact (Kd.RrZ Ba.o).2.1); (case side3 => repeat (first | exact (Kd.RrZ A6.o).2.2 | (with_reducible refine Kd.C_alloc ?_ _) | (with_reducible refine Kd.C_drewN ?_ _) | (with_reducible refine Kd.C_drew ?_))); (case side4 => exact (Kd.RrZ A6.o).2.1); rintro e Je ⟨rfl, hb⟩; replace As := Z.m (Kd.Rb (vR As) hb); replace Aj := Z.m (Kd.Rb (vR Aj) hb); replace A6 := Z.m (Kd.Rb (vR A6) hb); replace A3 := Z.m (Kd.Rb (vR A3) hb); replace A0 := Z.m (Kd.Rb (vR A0) hb); replace AO := Z.m (Kd.Rb (vR AO) hb); replace B8 := Z.m (Kd.Rb (vR B8) hb); replace AY := Z.m (Kd.Rb (vR AY) hb); replace Ba := Z.m (Kd.Rb (vR Ba) hb); replace A2 := kB A2 hb; replace A7 := kB A7 hb; replace A8 := kB A8 hb; replace A4 := kB A4 hb; replace Al := kB Al hb; replace HB := bB HB hb; (try clear hb); (try clear BQ); (try clear hk); (try clear hi)))
                 go_meet
                 case rel => exact ⟨_, ((BP != Ah)), (by first | rfl | (simp; done) | (simp [*]; done)), H', ⟨by have := Cn.o; have := Ex.o; first | omega | exact Nat.le_refl _⟩, ⟨by (try simp only [Ad]); refine rK ?_; exact Kd.Rm Aj.o (fun _ hk => trivial)⟩, ⟨by (try simp only [Ad]); refine rK ?_; exact Kd.Rm A6.o (fun _ hk => ⟨hk.1.1.1, ⟨hk.1.1.2, hk.2⟩⟩)⟩, ⟨by (try simp only [Ad]); refine rK ?_; exact Kd.Rm A3.o (fun _ hk => ⟨hk.1.1.1, ⟨hk.1.1.2, hk.2⟩⟩)⟩, ⟨by (try simp only [Ad]); refine rK ?_; exact Kd.Rm A0.o (fun _ hk => ⟨hk.1.1.1, ⟨hk.1.1.2, hk.2⟩⟩)⟩, ⟨by (try simp only [Ad]); refine rK ?_; exact Kd.Rm Ba.o (fun _ hk => ⟨hk.1.1.1.2, ⟨hk.1.1.2, hk.1.2⟩⟩)⟩, ⟨by (try simp only [Ad]); refine bK ?_; exact A2.o⟩, ⟨by (try simp only [Ad]); refine bK ?_; exact A7.o⟩, ⟨by (try simp only [Ad]); refine bK ?_; exact A8.o⟩, ⟨by (try simp only [Ad]); refine bK ?_; exact A4.o⟩, ⟨by (try simp only [Ad]); refine bK ?_; exact Al.o⟩, ⟨vB HB⟩⟩
                ·(rw [if_neg c183] at H; exact absurd H (laws_FnExactFallsOf.bad_j2 _ _ _ _ _ _))
               ·replace c181 := Bool.eq_false_iff.mpr c181
                subst c181
                have H1 : (laws_FnExactFallsOf.j2 kj84 Aq Au true Aa Ab Ar) = some true := by rw [if_neg (show ¬ (false = true) by decide)] at H; exact H
                clear H
                have H := H1
                clear H1
                have H' := Z.m H
                clear H
                obtain ⟨DW, Cs, EO⟩ := Kd.R_slice AY.o
                subst EO
                obtain ⟨DX, Ct, EP⟩ := Kd.R_slice As.o
                subst EP
                go_wp2_with (first | ((with_reducible refine gc (f := 46) rfl ?_); refine gA (some 128) _ #[.slice DW BA.length Cs, .slice DX Ae.length Ct] ?_ Try.func46; (with_reducible refine (laws_eqFallS.calls kj84 _ _ BA _ _ Ae false _ ?side1 ?side2 ?side3 ?side4 Ee.o).mono ?_); (case side1 => refine (Kd.RrZ (e := 27) (base := w.heap.size) (ok := fun k_ => ((True ∧ some k_ ≠ (.slice DX Ae.length Ct : Value).ownBlock) ∧ some k_ ≠ (.slice Bk Ai.length Bp : Value).ownBlock)) (n := BA.length) (c := Cs) ?_).2.2; exact (by refine rK ?_; exact (Kd.Rm (rf (rf (rf (Kd.Ry AY.o Al.o (by decide))))) (fun _ h_ => h_.1)))); (case side2 => exact (Kd.RrZ AY.o).2.1); (case side3 => refine (Kd.RrZ (e := 27) (base := w.heap.size) (ok := fun k_ => (some k_ ≠ (.slice Bk Ai.length Bp : Value).ownBlock ∧ some k_ ≠ (.slice DW BA.length Cs : Value).ownBlock)) (n := Ae.length) (c := Ct) ?_).2.2; exact (by refine rK ?_; exact (Kd.Rm (rf (rf (rf (Kd.Ry As.o Al.o (by decide))))) (fun _ h_ => h_.1)))); (case side4 => exact (Kd.RrZ As.o).2.1); rintro e Jf ⟨rfl, hb⟩; refine ⟨_, rfl, ?_⟩; replace As := Z.m (Kd.Rb (by refine rK ?_; exact (Kd.Rm (rf (rf (rf (Kd.Ry As.o Al.o (by decide))))) (fun _ h_ => h_.1))) hb); replace Aj := Z.m (Kd.Rb (by refine rK ?_; exact (Kd.Rm (rf (rf (rf (Kd.Ry Aj.o Al.o (by decide))))) (fun _ h_ => h_.1))) hb); replace A6 := Z.m (Kd.Rb (by refine rK ?_; exact (Kd.Rm (rf (rf (rf (Kd.Ry A6.o Al.o (by decide))))) (fun _ h_ => h_.1))) hb); replace A3 := Z.m (Kd.Rb (by refine rK ?_; exact (Kd.Rm (rf (rf (rf (Kd.Ry A3.o Al.o (by decide))))) (fun _ h_ => h_.1))) hb); replace A0 := Z.m (Kd.Rb (by refine rK ?_; exact (Kd.Rm (rf (rf (rf (Kd.Ry A0.o Al.o (by decide))))) (fun _ h_ => h_.1))) hb); replace AO := Z.m (Kd.Rb (by refine rK ?_; exact (Kd.Rm (rf (rf (rf (Kd.Ry AO.o Al.o (by decide))))) (fun _ h_ => h_.1))) hb); replace B8 := Z.m (Kd.Rb (by refine rK ?_; exact (Kd.Rm (rf (rf (rf (Kd.Ry B8.o Al.o (by decide))))) (fun _ h_ => h_.1))) hb); replace AY := Z.m (Kd.Rb (by refine rK ?_; exact (Kd.Rm (rf (rf (rf (Kd.Ry AY.o Al.o (by decide))))) (fun _ h_ => h_.1))) hb); replace Ba := Z.m (Kd.Rb (by refine rK ?_; exact (Kd.Rm (rf (rf (rf (Kd.Ry Ba.o Al.o (by decide))))) (fun _ h_ => h_.1))) hb); replace A2 := Z.m (qb (g := AS) (o := .cells #[.int .i64 a0_0, .int .i64 a0_1, .slice A0_2 l0_2.length c0_2] 24 (0, 0)) (by refine bK ?_; (iterate 3 refine qF ?_ Bm); exact A2.o) hb); replace A7 := Z.m (qb (g := Bq) (o := .cells #[.int .i64 Af, .int .i64 Ag, .slice AP A9.length AR] 32 (0, 0)) (by refine bK ?_; (iterate 3 refine qF ?_ Bn); exact A7.o) hb); replace A8 := Z.m (qb (g := Bg) (o := .cells #[.int .i64 Ao, .int .i64 Ap, .slice AE B0.length AF] 32 (0, 0)) (by refine bK ?_; (iterate 3 refine qF ?_ Bo); exact A8.o) hb); replace A4 := Z.m (qb (g := Bx) (o := .cells #[.int .i64 Aa, .int .i64 Ab, .slice AH Ac.length AK] 32 (0, 0)) (by refine bK ?_; (iterate 3 refine qF ?_ Be); exact A4.o) hb); replace Al := Z.m (qb (g := Ce) (o := .cells #[.int .i64 BK, .int .i64 BL, .slice BM Bs.length BO] 32 (0, 0)) (by refine bK ?_; apply st3; refine bK ?_; exact Al.o) hb); replace HB := bB HB hb; (try clear hb); (try clear BQ); (try clear hk); (try clear hi)))
                go_meet
                case rel => exact ⟨_, (true), (by first | rfl | (simp; done) | (simp [*]; done)), H', ⟨by have := Cn.o; have := Ex.o; first | omega | exact Nat.le_refl _⟩, ⟨by (try simp only [Ad]); refine rK ?_; exact Kd.Rm Aj.o (fun _ hk => trivial)⟩, ⟨by (try simp only [Ad]); refine rK ?_; exact Kd.Rm A6.o (fun _ hk => ⟨hk.1.1.1, ⟨hk.1.1.2, hk.2⟩⟩)⟩, ⟨by (try simp only [Ad]); refine rK ?_; exact Kd.Rm A3.o (fun _ hk => ⟨hk.1.1.1, ⟨hk.1.1.2, hk.2⟩⟩)⟩, ⟨by (try simp only [Ad]); refine rK ?_; exact Kd.Rm A0.o (fun _ hk => ⟨hk.1.1.1, ⟨hk.1.1.2, hk.2⟩⟩)⟩, ⟨by (try simp only [Ad]); refine rK ?_; exact Kd.Rm Ba.o (fun _ hk => ⟨hk.1.1.1.2, ⟨hk.1.1.2, hk.1.2⟩⟩)⟩, ⟨by (try simp only [Ad]); refine bK ?_; exact A2.o⟩, ⟨by (try simp only [Ad]); refine bK ?_; exact A7.o⟩, ⟨by (try simp only [Ad]); refine bK ?_; exact A8.o⟩, ⟨by (try simp only [Ad]); refine bK ?_; exact A4.o⟩, ⟨by (try simp only [Ad]); refine bK ?_; exact Al.o⟩, ⟨vB HB⟩⟩
              case rest =>
               clear Cm
               (try clear c128); (try clear Co); (try clear Cp); (try clear E4); (try clear E5)
               (try clear Cu); (try clear Cv); (try clear Cw); (try clear Cx); (try clear Cy); (try clear Cz); (try clear CA); (try clear CB)
               (try clear CC); (try clear CD); (try clear CE); (try clear CF); (try clear CG); (try clear CH); (try clear CI); (try clear CJ)
               (try clear CK); (try clear CL); (try clear CM); (try clear CN); (try clear CO); (try clear CP); (try clear CQ); (try clear CR)
               obtain ⟨kq, BE, rfl, HA, H4, Aj, A6, A3, A0, Bt, A2, A7, A8, A4, Al, HB⟩ := hcut
               have AB := (Kd.RrZ Aj.o).1
               rw [AB] at Aj
               (try simp only [AB])
               (try simp only [AB] at A2)
               (try simp only [AB] at A7)
               (try simp only [AB] at A8)
               (try simp only [AB] at A4)
               (try simp only [AB] at Al)
               (try simp only [AB] at A6)
               (try simp only [AB] at A3)
               (try simp only [AB] at A0)
               (try simp only [AB] at Bt)
               have An := (Kd.RrZ A0.o).1
               rw [An] at A0
               (try simp only [An])
               (try simp only [An] at A2)
               (try simp only [An] at A7)
               (try simp only [An] at A8)
               (try simp only [An] at A4)
               (try simp only [An] at Al)
               (try simp only [An] at Aj)
               (try simp only [An] at A6)
               (try simp only [An] at A3)
               (try simp only [An] at Bt)
               cases kq with
               | zero => exact absurd HA.o (by simp [laws_FnExactFallsOf.j2])
               | succ kj154 =>
                have H := HA.o
                clear HA
                simp only [laws_FnExactFallsOf.j2] at H
                by_cases c213 : BE = true
                ·(rw [if_pos c213] at H; exact absurd H (by decide))
                ·replace c213 := Bool.eq_false_iff.mpr c213
                 subst c213
                 have H1 : ((laws_heldFallS.f kj154 Aq 1).bind fun BC => (if BC < 0 then (some false) else ((laws_heldBoard.f kj154 Aa Ab Ar BC).bind fun By => (if By < 0 then (some false) else (if By = Au then (some true) else (some false)))))) = some true := by rw [if_neg (show ¬ (false = true) by decide)] at H; exact H
                 clear H
                 have H := H1
                 clear H1
                 replace H := Option.bind_eq_some_iff.mp H
                 obtain ⟨BC, DS, H⟩ := H
                 replace H : (if BC < 0 then (some false) else ((laws_heldBoard.f kj154 Aa Ab Ar BC).bind fun By => (if By < 0 then (some false) else (if By = Au then (some true) else (some false))))) = some true := H
                 have FH := Z.m DS
                 clear DS
                 by_cases c215 : BC < 0
                 ·(rw [if_pos c215] at H; exact absurd H (by decide))
                 ·rw [if_neg c215] at H
                  have Cb := decide_eq_false c215
                  (try simp only [Ad] at Cb)
                  (try simp only [AB] at Cb)
                  (try simp only [An] at Cb)
                  clear c215
                  replace H := Option.bind_eq_some_iff.mp H
                  obtain ⟨By, DT, H⟩ := H
                  replace H : (if By < 0 then (some false) else (if By = Au then (some true) else (some false))) = some true := H
                  have FI := Z.m DT
                  clear DT
                  by_cases c217 : By < 0
                  ·(rw [if_pos c217] at H; exact absurd H (by decide))
                  ·rw [if_neg c217] at H
                   have Cd := decide_eq_false c217
                   (try simp only [Ad] at Cd)
                   (try simp only [AB] at Cd)
                   (try simp only [An] at Cd)
                   clear c217
                   by_cases c224 : By = Au
                   ·rw [if_pos c224] at H
                    have FN := beq_iff_eq.mpr c224
                    have FO := bne_eq_false_iff_eq.mpr c224
                    clear c224
                    clear H
                    go_wp2_with (first | ((with_reducible refine gc (f := 48) rfl ?_); refine gA (some 143) _ #[.slice Bk Aq.length Bp, .int .i64 1] ?_ Try.func48; (with_reducible refine (laws_heldFallS.calls kj154 _ _ Aq 1 BC _ ?side1 ?side2 FH.o).mono ?_); (case side1 => repeat (first | exact (Kd.RrZ Aj.o).2.2 | (with_reducible refine Kd.C_alloc ?_ _) | (with_reducible refine Kd.C_drewN ?_ _) | (with_reducible refine Kd.C_drew ?_))); (case side2 => exact (Kd.RrZ Aj.o).2.1); rintro e w' ⟨rfl, ⟨nd, rfl⟩⟩; refine ⟨_, rfl, ?_⟩; have Aj := Z.m (Kd.R_drewN Aj.o nd); have A6 := Z.m (Kd.R_drewN A6.o nd); have A3 := Z.m (Kd.R_drewN A3.o nd); have A0 := Z.m (Kd.R_drewN A0.o nd); have Bt := Z.m (Kd.R_drewN Bt.o nd); have A2 := Z.m (blk_drewN A2.o nd); have A7 := Z.m (blk_drewN A7.o nd); have A8 := Z.m (blk_drewN A8.o nd); have A4 := Z.m (blk_drewN A4.o nd); have Al := Z.m (blk_drewN Al.o nd); have HB := Z.m (qn HB.o nd); generalize World.drewN _ nd = Jq at Aj A6 A3 A0 Bt A2 A7 A8 A4 Al HB ⊢; have Gt := Bd.o; have GS := AJ.o; have Gu := AV.o; have GT := AC.o; have Gv := AW.o; have GU := AD.o; have Gw := Be.o; have GV := Bw.o; have F3 := bc0 A4; have F4 := bc1 A4; have F5 := bc2 A4; have Fi := qz A4.o 0; have Fj := qz A4.o 1; have Fk := qz A4.o 2) | ((with_reducible refine gc (f := 24) rfl ?_); refine gA (some 148) _ #[.agg #[.int .i64 Aa, .int .i64 Ab, .slice AH Ar.length AK], .int .i64 BC] ?_ Try.func24; (with_reducible refine (laws_heldBoard.calls kj154 Aa Ab _ _ Ar BC By _ ?side1 ?side2 FI.o).mono ?_); (case side1 => repeat (first | exact (Kd.RrZ A0.o).2.2 | (with_reducible refine Kd.C_alloc ?_ _) | (with_reducible refine Kd.C_drewN ?_ _) | (with_reducible refine Kd.C_drew ?_))); (case side2 => exact (Kd.RrZ A0.o).2.1); rintro e Jg ⟨rfl, hb⟩; refine ⟨_, rfl, ?_⟩; replace Aj := Z.m (Kd.Rb (vR Aj) hb); replace A6 := Z.m (Kd.Rb (vR A6) hb); replace A3 := Z.m (Kd.Rb (vR A3) hb); replace A0 := Z.m (Kd.Rb (vR A0) hb); replace Bt := Z.m (Kd.Rb (vR Bt) hb); replace A2 := kB A2 hb; replace A7 := kB A7 hb; replace A8 := kB A8 hb; replace A4 := kB A4 hb; replace Al := kB Al hb; replace HB := bB HB hb; (try clear hb); (try clear BQ); (try clear hk); (try clear hi)))
                    go_ret
                    exact ⟨by first | rfl | (simp [eN, eS] <;> rfl) | (simp [*, eN, eS] <;> rfl), vB HB⟩
                   ·(rw [if_neg c224] at H; exact absurd H (by decide))
             ·(rw [if_neg c151] at H; exact absurd H (by decide))
       ·(rw [if_neg c82] at H; exact absurd H (by decide))
      ·(rw [if_neg c79] at H; exact absurd H (by decide))

end Go.Proofs.Ytoklfgjemfojgaa.PAll
