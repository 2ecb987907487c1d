/- Began as a text that print.sh wrote (of the functions named below); turned and shortened by this session. -/
import Derived.Test.YtoklfgjemfojgaaG0
import Derived.Test.YtoklfgjemfojgaaG4
import Derived.Test.YtoklfgjemfojgaaG5
import Derived.Test.YtoklfgjemfojgaaG7
import Derived.Test.YtoklfgjemfojgaaG8
namespace Go.Proofs.Ytoklfgjemfojgaa.PAll
open Go.RowKit Go.Proofs.YtoklfgjemfojgaaW.PrintWords Go.Proofs.YtoklfgjemfojgaaW.PrintLast Go.Proofs.YtoklfgjemfojgaaW.PrintMore
attribute [local go_sem] max2_int min2_int max_two min_two max_three min_three max_four min_four   -- for this text's walks alone
set_option linter.unusedVariables false
set_option linter.unusedSimpArgs false

/-! ### spec_l1All: function 86 -/
def spec_l1All.l0 : Nat → Int → Int → List Int → Int → Int → Option (Bool)
 | 0, _, _, _, _, _ => none
 | k + 1, x1, x2, x9, x10, x11 => if x11 < x10 then (if 0 ≤ x11 then (if x11 < (x9.length : Int) then ((spec_l1In.f (rd x9 x11) x1 x2).bind fun t658 => (if t658 = true then (spec_l1All.l0 k x1 x2 x9 x10 (wrap64 (x11 + 1))) else (some false))) else (none)) else (none)) else (some true)
def spec_l1All.f (k : Nat) (l0 : List Int) (a1 : Int) (a2 : Int) : Option (Bool) := spec_l1All.l0 k a1 a2 l0 (l0.length : Int) 0
set_option maxHeartbeats 8000000 in
set_option maxRecDepth 100000 in
theorem spec_l1All.calls (k : Nat) (A0 : Option Addr) (c0 : Nat) (l0 : List Int) (a1 : Int) (a2 : Int) (r : Bool) (w : World) (hr0 : Kd.C (Kd.int .i64) w A0 l0.length l0) (hc0 : l0.length ≤ c0) (h : spec_l1All.f k l0 a1 a2 = some r) :
 Calls Try.prog 86 #[.slice A0 l0.length c0, .int .i64 a1, .int .i64 a2] w fun e w' => e = .returned (.bool r) ∧ Drawn0 w w' := by
 have A9 := Z.m hr0
 have Ac := Z.m hc0
 clear hr0 hc0
 have H : (spec_l1All.l0 k a1 a2 l0 (l0.length : Int) 0) = some r := h
 clear h
 have H' := Z.m H
 clear H
 go_enter Try.func86, Try.ntmps86
 go_wp2
 go_loopg [11] k (fun kq v11 w' => ∃ (A1 : Int), v11 = .int .i64 A1 ∧ Z (spec_l1All.l0 kq a1 a2 l0 (l0.length : Int) A1 = some r) ∧ Z (kq ≤ k) ∧ Drawn0 w w')
 case atStart => exact ⟨(0), (by first | rfl | (simp; done) | (simp [*]; done)), H', ⟨Nat.le_refl _⟩, by repeat (first | exact Drawn0.refl _ | apply Drawn0.step)⟩
 case round =>
  clear H'
  obtain ⟨A1, rfl, HA, A8, ⟨m1, rfl⟩⟩ := hrel
  cases gk with
  | zero => exact absurd HA.o (by simp [spec_l1All.l0])
  | succ k1 =>
   have H := HA.o
   clear HA
   simp only [spec_l1All.l0] at H
   by_cases c4 : A1 < (l0.length : Int)
   ·rw [if_pos c4] at H
    have A5 := decide_eq_true c4
    clear c4
    by_cases c5 : 0 ≤ A1
    ·rw [if_pos c5] at H
     have Aa := decide_eq_true c5
     clear c5
     by_cases c6 : A1 < (l0.length : Int)
     ·rw [if_pos c6] at H
      have Ab := decide_eq_true c6
      clear c6
      replace H := Option.bind_eq_some_iff.mp H
      obtain ⟨A4, A6, H⟩ := H
      replace H : (if A4 = true then (spec_l1All.l0 k1 a1 a2 l0 (l0.length : Int) (wrap64 (A1 + 1))) else (some false)) = some r := H
      have A7 := Z.m A6
      clear A6
      by_cases c8 : A4 = true
      ·subst c8
       have H1 : (spec_l1All.l0 k1 a1 a2 l0 (l0.length : Int) (wrap64 (A1 + 1))) = some r := by rw [if_pos rfl] at H; exact H
       clear H
       have H := H1
       clear H1
       have H' := Z.m H
       clear H
       have p657 : 0 ≤ (A1 : Int) := ofD
       have q657 : A1 < (l0.length : Int) := ofD
       obtain ⟨A3, e657, A2⟩ := Kd.at_int A9.o A1 p657 q657
       cases e657
       replace p657 := eq_true p657
       replace q657 := eq_true q657
       go_wp2_with (first | ((with_reducible refine gc (f := 71) rfl ?_); refine gA (some 18) _ #[.int .i64 (rd l0 A1), .int .i64 a1, .int .i64 a2] ?_ Try.func71; (with_reducible refine (spec_l1In.calls (rd l0 A1) a1 a2 true _ A7.o).mono ?_); rintro e w' ⟨rfl, ⟨nd, rfl⟩⟩; refine ⟨_, rfl, ?_⟩))
       go_roundg k1
       case measure => have := A8.o; omega
       case rel => exact ⟨(wrap64 (A1 + 1)), (by first | rfl | (simp; done) | (simp [*]; done)), H', ⟨by have := A8.o; omega⟩, by repeat (first | exact Drawn0.refl _ | apply Drawn0.step)⟩
      ·replace c8 := Bool.eq_false_iff.mpr c8
       subst c8
       have H1 : (some false) = some r := by rw [if_neg (show ¬ (false = true) by decide)] at H; exact H
       clear H
       have H := H1
       clear H1
       obtain rfl := Option.some.inj H
       have p657 : 0 ≤ (A1 : Int) := ofD
       have q657 : A1 < (l0.length : Int) := ofD
       obtain ⟨A3, e657, A2⟩ := Kd.at_int A9.o A1 p657 q657
       cases e657
       replace p657 := eq_true p657
       replace q657 := eq_true q657
       go_wp2_with (first | ((with_reducible refine gc (f := 71) rfl ?_); refine gA (some 18) _ #[.int .i64 (rd l0 A1), .int .i64 a1, .int .i64 a2] ?_ Try.func71; (with_reducible refine (spec_l1In.calls (rd l0 A1) a1 a2 false _ A7.o).mono ?_); rintro e w' ⟨rfl, ⟨nd, rfl⟩⟩; refine ⟨_, rfl, ?_⟩))
       go_ret
       exact ⟨by first | rfl | (simp; done) | (simp [*]; done), by repeat (first | exact Drawn0.refl _ | apply Drawn0.step)⟩
     ·rw [if_neg c6] at H
      exact absurd H (by simp)
    ·rw [if_neg c5] at H
     exact absurd H (by simp)
   ·rw [if_neg c4] at H
    have A5 := decide_eq_false c4
    clear c4
    obtain rfl := Option.some.inj H
    go_wp2
    go_ret
    exact ⟨by first | rfl | (simp; done) | (simp [*]; done), by repeat (first | exact Drawn0.refl _ | apply Drawn0.step)⟩

/-! ### spec_flColumns: function 65 -/
def spec_flColumns.f (k : Nat) (a0_0 : Int) (a0_1 : Int) (l0_2 : List (S89)) (l1 : List Int) : Option (Bool) := (spec_boGood.f k a0_0 a0_1 l0_2).bind fun t660 => (if t660 = true then (if (l1.length : Int) ≤ 60 then ((spec_l1All.f k l1 0 (wrap64 (a0_1 - 1))).bind fun t661 => (some t661)) else (some false)) else (some false))
set_option maxHeartbeats 8000000 in
set_option maxRecDepth 100000 in
theorem spec_flColumns.calls (k : Nat) (a0_0 : Int) (a0_1 : Int) (A0_2 : Option Addr) (c0_2 : Nat) (l0_2 : List (S89)) (A1 : Option Addr) (c1 : Nat) (l1 : List Int) (r : Bool) (w : World) (hr0_2 : Kd.C k89 w A0_2 l0_2.length l0_2) (hc0_2 : l0_2.length ≤ c0_2) (hr1 : Kd.C (Kd.int .i64) w A1 l1.length l1) (hc1 : l1.length ≤ c1) (h : spec_flColumns.f k a0_0 a0_1 l0_2 l1 = some r) :
 Calls Try.prog 65 #[.agg #[.int .i64 a0_0, .int .i64 a0_1, .slice A0_2 l0_2.length c0_2], .slice A1 l1.length c1] w fun e w' => e = .returned (.bool r) ∧ Below w.heap.size w w' := by
 have AG := Try.underlying32
 have A7 := Z.m hr0_2
 have A5 := Z.m hc0_2
 clear hr0_2 hc0_2
 have AF := Z.m hr1
 have AE := Z.m hc1
 clear hr1 hc1
 have HB := Z.m (Below.refl w.heap.size w)
 have H : ((spec_boGood.f k a0_0 a0_1 l0_2).bind fun A8 => (if A8 = true then (if (l1.length : Int) ≤ 60 then ((spec_l1All.f k l1 0 (wrap64 (a0_1 - 1))).bind fun A4 => (some A4)) else (some false)) else (some false))) = some r := h
 clear h
 replace H := Option.bind_eq_some_iff.mp H
 obtain ⟨A8, AB, H⟩ := H
 replace H : (if A8 = true then (if (l1.length : Int) ≤ 60 then ((spec_l1All.f k l1 0 (wrap64 (a0_1 - 1))).bind fun A4 => (some A4)) else (some false)) else (some false)) = some r := H
 have A3 := Z.m AB
 clear AB
 by_cases c4 : A8 = true
 ·subst c4
  have H1 : (if (l1.length : Int) ≤ 60 then ((spec_l1All.f k l1 0 (wrap64 (a0_1 - 1))).bind fun A4 => (some A4)) else (some false)) = some r := by rw [if_pos rfl] at H; exact H
  clear H
  have H := H1
  clear H1
  by_cases c5 : (l1.length : Int) ≤ 60
  ·rw [if_pos c5] at H
   have At := decide_eq_true c5
   have Au : decide (l1.length ≤ 60) = true := decide_eq_true (by omega)
   clear c5
   replace H := Option.bind_eq_some_iff.mp H
   obtain ⟨A4, AC, H⟩ := H
   replace H : (some A4) = some r := H
   have A6 := Z.m AC
   clear AC
   obtain rfl := Option.some.inj H
   go_enter Try.func65, Try.ntmps65
   go_wp2_with (first | ((with_reducible refine gq (N := 2) rfl ?_); (try (refine gate_guard (by rfl) ?_; dsimp only)); refine be (N := 2) (cs := #[.int .i64 a0_0, .int .i64 a0_1, .slice A0_2 l0_2.length c0_2]) (t := 32) ?_; intro Aa hg w7 hbox hb; have A0 := Z.m (hbox); have A2 := gW (w := w) HB hg; have A9 := A2; replace HB := bB HB hb; clear hb hbox hg; have Av := bc0 A0; have Aw := bc1 A0; have Ax := bc2 A0; have Ay := qz A0.o 0; have Az := qz A0.o 1; have AA := qz A0.o 2) | ((with_reducible refine gc (f := 58) rfl ?_); refine gA (some 6) _ #[.agg #[.int .i64 a0_0, .int .i64 a0_1, .slice A0_2 l0_2.length c0_2]] ?_ Try.func58; (with_reducible refine (spec_boGood.calls k a0_0 a0_1 _ _ l0_2 true _ ?side1 ?side2 A3.o).mono ?_); (case side1 => repeat (first | exact (Kd.C_below A7.o HB.o) | (with_reducible refine Kd.C_alloc ?_ _) | (with_reducible refine Kd.C_drewN ?_ _) | (with_reducible refine Kd.C_drew ?_))); (case side2 => exact A5.o); rintro e w9 ⟨rfl, hb⟩; refine ⟨_, rfl, ?_⟩; replace A0 := kB A0 hb; replace HB := bB HB hb; (try clear hb); (try clear AD); (try clear hk); (try clear hi); have Ab := bc0 A0; have Ac := bc1 A0; have Ad := bc2 A0; have Ak := qz A0.o 0; have Al := qz A0.o 1; have Am := qz A0.o 2) | (go_at_call 86; (with_reducible refine (spec_l1All.calls k _ _ l1 0 (wrap64 (a0_1 - 1)) A4 _ ?side1 ?side2 A6.o).mono ?_); (case side1 => repeat (first | exact (Kd.C_below AF.o HB.o) | (with_reducible refine Kd.C_alloc ?_ _) | (with_reducible refine Kd.C_drewN ?_ _) | (with_reducible refine Kd.C_drew ?_))); (case side2 => exact AE.o); rintro e w' ⟨rfl, ⟨nd, rfl⟩⟩))
   go_ret
   exact ⟨by first | rfl | (simp [eN, eS] <;> rfl) | (simp [*, eN, eS] <;> rfl), vB HB⟩
  ·rw [if_neg c5] at H
   have At := decide_eq_false c5
   have Au : decide (l1.length ≤ 60) = false := decide_eq_false (by omega)
   clear c5
   obtain rfl := Option.some.inj H
   go_enter Try.func65, Try.ntmps65
   go_wp2_with (first | ((with_reducible refine gq (N := 2) rfl ?_); (try (refine gate_guard (by rfl) ?_; dsimp only)); refine be (N := 2) (cs := #[.int .i64 a0_0, .int .i64 a0_1, .slice A0_2 l0_2.length c0_2]) (t := 32) ?_; intro Aa hg AH hbox hb; have A0 := Z.m (hbox); have A2 := gW (w := w) HB hg; have A9 := A2; replace HB := bB HB hb; clear hb hbox hg; have Ae := bc0 A0; have Af := bc1 A0; have Ag := bc2 A0; have An := qz A0.o 0; have Ao := qz A0.o 1; have Ap := qz A0.o 2) | ((with_reducible refine gc (f := 58) rfl ?_); refine gA (some 6) _ #[.agg #[.int .i64 a0_0, .int .i64 a0_1, .slice A0_2 l0_2.length c0_2]] ?_ Try.func58; (with_reducible refine (spec_boGood.calls k a0_0 a0_1 _ _ l0_2 true _ ?side1 ?side2 A3.o).mono ?_); (case side1 => repeat (first | exact (Kd.C_below A7.o HB.o) | (with_reducible refine Kd.C_alloc ?_ _) | (with_reducible refine Kd.C_drewN ?_ _) | (with_reducible refine Kd.C_drew ?_))); (case side2 => exact A5.o); rintro e AI ⟨rfl, hb⟩; refine ⟨_, rfl, ?_⟩; replace A0 := kB A0 hb; replace HB := bB HB hb; (try clear hb); (try clear AD); (try clear hk); (try clear hi)))
   go_ret
   exact ⟨by first | rfl | (simp [eN, eS] <;> rfl) | (simp [*, eN, eS] <;> rfl), vB HB⟩
 ·replace c4 := Bool.eq_false_iff.mpr c4
  subst c4
  have H1 : (some false) = some r := by rw [if_neg (show ¬ (false = true) by decide)] at H; exact H
  clear H
  have H := H1
  clear H1
  obtain rfl := Option.some.inj H
  go_enter Try.func65, Try.ntmps65
  go_wp2_with (first | ((with_reducible refine gq (N := 2) rfl ?_); (try (refine gate_guard (by rfl) ?_; dsimp only)); refine be (N := 2) (cs := #[.int .i64 a0_0, .int .i64 a0_1, .slice A0_2 l0_2.length c0_2]) (t := 32) ?_; intro Aa hg AJ hbox hb; have A0 := Z.m (hbox); have A2 := gW (w := w) HB hg; have A9 := A2; replace HB := bB HB hb; clear hb hbox hg; have Ah := bc0 A0; have Ai := bc1 A0; have Aj := bc2 A0; have Aq := qz A0.o 0; have Ar := qz A0.o 1; have As := qz A0.o 2) | ((with_reducible refine gc (f := 58) rfl ?_); refine gA (some 6) _ #[.agg #[.int .i64 a0_0, .int .i64 a0_1, .slice A0_2 l0_2.length c0_2]] ?_ Try.func58; (with_reducible refine (spec_boGood.calls k a0_0 a0_1 _ _ l0_2 false _ ?side1 ?side2 A3.o).mono ?_); (case side1 => repeat (first | exact (Kd.C_below A7.o HB.o) | (with_reducible refine Kd.C_alloc ?_ _) | (with_reducible refine Kd.C_drewN ?_ _) | (with_reducible refine Kd.C_drew ?_))); (case side2 => exact A5.o); rintro e AK ⟨rfl, hb⟩; refine ⟨_, rfl, ?_⟩; replace A0 := kB A0 hb; replace HB := bB HB hb; (try clear hb); (try clear AD); (try clear hk); (try clear hi)))
  go_ret
  exact ⟨by first | rfl | (simp [eN, eS] <;> rfl) | (simp [*, eN, eS] <;> rfl), vB HB⟩

/-! ### spec_flAll: function 66 -/
def spec_flAll.l0 : Nat → List Int → List (S27) → List Int → Int → Int → Int → Int → List (S89) → Option ((List (S27)) × Int × Int × (List (S89)))
 | 0, _, _, _, _, _, _, _, _ => none
 | k + 1, x7, x8, x18, x19, x20, x673000, x673001, x673002 => if x20 < x19 then (if 0 ≤ x20 then (if x20 < (x18.length : Int) then ((spec_flGo.f k x673000 x673001 x673002 x7 (rd x18 x20)).bind fun bt674 => (if x8.length < 5864062014805 then (spec_flAll.l0 k x7 (x8 ++ [(⟨bt674.1, bt674.2.1, bt674.2.2.1⟩ : S27)]) x18 x19 (wrap64 (x20 + 1)) bt674.2.2.2.1 bt674.2.2.2.2.1 bt674.2.2.2.2.2.1) else (none))) else (none)) else (none)) else (some (x8, x673000, x673001, x673002))
def spec_flAll.f (k : Nat) (a0_0 : Int) (a0_1 : Int) (l0_2 : List (S89)) (l1 : List Int) : Option ((List (S27)) × Int × Int × (List (S89))) := (spec_boOwn.f a0_0 a0_1 l0_2).bind fun bt664 => ((spec_ggGroups.f k a0_0 a0_1 l0_2).bind fun t669 => (spec_flAll.l0 k t669 ([] : List (S27)) l1 (l1.length : Int) 0 bt664.1 bt664.2.1 bt664.2.2))
set_option maxHeartbeats 8000000 in
set_option maxRecDepth 100000 in
theorem spec_flAll.calls (k : Nat) (a0_0 : Int) (a0_1 : Int) (A0_2 : Option Addr) (c0_2 : Nat) (l0_2 : List (S89)) (A1 : Option Addr) (c1 : Nat) (l1 : List Int) (r1 : List (S27)) (r2 : Int) (r3 : Int) (r4 : List (S89)) (w : World) (hr0_2 : Kd.C k89 w A0_2 l0_2.length l0_2) (hc0_2 : l0_2.length ≤ c0_2) (hr1 : Kd.C (Kd.int .i64) w A1 l1.length l1) (hc1 : l1.length ≤ c1) (h : spec_flAll.f k a0_0 a0_1 l0_2 l1 = some (r1, r2, r3, r4)) :
 Calls Try.prog 66 #[.agg #[.int .i64 a0_0, .int .i64 a0_1, .slice A0_2 l0_2.length c0_2], .slice A1 l1.length c1] w fun e w' => ∃ v0_ v3_ : Value, e = .returned (.tuple #[v0_, .agg #[.int .i64 r2, .int .i64 r3, v3_]]) ∧ Kd.R k27 27 w' w.heap.size (fun _ => True) v0_ r1 ∧ Kd.R k89 89 w' w.heap.size (fun _ => True) v3_ r4 ∧ Below w.heap.size w w' := by
 have D6 := Try.underlying32
 have D5 := Try.underlying27
 have AK := Z.m hr0_2
 have AJ := Z.m hc0_2
 clear hr0_2 hc0_2
 have CY := Z.m hr1
 have Da := Z.m hc1
 clear hr1 hc1
 have HB := Z.m (Below.refl w.heap.size w)
 have H : ((spec_boOwn.f a0_0 a0_1 l0_2).bind fun bt664 => ((spec_ggGroups.f k a0_0 a0_1 l0_2).bind fun Ao => (spec_flAll.l0 k Ao ([] : List (S27)) l1 (l1.length : Int) 0 bt664.1 bt664.2.1 bt664.2.2))) = some (r1, r2, r3, r4) := h
 clear h
 replace H := Option.bind_eq_some_iff.mp H
 obtain ⟨⟨AX, AY, AM⟩, Ct, H⟩ := H
 replace H : ((spec_ggGroups.f k a0_0 a0_1 l0_2).bind fun Ao => (spec_flAll.l0 k Ao ([] : List (S27)) l1 (l1.length : Int) 0 AX AY AM)) = some (r1, r2, r3, r4) := H
 have A3 := Z.m Ct
 clear Ct
 replace H := Option.bind_eq_some_iff.mp H
 obtain ⟨Ao, Cu, H⟩ := H
 replace H : (spec_flAll.l0 k Ao ([] : List (S27)) l1 (l1.length : Int) 0 AX AY AM) = some (r1, r2, r3, r4) := H
 have A4 := Z.m Cu
 clear Cu
 have H' := Z.m H
 clear H
 go_enter Try.func66, Try.ntmps66
 try go_wp2_with (first | ((with_reducible refine gq (N := 2) rfl ?_); refine be (N := 2) (cs := #[.int .i64 a0_0, .int .i64 a0_1, .slice A0_2 l0_2.length c0_2]) (t := 32) ?_; intro Ai hg w5 hbox hb; have A0 := Z.m (hbox); have Bd := gW (w := w) HB hg; have Cv := Bd; replace HB := bB HB hb; clear hb hbox hg) | ((with_reducible refine gq (N := 5) rfl ?_); refine be (N := 5) (cs := #[.int .i64 0, .int .i64 0, .slice none 0 0]) (t := 32) ?_; intro Al hg w6 hbox hb; have A2 := Z.m (hbox); have Be := gW (w := w) HB hg; have Cw := Be; have Aq := neL A0 hg; have Ar := neG A0 hg; replace A0 := kB A0 hb; replace HB := bB HB hb; clear hb hbox hg))
 replace A0 := Z.m (blk_drew A0.o)
 replace A2 := Z.m (blk_drew A2.o)
 replace HB := Z.m (qd HB.o)
 refine start_ (n := 7) (S := fun w' => w'.cell? ⟨Ai, 0, none⟩ = some (.int .i64 a0_0) ∧ w'.cell? ⟨Ai, 1, none⟩ = some (.int .i64 a0_1) ∧ w'.cell? ⟨Ai, 2, none⟩ = some (.slice A0_2 l0_2.length c0_2)) (ds := []) #[false, false, false, false, false, false, false] (by kernel_rfl) rfl rfl ⟨(ql A0.o 0).trans rfl, (ql A0.o 1).trans rfl, (ql A0.o 2).trans rfl⟩ (fun hHeld => ?_)
 generalize w6.drew = w7 at A0 A2 HB hHeld ⊢
 refine take_ (i := 0) (N := some 14) (v := ?_) (a' := ?_) #[true, false, false, false, false, false, false] rfl rfl (by kernel_rfl) (fun _ _ _ h => h) (Or.inl ⟨by rfl, ?_⟩) hHeld ?_ ?_
 rotate_left
 ·rintro w' ⟨s0, s1, s2⟩
  go_simp
  with_reducible rfl
 rotate_left
 ·simp only [Act.put, q1, q2, q3, i64_w, i32_w]
  rfl
 refine take_ (i := 2) (N := some 16) (v := ?_) (a' := ?_) #[true, false, true, false, false, false, false] rfl rfl (by kernel_rfl) (fun _ _ _ h => h) (Or.inl ⟨by rfl, ?_⟩) hHeld ?_ ?_
 rotate_left
 ·rintro w' ⟨s0, s1, s2⟩
  go_simp
  with_reducible rfl
 rotate_left
 ·simp only [Act.put, q1, q2, q3, i64_w, i32_w]
  rfl
 refine join_ (σ := Value × Value × Nat) 2 #[true, true, true, true, true, false, false] (fun s_ => [(15, .agg #[.int .i64 AX, .int .i64 AY, s_.1]), (17, s_.2.1), (6, .pointer (some ⟨s_.2.2, 0, none⟩))]) (fun s_ w' => (w'.cell? ⟨Ai, 0, none⟩ = some (.int .i64 a0_0) ∧ w'.cell? ⟨Ai, 1, none⟩ = some (.int .i64 a0_1) ∧ w'.cell? ⟨Ai, 2, none⟩ = some (.slice A0_2 l0_2.length c0_2)) ∧ (Kd.R k89 89 w' w.heap.size (fun _ => True) s_.1 AM) ∧ (Kd.R (Kd.int .i64) 3 w' w.heap.size (fun _ => True) s_.2.1 Ao) ∧ (w'.heap[Ai]? = some (.cells #[.int .i64 a0_0, .int .i64 a0_1, .slice A0_2 l0_2.length c0_2] 32 (0, 0))) ∧ (w'.heap[Al]? = some (.cells #[.int .i64 0, .int .i64 0, .slice none 0 0] 32 (0, 0))) ∧ (w'.heap[s_.2.2]? = some (.cells #[.int .i64 0, .int .i64 0, .slice none 0 0] 32 (0, 0))) ∧ (w.heap.size ≤ s_.2.2) ∧ (w.heap.size ≤ s_.2.2) ∧ (Ai ≠ s_.2.2) ∧ (s_.2.2 ≠ Ai) ∧ (Al ≠ s_.2.2) ∧ (s_.2.2 ≠ Al) ∧ (Below w.heap.size w w')) ?_ ?_
 rotate_left
 ·intro hCont
  refine two_ (i := 1) (j := 4) (Ni := some 15) (Nj := some 6) #[true, true, true, false, false, false, false] #[true, false, true, false, true, false, false] rfl rfl rfl rfl (by kernel_rfl) (by decide) (by decide) (fun K hK => ?_) (fun K hK => ?_)
  ·skip
   refine goes_ Try.func82 (by kernel_rfl) rfl #[.agg #[.int .i64 a0_0, .int .i64 a0_1, .slice A0_2 l0_2.length c0_2]] (by rfl) rfl rfl (by (try simp only [List.map_toArray, List.map_cons, List.map_nil]); first | done | rfl | (simp only [List.length_drop, List.length_take]; rfl)) ?_
   with_reducible refine (spec_boOwn.calls a0_0 a0_1 _ _ l0_2 AX AY AM _ ?side1 ?side2 A3.o).mono ?_
   (case side1 => repeat (first | exact (Kd.C_below AK.o HB.o) | (with_reducible refine Kd.C_alloc ?_ _) | (with_reducible refine Kd.C_drewN ?_ _) | (with_reducible refine Kd.C_drew ?_)))
   (case side2 => exact AJ.o)
   rintro e w8 ⟨B2, rfl, AI, hb⟩
   refine ⟨_, rfl, ?_⟩
   have Ah := Z.m (Kd.R_lower AI (below_size (vB HB)))
   replace A0 := kB A0 hb
   replace A2 := kB A2 hb
   replace HB := bB HB hb
   (try clear hb); (try clear AI)
   refine hK.out _ _ ⟨(ql A0.o 0).trans rfl, (ql A0.o 1).trans rfl, (ql A0.o 2).trans rfl⟩ (fun hHeld => ?_)
   clear hK K
   refine norm_ (a' := ?_) ?_ ?_
   rotate_left
   ·show Act.put _ (some 15) _ = _
    simp only [Act.put, q1, q2, q3, i64_w, i32_w]
    rfl
   refine two_ (i := 3) (j := 4) (Ni := some 17) (Nj := some 6) #[true, true, true, true, false, false, false] #[true, true, true, false, true, false, false] rfl rfl rfl rfl (by kernel_rfl) (by decide) (by decide) (fun K hK => ?_) (fun K hK => ?_)
   ·skip
    refine goes_ Try.func62 (by kernel_rfl) rfl #[.agg #[.int .i64 a0_0, .int .i64 a0_1, .slice A0_2 l0_2.length c0_2]] (by rfl) rfl rfl (by (try simp only [List.map_toArray, List.map_cons, List.map_nil]); first | done | rfl | (simp only [List.length_drop, List.length_take]; rfl)) ?_
    with_reducible refine (spec_ggGroups.calls k a0_0 a0_1 _ _ l0_2 Ao _ ?side1 ?side2 A4.o).mono ?_
    (case side1 => repeat (first | exact (Kd.C_below AK.o HB.o) | (with_reducible refine Kd.C_alloc ?_ _) | (with_reducible refine Kd.C_drewN ?_ _) | (with_reducible refine Kd.C_drew ?_)))
    (case side2 => exact AJ.o)
    rintro e w9 ⟨AN, rfl, AI, hb⟩
    refine ⟨_, rfl, ?_⟩
    have Ap := Z.m (Kd.R_lower AI (below_size (vB HB)))
    replace Ah := Z.m (Kd.Rb (vR Ah) hb)
    replace A0 := kB A0 hb
    replace A2 := kB A2 hb
    replace HB := bB HB hb
    (try clear hb); (try clear AI)
    refine hK.out _ _ ⟨(ql A0.o 0).trans rfl, (ql A0.o 1).trans rfl, (ql A0.o 2).trans rfl⟩ (fun hHeld => ?_)
    clear hK K
    refine norm_ (a' := ?_) ?_ ?_
    rotate_left
    ·show Act.put _ (some 17) _ = _
     simp only [Act.put, q1, q2, q3, i64_w, i32_w]
     rfl
    refine one_ (i := 4) (N := some 6) #[true, true, true, true, true, false, false] rfl rfl (by kernel_rfl) (by decide) (fun K hK => ?_)
    refine box_step ?hg (N := 6) ?hd (cs := #[.int .i64 0, .int .i64 0, .slice none 0 0]) (t := 32) ?hr ?_; (case hd => rfl); (case hg => rfl); (case hr => first | (go_simp; done) | (go_simp; rfl))
    intro Ac hg CW hbox hb
    have A5 := Z.m (hbox)
    have Av := gW (w := w) HB hg
    have Au := gW (w := w) HB hg
    have A7 := neL A0 hg
    have Aa := neG A0 hg
    have A9 := neL A2 hg
    have A6 := neG A2 hg
    replace Ah := Z.m (Kd.Rb (vR Ah) hb)
    replace Ap := Z.m (Kd.Rb (vR Ap) hb)
    replace A0 := kB A0 hb
    replace A2 := kB A2 hb
    replace HB := bB HB hb
    clear hb hbox hg
    refine hK.out _ _ ⟨(ql A0.o 0).trans rfl, (ql A0.o 1).trans rfl, (ql A0.o 2).trans rfl⟩ (fun hHeld => ?_)
    clear hK K
    refine norm_ (a' := ?_) ?_ ?_
    rotate_left
    ·show Act.put _ (some 6) _ = _
     simp only [Act.put, q1, q2, q3, i64_w, i32_w]
     rfl
    exact norm_ (by simp only [putAll, Act.put, q1, q2, q3]) (hCont (B2, AN, Ac) _ ⟨hHeld, (vR Ah), (vR Ap), (vK A0), (vK A2), (vK A5), Av.o, Au.o, A7.o, Aa.o, A9.o, A6.o, (vB HB)⟩)
   ·skip
    refine box_step ?hg (N := 6) ?hd (cs := #[.int .i64 0, .int .i64 0, .slice none 0 0]) (t := 32) ?hr ?_; (case hd => rfl); (case hg => rfl); (case hr => first | (go_simp; done) | (go_simp; rfl))
    intro Ac hg w9 hbox hb
    have A5 := Z.m (hbox)
    have Av := gW (w := w) HB hg
    have Au := gW (w := w) HB hg
    have A7 := neL A0 hg
    have Aa := neG A0 hg
    have A9 := neL A2 hg
    have A6 := neG A2 hg
    replace Ah := Z.m (Kd.Rb (vR Ah) hb)
    replace A0 := kB A0 hb
    replace A2 := kB A2 hb
    replace HB := bB HB hb
    clear hb hbox hg
    refine hK.out _ _ ⟨(ql A0.o 0).trans rfl, (ql A0.o 1).trans rfl, (ql A0.o 2).trans rfl⟩ (fun hHeld => ?_)
    clear hK K
    refine norm_ (a' := ?_) ?_ ?_
    rotate_left
    ·show Act.put _ (some 6) _ = _
     simp only [Act.put, q1, q2, q3, i64_w, i32_w]
     rfl
    refine one_ (i := 3) (N := some 17) #[true, true, true, true, true, false, false] rfl rfl (by kernel_rfl) (by decide) (fun K hK => ?_)
    refine goes_ Try.func62 (by kernel_rfl) rfl #[.agg #[.int .i64 a0_0, .int .i64 a0_1, .slice A0_2 l0_2.length c0_2]] (by rfl) rfl rfl (by (try simp only [List.map_toArray, List.map_cons, List.map_nil]); first | done | rfl | (simp only [List.length_drop, List.length_take]; rfl)) ?_
    with_reducible refine (spec_ggGroups.calls k a0_0 a0_1 _ _ l0_2 Ao _ ?side1 ?side2 A4.o).mono ?_
    (case side1 => repeat (first | exact (Kd.C_below AK.o HB.o) | (with_reducible refine Kd.C_alloc ?_ _) | (with_reducible refine Kd.C_drewN ?_ _) | (with_reducible refine Kd.C_drew ?_)))
    (case side2 => exact AJ.o)
    rintro e CW ⟨AN, rfl, AI, hb⟩
    refine ⟨_, rfl, ?_⟩
    have Ap := Z.m (Kd.R_lower AI (below_size (vB HB)))
    replace Ah := Z.m (Kd.Rb (vR Ah) hb)
    replace A0 := kB A0 hb
    replace A2 := kB A2 hb
    replace A5 := kB A5 hb
    replace HB := bB HB hb
    (try clear hb); (try clear AI)
    refine hK.out _ _ ⟨(ql A0.o 0).trans rfl, (ql A0.o 1).trans rfl, (ql A0.o 2).trans rfl⟩ (fun hHeld => ?_)
    clear hK K
    refine norm_ (a' := ?_) ?_ ?_
    rotate_left
    ·show Act.put _ (some 17) _ = _
     simp only [Act.put, q1, q2, q3, i64_w, i32_w]
     rfl
    exact norm_ (by simp only [putAll, Act.put, q1, q2, q3]) (hCont (B2, AN, Ac) _ ⟨hHeld, (vR Ah), (vR Ap), (vK A0), (vK A2), (vK A5), Av.o, Au.o, A7.o, Aa.o, A9.o, A6.o, (vB HB)⟩)
  ·skip
   refine box_step ?hg (N := 6) ?hd (cs := #[.int .i64 0, .int .i64 0, .slice none 0 0]) (t := 32) ?hr ?_; (case hd => rfl); (case hg => rfl); (case hr => first | (go_simp; done) | (go_simp; rfl))
   intro Ac hg w8 hbox hb
   have A5 := Z.m (hbox)
   have Av := gW (w := w) HB hg
   have Au := gW (w := w) HB hg
   have A7 := neL A0 hg
   have Aa := neG A0 hg
   have A9 := neL A2 hg
   have A6 := neG A2 hg
   replace A0 := kB A0 hb
   replace A2 := kB A2 hb
   replace HB := bB HB hb
   clear hb hbox hg
   refine hK.out _ _ ⟨(ql A0.o 0).trans rfl, (ql A0.o 1).trans rfl, (ql A0.o 2).trans rfl⟩ (fun hHeld => ?_)
   clear hK K
   refine norm_ (a' := ?_) ?_ ?_
   rotate_left
   ·show Act.put _ (some 6) _ = _
    simp only [Act.put, q1, q2, q3, i64_w, i32_w]
    rfl
   refine one_ (i := 1) (N := some 15) #[true, true, true, false, true, false, false] rfl rfl (by kernel_rfl) (by decide) (fun K hK => ?_)
   refine goes_ Try.func82 (by kernel_rfl) rfl #[.agg #[.int .i64 a0_0, .int .i64 a0_1, .slice A0_2 l0_2.length c0_2]] (by rfl) rfl rfl (by (try simp only [List.map_toArray, List.map_cons, List.map_nil]); first | done | rfl | (simp only [List.length_drop, List.length_take]; rfl)) ?_
   with_reducible refine (spec_boOwn.calls a0_0 a0_1 _ _ l0_2 AX AY AM _ ?side1 ?side2 A3.o).mono ?_
   (case side1 => repeat (first | exact (Kd.C_below AK.o HB.o) | (with_reducible refine Kd.C_alloc ?_ _) | (with_reducible refine Kd.C_drewN ?_ _) | (with_reducible refine Kd.C_drew ?_)))
   (case side2 => exact AJ.o)
   rintro e w9 ⟨B2, rfl, AI, hb⟩
   refine ⟨_, rfl, ?_⟩
   have Ah := Z.m (Kd.R_lower AI (below_size (vB HB)))
   replace A0 := kB A0 hb
   replace A2 := kB A2 hb
   replace A5 := kB A5 hb
   replace HB := bB HB hb
   (try clear hb); (try clear AI)
   refine hK.out _ _ ⟨(ql A0.o 0).trans rfl, (ql A0.o 1).trans rfl, (ql A0.o 2).trans rfl⟩ (fun hHeld => ?_)
   clear hK K
   refine norm_ (a' := ?_) ?_ ?_
   rotate_left
   ·show Act.put _ (some 15) _ = _
    simp only [Act.put, q1, q2, q3, i64_w, i32_w]
    rfl
   refine one_ (i := 3) (N := some 17) #[true, true, true, true, true, false, false] rfl rfl (by kernel_rfl) (by decide) (fun K hK => ?_)
   refine goes_ Try.func62 (by kernel_rfl) rfl #[.agg #[.int .i64 a0_0, .int .i64 a0_1, .slice A0_2 l0_2.length c0_2]] (by rfl) rfl rfl (by (try simp only [List.map_toArray, List.map_cons, List.map_nil]); first | done | rfl | (simp only [List.length_drop, List.length_take]; rfl)) ?_
   with_reducible refine (spec_ggGroups.calls k a0_0 a0_1 _ _ l0_2 Ao _ ?side1 ?side2 A4.o).mono ?_
   (case side1 => repeat (first | exact (Kd.C_below AK.o HB.o) | (with_reducible refine Kd.C_alloc ?_ _) | (with_reducible refine Kd.C_drewN ?_ _) | (with_reducible refine Kd.C_drew ?_)))
   (case side2 => exact AJ.o)
   rintro e CW ⟨AN, rfl, AI, hb⟩
   refine ⟨_, rfl, ?_⟩
   have Ap := Z.m (Kd.R_lower AI (below_size (vB HB)))
   replace Ah := Z.m (Kd.Rb (vR Ah) hb)
   replace A0 := kB A0 hb
   replace A2 := kB A2 hb
   replace A5 := kB A5 hb
   replace HB := bB HB hb
   (try clear hb); (try clear AI)
   refine hK.out _ _ ⟨(ql A0.o 0).trans rfl, (ql A0.o 1).trans rfl, (ql A0.o 2).trans rfl⟩ (fun hHeld => ?_)
   clear hK K
   refine norm_ (a' := ?_) ?_ ?_
   rotate_left
   ·show Act.put _ (some 17) _ = _
    simp only [Act.put, q1, q2, q3, i64_w, i32_w]
    rfl
   exact norm_ (by simp only [putAll, Act.put, q1, q2, q3]) (hCont (B2, AN, Ac) _ ⟨hHeld, (vR Ah), (vR Ap), (vK A0), (vK A2), (vK A5), Av.o, Au.o, A7.o, Aa.o, A9.o, A6.o, (vB HB)⟩)
 rintro ⟨B2, AN, Ac⟩ B3 ⟨hS_, h0_, h1_, h2_, h3_, h4_, h5_, h6_, h7_, h8_, h9_, h10_, h11_⟩
 have Ah : Z (Kd.R k89 89 B3 w.heap.size (fun _ => True) B2 AM) := ⟨h0_⟩
 have Ap : Z (Kd.R (Kd.int .i64) 3 B3 w.heap.size (fun _ => True) AN Ao) := ⟨h1_⟩
 have A5 : Z (B3.heap[Ac]? = some (.cells #[.int .i64 0, .int .i64 0, .slice none 0 0] 32 (0, 0))) := ⟨h4_⟩
 have Av : Z (w.heap.size ≤ Ac) := ⟨h5_⟩
 have Au : Z (w.heap.size ≤ Ac) := ⟨h6_⟩
 have A7 : Z (Ai ≠ Ac) := ⟨h7_⟩
 have Aa : Z (Ac ≠ Ai) := ⟨h8_⟩
 have A9 : Z (Al ≠ Ac) := ⟨h9_⟩
 have A6 : Z (Ac ≠ Al) := ⟨h10_⟩
 replace A0 : Z (B3.heap[Ai]? = some (.cells #[.int .i64 a0_0, .int .i64 a0_1, .slice A0_2 l0_2.length c0_2] 32 (0, 0))) := ⟨h2_⟩
 replace A2 : Z (B3.heap[Al]? = some (.cells #[.int .i64 0, .int .i64 0, .slice none 0 0] 32 (0, 0))) := ⟨h3_⟩
 replace HB : Z (Below w.heap.size w B3) := ⟨h11_⟩
 clear h0_ h1_ h2_ h3_ h4_ h5_ h6_ h7_ h8_ h9_ h10_ h11_
 have hHeld : B3.cell? ⟨Ai, 0, none⟩ = some (.int .i64 a0_0) ∧ B3.cell? ⟨Ai, 1, none⟩ = some (.int .i64 a0_1) ∧ B3.cell? ⟨Ai, 2, none⟩ = some (.slice A0_2 l0_2.length c0_2) := hS_
 obtain ⟨Cj, Cm, Bn⟩ := Kd.R_slice Ah.o
 (first | subst Bn | (injection Bn with f1_ f2_ f3_; have f4_ := f1_.symm; have f5_ := f3_.symm; clear f1_ f2_ f3_; subst f4_; subst f5_))
 refine norm_ (a' := ?_) ?_ ?_
 rotate_left
 ·simp only [putAll, Act.put, q1, q2, q3]
  rfl
 refine one_ (i := 5) (N := none) #[true, true, true, true, true, true, false] rfl rfl (by kernel_rfl) (by decide) (fun K hK => ?_)
 have CZ : B3.cell? ⟨Ac, 0, none⟩ = some (.int .i64 0) := (ql A5.o 0).trans rfl
 have hfs12 := qz A5.o 0
 have C6 := A7.o
 have C7 := A9.o
 have BU := Aa.o
 have BV := A6.o
 have D0 : B3.cell? ⟨Ac, 1, none⟩ = some (.int .i64 0) := (ql A5.o 1).trans rfl
 have hfs13 := qz A5.o 1
 have C8 := A7.o
 have C9 := A9.o
 have BW := Aa.o
 have BX := A6.o
 have D1 : B3.cell? ⟨Ac, 2, none⟩ = some (.slice none 0 0) := (ql A5.o 2).trans rfl
 have hfs15 := qz A5.o 2
 have Ca := A7.o
 have Cb := A9.o
 have BY := Aa.o
 have BZ := A6.o
 refine skip_ (w1 := ?_) ?hwx ?hnx ?_ ?_; (case hwx => rfl); (case hnx => rfl)
 rotate_left
 ·go_simp
  rfl
 refine hK.out _ _ ⟨(cx A7.o ((cx A7.o ((cx A7.o (hHeld.1)))))), (cx A7.o ((cx A7.o ((cx A7.o (hHeld.2.1)))))), (cx A7.o ((cx A7.o ((cx A7.o (hHeld.2.2))))))⟩ (fun hHeld => ?_)
 clear hK K
 refine pure_ (i := 6) (N := some 7) (v := ?_) (a' := ?_) #[true, true, true, true, true, true, true] rfl rfl (by kernel_rfl) (fun _ _ _ h => h) (Or.inl ⟨by rfl, ?_⟩) ?_ ?_
 rotate_left
 ·intro w'
  go_simp
  with_reducible rfl
 rotate_left
 ·simp only [Act.put, q1, q2, q3, i64_w, i32_w]
  rfl
 refine done_ (by kernel_rfl) ?_
 try go_wp2
 go_loopg [8, 20] k (fun kq v8 v20 w' => ∃ (AO : List (S27)) (Aj : Int) (Ad : Int) (Ae : Int) (Af : List (S89)) (u673002 : Value), v20 = .int .i64 Aj ∧ Z (spec_flAll.l0 kq Ao AO l1 (l1.length : Int) Aj Ad Ae Af = some (r1, r2, r3, r4)) ∧ Z (kq ≤ k) ∧ Z (Kd.R (Kd.int .i64) 3 w' w.heap.size (fun _ => True) AN Ao) ∧ Z (Kd.R k27 27 w' w.heap.size (fun _ => True) v8 AO) ∧ Z (Kd.R k89 89 w' w.heap.size (fun _ => True) u673002 Af) ∧ Z (w'.heap[Ai]? = some (.cells #[.int .i64 a0_0, .int .i64 a0_1, (.slice A0_2 l0_2.length c0_2)] 32 (0, 0))) ∧ Z (w'.heap[Al]? = some (.cells #[.int .i64 0, .int .i64 0, (.slice none 0 0)] 32 (0, 0))) ∧ Z (w'.heap[Ac]? = some (.cells #[.int .i64 Ad, .int .i64 Ae, u673002] 32 (0, 0))) ∧ Z (Below w.heap.size w w'))
 case atStart => exact ⟨(([] : List (S27))), (0), (AX), (AY), (AM), (.slice Cj AM.length Cm), (by first | rfl | (simp; done) | (simp [*]; done)), H', ⟨Nat.le_refl _⟩, ⟨by refine rK ?_; exact Kd.Rm (rf (rf (rf (Kd.Ry Ap.o A5.o (by decide))))) (fun _ hk => trivial)⟩, ⟨by first | exact Kd.R_nil _ _ _ _ _ | exact Kd.N_nil _ _ _ _ _ | exact Kd.V_nil _ _ _ _ _ | exact Kd.Q_nil _ _ _ _ _ | exact Kd.S_nil _ _ _ _ _⟩, ⟨by refine rK ?_; exact Kd.Rm (rf (rf (rf (Kd.Ry Ah.o A5.o (by decide))))) (fun _ hk => trivial)⟩, ⟨by refine bK ?_; (iterate 3 refine qF ?_ A7); exact A0.o⟩, ⟨by refine bK ?_; (iterate 3 refine qF ?_ A9); exact A2.o⟩, ⟨by refine bK ?_; apply st3; refine bK ?_; exact A5.o⟩, ⟨vB HB⟩⟩
 case round =>
  clear H'
  obtain ⟨AO, Aj, Ad, Ae, Af, u673002, rfl, HA, Cz, An, Ak, A8, A0, A2, A5, HB⟩ := hrel
  cases gk with
  | zero => exact absurd HA.o (by simp [spec_flAll.l0])
  | succ k1 =>
   have H := HA.o
   clear HA
   simp only [spec_flAll.l0] at H
   by_cases c16 : Aj < (l1.length : Int)
   ·rw [if_pos c16] at H
    have Bk := decide_eq_true c16
    clear c16
    by_cases c17 : 0 ≤ Aj
    ·rw [if_pos c17] at H
     have CB := decide_eq_true c17
     clear c17
     by_cases c18 : Aj < (l1.length : Int)
     ·rw [if_pos c18] at H
      have CC := decide_eq_true c18
      clear c18
      replace H := Option.bind_eq_some_iff.mp H
      obtain ⟨⟨AF, AG, AH, AZ, B0, AP, Cr⟩, Ba, H⟩ := H
      replace H : (if AO.length < 5864062014805 then (spec_flAll.l0 k1 Ao (AO ++ [(⟨AF, AG, AH⟩ : S27)]) l1 (l1.length : Int) (wrap64 (Aj + 1)) AZ B0 AP) else (none)) = some (r1, r2, r3, r4) := H
      have CX := Z.m Ba
      clear Ba
      by_cases c20 : AO.length < 5864062014805
      ·rw [if_pos c20] at H
       have Bi := Z.m c20
       clear c20
       obtain ⟨Bp, AL⟩ : ∃ y_ : List (S27), y_ = (AO ++ [(⟨AF, AG, AH⟩ : S27)]) := ⟨_, rfl⟩
       replace H : (spec_flAll.l0 k1 Ao Bp l1 (l1.length : Int) (wrap64 (Aj + 1)) AZ B0 AP) = some (r1, r2, r3, r4) := by first | (rw [AL]; with_reducible exact H) | (have H2_ := (Option.bind_some _ _).symm.trans H; rw [AL]; with_reducible exact H2_) | (have H2_ := (Option.bind_some _ _).symm.trans H; with_reducible exact H2_) | with_reducible exact H | (rw [AL]; exact H) | exact H
       have Bj := Z.m AL
       clear AL
       have H' := Z.m H
       clear H
       have p673 : 0 ≤ (Aj : Int) := ofD
       have q673 : Aj < (l1.length : Int) := ofD
       obtain ⟨CA, e673, AE⟩ := Kd.at_int CY.o Aj p673 q673
       cases e673
       replace AE := (HB.o.cell (World.block_lt_of_cell? w _ AE)).trans AE
       replace p673 := eq_true p673
       replace q673 := eq_true q673
       have CD := Aa.o
       have CM := A7.o
       have CE := A6.o
       have CN := A9.o
       have Bq := bc0 A5
       have Br := bc1 A5
       have Bs := bc2 A5
       have BF := qz A5.o 0
       have BG := qz A5.o 1
       have BH := qz A5.o 2
       obtain ⟨Bb, Bl, Co⟩ := Kd.R_slice A8.o
       subst Co
       obtain ⟨Cl, Cn, Cp⟩ := Kd.R_slice An.o
       subst Cp
       go_wp2_with (first | ((with_reducible refine gc (f := 63) rfl ?_); refine gA (some 28) _ #[.agg #[.int .i64 Ad, .int .i64 Ae, .slice Bb Af.length Bl], .slice Cl Ao.length Cn, .int .i64 (rd l1 Aj)] ?_ Try.func63; (with_reducible refine (spec_flGo.calls k1 Ad Ae _ _ Af _ _ Ao (rd l1 Aj) AF AG AH AZ B0 AP Cr _ ?side1 ?side2 ?side3 ?side4 CX.o).mono ?_); (case side1 => repeat (first | exact (Kd.RrZ A8.o).2.2 | (with_reducible refine Kd.C_alloc ?_ _) | (with_reducible refine Kd.C_drewN ?_ _) | (with_reducible refine Kd.C_drew ?_))); (case side2 => exact (Kd.RrZ A8.o).2.1); (case side3 => repeat (first | exact (Kd.RrZ An.o).2.2 | (with_reducible refine Kd.C_alloc ?_ _) | (with_reducible refine Kd.C_drewN ?_ _) | (with_reducible refine Kd.C_drew ?_))); (case side4 => exact (Kd.RrZ An.o).2.1); rintro e Dc ⟨D7, D8, rfl, AI, CV, hb⟩; refine ⟨_, rfl, ?_⟩; have At := Z.m (Kd.R_lower (Kd.R_new' AI (Kd.R_lt (vR A8))) (below_size (vB HB))); have Aw := Z.m (Kd.S_lower (Kd.S_new' CV (Kd.R_lt (vR An))) (below_size (vB HB))); replace An := Z.m (Kd.Rb (vR An) hb); replace Ak := Z.m (Kd.Rb (vR Ak) hb); replace A8 := Z.m (Kd.R_elder' (vR A8) (Kd.R_base AI) hb); replace A0 := kB A0 hb; replace A2 := kB A2 hb; replace A5 := kB A5 hb; replace HB := bB HB hb; (try clear hb); (try clear Db); (try clear hk); (try clear hi); (try clear AI); (try clear CV)) | ((with_reducible refine gq (N := 11) rfl ?_); refine be (N := 11) (cs := #[.int .i64 0, .int .i64 0, .int .i64 0]) (t := 27) ?_; intro Am hg Dd hbox hb; have Ag := Z.m (hbox); have Bf := gW (w := w) HB hg; have Cx := Bf; have Ax := neL A0 hg; have AR := neG A0 hg; have Az := neL A2 hg; have AS := neG A2 hg; have AB := neL A5 hg; have AT := neG A5 hg; replace An := Z.m (Kd.Rb (vR An) hb); replace Ak := Z.m (Kd.Rb (Kd.R_elderB (vR Ak) Am (Nat.le_of_eq hg.symm)) hb); replace A8 := Z.m (Kd.Rb (vR A8) hb); replace At := Z.m (Kd.Rb (vR At) hb); replace Aw := Z.m (Kd.S_below (vS Aw) hb); replace A0 := kB A0 hb; replace A2 := kB A2 hb; replace A5 := kB A5 hb; replace HB := bB HB hb; clear hb hbox hg) | ((with_reducible refine gq (N := 12) rfl ?_); refine be (N := 12) (cs := #[.int .i64 0, .int .i64 0, .slice none 0 0]) (t := 32) ?_; intro AQ hg De hbox hb; have Ab := Z.m (hbox); have Bg := gW (w := w) HB hg; have Cy := Bg; have Ay := neL A0 hg; have AU := neG A0 hg; have AA := neL A2 hg; have AV := neG A2 hg; have AC := neL A5 hg; have AW := neG A5 hg; have As := neL Ag hg; have AD := neG Ag hg; replace An := Z.m (Kd.Rb (vR An) hb); replace Ak := Z.m (Kd.Rb (vR Ak) hb); replace A8 := Z.m (Kd.Rb (vR A8) hb); replace At := Z.m (Kd.Rb (vR At) hb); replace Aw := Z.m (Kd.S_below (vS Aw) hb); replace A0 := kB A0 hb; replace A2 := kB A2 hb; replace A5 := kB A5 hb; replace Ag := kB Ag hb; replace HB := bB HB hb; clear hb hbox hg; have CF := AR.o; have CO := Ax.o; have CG := AS.o; have CP := Az.o; have CH := AT.o; have CQ := AB.o; have CI := As.o; have CR := AD.o; have Bt := bc0 Ag; have Bu := bc1 Ag; have Bv := bc2 Ag; have BI := qz Ag.o 0; have BJ := qz Ag.o 1; have BK := qz Ag.o 2; have CJ := AU.o; have CS := Ay.o; have CK := AV.o; have CT := AA.o; have CL := AW.o; have CU := AC.o; have Bw := bc0 Ab; have Bx := bc1 Ab; have By := bc2 Ab; have BL := qz Ab.o 0; have BM := qz Ab.o 1; have BN := qz Ab.o 2; obtain ⟨B7, B8, Cq⟩ := Kd.R_slice At.o; subst Cq) | ((with_reducible refine gu (b := .append) (xs := #[.tmp 32, .tmp 34]) rfl ?_); at_builtin; refine Kd.R_append k27 (w0 := w) w.heap.size rfl (.tmp 32) (.tmp 34) 61 27 (.agg #[(.int .i64 0), (.int .i64 0), (.int .i64 0)]) 24 rfl Try.underlying61 info27 rfl (by decide) (by omega) u8 AO (⟨AF, AG, AH⟩ : S27) [.int .i64 AF, .int .i64 AG, .int .i64 AH] (fun k_ => k_ ≠ Am) (fun _ => False) rfl (by first | (go_simp; done) | (go_simp; rfl)) ?aP (fun _ hk => hk.elim) ?aF ?aO ?aB ?aS ?aL ?_; (case aP => exact k27_mkM _ _ _ (⟨AF, AG, AH⟩ : S27)); (case aB => exact (vB HB)); (case aF => exact (fun k_ hk => Kd.freshB (g := Am) (o := .cells #[.int .i64 AF, .int .i64 AG, .int .i64 AH] 27 (0, 0)) (by refine bK ?_; (iterate 3 refine qF ?_ As); apply st3; refine bK ?_; exact Ag.o) k_ hk)); (case aO => exact (by refine rK ?_; exact Kd.Rm (rf (rf (rf (rf1 (rf1 (rf1 (Kd.Ry (Kd.Rm Ak.o (fun k_ hk => (⟨hk, hk.2⟩ : _ ∧ k_ ≠ Am))) Ab.o (by decide)))))))) (fun _ hk => hk.1.1.2))); (case aS => exact (below_size (vB HB))); (case aL => have := Bi.o; omega); intro D9 Df ho hb hg hat; rw [← Bj.o] at ho; have Bh := Z.m (ho); replace An := Z.m (Kd.Ro (by refine rK ?_; exact (Kd.Rm (Kd.Rm (rf (rf (rf (rf1 (rf1 (rf1 (Kd.Ry (Kd.Ry An.o Ag.o (by decide)) Ab.o (by decide)))))))) (fun _ h_ => h_.1)) (fun _ h_ => h_.1))) (Kd.Rt (by refine rK ?_; exact (Kd.Rm (Kd.Rm (rf (rf (rf (rf1 (rf1 (rf1 (Kd.Ry (Kd.Rm Ak.o (fun k_ hk => (⟨hk, hk.2⟩ : _ ∧ k_ ≠ Am))) Ab.o (by decide)))))))) (fun _ h_ => h_.1)) (fun _ h_ => h_.1)))) (by decide) hg); replace A8 := Z.m (Kd.Ro (by refine rK ?_; exact (Kd.Rm (Kd.Rm (rf (rf (rf (rf1 (rf1 (rf1 (Kd.Ry (Kd.Ry A8.o Ag.o (by decide)) Ab.o (by decide)))))))) (fun _ h_ => h_.1)) (fun _ h_ => h_.1))) (Kd.Rt (by refine rK ?_; exact (Kd.Rm (Kd.Rm (rf (rf (rf (rf1 (rf1 (rf1 (Kd.Ry (Kd.Rm Ak.o (fun k_ hk => (⟨hk, hk.2⟩ : _ ∧ k_ ≠ Am))) Ab.o (by decide)))))))) (fun _ h_ => h_.1)) (fun _ h_ => h_.1)))) (by decide) hg); replace A0 := Z.m (qg (g := Ai) (o := .cells #[.int .i64 a0_0, .int .i64 a0_1, .slice A0_2 l0_2.length c0_2] 32 (0, 0)) (by refine bK ?_; (iterate 3 refine qF ?_ Ay); (iterate 3 refine qF ?_ Ax); exact A0.o) hg (Kd.R_ne Ak.o A0.o (by decide))); replace A2 := Z.m (qg (g := Al) (o := .cells #[.int .i64 0, .int .i64 0, .slice none 0 0] 32 (0, 0)) (by refine bK ?_; (iterate 3 refine qF ?_ AA); (iterate 3 refine qF ?_ Az); exact A2.o) hg (Kd.R_ne Ak.o A2.o (by decide))); replace A5 := Z.m (qg (g := Ac) (o := .cells #[.int .i64 Ad, .int .i64 Ae, .slice Bb Af.length Bl] 32 (0, 0)) (by refine bK ?_; (iterate 3 refine qF ?_ AC); (iterate 3 refine qF ?_ AB); exact A5.o) hg (Kd.R_ne Ak.o A5.o (by decide))); replace At := Z.m (Kd.Ro (by refine rK ?_; exact (Kd.Rm (Kd.Rm (rf (rf (rf (rf1 (rf1 (rf1 (Kd.Ry (Kd.Ry At.o Ag.o (by decide)) Ab.o (by decide)))))))) (fun _ h_ => h_.1)) (fun _ h_ => h_.1))) (Kd.Rt (by refine rK ?_; exact (Kd.Rm (Kd.Rm (rf (rf (rf (rf1 (rf1 (rf1 (Kd.Ry (Kd.Rm Ak.o (fun k_ hk => (⟨hk, hk.2⟩ : _ ∧ k_ ≠ Am))) Ab.o (by decide)))))))) (fun _ h_ => h_.1)) (fun _ h_ => h_.1)))) (by decide) hg); replace Aw := Z.m (Kd.S_over' (by (with_reducible repeat (first | apply Kd.S_alloc | apply Kd.S_drewN | apply Kd.S_drew)); exact (Kd.S_mono (Kd.S_mono (Kd.S_far (p := ⟨AQ, 2, none⟩) (Kd.S_far (p := ⟨AQ, 1, none⟩) (Kd.S_far (p := ⟨AQ, 0, none⟩) (Kd.S_far (p := ⟨Am, 2, none⟩) (Kd.S_far (p := ⟨Am, 1, none⟩) (Kd.S_far (p := ⟨Am, 0, none⟩) (Kd.S_types (Kd.S_types Aw.o Ag.o (by decide)) Ab.o (by decide)) (fun _ hk => hk.1.2) (.int .i64 AF)) (fun _ hk => hk.1.2) (.int .i64 AG)) (fun _ hk => hk.1.2) (.int .i64 AH)) (fun _ hk => hk.2) (.int .i64 AZ)) (fun _ hk => hk.2) (.int .i64 B0)) (fun _ hk => hk.2) (.slice B7 AP.length B8)) (fun _ h_ => h_.1)) (fun _ h_ => h_.1))) (Kd.Rt (by refine rK ?_; exact (Kd.Rm (Kd.Rm (rf (rf (rf (rf1 (rf1 (rf1 (Kd.Ry (Kd.Rm Ak.o (fun k_ hk => (⟨hk, hk.2⟩ : _ ∧ k_ ≠ Am))) Ab.o (by decide)))))))) (fun _ h_ => h_.1)) (fun _ h_ => h_.1)))) (by decide) hg); replace Ag := Z.m (qg (g := Am) (o := .cells #[.int .i64 AF, .int .i64 AG, .int .i64 AH] 27 (0, 0)) (by refine bK ?_; (iterate 3 refine qF ?_ As); apply st3; refine bK ?_; exact Ag.o) hg (Kd.R_away Ak.o (fun _ hk => hk.2))); replace Ab := Z.m (qg (g := AQ) (o := .cells #[.int .i64 AZ, .int .i64 B0, .slice B7 AP.length B8] 32 (0, 0)) (by refine bK ?_; apply st3; refine bK ?_; (iterate 3 refine qF ?_ AD); exact Ab.o) hg (Kd.R_ne Ak.o Ab.o (by decide))); replace HB := Z.m (hb); clear Ak; clear ho hb hg hat; have Bz := bc0 Ab; have BA := bc1 Ab; have BB := bc2 Ab; have BO := qz Ab.o 0; have BP := qz Ab.o 1; have BQ := qz Ab.o 2; have BC := bc0 A5; have BD := bc1 A5; have BE := bc2 A5; have BR := qz A5.o 0; have BS := qz A5.o 1; have BT := qz A5.o 2))
       go_roundg k1
       case measure => have := Cz.o; omega
       case rel => exact ⟨(Bp), (wrap64 (Aj + 1)), (AZ), (B0), (AP), (.slice B7 AP.length B8), (by first | rfl | (simp; done) | (simp [*]; done)), H', ⟨by have := Cz.o; omega⟩, ⟨by refine rK ?_; exact Kd.Rm (rf (rf (rf (Kd.Ry An.o A5.o (by decide))))) (fun _ hk => trivial)⟩, ⟨by refine rK ?_; exact Kd.Rm (rf (rf (rf (Kd.Ry Bh.o A5.o (by decide))))) (fun _ hk => trivial)⟩, ⟨by refine rK ?_; exact Kd.Rm (rf (rf (rf (Kd.Ry At.o A5.o (by decide))))) (fun _ hk => trivial)⟩, ⟨by refine bK ?_; (iterate 3 refine qF ?_ A7); exact A0.o⟩, ⟨by refine bK ?_; (iterate 3 refine qF ?_ A9); exact A2.o⟩, ⟨by refine bK ?_; apply st3; refine bK ?_; exact A5.o⟩, ⟨vB HB⟩⟩
      ·rw [if_neg c20] at H
       exact absurd H (by simp)
     ·rw [if_neg c18] at H
      exact absurd H (by simp)
    ·rw [if_neg c17] at H
     exact absurd H (by simp)
   ·rw [if_neg c16] at H
    have Bk := decide_eq_false c16
    clear c16
    simp only [Option.some.injEq, Prod.mk.injEq] at H
    obtain ⟨rfl, rfl, rfl, rfl⟩ := H
    try go_wp2
    replace An := Z.m (Kd.R_drew An.o)
    replace Ak := Z.m (Kd.R_drew Ak.o)
    replace A8 := Z.m (Kd.R_drew A8.o)
    replace A0 := Z.m (blk_drew A0.o)
    replace A2 := Z.m (blk_drew A2.o)
    replace A5 := Z.m (blk_drew A5.o)
    replace HB := Z.m (qd HB.o)
    obtain ⟨Bc, Bm, Bo⟩ := Kd.R_slice A8.o
    (first | subst Bo | (injection Bo with f1_ f2_ f3_; have f4_ := f1_.symm; have f5_ := f3_.symm; clear f1_ f2_ f3_; subst f4_; subst f5_))
    refine start_ (n := 4) (S := fun w' => w'.cell? ⟨Ac, 0, none⟩ = some (.int .i64 Ad) ∧ w'.cell? ⟨Ac, 1, none⟩ = some (.int .i64 Ae) ∧ w'.cell? ⟨Ac, 2, none⟩ = some (.slice Bc Af.length Bm)) (ds := []) #[false, false, false, false] (by kernel_rfl) rfl rfl ⟨(ql A5.o 0).trans rfl, (ql A5.o 1).trans rfl, (ql A5.o 2).trans rfl⟩ (fun hHeld => ?_)
    generalize wr.drew = Cs at An Ak A8 A0 A2 A5 HB hHeld ⊢
    refine pure_ (i := 0) (N := some 38) (v := ?_) (a' := ?_) #[true, false, false, false] rfl rfl (by kernel_rfl) (fun _ _ _ h => h) (Or.inl ⟨by rfl, ?_⟩) ?_ ?_
    rotate_left
    ·intro w'
     go_simp
     with_reducible rfl
    rotate_left
    ·simp only [Act.put, q1, q2, q3, i64_w, i32_w]
     rfl
    refine pure_ (i := 2) (N := some 4) (v := ?_) (a' := ?_) #[true, false, true, false] rfl rfl (by kernel_rfl) (fun _ _ _ h => h) (Or.inl ⟨by rfl, ?_⟩) ?_ ?_
    rotate_left
    ·intro w'
     go_simp
     with_reducible rfl
    rotate_left
    ·simp only [Act.put, q1, q2, q3, i64_w, i32_w]
     rfl
    refine take_ (i := 1) (N := some 39) (v := ?_) (a' := ?_) #[true, true, true, false] rfl rfl (by kernel_rfl) (fun _ _ _ h => h) (Or.inl ⟨by rfl, ?_⟩) hHeld ?_ ?_
    rotate_left
    ·rintro w' ⟨s0, s1, s2⟩
     go_simp
     with_reducible rfl
    rotate_left
    ·simp only [Act.put, q1, q2, q3, i64_w, i32_w]
     rfl
    refine one_ (i := 3) (N := none) #[true, true, true, true] rfl rfl (by kernel_rfl) (by decide) (fun K hK => ?_)
    have D2 : Cs.cell? ⟨Al, 0, none⟩ = some (.int .i64 0) := (ql A2.o 0).trans rfl
    have hfs43 := qz A2.o 0
    have Cd := Aq.o
    have Ce := A6.o
    have C0 := Ar.o
    have C1 := A9.o
    have D3 : Cs.cell? ⟨Al, 1, none⟩ = some (.int .i64 0) := (ql A2.o 1).trans rfl
    have hfs44 := qz A2.o 1
    have Cf := Aq.o
    have Cg := A6.o
    have C2 := Ar.o
    have C3 := A9.o
    have D4 : Cs.cell? ⟨Al, 2, none⟩ = some (.slice none 0 0) := (ql A2.o 2).trans rfl
    have hfs46 := qz A2.o 2
    have Ch := Aq.o
    have Ci := A6.o
    have C4 := Ar.o
    have C5 := A9.o
    refine skip_ (w1 := ?_) ?hwx ?hnx ?_ ?_; (case hwx => rfl); (case hnx => rfl)
    rotate_left
    ·go_simp
     rfl
    refine hK.out _ _ ⟨(cx A6.o ((cx A6.o ((cx A6.o (hHeld.1)))))), (cx A6.o ((cx A6.o ((cx A6.o (hHeld.2.1)))))), (cx A6.o ((cx A6.o ((cx A6.o (hHeld.2.2))))))⟩ (fun hHeld => ?_)
    clear hK K
    refine done_ (by kernel_rfl) ?_
    try go_wp2
    refine bodyPost_ret (results_tc rfl _ _ Al 32 #[.int .i64 Ad, .int .i64 Ae, .slice Bc Af.length Bm] (0, 0) _ rfl (by refine bK ?_; apply st3; refine bK ?_; exact A2.o) Try.underlying32 rfl (by kernel_rfl)) rfl ?_
    exact ⟨_, _, by first | rfl | (simp [eN, eS] <;> rfl) | (simp [*, eN, eS] <;> rfl), by refine rK ?_; exact Kd.Rm (rf (rf (rf (Kd.Ry Ak.o A2.o (by decide))))) (fun _ hk => trivial), by refine rK ?_; exact Kd.Rm (rf (rf (rf (Kd.Ry A8.o A2.o (by decide))))) (fun _ hk => trivial), vB HB⟩

end Go.Proofs.Ytoklfgjemfojgaa.PAll
