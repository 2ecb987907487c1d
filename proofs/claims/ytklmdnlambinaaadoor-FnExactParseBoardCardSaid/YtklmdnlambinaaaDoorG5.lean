/- Began as a text that print.sh wrote (of the functions named below); turned and shortened by this session. -/
import Derived.Test.YtklmdnlambinaaaDoorG0
import Derived.Test.YtklmdnlambinaaaDoorG2
import Derived.Test.YtklmdnlambinaaaDoorG4
namespace Go.Proofs.YtklmdnlambinaaaDoor.PAll
open Go.RowKit Go.Proofs.YtklmdnlambinaaaDoorW.PrintWords Go.Proofs.YtklmdnlambinaaaDoorW.PrintLast Go.Proofs.YtklmdnlambinaaaDoorW.PrintMore
attribute [local go_sem] max2_int min2_int max_two min_two max_three min_three max_four min_four   -- for this text's walks alone
set_option linter.unusedVariables false
set_option linter.unusedSimpArgs false

/-! ### laws_eqBoard: function 7 -/
def laws_eqBoard.f (k : Nat) (a0_0 : Int) (a0_1 : Int) (l0_2 : List (S62)) (a1_0 : Int) (a1_1 : Int) (l1_2 : List (S62)) : Option (Bool) := if a0_0 = a1_0 then (if a0_1 = a1_1 then ((laws_eqCellS.f k l0_2 l1_2).bind fun t231 => (if t231 = true then (some true) else (some false))) else (some false)) else (some false)
set_option maxHeartbeats 8000000 in
set_option maxRecDepth 100000 in
theorem laws_eqBoard.calls (k : Nat) (a0_0 : Int) (a0_1 : Int) (A0_2 : Option Addr) (c0_2 : Nat) (l0_2 : List (S62)) (a1_0 : Int) (a1_1 : Int) (A1_2 : Option Addr) (c1_2 : Nat) (l1_2 : List (S62)) (r : Bool) (w : World) (hr0_2 : Kd.C k62 w A0_2 l0_2.length l0_2) (hc0_2 : l0_2.length ≤ c0_2) (hr1_2 : Kd.C k62 w A1_2 l1_2.length l1_2) (hc1_2 : l1_2.length ≤ c1_2) (h : laws_eqBoard.f k a0_0 a0_1 l0_2 a1_0 a1_1 l1_2 = some r) :
 Calls Tryd.prog 7 #[.agg #[.int .i64 a0_0, .int .i64 a0_1, .slice A0_2 l0_2.length c0_2], .agg #[.int .i64 a1_0, .int .i64 a1_1, .slice A1_2 l1_2.length c1_2]] w fun e w' => e = .returned (.bool r) ∧ Below w.heap.size w w' := by
 have Bh := Tryd.underlying24
 have Ae := Z.m hr0_2
 have Ac := Z.m hc0_2
 clear hr0_2 hc0_2
 have Af := Z.m hr1_2
 have Ad := Z.m hc1_2
 clear hr1_2 hc1_2
 have HB := Z.m (Below.refl w.heap.size w)
 have H : (if a0_0 = a1_0 then (if a0_1 = a1_1 then ((laws_eqCellS.f k l0_2 l1_2).bind fun Ab => (if Ab = true then (some true) else (some false))) else (some false)) else (some false)) = some r := h
 clear h
 by_cases c3 : a0_0 = a1_0
 ·rw [if_pos c3] at H
  have B2 := beq_iff_eq.mpr c3
  have B3 := bne_eq_false_iff_eq.mpr c3
  clear c3
  by_cases c4 : a0_1 = a1_1
  ·rw [if_pos c4] at H
   have B4 := beq_iff_eq.mpr c4
   have B5 := bne_eq_false_iff_eq.mpr c4
   clear c4
   replace H := Option.bind_eq_some_iff.mp H
   obtain ⟨Ab, B7, H⟩ := H
   replace H : (if Ab = true then (some true) else (some false)) = some r := H
   have A5 := Z.m B7
   clear B7
   by_cases c6 : Ab = true
   ·subst c6
    have H1 : (some true) = some r := by rw [if_pos rfl] at H; exact H
    clear H
    have H := H1
    clear H1
    obtain rfl := Option.some.inj H
    go_enter Tryd.func7, Tryd.ntmps7
    go_wp2_with (first | ((with_reducible refine gq (N := 2) rfl ?_); refine be (N := 2) (cs := #[.int .i64 a0_0, .int .i64 a0_1, .slice A0_2 l0_2.length c0_2]) (t := 24) ?_; intro A9 hg w7 hbox hb; have A0 := Z.m (hbox); have A4 := gW (w := w) HB hg; have A7 := A4; replace HB := bB HB hb; clear hb hbox hg) | ((with_reducible refine gq (N := 3) rfl ?_); refine be (N := 3) (cs := #[.int .i64 a1_0, .int .i64 a1_1, .slice A1_2 l1_2.length c1_2]) (t := 24) ?_; intro Aa hg w8 hbox hb; have A1 := Z.m (hbox); have A6 := gW (w := w) HB hg; have A8 := A6; have A2 := neL A0 hg; have A3 := neG A0 hg; replace A0 := kB A0 hb; replace HB := bB HB hb; clear hb hbox hg; have Bf := A2.o; have Bg := A3.o; have Ag := bc0 A0; have Ah := bc1 A0; have Ai := bc2 A0; have AE := qz A0.o 0; have AF := qz A0.o 1; have AG := qz A0.o 2; have Aj := bc0 A1; have Ak := bc1 A1; have Al := bc2 A1; have AH := qz A1.o 0; have AI := qz A1.o 1; have AJ := qz A1.o 2) | ((with_reducible refine gc (f := 18) rfl ?_); refine gA (some 19) _ #[.slice A0_2 l0_2.length c0_2, .slice A1_2 l1_2.length c1_2] ?_ Tryd.func18; (with_reducible refine (laws_eqCellS.calls k _ _ l0_2 _ _ l1_2 true _ ?side1 ?side2 ?side3 ?side4 A5.o).mono ?_); (case side1 => repeat (first | exact (Kd.C_below Ae.o HB.o) | (with_reducible refine Kd.C_alloc ?_ _) | (with_reducible refine Kd.C_drewN ?_ _) | (with_reducible refine Kd.C_drew ?_))); (case side2 => exact Ac.o); (case side3 => repeat (first | exact (Kd.C_below Af.o HB.o) | (with_reducible refine Kd.C_alloc ?_ _) | (with_reducible refine Kd.C_drewN ?_ _) | (with_reducible refine Kd.C_drew ?_))); (case side4 => exact Ad.o); rintro e Bi ⟨rfl, hb⟩; refine ⟨_, rfl, ?_⟩; replace A0 := kB A0 hb; replace A1 := kB A1 hb; replace HB := bB HB hb; (try clear hb); (try clear Be); (try clear hk); (try clear hi)))
    go_ret
    exact ⟨by first | rfl | (simp [eN, eS] <;> rfl) | (simp [*, eN, eS] <;> rfl), vB HB⟩
   ·replace c6 := Bool.eq_false_iff.mpr c6
    subst c6
    have H1 : (some false) = some r := by rw [if_neg (show ¬ (false = true) by decide)] at H; exact H
    clear H
    have H := H1
    clear H1
    obtain rfl := Option.some.inj H
    go_enter Tryd.func7, Tryd.ntmps7
    go_wp2_with (first | ((with_reducible refine gq (N := 2) rfl ?_); refine be (N := 2) (cs := #[.int .i64 a0_0, .int .i64 a0_1, .slice A0_2 l0_2.length c0_2]) (t := 24) ?_; intro A9 hg Bj hbox hb; have A0 := Z.m (hbox); have A4 := gW (w := w) HB hg; have A7 := A4; replace HB := bB HB hb; clear hb hbox hg) | ((with_reducible refine gq (N := 3) rfl ?_); refine be (N := 3) (cs := #[.int .i64 a1_0, .int .i64 a1_1, .slice A1_2 l1_2.length c1_2]) (t := 24) ?_; intro Aa hg Bk hbox hb; have A1 := Z.m (hbox); have A6 := gW (w := w) HB hg; have A8 := A6; have A2 := neL A0 hg; have A3 := neG A0 hg; replace A0 := kB A0 hb; replace HB := bB HB hb; clear hb hbox hg; have B8 := A2.o; have Bb := A3.o; have Am := bc0 A0; have An := bc1 A0; have Ao := bc2 A0; have AK := qz A0.o 0; have AL := qz A0.o 1; have AM := qz A0.o 2; have Ap := bc0 A1; have Aq := bc1 A1; have Ar := bc2 A1; have AN := qz A1.o 0; have AO := qz A1.o 1; have AP := qz A1.o 2) | ((with_reducible refine gc (f := 18) rfl ?_); refine gA (some 19) _ #[.slice A0_2 l0_2.length c0_2, .slice A1_2 l1_2.length c1_2] ?_ Tryd.func18; (with_reducible refine (laws_eqCellS.calls k _ _ l0_2 _ _ l1_2 false _ ?side1 ?side2 ?side3 ?side4 A5.o).mono ?_); (case side1 => repeat (first | exact (Kd.C_below Ae.o HB.o) | (with_reducible refine Kd.C_alloc ?_ _) | (with_reducible refine Kd.C_drewN ?_ _) | (with_reducible refine Kd.C_drew ?_))); (case side2 => exact Ac.o); (case side3 => repeat (first | exact (Kd.C_below Af.o HB.o) | (with_reducible refine Kd.C_alloc ?_ _) | (with_reducible refine Kd.C_drewN ?_ _) | (with_reducible refine Kd.C_drew ?_))); (case side4 => exact Ad.o); rintro e Bl ⟨rfl, hb⟩; refine ⟨_, rfl, ?_⟩; replace A0 := kB A0 hb; replace A1 := kB A1 hb; replace HB := bB HB hb; (try clear hb); (try clear Be); (try clear hk); (try clear hi)))
    go_ret
    exact ⟨by first | rfl | (simp [eN, eS] <;> rfl) | (simp [*, eN, eS] <;> rfl), vB HB⟩
  ·rw [if_neg c4] at H
   have B4 := beq_eq_false_iff_ne.mpr c4
   have B5 := bne_iff_ne.mpr c4
   obtain rfl := Option.some.inj H
   go_enter Tryd.func7, Tryd.ntmps7
   go_wp2_with (first | ((with_reducible refine gq (N := 2) rfl ?_); refine be (N := 2) (cs := #[.int .i64 a0_0, .int .i64 a0_1, .slice A0_2 l0_2.length c0_2]) (t := 24) ?_; intro A9 hg Bm hbox hb; have A0 := Z.m (hbox); have A4 := gW (w := w) HB hg; have A7 := A4; replace HB := bB HB hb; clear hb hbox hg) | ((with_reducible refine gq (N := 3) rfl ?_); refine be (N := 3) (cs := #[.int .i64 a1_0, .int .i64 a1_1, .slice A1_2 l1_2.length c1_2]) (t := 24) ?_; intro Aa hg Bn hbox hb; have A1 := Z.m (hbox); have A6 := gW (w := w) HB hg; have A8 := A6; have A2 := neL A0 hg; have A3 := neG A0 hg; replace A0 := kB A0 hb; replace HB := bB HB hb; clear hb hbox hg; have B9 := A2.o; have Bc := A3.o; have As := bc0 A0; have At := bc1 A0; have Au := bc2 A0; have AQ := qz A0.o 0; have AR := qz A0.o 1; have AS := qz A0.o 2; have Av := bc0 A1; have Aw := bc1 A1; have Ax := bc2 A1; have AT := qz A1.o 0; have AU := qz A1.o 1; have AV := qz A1.o 2))
   go_ret
   exact ⟨by first | rfl | (simp [eN, eS] <;> rfl) | (simp [*, eN, eS] <;> rfl), vB HB⟩
 ·rw [if_neg c3] at H
  have B2 := beq_eq_false_iff_ne.mpr c3
  have B3 := bne_iff_ne.mpr c3
  obtain rfl := Option.some.inj H
  go_enter Tryd.func7, Tryd.ntmps7
  go_wp2_with (first | ((with_reducible refine gq (N := 2) rfl ?_); refine be (N := 2) (cs := #[.int .i64 a0_0, .int .i64 a0_1, .slice A0_2 l0_2.length c0_2]) (t := 24) ?_; intro A9 hg Bo hbox hb; have A0 := Z.m (hbox); have A4 := gW (w := w) HB hg; have A7 := A4; replace HB := bB HB hb; clear hb hbox hg) | ((with_reducible refine gq (N := 3) rfl ?_); refine be (N := 3) (cs := #[.int .i64 a1_0, .int .i64 a1_1, .slice A1_2 l1_2.length c1_2]) (t := 24) ?_; intro Aa hg Bp hbox hb; have A1 := Z.m (hbox); have A6 := gW (w := w) HB hg; have A8 := A6; have A2 := neL A0 hg; have A3 := neG A0 hg; replace A0 := kB A0 hb; replace HB := bB HB hb; clear hb hbox hg; have Ba := A2.o; have Bd := A3.o; have Ay := bc0 A0; have Az := bc1 A0; have AA := bc2 A0; have AW := qz A0.o 0; have AX := qz A0.o 1; have AY := qz A0.o 2; have AB := bc0 A1; have AC := bc1 A1; have AD := bc2 A1; have AZ := qz A1.o 0; have B0 := qz A1.o 1; have B1 := qz A1.o 2))
  go_ret
  exact ⟨by first | rfl | (simp [eN, eS] <;> rfl) | (simp [*, eN, eS] <;> rfl), vB HB⟩

/-! ### laws_markCellS: function 19 -/
def laws_markCellS.l0 : Nat → List (S62) → Int → Int → Option (Int × (List (S62)))
 | 0, _, _, _ => none
 | k + 1, x0, x1, x5 => if x5 < (x0.length : Int) then (if 0 ≤ x5 then ((some (x0.set (x5 : Int).toNat (⟨x1, (rd_T62 x0 x5).f1⟩ : S62) : List (S62))).bind fun y232 => (laws_markCellS.l0 k (y232.set (x5 : Int).toNat (⟨(rd_T62 y232 x5).f0, wrap64 (x1 + 1)⟩ : S62)) (wrap64 ((wrap64 (x1 + 1)) + 1)) (wrap64 (x5 + 1)))) else (none)) else (some (x1, x0))
def laws_markCellS.f (k : Nat) (l0 : List (S62)) (a1 : Int) : Option (Int × (List (S62))) := laws_markCellS.l0 k l0 a1 0
set_option maxHeartbeats 8000000 in
set_option maxRecDepth 100000 in
theorem laws_markCellS.calls (k : Nat) (P0_ : Nat → Prop) (u9000_ : Value) (l0 : List (S62)) (a1 : Int) (r1 : Int) (r2 : List (S62)) (w0 w : World) (hB : Below w0.heap.size w0 w) (ho0 : Kd.R k62 62 w w0.heap.size P0_ u9000_ l0) (h : laws_markCellS.f k l0 a1 = some (r1, r2)) :
 Calls Tryd.prog 19 #[u9000_, .int .i64 a1] w fun e w' => e = .returned (.int .i64 r1) ∧ Kd.R k62 62 w' w0.heap.size (fun k_ => (P0_ k_ ∨ w.heap.size ≤ k_)) u9000_ r2 ∧ Below w0.heap.size w0 w' ∧ Kept w w' (fun k_ => P0_ k_) := by
 have AS := Z.m (show Kd.R k62 62 w w0.heap.size (fun k_ => (P0_ k_ ∨ w.heap.size ≤ k_)) u9000_ l0 from Kd.Rm ho0 (fun k_ hk => (.inl hk)))
 have HK := Z.m (Kept.refl w (fun k_ => P0_ k_))
 have HW0 := Z.m hB.size
 have HB := Z.m hB
 clear hB
 have H : (laws_markCellS.l0 k l0 a1 0) = some (r1, r2) := h
 clear h
 have H' := Z.m H
 clear H
 go_enter Tryd.func19, Tryd.ntmps19
 go_wp2
 go_loopg [1, 5] k (fun kq v1 v5 w' => ∃ (A1 : List (S62)) (A3 : Int) (A0 : Int), v1 = .int .i64 A3 ∧ v5 = .int .i64 A0 ∧ Z (laws_markCellS.l0 kq A1 A3 A0 = some (r1, r2)) ∧ Z (kq ≤ k) ∧ Z (Kd.R k62 62 w' w0.heap.size (fun k_ => (P0_ k_ ∨ w.heap.size ≤ k_)) u9000_ A1) ∧ Z (Kept w w' (fun k_ => P0_ k_)) ∧ Z (Below w0.heap.size w0 w'))
 case atStart => exact ⟨(l0), (a1), (0), (by first | rfl | (simp; done) | (simp [*]; done)), (by first | rfl | (simp; done) | (simp [*]; done)), H', ⟨Nat.le_refl _⟩, ⟨vR AS⟩, ⟨vT HK⟩, ⟨vB HB⟩⟩
 case round =>
  clear H'
  obtain ⟨A1, A3, A0, rfl, rfl, HA, AB, A2, HK, HB⟩ := hrel
  cases gk with
  | zero => exact absurd HA.o (by simp [laws_markCellS.l0])
  | succ k1 =>
   have H := HA.o
   clear HA
   simp only [laws_markCellS.l0] at H
   by_cases c3 : A0 < (A1.length : Int)
   ·rw [if_pos c3] at H
    have Au := decide_eq_true c3
    clear c3
    by_cases c4 : 0 ≤ A0
    ·rw [if_pos c4] at H
     have AT := decide_eq_true c4
     clear c4
     obtain ⟨A4, A6⟩ : ∃ y_ : List (S62), y_ = (A1.set (A0 : Int).toNat (⟨A3, (rd_T62 A1 A0).f1⟩ : S62)) := ⟨_, rfl⟩
     replace H : (laws_markCellS.l0 k1 (A4.set (A0 : Int).toNat (⟨(rd_T62 A4 A0).f0, wrap64 (A3 + 1)⟩ : S62)) (wrap64 ((wrap64 (A3 + 1)) + 1)) (wrap64 (A0 + 1))) = some (r1, r2) := by first | (rw [A6]; with_reducible exact H) | (have H2_ := (Option.bind_some _ _).symm.trans H; rw [A6]; with_reducible exact H2_) | (have H2_ := (Option.bind_some _ _).symm.trans H; with_reducible exact H2_) | with_reducible exact H | (rw [A6]; exact H) | exact H
     have Al := Z.m A6
     clear A6
     obtain ⟨Aj, A7⟩ : ∃ y_ : List (S62), y_ = (A4.set (A0 : Int).toNat (⟨(rd_T62 A4 A0).f0, wrap64 (A3 + 1)⟩ : S62)) := ⟨_, rfl⟩
     replace H : (laws_markCellS.l0 k1 Aj (wrap64 ((wrap64 (A3 + 1)) + 1)) (wrap64 (A0 + 1))) = some (r1, r2) := by first | (rw [A7]; with_reducible exact H) | (have H2_ := (Option.bind_some _ _).symm.trans H; rw [A7]; with_reducible exact H2_) | (have H2_ := (Option.bind_some _ _).symm.trans H; with_reducible exact H2_) | with_reducible exact H | (rw [A7]; exact H) | exact H
     have Am := Z.m A7
     clear A7
     have H' := Z.m H
     clear H
     obtain ⟨AX, As, AW⟩ := Kd.R_slice A2.o
     subst AW
     have p5 : 0 ≤ (A0 : Int) := ofD
     have q5 : (A0 : Int) < ((A1.length : Int) : Int) := ofD
     obtain ⟨A5, B2, AE, AF, gl5, cl5, AA⟩ := Kd.R_form A2.o (by omega)
     (first | cases AE | (injection AE with ea_ en_ ec_; (first | subst ea_ | (injection ea_ with ea_; subst ea_)); subst ec_; clear en_))
     have Az := Z.m AF
     have AY := Z.m AA
     clear AF gl5 AA
     have AC := Z.m (show (P0_ A5 ∨ w.heap.size ≤ A5) from (A2.o.1 _ rfl))
     obtain ⟨AZ, Aw, AG, Ac, Ag⟩ := Kd.R_elem A2.o z62 (A0 : Int) p5 q5
     obtain rfl := k62_openM AG
     have AN : wr.cell? ⟨A5, (A0 : Int).toNat * 2, none⟩ = some (.int .i64 ((rd_T62 A1 A0).f0)) := Ac 0 _ rfl
     have AO : wr.cell? ⟨A5, (A0 : Int).toNat * 2 + 1, none⟩ = some (.int .i64 ((rd_T62 A1 A0).f1)) := Ac 1 _ rfl
     have AJ : wr.frozen? ⟨A5, (A0 : Int).toNat * 2, none⟩ = false := Ag 0
     have AK : wr.frozen? ⟨A5, (A0 : Int).toNat * 2 + 1, none⟩ = false := Ag 1
     (try clear Aw); (try clear Ac); (try clear Ag); (try clear AG)
     replace p5 := eq_true p5
     replace q5 := eq_true q5
     have AD := Z.m (show Kd.R k62 62 wr w0.heap.size (fun k_ => (P0_ k_ ∨ w.heap.size ≤ k_)) (.slice (some ⟨A5, 0, none⟩) A1.length As) A1 from (vR A2))
     obtain ⟨B1, Ao, AI, Ae, Aq⟩ := Kd.R_elem AD.o z62 (A0 : Int) (ofD) (by have h_ : (A0 : Int) < ((A1.length : Int) : Int) := ofD; first | exact h_ | (have e_ := (Kd.RrZ A2.o).1; omega) | simpa using h_)
     obtain rfl := k62_openM AI
     have At := Kd.R_seg AD.o (A0 : Int) (ofD) (by have h_ : (A0 : Int) < ((A1.length : Int) : Int) := ofD; first | exact h_ | (have e_ := (Kd.RrZ A2.o).1; omega) | simpa using h_) (seg := [.int .i64 A3]) (j := 0) Ao Ae (show 1 ≤ 2 from by decide) (x' := (⟨A3, (rd_T62 A1 A0).f1⟩ : S62)) (k62_mkM _ _ _ (⟨A3, (rd_T62 A1 A0).f1⟩ : S62) ) (fun _ hk => hk)
     have Ar := Ae 0 _ rfl
     (try simp only [show (k62).sz = 2 from rfl, Nat.mul_one, Nat.add_zero] at Ar)
     have Ap := Aq 0
     (try simp only [show (k62).sz = 2 from rfl, Nat.mul_one, Nat.add_zero] at Ap)
     (try clear Ao); (try clear Ae); (try clear Aq); (try clear AI)
     go_wp2_with (first | ((with_reducible refine gt (t := 3) (p := 16) rfl ?_); refine store_event (t := 3) (p := 16) (v := ?vo_w9) (w1 := (wr.setCell ⟨A5, (A0 : Int).toNat * 2, none⟩ (.int .i64 A3))) ?hg ?ho ?hn ?hr ?_; (case ho => rfl); (case hg => rfl); (case hn => rfl); (case hr => first | (go_simp; done) | (go_simp; rfl)); intro w9 hw; have hg : wr.grownBy w9 (some A5) := (by rw [hw]; exact At.2); have hp_ : Kd.R k62 62 w9 w0.heap.size (fun k_ => (P0_ k_ ∨ w.heap.size ≤ k_)) (.slice (some ⟨A5, 0, none⟩) A1.length As) A4 := (by rw [hw, Al.o]; exact At.1); clear At; replace HB := Z.m ((by rw [hw]; exact qx (HB.o) Az.o : Below w0.heap.size w0 w9)); replace HK := Z.m (Kept.of_grown (S := (fun k_ => P0_ k_)) hg (vT HK) (fun k_ e_ => (A2.o.1 k_ e_))); replace A2 := Z.m (hp_); clear hg hw hp_; have p6 : 0 ≤ (A0 : Int) := ofD; have q6 : (A0 : Int) < ((A1.length : Int) : Int) := ofD; obtain ⟨B0, Ax, AH, Ad, Ah⟩ := Kd.R_elem A2.o z62 (A0 : Int) p6 q6; obtain rfl := k62_openM AH; have AP : w9.cell? ⟨A5, (A0 : Int).toNat * 2, none⟩ = some (.int .i64 ((rd_T62 A4 A0).f0)) := Ad 0 _ rfl; have AQ : w9.cell? ⟨A5, (A0 : Int).toNat * 2 + 1, none⟩ = some (.int .i64 ((rd_T62 A4 A0).f1)) := Ad 1 _ rfl; have AL : w9.frozen? ⟨A5, (A0 : Int).toNat * 2, none⟩ = false := Ah 0; have AM : w9.frozen? ⟨A5, (A0 : Int).toNat * 2 + 1, none⟩ = false := Ah 1; (try clear Ax); (try clear Ad); (try clear Ah); (try clear AH); replace p6 := eq_true p6; replace q6 := eq_true q6; have Ak := Z.m (show Kd.R k62 62 w9 w0.heap.size (fun k_ => (P0_ k_ ∨ w.heap.size ≤ k_)) (.slice (some ⟨A5, 0, none⟩) A1.length As) A4 from (vR A2)); obtain ⟨AU, A9, An, A8, Aa⟩ := Kd.R_elem Ak.o z62 (A0 : Int) (ofD) (by have h_ : (A0 : Int) < ((A1.length : Int) : Int) := ofD; first | exact h_ | (have e_ := (Kd.RrZ A2.o).1; omega) | simpa using h_); obtain rfl := k62_openM An; have Ab := Kd.R_seg Ak.o (A0 : Int) (ofD) (by have h_ : (A0 : Int) < ((A1.length : Int) : Int) := ofD; first | exact h_ | (have e_ := (Kd.RrZ A2.o).1; omega) | simpa using h_) (seg := [.int .i64 (wrap64 (A3 + 1))]) (j := 1) A9 A8 (show 2 ≤ 2 from by decide) (x' := (⟨(rd_T62 A4 A0).f0, wrap64 (A3 + 1)⟩ : S62)) (k62_mkM _ _ _ (⟨(rd_T62 A4 A0).f0, wrap64 (A3 + 1)⟩ : S62) ) (fun _ hk => hk); have Ai := A8 1 _ rfl; (try simp only [show (k62).sz = 2 from rfl, Nat.mul_one, Nat.add_zero] at Ai); have Af := Aa 1; (try simp only [show (k62).sz = 2 from rfl, Nat.mul_one, Nat.add_zero] at Af); (try clear A9); (try clear A8); (try clear Aa); (try clear An)) | ((with_reducible refine gt (t := 3) (p := 23) rfl ?_); refine store_event (t := 3) (p := 23) (v := ?vo_w11) (w1 := (w9.setCell ⟨A5, (A0 : Int).toNat * 2 + 1, none⟩ (.int .i64 (wrap64 (A3 + 1))))) ?hg ?ho ?hn ?hr ?_; (case ho => rfl); (case hg => rfl); (case hn => rfl); (case hr => first | (go_simp; done) | (go_simp; rfl)); intro Ay hw; have hg : w9.grownBy Ay (some A5) := (by rw [hw]; exact Ab.2); have hp_ : Kd.R k62 62 Ay w0.heap.size (fun k_ => (P0_ k_ ∨ w.heap.size ≤ k_)) (.slice (some ⟨A5, 0, none⟩) A1.length As) Aj := (by rw [hw, Am.o]; exact Ab.1); clear Ab; replace HB := Z.m ((by rw [hw]; exact qx (HB.o) Az.o : Below w0.heap.size w0 Ay)); replace HK := Z.m (Kept.of_grown (S := (fun k_ => P0_ k_)) hg (vT HK) (fun k_ e_ => (A2.o.1 k_ e_))); replace A2 := Z.m (hp_); clear hg hw hp_))
     go_roundg k1
     case measure => have := AB.o; omega
     case rel => exact ⟨(Aj), (wrap64 ((wrap64 (A3 + 1)) + 1)), (wrap64 (A0 + 1)), (by first | rfl | (simp; done) | (simp [*]; done)), (by first | rfl | (simp; done) | (simp [*]; done)), H', ⟨by have := AB.o; omega⟩, ⟨vR A2⟩, ⟨vT HK⟩, ⟨vB HB⟩⟩
    ·rw [if_neg c4] at H
     exact absurd H (by simp)
   ·rw [if_neg c3] at H
    have Au := decide_eq_false c3
    clear c3
    simp only [Option.some.injEq, Prod.mk.injEq] at H
    obtain ⟨rfl, rfl⟩ := H
    obtain ⟨AR, AV, Av⟩ := Kd.R_slice A2.o
    subst Av
    go_wp2
    go_ret
    exact ⟨by first | rfl | (simp [eN, eS] <;> rfl) | (simp [*, eN, eS] <;> rfl), vR A2, vB HB, vT HK⟩

/-! ### laws_markBoard: function 8 -/
def laws_markBoard.f (k : Nat) (a0_0 : Int) (a0_1 : Int) (l0_2 : List (S62)) (a1 : Int) : Option (Int × (List (S62))) := (laws_markCellS.f k l0_2 a1).bind fun bt235 => (some (bt235.1, bt235.2))
set_option maxHeartbeats 8000000 in
set_option maxRecDepth 100000 in
theorem laws_markBoard.calls (k : Nat) (a0_0 : Int) (a0_1 : Int) (P0_2_ : Nat → Prop) (u9000_ : Value) (l0_2 : List (S62)) (a1 : Int) (r1 : Int) (r2 : List (S62)) (w0 w : World) (hB : Below w0.heap.size w0 w) (ho0_2 : Kd.R k62 62 w w0.heap.size P0_2_ u9000_ l0_2) (h : laws_markBoard.f k a0_0 a0_1 l0_2 a1 = some (r1, r2)) :
 Calls Tryd.prog 8 #[.agg #[.int .i64 a0_0, .int .i64 a0_1, u9000_], .int .i64 a1] w fun e w' => e = .returned (.int .i64 r1) ∧ Kd.R k62 62 w' w0.heap.size (fun k_ => (P0_2_ k_ ∨ w.heap.size ≤ k_)) u9000_ r2 ∧ Below w0.heap.size w0 w' ∧ Kept w w' (fun k_ => P0_2_ k_) := by
 have Aj := Tryd.underlying24
 have A1 := Z.m (show Kd.R k62 62 w w0.heap.size (fun k_ => (P0_2_ k_ ∨ w.heap.size ≤ k_)) u9000_ l0_2 from Kd.Rm ho0_2 (fun k_ hk => (.inl hk)))
 have HK := Z.m (Kept.refl w (fun k_ => P0_2_ k_))
 have HW0 := Z.m hB.size
 have HB := Z.m hB
 clear hB
 have H : ((laws_markCellS.f k l0_2 a1).bind fun bt235 => (some (bt235.1, bt235.2))) = some (r1, r2) := h
 clear h
 replace H := Option.bind_eq_some_iff.mp H
 obtain ⟨⟨A5, A6⟩, Af, H⟩ := H
 replace H : (some (A5, A6)) = some (r1, r2) := H
 have A3 := Z.m Af
 clear Af
 simp only [Option.some.injEq, Prod.mk.injEq] at H
 obtain ⟨rfl, rfl⟩ := H
 obtain ⟨A7, A8, Ai⟩ := Kd.R_slice A1.o
 subst Ai
 go_enter Tryd.func8, Tryd.ntmps8
 go_wp2_with (first | ((with_reducible refine gq (N := 2) rfl ?_); refine be (N := 2) (cs := #[.int .i64 a0_0, .int .i64 a0_1, .slice A7 l0_2.length A8]) (t := 24) ?_; intro A4 hg w5 hbox hb; have A0 := Z.m (hbox); have Ag := Z.m ((by rw [hg]; exact (by first | exact HK.o.1 | exact (show Kept w _ (fun k_ => P0_2_ k_) from vT HK).1) : w.heap.size ≤ A4)); have A2 := gW (w := w0) HB hg; replace A1 := Z.m (Kd.Rb (vR A1) hb); replace HK := Z.m (Kept.below (S := (fun k_ => P0_2_ k_)) (vT HK) hb); replace HB := bB HB hb; clear hb hbox hg; have A9 := bc0 A0; have Aa := bc1 A0; have Ab := bc2 A0; have Ac := qz A0.o 0; have Ad := qz A0.o 1; have Ae := qz A0.o 2) | ((with_reducible refine gc (f := 19) rfl ?_); refine gA (some 8) _ #[.slice A7 l0_2.length A8, .int .i64 a1] ?_ Tryd.func19; (with_reducible refine (laws_markCellS.calls k (fun k_ => some k_ = (.slice A7 l0_2.length A8 : Value).ownBlock) (.slice A7 l0_2.length A8) l0_2 a1 A5 A6 w0 _ ?side1 ?side2 A3.o).mono ?_); (case side1 => repeat (first | (with_reducible first | exact HB.o | apply qa | apply qn | apply qd | refine qx ?_ A2.o) | exact HB.o)); (case side2 => exact Kd.Rg rfl A1.o); rintro e w7 ⟨rfl, Ah, hb, hkp⟩; refine ⟨_, rfl, ?_⟩; replace A0 := Z.m (qk (vK A0) hkp (fun hs_ => (fun e_ => (Kd.R_ne A1.o A0.o (by decide)) e_) hs_)); replace HK := Z.m (Kept.then_ (S := (fun k_ => P0_2_ k_)) (vT HK) hkp (fun k_ hs_ => (fun e_ => (A1.o.1 k_ e_.symm)) hs_)); replace A1 := Z.m (Kd.Re rfl Ah (fun k_ e_ => A1.o.1 k_ e_)); replace HB := Z.m (hb); (try clear hb); (try clear hkp); (try clear Ah)))
 go_ret
 exact ⟨by first | rfl | (simp [eN, eS] <;> rfl) | (simp [*, eN, eS] <;> rfl), vR A1, vB HB, vT HK⟩

/-! ### laws_heldCellS: function 20 -/
def laws_heldCellS.l0 : Nat → List (S62) → Int → Int → Option (Int)
 | 0, _, _, _ => none
 | k + 1, x0, x1, x5 => if x5 < (x0.length : Int) then (if 0 ≤ x5 then (if ((rd_T62 x0 x5).f0) = x1 then (if ((rd_T62 x0 x5).f1) = (wrap64 (x1 + 1)) then (laws_heldCellS.l0 k x0 (wrap64 ((wrap64 (x1 + 1)) + 1)) (wrap64 (x5 + 1))) else (some (-1))) else (some (-1))) else (none)) else (some x1)
def laws_heldCellS.f (k : Nat) (l0 : List (S62)) (a1 : Int) : Option (Int) := laws_heldCellS.l0 k l0 a1 0
set_option maxHeartbeats 8000000 in
set_option maxRecDepth 100000 in
theorem laws_heldCellS.calls (k : Nat) (A0 : Option Addr) (c0 : Nat) (l0 : List (S62)) (a1 : Int) (r : Int) (w : World) (hr0 : Kd.C k62 w A0 l0.length l0) (hc0 : l0.length ≤ c0) (h : laws_heldCellS.f k l0 a1 = some r) :
 Calls Tryd.prog 20 #[.slice A0 l0.length c0, .int .i64 a1] w fun e w' => e = .returned (.int .i64 r) ∧ Drawn0 w w' := by
 have A9 := Z.m hr0
 have Ah := Z.m hc0
 clear hr0 hc0
 have H : (laws_heldCellS.l0 k l0 a1 0) = some r := h
 clear h
 have H' := Z.m H
 clear H
 go_enter Tryd.func20, Tryd.ntmps20
 go_wp2
 go_loopg [1, 5] k (fun kq v1 v5 w' => ∃ (A5 : Int) (A1 : Int), v1 = .int .i64 A5 ∧ v5 = .int .i64 A1 ∧ Z (laws_heldCellS.l0 kq l0 A5 A1 = some r) ∧ Z (kq ≤ k) ∧ Drawn0 w w')
 case atStart => exact ⟨(a1), (0), (by first | rfl | (simp; done) | (simp [*]; done)), (by first | rfl | (simp; done) | (simp [*]; done)), H', ⟨Nat.le_refl _⟩, by repeat (first | exact Drawn0.refl _ | apply Drawn0.step)⟩
 case round =>
  clear H'
  obtain ⟨A5, A1, rfl, rfl, HA, Af, ⟨m1, rfl⟩⟩ := hrel
  cases gk with
  | zero => exact absurd HA.o (by simp [laws_heldCellS.l0])
  | succ k1 =>
   have H := HA.o
   clear HA
   simp only [laws_heldCellS.l0] at H
   by_cases c3 : A1 < (l0.length : Int)
   ·rw [if_pos c3] at H
    have Aa := decide_eq_true c3
    clear c3
    by_cases c4 : 0 ≤ A1
    ·rw [if_pos c4] at H
     have Ag := decide_eq_true c4
     clear c4
     by_cases c5 : ((rd_T62 l0 A1).f0) = A5
     ·rw [if_pos c5] at H
      have Ab := beq_iff_eq.mpr c5
      have Ac := bne_eq_false_iff_eq.mpr c5
      clear c5
      by_cases c6 : ((rd_T62 l0 A1).f1) = (wrap64 (A5 + 1))
      ·rw [if_pos c6] at H
       have Ad := beq_iff_eq.mpr c6
       have Ae := bne_eq_false_iff_eq.mpr c6
       clear c6
       have H' := Z.m H
       clear H
       have p237 : 0 ≤ (A1 : Int) := ofD
       have q237 : A1 < (l0.length : Int) := ofD
       obtain ⟨A2, e237, A3, A4⟩ := at_T62 A9.o A1 p237 q237
       cases e237
       replace p237 := eq_true p237
       replace q237 := eq_true q237
       have p238 : 0 ≤ (A1 : Int) := ofD
       have q238 : A1 < (l0.length : Int) := ofD
       obtain ⟨A6, e238, A7, A8⟩ := at_T62 A9.o A1 p238 q238
       obtain rfl : A2 = A6 := (by injection e238)
       replace p238 := eq_true p238
       replace q238 := eq_true q238
       go_wp2
       go_roundg k1
       case measure => have := Af.o; omega
       case rel => exact ⟨(wrap64 ((wrap64 (A5 + 1)) + 1)), (wrap64 (A1 + 1)), (by first | rfl | (simp; done) | (simp [*]; done)), (by first | rfl | (simp; done) | (simp [*]; done)), H', ⟨by have := Af.o; omega⟩, by repeat (first | exact Drawn0.refl _ | apply Drawn0.step)⟩
      ·rw [if_neg c6] at H
       have Ad := beq_eq_false_iff_ne.mpr c6
       have Ae := bne_iff_ne.mpr c6
       obtain rfl := Option.some.inj H
       have p237 : 0 ≤ (A1 : Int) := ofD
       have q237 : A1 < (l0.length : Int) := ofD
       obtain ⟨A2, e237, A3, A4⟩ := at_T62 A9.o A1 p237 q237
       cases e237
       replace p237 := eq_true p237
       replace q237 := eq_true q237
       have p238 : 0 ≤ (A1 : Int) := ofD
       have q238 : A1 < (l0.length : Int) := ofD
       obtain ⟨A6, e238, A7, A8⟩ := at_T62 A9.o A1 p238 q238
       obtain rfl : A2 = A6 := (by injection e238)
       replace p238 := eq_true p238
       replace q238 := eq_true q238
       go_wp2
       go_ret
       exact ⟨by first | rfl | (simp; done) | (simp [*]; done), by repeat (first | exact Drawn0.refl _ | apply Drawn0.step)⟩
     ·rw [if_neg c5] at H
      have Ab := beq_eq_false_iff_ne.mpr c5
      have Ac := bne_iff_ne.mpr c5
      obtain rfl := Option.some.inj H
      have p237 : 0 ≤ (A1 : Int) := ofD
      have q237 : A1 < (l0.length : Int) := ofD
      obtain ⟨A2, e237, A3, A4⟩ := at_T62 A9.o A1 p237 q237
      cases e237
      replace p237 := eq_true p237
      replace q237 := eq_true q237
      go_wp2
      go_ret
      exact ⟨by first | rfl | (simp; done) | (simp [*]; done), by repeat (first | exact Drawn0.refl _ | apply Drawn0.step)⟩
    ·rw [if_neg c4] at H
     exact absurd H (by simp)
   ·rw [if_neg c3] at H
    have Aa := decide_eq_false c3
    clear c3
    obtain rfl := Option.some.inj H
    go_wp2
    go_ret
    exact ⟨by first | rfl | (simp; done) | (simp [*]; done), by repeat (first | exact Drawn0.refl _ | apply Drawn0.step)⟩

/-! ### laws_heldBoard: function 9 -/
def laws_heldBoard.f (k : Nat) (a0_0 : Int) (a0_1 : Int) (l0_2 : List (S62)) (a1 : Int) : Option (Int) := (laws_heldCellS.f k l0_2 a1).bind fun t240 => (if t240 < 0 then (some (-1)) else (some t240))
set_option maxHeartbeats 8000000 in
set_option maxRecDepth 100000 in
theorem laws_heldBoard.calls (k : Nat) (a0_0 : Int) (a0_1 : Int) (A0_2 : Option Addr) (c0_2 : Nat) (l0_2 : List (S62)) (a1 : Int) (r : Int) (w : World) (hr0_2 : Kd.C k62 w A0_2 l0_2.length l0_2) (hc0_2 : l0_2.length ≤ c0_2) (h : laws_heldBoard.f k a0_0 a0_1 l0_2 a1 = some r) :
 Calls Tryd.prog 9 #[.agg #[.int .i64 a0_0, .int .i64 a0_1, .slice A0_2 l0_2.length c0_2], .int .i64 a1] w fun e w' => e = .returned (.int .i64 r) ∧ Below w.heap.size w w' := by
 have Am := Tryd.underlying24
 have A5 := Z.m hr0_2
 have A4 := Z.m hc0_2
 clear hr0_2 hc0_2
 have HB := Z.m (Below.refl w.heap.size w)
 have H : ((laws_heldCellS.f k l0_2 a1).bind fun A1 => (if A1 < 0 then (some (-1)) else (some A1))) = some r := h
 clear h
 replace H := Option.bind_eq_some_iff.mp H
 obtain ⟨A1, Al, H⟩ := H
 replace H : (if A1 < 0 then (some (-1)) else (some A1)) = some r := H
 have A3 := Z.m Al
 clear Al
 by_cases c4 : A1 < 0
 ·rw [if_pos c4] at H
  have A8 := decide_eq_true c4
  clear c4
  obtain rfl := Option.some.inj H
  go_enter Tryd.func9, Tryd.ntmps9
  go_wp2_with (first | ((with_reducible refine gq (N := 2) rfl ?_); refine be (N := 2) (cs := #[.int .i64 a0_0, .int .i64 a0_1, .slice A0_2 l0_2.length c0_2]) (t := 24) ?_; intro A7 hg w5 hbox hb; have A0 := Z.m (hbox); have A2 := gW (w := w) HB hg; have A6 := A2; replace HB := bB HB hb; clear hb hbox hg; have A9 := bc0 A0; have Aa := bc1 A0; have Ab := bc2 A0; have Af := qz A0.o 0; have Ag := qz A0.o 1; have Ah := qz A0.o 2) | ((with_reducible refine gc (f := 20) rfl ?_); refine gA (some 8) _ #[.slice A0_2 l0_2.length c0_2, .int .i64 a1] ?_ Tryd.func20; (with_reducible refine (laws_heldCellS.calls k _ _ l0_2 a1 A1 _ ?side1 ?side2 A3.o).mono ?_); (case side1 => repeat (first | exact (Kd.C_below A5.o HB.o) | (with_reducible refine Kd.C_alloc ?_ _) | (with_reducible refine Kd.C_drewN ?_ _) | (with_reducible refine Kd.C_drew ?_))); (case side2 => exact A4.o); rintro e w' ⟨rfl, ⟨nd, rfl⟩⟩; refine ⟨_, rfl, ?_⟩))
  go_ret
  exact ⟨by first | rfl | (simp [eN, eS] <;> rfl) | (simp [*, eN, eS] <;> rfl), vB HB⟩
 ·rw [if_neg c4] at H
  have A8 := decide_eq_false c4
  clear c4
  obtain rfl := Option.some.inj H
  go_enter Tryd.func9, Tryd.ntmps9
  go_wp2_with (first | ((with_reducible refine gq (N := 2) rfl ?_); refine be (N := 2) (cs := #[.int .i64 a0_0, .int .i64 a0_1, .slice A0_2 l0_2.length c0_2]) (t := 24) ?_; intro A7 hg w7 hbox hb; have A0 := Z.m (hbox); have A2 := gW (w := w) HB hg; have A6 := A2; replace HB := bB HB hb; clear hb hbox hg; have Ac := bc0 A0; have Ad := bc1 A0; have Ae := bc2 A0; have Ai := qz A0.o 0; have Aj := qz A0.o 1; have Ak := qz A0.o 2) | ((with_reducible refine gc (f := 20) rfl ?_); refine gA (some 8) _ #[.slice A0_2 l0_2.length c0_2, .int .i64 a1] ?_ Tryd.func20; (with_reducible refine (laws_heldCellS.calls k _ _ l0_2 a1 A1 _ ?side1 ?side2 A3.o).mono ?_); (case side1 => repeat (first | exact (Kd.C_below A5.o HB.o) | (with_reducible refine Kd.C_alloc ?_ _) | (with_reducible refine Kd.C_drewN ?_ _) | (with_reducible refine Kd.C_drew ?_))); (case side2 => exact A4.o); rintro e w' ⟨rfl, ⟨nd, rfl⟩⟩; refine ⟨_, rfl, ?_⟩))
  go_ret
  exact ⟨by first | rfl | (simp [eN, eS] <;> rfl) | (simp [*, eN, eS] <;> rfl), vB HB⟩

/-! ### laws_FnExactParseBoard: function 3 -/
mutual
def laws_FnExactParseBoard.j0 : Nat → ByteArray → Bool → Bool → Int → Int → List (S62) → Int → Int → List (S62) → Option (Bool)
 | 0, _, _, _, _, _, _, _, _, _ => none
 | k + 1, x0, x4, x32, x248000, x248001, x248002, x255000, x255001, x255002 => if x32 = true then (some false) else ((laws_markBoard.f k x255000 x255001 x255002 1).bind fun bt256 => ((laws_heldBoard.f k x255000 x255001 bt256.2 1).bind fun t258 => (if t258 < 0 then (some false) else (if t258 = bt256.1 then ((impl_ParseBoard.f k x0).bind fun bt259 => ((laws_eqBoard.f k bt259.1 bt259.2.1 bt259.2.2.1 x248000 x248001 x248002).bind fun t266 => (if t266 = true then (laws_FnExactParseBoard.j1 k bt256.1 (bt259.2.2.2 != x4) x255000 x255001 bt256.2) else (laws_FnExactParseBoard.j1 k bt256.1 true x255000 x255001 bt256.2)))) else (some false)))))
def laws_FnExactParseBoard.j1 : Nat → Int → Bool → Int → Int → List (S62) → Option (Bool)
 | 0, _, _, _, _, _ => none
 | k + 1, x7, x57, x255000, x255001, x255002 => if x57 = true then (some false) else ((laws_heldBoard.f k x255000 x255001 x255002 1).bind fun t267 => (if t267 < 0 then (some false) else (if t267 = x7 then (some true) else (some false))))
end
def laws_FnExactParseBoard.f (k : Nat) (a0 : ByteArray) : Option (Bool) := if (a0.size : Int) > 1048576 then (some true) else ((spec_ParseBoard.f k a0).bind fun bt241 => ((impl_ParseBoard.f k a0).bind fun bt248 => ((laws_eqBoard.f k bt248.1 bt248.2.1 bt248.2.2.1 bt241.1 bt241.2.1 bt241.2.2.1).bind fun t255 => (if t255 = true then (laws_FnExactParseBoard.j0 k a0 bt241.2.2.2 (bt248.2.2.2 != bt241.2.2.2) bt241.1 bt241.2.1 bt241.2.2.1 bt248.1 bt248.2.1 bt248.2.2.1) else (laws_FnExactParseBoard.j0 k a0 bt241.2.2.2 true bt241.1 bt241.2.1 bt241.2.2.1 bt248.1 bt248.2.1 bt248.2.2.1)))))
theorem laws_FnExactParseBoard.bad_j0 (k : Nat) (y0 : ByteArray) (y1 : Bool) (y3 : Int) (y4 : Int) (y5 : List (S62)) (y6 : Int) (y7 : Int) (y8 : List (S62)) : ¬ laws_FnExactParseBoard.j0 k y0 y1 true y3 y4 y5 y6 y7 y8 = some true := by
 cases k <;> simp [laws_FnExactParseBoard.j0]
theorem laws_FnExactParseBoard.bad_j1 (k : Nat) (y0 : Int) (y2 : Int) (y3 : Int) (y4 : List (S62)) : ¬ laws_FnExactParseBoard.j1 k y0 true y2 y3 y4 = some true := by
 cases k <;> simp [laws_FnExactParseBoard.j1]
set_option maxHeartbeats 8000000 in
set_option maxRecDepth 100000 in
theorem laws_FnExactParseBoard.calls (k : Nat) (a0 : ByteArray) (w : World) (h : laws_FnExactParseBoard.f k a0 = some true) {m1_ : Int} (hm1_ : w.cell? ⟨1, 0, none⟩ = some (.int .i64 m1_)) :
 Calls Tryd.prog 3 #[.string a0] w fun e w' => e = .returned (.bool true) ∧ Below w.heap.size w w' := by
 have CI := Tryd.underlying24
 have HB := Z.m (Below.refl w.heap.size w)
 have H : (if (a0.size : Int) > 1048576 then (some true) else ((spec_ParseBoard.f k a0).bind fun bt241 => ((impl_ParseBoard.f k a0).bind fun bt248 => ((laws_eqBoard.f k bt248.1 bt248.2.1 bt248.2.2.1 bt241.1 bt241.2.1 bt241.2.2.1).bind fun Az => (if Az = true then (laws_FnExactParseBoard.j0 k a0 bt241.2.2.2 (bt248.2.2.2 != bt241.2.2.2) bt241.1 bt241.2.1 bt241.2.2.1 bt248.1 bt248.2.1 bt248.2.2.1) else (laws_FnExactParseBoard.j0 k a0 bt241.2.2.2 true bt241.1 bt241.2.1 bt241.2.2.1 bt248.1 bt248.2.1 bt248.2.2.1)))))) = some true := h
 clear h
 by_cases c2 : (a0.size : Int) > 1048576
 ·rw [if_pos c2] at H
  have Bv := decide_eq_true c2
  have Bw : decide (1048576 < a0.size) = true := decide_eq_true (by omega)
  clear c2
  clear H
  go_enter Tryd.func3, Tryd.ntmps3
  go_wp2
  go_ret
  exact ⟨by first | rfl | (simp [eN, eS] <;> rfl) | (simp [*, eN, eS] <;> rfl), vB HB⟩
 ·rw [if_neg c2] at H
  have Bv := decide_eq_false c2
  have Bw : decide (1048576 < a0.size) = false := decide_eq_false (by omega)
  clear c2
  replace H := Option.bind_eq_some_iff.mp H
  obtain ⟨⟨Ac, Ad, Aa, Af⟩, C7, H⟩ := H
  replace H : ((impl_ParseBoard.f k a0).bind fun bt248 => ((laws_eqBoard.f k bt248.1 bt248.2.1 bt248.2.2.1 Ac Ad Aa).bind fun Az => (if Az = true then (laws_FnExactParseBoard.j0 k a0 Af (bt248.2.2.2 != Af) Ac Ad Aa bt248.1 bt248.2.1 bt248.2.2.1) else (laws_FnExactParseBoard.j0 k a0 Af true Ac Ad Aa bt248.1 bt248.2.1 bt248.2.2.1)))) = some true := H
  have A3 := Z.m C7
  clear C7
  replace H := Option.bind_eq_some_iff.mp H
  obtain ⟨⟨A8, A9, Ab, AJ⟩, C8, H⟩ := H
  replace H : ((laws_eqBoard.f k A8 A9 Ab Ac Ad Aa).bind fun Az => (if Az = true then (laws_FnExactParseBoard.j0 k a0 Af (AJ != Af) Ac Ad Aa A8 A9 Ab) else (laws_FnExactParseBoard.j0 k a0 Af true Ac Ad Aa A8 A9 Ab))) = some true := H
  have A4 := Z.m C8
  clear C8
  have C4 := Z.m H
  clear H
  go_enter Tryd.func3, Tryd.ntmps3
  go_upto_region 5 with (first | ((with_reducible refine gc (f := 5) rfl ?_); refine gA (some 16) _ #[.string a0] ?_ Tryd.func5; (with_reducible refine (spec_ParseBoard.calls k a0 Ac Ad Aa Af _ A3.o).mono ?_); rintro e w6 ⟨CJ, rfl, AI, hb⟩; refine ⟨_, rfl, ?_⟩; have Ag := Z.m (Kd.R_lower AI (below_size (vB HB))); replace HB := bB HB hb; (try clear hb); (try clear Bi); (try clear hk); (try clear hi); (try clear AI)) | ((with_reducible refine gq (N := 3) rfl ?_); refine be (N := 3) (cs := #[.int .i64 0, .int .i64 0, .slice none 0 0]) (t := 24) ?_; intro Ay hg w7 hbox hb; have A2 := Z.m (hbox); have Br := gW (w := w) HB hg; have Bp := Br; replace Ag := Z.m (Kd.Rb (vR Ag) hb); replace HB := bB HB hb; clear hb hbox hg; have Bc := bc0 A2; have Bd := bc1 A2; have Be := bc2 A2; have Bf := qz A2.o 0; have Bg := qz A2.o 1; have Bh := qz A2.o 2; obtain ⟨AD, AB, CH⟩ := Kd.R_slice Ag.o; subst CH) | ((with_reducible refine gc (f := 6) rfl ?_); refine gA (some 21) _ #[.string a0] ?_ Tryd.func6; (with_reducible refine (impl_ParseBoard.calls k a0 A8 A9 Ab AJ _ A4.o (pw_cell_below (vB HB) hm1_)).mono ?_); rintro e CM ⟨CK, rfl, AI, hb⟩; refine ⟨_, rfl, ?_⟩; have Aq := Z.m (Kd.R_lower (Kd.R_new' AI (Kd.R_lt (by refine rK ?_; exact (Kd.Rm (rf (rf (rf (Kd.Ry Ag.o A2.o (by decide))))) (fun _ h_ => h_.1))))) (below_size (vB HB))); replace Ag := Z.m (Kd.R_elder' (by refine rK ?_; exact (Kd.Rm (rf (rf (rf (Kd.Ry Ag.o A2.o (by decide))))) (fun _ h_ => h_.1))) (Kd.R_base AI) hb); replace A2 := Z.m (qb (g := Ay) (o := .cells #[.int .i64 Ac, .int .i64 Ad, .slice AD Aa.length AB] 24 (0, 0)) (by refine bK ?_; apply st3; refine bK ?_; exact A2.o) hb); replace HB := bB HB hb; (try clear hb); (try clear Bi); (try clear hk); (try clear hi); (try clear AI)) | ((with_reducible refine gq (N := 5) rfl ?_); refine be (N := 5) (cs := #[.int .i64 0, .int .i64 0, .slice none 0 0]) (t := 24) ?_; intro AE hg CN hbox hb; have A1 := Z.m (hbox); have Bs := gW (w := w) HB hg; have Bq := Bs; have Ae := neL A2 hg; have Ah := neG A2 hg; replace Ag := Z.m (Kd.Rb (vR Ag) hb); replace Aq := Z.m (Kd.Rb (vR Aq) hb); replace A2 := kB A2 hb; replace HB := bB HB hb; clear hb hbox hg; have Cd := Ah.o; have Co := Ae.o; have AL := bc0 A1; have AM := bc1 A1; have AN := bc2 A1; have AX := qz A1.o 0; have AY := qz A1.o 1; have AZ := qz A1.o 2; obtain ⟨Ak, Ai, C5⟩ := Kd.R_slice Aq.o; subst C5))
  (try simp only [Act.put, q1, q2, q3])
  go_cut [32] (fun v32 wc => ∃ (kq : Nat) (AF : Bool), v32 = .bool AF ∧ Z (laws_FnExactParseBoard.j0 kq a0 Af AF Ac Ad Aa A8 A9 Ab = some true) ∧ Z (kq ≤ k) ∧ Z (Kd.R k62 62 wc w.heap.size (fun k_ => some k_ ≠ ((.slice Ak Ab.length Ai) : Value).ownBlock) (.slice AD Aa.length AB) Aa) ∧ Z (Kd.R k62 62 wc w.heap.size (fun k_ => some k_ ≠ ((.slice AD Aa.length AB) : Value).ownBlock) (.slice Ak Ab.length Ai) Ab) ∧ Z (wc.heap[Ay]? = some (.cells #[.int .i64 Ac, .int .i64 Ad, (.slice AD Aa.length AB)] 24 (0, 0))) ∧ Z (wc.heap[AE]? = some (.cells #[.int .i64 A8, .int .i64 A9, (.slice Ak Ab.length Ai)] 24 (0, 0))) ∧ Z (Below w.heap.size w wc))
  case first =>
   have H := C4.o
   clear C4
   replace H := Option.bind_eq_some_iff.mp H
   obtain ⟨Az, Bj, H⟩ := H
   replace H : (if Az = true then (laws_FnExactParseBoard.j0 k a0 Af (AJ != Af) Ac Ad Aa A8 A9 Ab) else (laws_FnExactParseBoard.j0 k a0 Af true Ac Ad Aa A8 A9 Ab)) = some true := H
   have Cz := Z.m Bj
   clear Bj
   by_cases c16 : Az = true
   ·subst c16
    have H1 : (laws_FnExactParseBoard.j0 k a0 Af (AJ != Af) Ac Ad Aa A8 A9 Ab) = some true := by rw [if_pos rfl] at H; exact H
    clear H
    have H := H1
    clear H1
    have H' := Z.m H
    clear H
    have Ce := Ah.o
    have Cp := Ae.o
    have BA := bc0 A1
    have BB := bc1 A1
    have BC := bc2 A1
    have BP := qz A1.o 0
    have BQ := qz A1.o 1
    have BR := qz A1.o 2
    have BD := bc0 A2
    have BE := bc1 A2
    have BF := bc2 A2
    have BS := qz A2.o 0
    have BT := qz A2.o 1
    have BU := qz A2.o 2
    go_wp2_with (first | ((with_reducible refine gc (f := 7) rfl ?_); refine gA (some 26) _ #[.agg #[.int .i64 A8, .int .i64 A9, .slice Ak Ab.length Ai], .agg #[.int .i64 Ac, .int .i64 Ad, .slice AD Aa.length AB]] ?_ Tryd.func7; (with_reducible refine (laws_eqBoard.calls k A8 A9 _ _ Ab Ac Ad _ _ Aa true _ ?side1 ?side2 ?side3 ?side4 Cz.o).mono ?_); (case side1 => refine (Kd.RrZ (e := 62) (base := w.heap.size) (ok := fun k_ => (True ∧ some k_ ≠ (.slice AD Aa.length AB : Value).ownBlock)) (n := Ab.length) (c := Ai) ?_).2.2; exact (by refine rK ?_; exact (Kd.Rm (rf (rf (rf (Kd.Ry Aq.o A1.o (by decide))))) (fun _ h_ => h_.1)))); (case side2 => exact (Kd.RrZ Aq.o).2.1); (case side3 => refine (Kd.RrZ (e := 62) (base := w.heap.size) (ok := fun k_ => (True ∧ some k_ ≠ (.slice Ak Ab.length Ai : Value).ownBlock)) (n := Aa.length) (c := AB) ?_).2.2; exact (by refine rK ?_; exact (Kd.Rm (rf (rf (rf (Kd.Ry Ag.o A1.o (by decide))))) (fun _ h_ => h_.1)))); (case side4 => exact (Kd.RrZ Ag.o).2.1); rintro e CO ⟨rfl, hb⟩; refine ⟨_, rfl, ?_⟩; replace Ag := Z.m (Kd.Rb (by refine rK ?_; exact (Kd.Rm (rf (rf (rf (Kd.Ry Ag.o A1.o (by decide))))) (fun _ h_ => h_.1))) hb); replace Aq := Z.m (Kd.Rb (by refine rK ?_; exact (Kd.Rm (rf (rf (rf (Kd.Ry Aq.o A1.o (by decide))))) (fun _ h_ => h_.1))) hb); replace A2 := Z.m (qb (g := Ay) (o := .cells #[.int .i64 Ac, .int .i64 Ad, .slice AD Aa.length AB] 24 (0, 0)) (by refine bK ?_; (iterate 3 refine qF ?_ Ae); exact A2.o) hb); replace A1 := Z.m (qb (g := AE) (o := .cells #[.int .i64 A8, .int .i64 A9, .slice Ak Ab.length Ai] 24 (0, 0)) (by refine bK ?_; apply st3; refine bK ?_; exact A1.o) hb); replace HB := bB HB hb; (try clear hb); (try clear Bi); (try clear hk); (try clear hi)))
    go_meet
    case rel => exact ⟨_, ((AJ != Af)), (by first | rfl | (simp; done) | (simp [*]; done)), H', ⟨by first | omega | exact Nat.le_refl _⟩, ⟨by refine rK ?_; exact Kd.Rm Ag.o (fun _ hk => hk.2)⟩, ⟨by refine rK ?_; exact Kd.Rm Aq.o (fun _ hk => hk.2)⟩, ⟨vK A2⟩, ⟨vK A1⟩, ⟨vB HB⟩⟩
   ·(rw [if_neg c16] at H; exact absurd H (laws_FnExactParseBoard.bad_j0 _ _ _ _ _ _ _ _ _))
  case rest =>
   clear C4
   (try clear Bv); (try clear Bw)
   (try clear AL); (try clear AM); (try clear AN); (try clear Bc); (try clear Bd); (try clear Be); (try clear AX); (try clear AY)
   (try clear AZ); (try clear Bf); (try clear Bg); (try clear Bh)
   obtain ⟨kq, AF, rfl, HA, CG, A5, A0, A2, A1, HB⟩ := hcut
   cases kq with
   | zero => exact absurd HA.o (by simp [laws_FnExactParseBoard.j0])
   | succ kj4 =>
    have H := HA.o
    clear HA
    simp only [laws_FnExactParseBoard.j0] at H
    by_cases c25 : AF = true
    ·(rw [if_pos c25] at H; exact absurd H (by decide))
    ·replace c25 := Bool.eq_false_iff.mpr c25
     subst c25
     have H1 : ((laws_markBoard.f kj4 A8 A9 Ab 1).bind fun bt256 => ((laws_heldBoard.f kj4 A8 A9 bt256.2 1).bind fun At => (if At < 0 then (some false) else (if At = bt256.1 then ((impl_ParseBoard.f kj4 a0).bind fun bt259 => ((laws_eqBoard.f kj4 bt259.1 bt259.2.1 bt259.2.2.1 Ac Ad Aa).bind fun Au => (if Au = true then (laws_FnExactParseBoard.j1 kj4 bt256.1 (bt259.2.2.2 != Af) A8 A9 bt256.2) else (laws_FnExactParseBoard.j1 kj4 bt256.1 true A8 A9 bt256.2)))) else (some false))))) = some true := by rw [if_neg (show ¬ (false = true) by decide)] at H; exact H
     clear H
     have H := H1
     clear H1
     replace H := Option.bind_eq_some_iff.mp H
     obtain ⟨⟨Al, Aj⟩, Bk, H⟩ := H
     replace H : ((laws_heldBoard.f kj4 A8 A9 Aj 1).bind fun At => (if At < 0 then (some false) else (if At = Al then ((impl_ParseBoard.f kj4 a0).bind fun bt259 => ((laws_eqBoard.f kj4 bt259.1 bt259.2.1 bt259.2.2.1 Ac Ad Aa).bind fun Au => (if Au = true then (laws_FnExactParseBoard.j1 kj4 Al (bt259.2.2.2 != Af) A8 A9 Aj) else (laws_FnExactParseBoard.j1 kj4 Al true A8 A9 Aj)))) else (some false)))) = some true := H
     have CA := Z.m Bk
     clear Bk
     replace H := Option.bind_eq_some_iff.mp H
     obtain ⟨At, Bl, H⟩ := H
     replace H : (if At < 0 then (some false) else (if At = Al then ((impl_ParseBoard.f kj4 a0).bind fun bt259 => ((laws_eqBoard.f kj4 bt259.1 bt259.2.1 bt259.2.2.1 Ac Ad Aa).bind fun Au => (if Au = true then (laws_FnExactParseBoard.j1 kj4 Al (bt259.2.2.2 != Af) A8 A9 Aj) else (laws_FnExactParseBoard.j1 kj4 Al true A8 A9 Aj)))) else (some false))) = some true := H
     have CB := Z.m Bl
     clear Bl
     by_cases c28 : At < 0
     ·(rw [if_pos c28] at H; exact absurd H (by decide))
     ·rw [if_neg c28] at H
      have Bu := decide_eq_false c28
      clear c28
      by_cases c34 : At = Al
      ·rw [if_pos c34] at H
       have Bx := beq_iff_eq.mpr c34
       have By := bne_eq_false_iff_eq.mpr c34
       clear c34
       replace H := Option.bind_eq_some_iff.mp H
       obtain ⟨⟨AG, AH, As, AK⟩, Bm, H⟩ := H
       replace H : ((laws_eqBoard.f kj4 AG AH As Ac Ad Aa).bind fun Au => (if Au = true then (laws_FnExactParseBoard.j1 kj4 Al (AK != Af) A8 A9 Aj) else (laws_FnExactParseBoard.j1 kj4 Al true A8 A9 Aj))) = some true := H
       have CC := Z.m Bm
       clear Bm
       have Bb := Z.m H
       clear H
       have Cf := Ah.o
       have Cq := Ae.o
       have AO := bc0 A1
       have AP := bc1 A1
       have AQ := bc2 A1
       have B0 := qz A1.o 0
       have B1 := qz A1.o 1
       have B2 := qz A1.o 2
       go_upto_region 16 with (first | ((with_reducible refine gc (f := 8) rfl ?_); refine gA (some 35) _ #[.agg #[.int .i64 A8, .int .i64 A9, .slice Ak Ab.length Ai], .int .i64 1] ?_ Tryd.func8; (with_reducible refine (laws_markBoard.calls kj4 A8 A9 (fun k_ => some k_ = (.slice Ak Ab.length Ai : Value).ownBlock) (.slice Ak Ab.length Ai) Ab 1 Al Aj w _ ?side1 ?side2 CA.o).mono ?_); (case side1 => repeat (first | (with_reducible first | exact HB.o | apply qa | apply qn | apply qd | refine qx ?_ Bp.o | refine qx ?_ Bq.o) | exact HB.o)); (case side2 => exact Kd.Rg rfl A0.o); rintro e CP ⟨rfl, Cy, hb, hkp⟩; refine ⟨_, rfl, ?_⟩; replace A5 := Z.m (Kd.Rm (ok' := fun k_ => some k_ ≠ (.slice Ak Ab.length Ai : Value).ownBlock) (Kd.Rk (A5.o) hkp (fun k_ hk_ hs_ => (hk_) hs_)) (fun k_ hk_ => hk_.1)); replace A2 := Z.m (qk (vK A2) hkp (fun hs_ => (fun e_ => (Kd.R_ne A0.o A2.o (by decide)) e_) hs_)); replace A1 := Z.m (qk (vK A1) hkp (fun hs_ => (fun e_ => (Kd.R_ne A0.o A1.o (by decide)) e_) hs_)); replace A0 := Z.m (Kd.Re rfl Cy (fun k_ e_ => A0.o.1 k_ e_)); replace HB := Z.m (hb); (try clear hb); (try clear hkp); (try clear Cy); have AR := bc0 A1; have AS := bc1 A1; have AT := bc2 A1; have B3 := qz A1.o 0; have B4 := qz A1.o 1; have B5 := qz A1.o 2) | ((with_reducible refine gc (f := 9) rfl ?_); refine goesL_ (some 38) rfl rfl Tryd.func9 (by kernel_rfl) rfl #[.agg #[.int .i64 A8, .int .i64 A9, .slice Ak Aj.length Ai], .int .i64 1] rfl (by (try simp only [List.map_toArray, List.map_cons, List.map_nil]); first | done | (rw [show Aj.length = Ab.length from (Kd.RrZ A0.o).1.symm] <;> rfl) | rfl | (simp only [List.length_drop, List.length_take]; rfl)) ?_; (with_reducible refine (laws_heldBoard.calls kj4 A8 A9 _ _ Aj 1 At _ ?side1 ?side2 CB.o).mono ?_); (case side1 => repeat (first | exact (Kd.RrZ A0.o).2.2 | (with_reducible refine Kd.C_alloc ?_ _) | (with_reducible refine Kd.C_drewN ?_ _) | (with_reducible refine Kd.C_drew ?_))); (case side2 => rw [show Aj.length = Ab.length from (Kd.RrZ A0.o).1.symm]; exact (Kd.RrZ A0.o).2.1); rintro e CQ ⟨rfl, hb⟩; refine ⟨_, rfl, ?_⟩; replace A5 := Z.m (Kd.Rb (vR A5) hb); replace A0 := Z.m (Kd.Rb (vR A0) hb); replace A2 := kB A2 hb; replace A1 := kB A1 hb; replace HB := bB HB hb; (try clear hb); (try clear Bi); (try clear hk); (try clear hi)) | ((with_reducible refine gc (f := 6) rfl ?_); refine gA (some 46) _ #[.string a0] ?_ Tryd.func6; (with_reducible refine (impl_ParseBoard.calls kj4 a0 AG AH As AK _ CC.o (pw_cell_below (vB HB) hm1_)).mono ?_); rintro e CR ⟨CL, rfl, AI, hb⟩; refine ⟨_, rfl, ?_⟩; have Ar := Z.m (Kd.R_lower (Kd.R_new' (Kd.R_new' AI (Kd.R_lt (vR A5))) (Kd.R_lt (vR A0))) (below_size (vB HB))); replace A5 := Z.m (Kd.R_elder' (vR A5) (Kd.R_base AI) hb); replace A0 := Z.m (Kd.R_elder' (vR A0) (Kd.R_base AI) hb); replace A2 := kB A2 hb; replace A1 := kB A1 hb; replace HB := bB HB hb; (try clear hb); (try clear Bi); (try clear hk); (try clear hi); (try clear AI)) | ((with_reducible refine gq (N := 9) rfl ?_); refine be (N := 9) (cs := #[.int .i64 0, .int .i64 0, .slice none 0 0]) (t := 24) ?_; intro Ba hg CS hbox hb; have A7 := Z.m (hbox); have Bt := gW (w := w) HB hg; have C9 := Bt; have Ao := neL A2 hg; have Av := neG A2 hg; have Am := neL A1 hg; have Ap := neG A1 hg; replace A5 := Z.m (Kd.Rb (vR A5) hb); replace A0 := Z.m (Kd.Rb (vR A0) hb); replace Ar := Z.m (Kd.Rb (vR Ar) hb); replace A2 := kB A2 hb; replace A1 := kB A1 hb; replace HB := bB HB hb; clear hb hbox hg; have Cg := Av.o; have Cr := Ao.o; have Ch := Ap.o; have Cs := Am.o; have AU := bc0 A7; have AV := bc1 A7; have AW := bc2 A7; have B7 := qz A7.o 0; have B8 := qz A7.o 1; have B9 := qz A7.o 2; obtain ⟨AC, Ax, C6⟩ := Kd.R_slice Ar.o; subst C6))
       (try simp only [Act.put, q1, q2, q3])
       go_cut [57] (fun v57 wc => ∃ (kq : Nat) (Aw : Bool), v57 = .bool Aw ∧ Z (laws_FnExactParseBoard.j1 kq Al Aw A8 A9 Aj = some true) ∧ Z (kq ≤ kj4) ∧ Z (Kd.R k62 62 wc w.heap.size (fun k_ => some k_ ≠ ((.slice Ak Ab.length Ai) : Value).ownBlock ∧ some k_ ≠ ((.slice AC As.length Ax) : Value).ownBlock) (.slice AD Aa.length AB) Aa) ∧ Z (Kd.R k62 62 wc w.heap.size (fun k_ => some k_ ≠ ((.slice AD Aa.length AB) : Value).ownBlock ∧ some k_ ≠ ((.slice AC As.length Ax) : Value).ownBlock) (.slice Ak Ab.length Ai) Aj) ∧ Z (Kd.R k62 62 wc w.heap.size (fun k_ => some k_ ≠ ((.slice AD Aa.length AB) : Value).ownBlock ∧ some k_ ≠ ((.slice Ak Ab.length Ai) : Value).ownBlock) (.slice AC As.length Ax) As) ∧ Z (wc.heap[Ay]? = some (.cells #[.int .i64 Ac, .int .i64 Ad, (.slice AD Aa.length AB)] 24 (0, 0))) ∧ Z (wc.heap[AE]? = some (.cells #[.int .i64 A8, .int .i64 A9, (.slice Ak Ab.length Ai)] 24 (0, 0))) ∧ Z (wc.heap[Ba]? = some (.cells #[.int .i64 AG, .int .i64 AH, (.slice AC As.length Ax)] 24 (0, 0))) ∧ Z (Below w.heap.size w wc))
       case first =>
        have H := Bb.o
        clear Bb
        replace H := Option.bind_eq_some_iff.mp H
        obtain ⟨Au, Bn, H⟩ := H
        replace H : (if Au = true then (laws_FnExactParseBoard.j1 kj4 Al (AK != Af) A8 A9 Aj) else (laws_FnExactParseBoard.j1 kj4 Al true A8 A9 Aj)) = some true := H
        have CD := Z.m Bn
        clear Bn
        by_cases c49 : Au = true
        ·subst c49
         have H1 : (laws_FnExactParseBoard.j1 kj4 Al (AK != Af) A8 A9 Aj) = some true := by rw [if_pos rfl] at H; exact H
         clear H
         have H := H1
         clear H1
         have H' := Z.m H
         clear H
         have Ci := Av.o
         have Ct := Ao.o
         have Cj := Ap.o
         have Cu := Am.o
         have BG := bc0 A7
         have BH := bc1 A7
         have BI := bc2 A7
         have BV := qz A7.o 0
         have BW := qz A7.o 1
         have BX := qz A7.o 2
         have Cl := Ae.o
         have Cv := Ah.o
         have BJ := bc0 A2
         have BK := bc1 A2
         have BL := bc2 A2
         have BY := qz A2.o 0
         have BZ := qz A2.o 1
         have C0 := qz A2.o 2
         go_wp2_with (first | ((with_reducible refine gc (f := 7) rfl ?_); refine gA (some 51) _ #[.agg #[.int .i64 AG, .int .i64 AH, .slice AC As.length Ax], .agg #[.int .i64 Ac, .int .i64 Ad, .slice AD Aa.length AB]] ?_ Tryd.func7; (with_reducible refine (laws_eqBoard.calls kj4 AG AH _ _ As Ac Ad _ _ Aa true _ ?side1 ?side2 ?side3 ?side4 CD.o).mono ?_); (case side1 => refine (Kd.RrZ (e := 62) (base := w.heap.size) (ok := fun k_ => ((True ∧ some k_ ≠ (.slice AD Aa.length AB : Value).ownBlock) ∧ some k_ ≠ (.slice Ak Ab.length Ai : Value).ownBlock)) (n := As.length) (c := Ax) ?_).2.2; exact (by refine rK ?_; exact (Kd.Rm (rf (rf (rf (Kd.Ry Ar.o A7.o (by decide))))) (fun _ h_ => h_.1)))); (case side2 => exact (Kd.RrZ Ar.o).2.1); (case side3 => refine (Kd.RrZ (e := 62) (base := w.heap.size) (ok := fun k_ => (some k_ ≠ (.slice Ak Ab.length Ai : Value).ownBlock ∧ some k_ ≠ (.slice AC As.length Ax : Value).ownBlock)) (n := Aa.length) (c := AB) ?_).2.2; exact (by refine rK ?_; exact (Kd.Rm (rf (rf (rf (Kd.Ry A5.o A7.o (by decide))))) (fun _ h_ => h_.1)))); (case side4 => exact (Kd.RrZ A5.o).2.1); rintro e CT ⟨rfl, hb⟩; refine ⟨_, rfl, ?_⟩; replace A5 := Z.m (Kd.Rb (by refine rK ?_; exact (Kd.Rm (rf (rf (rf (Kd.Ry A5.o A7.o (by decide))))) (fun _ h_ => h_.1))) hb); replace A0 := Z.m (Kd.Rb (by refine rK ?_; exact (Kd.Rm (rf (rf (rf (Kd.Ry A0.o A7.o (by decide))))) (fun _ h_ => h_.1))) hb); replace Ar := Z.m (Kd.Rb (by refine rK ?_; exact (Kd.Rm (rf (rf (rf (Kd.Ry Ar.o A7.o (by decide))))) (fun _ h_ => h_.1))) hb); replace A2 := Z.m (qb (g := Ay) (o := .cells #[.int .i64 Ac, .int .i64 Ad, .slice AD Aa.length AB] 24 (0, 0)) (by refine bK ?_; (iterate 3 refine qF ?_ Ao); exact A2.o) hb); replace A1 := Z.m (qb (g := AE) (o := .cells #[.int .i64 A8, .int .i64 A9, .slice Ak Ab.length Ai] 24 (0, 0)) (by refine bK ?_; (iterate 3 refine qF ?_ Am); exact A1.o) hb); replace A7 := Z.m (qb (g := Ba) (o := .cells #[.int .i64 AG, .int .i64 AH, .slice AC As.length Ax] 24 (0, 0)) (by refine bK ?_; apply st3; refine bK ?_; exact A7.o) hb); replace HB := bB HB hb; (try clear hb); (try clear Bi); (try clear hk); (try clear hi)))
         go_meet
         case rel => exact ⟨_, ((AK != Af)), (by first | rfl | (simp; done) | (simp [*]; done)), H', ⟨by have := CG.o; first | omega | exact Nat.le_refl _⟩, ⟨vR A5⟩, ⟨vR A0⟩, ⟨by refine rK ?_; exact Kd.Rm Ar.o (fun _ hk => ⟨hk.1.2, hk.2⟩)⟩, ⟨vK A2⟩, ⟨vK A1⟩, ⟨vK A7⟩, ⟨vB HB⟩⟩
        ·(rw [if_neg c49] at H; exact absurd H (laws_FnExactParseBoard.bad_j1 _ _ _ _ _))
       case rest =>
        clear Bb
        (try clear c25); (try clear Bu); (try clear Bx); (try clear By)
        (try clear AO); (try clear AP); (try clear AQ); (try clear AR); (try clear AS); (try clear AT); (try clear AU); (try clear AV)
        (try clear AW); (try clear B0); (try clear B1); (try clear B2); (try clear B3); (try clear B4); (try clear B5); (try clear B7)
        (try clear B8); (try clear B9)
        obtain ⟨kq, Aw, rfl, HA, CF, A5, A0, An, A2, A1, A7, HB⟩ := hcut
        have A6 := (Kd.RrZ A0.o).1
        rw [A6] at A0
        (try simp only [A6])
        (try simp only [A6] at A2)
        (try simp only [A6] at A1)
        (try simp only [A6] at A7)
        (try simp only [A6] at A5)
        (try simp only [A6] at An)
        cases kq with
        | zero => exact absurd HA.o (by simp [laws_FnExactParseBoard.j1])
        | succ kj35 =>
         have H := HA.o
         clear HA
         simp only [laws_FnExactParseBoard.j1] at H
         by_cases c62 : Aw = true
         ·(rw [if_pos c62] at H; exact absurd H (by decide))
         ·replace c62 := Bool.eq_false_iff.mpr c62
          subst c62
          have H1 : ((laws_heldBoard.f kj35 A8 A9 Aj 1).bind fun AA => (if AA < 0 then (some false) else (if AA = Al then (some true) else (some false)))) = some true := by rw [if_neg (show ¬ (false = true) by decide)] at H; exact H
          clear H
          have H := H1
          clear H1
          replace H := Option.bind_eq_some_iff.mp H
          obtain ⟨AA, Bo, H⟩ := H
          replace H : (if AA < 0 then (some false) else (if AA = Al then (some true) else (some false))) = some true := H
          have CE := Z.m Bo
          clear Bo
          by_cases c64 : AA < 0
          ·(rw [if_pos c64] at H; exact absurd H (by decide))
          ·rw [if_neg c64] at H
           have Bz := decide_eq_false c64
           (try simp only [A6] at Bz)
           clear c64
           by_cases c69 : AA = Al
           ·rw [if_pos c69] at H
            have Ca := beq_iff_eq.mpr c69
            have Cb := bne_eq_false_iff_eq.mpr c69
            clear c69
            clear H
            have Cm := Ah.o
            have Cw := Ae.o
            have Cn := Am.o
            have Cx := Ap.o
            have BM := bc0 A1
            have BN := bc1 A1
            have BO := bc2 A1
            have C1 := qz A1.o 0
            have C2 := qz A1.o 1
            have C3 := qz A1.o 2
            go_wp2_with (first | ((with_reducible refine gc (f := 9) rfl ?_); refine gA (some 60) _ #[.agg #[.int .i64 A8, .int .i64 A9, .slice Ak Aj.length Ai], .int .i64 1] ?_ Tryd.func9; (with_reducible refine (laws_heldBoard.calls kj35 A8 A9 _ _ Aj 1 AA _ ?side1 ?side2 CE.o).mono ?_); (case side1 => repeat (first | exact (Kd.RrZ A0.o).2.2 | (with_reducible refine Kd.C_alloc ?_ _) | (with_reducible refine Kd.C_drewN ?_ _) | (with_reducible refine Kd.C_drew ?_))); (case side2 => exact (Kd.RrZ A0.o).2.1); rintro e CU ⟨rfl, hb⟩; refine ⟨_, rfl, ?_⟩; replace A5 := Z.m (Kd.Rb (vR A5) hb); replace A0 := Z.m (Kd.Rb (vR A0) hb); replace An := Z.m (Kd.Rb (vR An) hb); replace A2 := kB A2 hb; replace A1 := kB A1 hb; replace A7 := kB A7 hb; replace HB := bB HB hb; (try clear hb); (try clear Bi); (try clear hk); (try clear hi)))
            go_ret
            exact ⟨by first | rfl | (simp [eN, eS] <;> rfl) | (simp [*, eN, eS] <;> rfl), vB HB⟩
           ·(rw [if_neg c69] at H; exact absurd H (by decide))
      ·(rw [if_neg c34] at H; exact absurd H (by decide))
/-- THE ONE PURE STATEMENT of laws_FnExactParseBoard: yours. -/
def laws_FnExactParseBoard.Pure : Prop := ∀ (a0 : ByteArray), a0.size ≤ 140737488351232 → ∃ k, laws_FnExactParseBoard.f k a0 = some true
theorem laws_FnExactParseBoard.walk (P : laws_FnExactParseBoard.Pure) (a0 : ByteArray) (w : World) {m1_ : Int} (hm1_ : w.cell? ⟨1, 0, none⟩ = some (.int .i64 m1_)) (w0 : a0.size ≤ 140737488351232) :
 Calls Tryd.prog 3 #[.string a0] w fun e w' => e = .returned (.bool true) ∧ Below w.heap.size w w' := by
 obtain ⟨k, h⟩ := P a0 w0
 refine (laws_FnExactParseBoard.calls k a0 w h hm1_).mono ?_
 rintro e w' ⟨rfl, hd⟩
 exact ⟨rfl, hd⟩

end Go.Proofs.YtklmdnlambinaaaDoor.PAll
