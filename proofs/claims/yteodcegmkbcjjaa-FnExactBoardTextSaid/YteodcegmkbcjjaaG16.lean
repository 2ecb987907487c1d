/- Began as a text that print.sh wrote (of the functions named below); turned and shortened by this session. -/
import Derived.Test.YteodcegmkbcjjaaG0
import Derived.Test.YteodcegmkbcjjaaG1
import Derived.Test.YteodcegmkbcjjaaG15
namespace Go.Proofs.Yteodcegmkbcjjaa.PAll
open Go.RowKit Go.Proofs.YteodcegmkbcjjaaW.PrintWords Go.Proofs.YteodcegmkbcjjaaW.PrintLast Go.Proofs.YteodcegmkbcjjaaW.PrintMore
attribute [local go_sem] max2_int min2_int max_two min_two max_three min_three max_four min_four   -- for this text's walks alone
set_option linter.unusedVariables false
set_option linter.unusedSimpArgs false

/-! ### laws_FnExactBoardText: function 7 -/
def laws_FnExactBoardText.j0 : Nat → Bool → Int → Int → List (S46) → Int → Int → List (S34) → Option (Bool)
 | 0, _, _, _, _, _, _, _ => none
 | k + 1, x34, x504000, x504001, x504002, x518000, x518001, x518002 => if x34 = true then (some false) else ((laws_toBoard.f k x504000 x504001 x504002).bind fun bt520 => ((laws_eqBoard.f k x518000 x518001 x518002 bt520.1 bt520.2.1 bt520.2.2).bind fun t525 => (if t525 = true then (some true) else (some false))))
def laws_FnExactBoardText.f (k : Nat) (a0_0 : Int) (a0_1 : Int) (l0_2 : List (S46)) : Option (Bool) := (laws_szBoard.f a0_0 a0_1 l0_2 1048576).bind fun t504 => (if t504 < 0 then (some true) else ((laws_toBoard.f k a0_0 a0_1 l0_2).bind fun bt505 => ((spec_BoardText.f k bt505.1 bt505.2.1 bt505.2.2).bind fun bt510 => ((laws_toBoard.f k a0_0 a0_1 l0_2).bind fun bt512 => ((impl_BoardText.f k bt512.1 bt512.2.1 bt512.2.2).bind fun bt518 => (if bt518.1.toList = bt510.1.toList then (laws_FnExactBoardText.j0 k (bt518.2 != bt510.2) a0_0 a0_1 l0_2 bt512.1 bt512.2.1 bt512.2.2) else (laws_FnExactBoardText.j0 k true a0_0 a0_1 l0_2 bt512.1 bt512.2.1 bt512.2.2)))))))
theorem laws_FnExactBoardText.bad_j0 (k : Nat) (y1 : Int) (y2 : Int) (y3 : List (S46)) (y4 : Int) (y5 : Int) (y6 : List (S34)) : ¬ laws_FnExactBoardText.j0 k true y1 y2 y3 y4 y5 y6 = some true := by
 cases k <;> simp [laws_FnExactBoardText.j0]
set_option maxHeartbeats 8000000 in
set_option maxRecDepth 100000 in
theorem laws_FnExactBoardText.calls (k : Nat) (a0_0 : Int) (a0_1 : Int) (A0_2 : Option Addr) (c0_2 : Nat) (l0_2 : List (S46)) (w : World) (hr0_2 : Kd.C k46 w A0_2 l0_2.length l0_2) (hc0_2 : l0_2.length ≤ c0_2) (h : laws_FnExactBoardText.f k a0_0 a0_1 l0_2 = some true) :
 Calls Try.prog 7 #[.agg #[.int .i64 a0_0, .int .i64 a0_1, .slice A0_2 l0_2.length c0_2]] w fun e w' => e = .returned (.bool true) ∧ Below w.heap.size w w' := by
 have BD := Try.underlying24
 have BE := Try.underlying29
 have Ah := Z.m hr0_2
 have Af := Z.m hc0_2
 clear hr0_2 hc0_2
 have HB := Z.m (Below.refl w.heap.size w)
 have H : ((laws_szBoard.f a0_0 a0_1 l0_2 1048576).bind fun Am => (if Am < 0 then (some true) else ((laws_toBoard.f k a0_0 a0_1 l0_2).bind fun bt505 => ((spec_BoardText.f k bt505.1 bt505.2.1 bt505.2.2).bind fun bt510 => ((laws_toBoard.f k a0_0 a0_1 l0_2).bind fun bt512 => ((impl_BoardText.f k bt512.1 bt512.2.1 bt512.2.2).bind fun bt518 => (if bt518.1.toList = bt510.1.toList then (laws_FnExactBoardText.j0 k (bt518.2 != bt510.2) a0_0 a0_1 l0_2 bt512.1 bt512.2.1 bt512.2.2) else (laws_FnExactBoardText.j0 k true a0_0 a0_1 l0_2 bt512.1 bt512.2.1 bt512.2.2)))))))) = some true := h
 clear h
 replace H := Option.bind_eq_some_iff.mp H
 obtain ⟨Am, Br, H⟩ := H
 replace H : (if Am < 0 then (some true) else ((laws_toBoard.f k a0_0 a0_1 l0_2).bind fun bt505 => ((spec_BoardText.f k bt505.1 bt505.2.1 bt505.2.2).bind fun bt510 => ((laws_toBoard.f k a0_0 a0_1 l0_2).bind fun bt512 => ((impl_BoardText.f k bt512.1 bt512.2.1 bt512.2.2).bind fun bt518 => (if bt518.1.toList = bt510.1.toList then (laws_FnExactBoardText.j0 k (bt518.2 != bt510.2) a0_0 a0_1 l0_2 bt512.1 bt512.2.1 bt512.2.2) else (laws_FnExactBoardText.j0 k true a0_0 a0_1 l0_2 bt512.1 bt512.2.1 bt512.2.2))))))) = some true := H
 have A2 := Z.m Br
 clear Br
 by_cases c3 : Am < 0
 ·rw [if_pos c3] at H
  have Bd := decide_eq_true c3
  clear c3
  clear H
  go_enter Try.func7, Try.ntmps7
  go_wp2_with (first | ((with_reducible refine gq (N := 1) rfl ?_); refine be (N := 1) (cs := #[.int .i64 a0_0, .int .i64 a0_1, .slice A0_2 l0_2.length c0_2]) (t := 24) ?_; intro Ad hg w4 hbox hb; have A0 := Z.m (hbox); have Ao := gW (w := w) HB hg; have Bb := Ao; replace HB := bB HB hb; clear hb hbox hg; have Bl := bc0 A0; have Bm := bc1 A0; have Bn := bc2 A0; have Bo := qz A0.o 0; have Bp := qz A0.o 1; have Bq := qz A0.o 2) | ((with_reducible refine gc (f := 15) rfl ?_); refine gA (some 11) _ #[.agg #[.int .i64 a0_0, .int .i64 a0_1, .slice A0_2 l0_2.length c0_2], .int .i64 1048576] ?_ Try.func15; (with_reducible refine (laws_szBoard.calls a0_0 a0_1 _ _ l0_2 1048576 Am _ ?side1 ?side2 A2.o).mono ?_); (case side1 => repeat (first | exact (Kd.C_below Ah.o HB.o) | (with_reducible refine Kd.C_alloc ?_ _) | (with_reducible refine Kd.C_drewN ?_ _) | (with_reducible refine Kd.C_drew ?_))); (case side2 => exact Af.o); rintro e w6 ⟨rfl, hb⟩; refine ⟨_, rfl, ?_⟩; replace A0 := kB A0 hb; replace HB := bB HB hb; (try clear hb); (try clear Bg); (try clear hk); (try clear hi)))
  go_ret
  exact ⟨by first | rfl | (simp [eN, eS] <;> rfl) | (simp [*, eN, eS] <;> rfl), vB HB⟩
 ·rw [if_neg c3] at H
  have Bd := decide_eq_false c3
  clear c3
  replace H := Option.bind_eq_some_iff.mp H
  obtain ⟨⟨AR, AS, Ap⟩, Bs, H⟩ := H
  replace H : ((spec_BoardText.f k AR AS Ap).bind fun bt510 => ((laws_toBoard.f k a0_0 a0_1 l0_2).bind fun bt512 => ((impl_BoardText.f k bt512.1 bt512.2.1 bt512.2.2).bind fun bt518 => (if bt518.1.toList = bt510.1.toList then (laws_FnExactBoardText.j0 k (bt518.2 != bt510.2) a0_0 a0_1 l0_2 bt512.1 bt512.2.1 bt512.2.2) else (laws_FnExactBoardText.j0 k true a0_0 a0_1 l0_2 bt512.1 bt512.2.1 bt512.2.2))))) = some true := H
  have A7 := Z.m Bs
  clear Bs
  replace H := Option.bind_eq_some_iff.mp H
  obtain ⟨⟨Aq, Ar⟩, Bt, H⟩ := H
  replace H : ((laws_toBoard.f k a0_0 a0_1 l0_2).bind fun bt512 => ((impl_BoardText.f k bt512.1 bt512.2.1 bt512.2.2).bind fun bt518 => (if bt518.1.toList = Aq.toList then (laws_FnExactBoardText.j0 k (bt518.2 != Ar) a0_0 a0_1 l0_2 bt512.1 bt512.2.1 bt512.2.2) else (laws_FnExactBoardText.j0 k true a0_0 a0_1 l0_2 bt512.1 bt512.2.1 bt512.2.2)))) = some true := H
  have A8 := Z.m Bt
  clear Bt
  replace H := Option.bind_eq_some_iff.mp H
  obtain ⟨⟨A6, Aa, A4⟩, Bu, H⟩ := H
  replace H : ((impl_BoardText.f k A6 Aa A4).bind fun bt518 => (if bt518.1.toList = Aq.toList then (laws_FnExactBoardText.j0 k (bt518.2 != Ar) a0_0 a0_1 l0_2 A6 Aa A4) else (laws_FnExactBoardText.j0 k true a0_0 a0_1 l0_2 A6 Aa A4))) = some true := H
  have A9 := Z.m Bu
  clear Bu
  replace H := Option.bind_eq_some_iff.mp H
  obtain ⟨⟨AY, AZ⟩, B0, H⟩ := H
  replace H : (if AY.toList = Aq.toList then (laws_FnExactBoardText.j0 k (AZ != Ar) a0_0 a0_1 l0_2 A6 Aa A4) else (laws_FnExactBoardText.j0 k true a0_0 a0_1 l0_2 A6 Aa A4)) = some true := H
  have Bz := Z.m B0
  clear B0
  have AX := Z.m H
  clear H
  go_enter Try.func7, Try.ntmps7
  go_upto_region 8 with (first | ((with_reducible refine gq (N := 1) rfl ?_); refine be (N := 1) (cs := #[.int .i64 a0_0, .int .i64 a0_1, .slice A0_2 l0_2.length c0_2]) (t := 24) ?_; intro Ad hg BI hbox hb; have A0 := Z.m (hbox); have Ao := gW (w := w) HB hg; have Bb := Ao; replace HB := bB HB hb; clear hb hbox hg; have At := bc0 A0; have Au := bc1 A0; have Av := bc2 A0; have AF := qz A0.o 0; have AG := qz A0.o 1; have AH := qz A0.o 2) | ((with_reducible refine gc (f := 15) rfl ?_); refine gA (some 11) _ #[.agg #[.int .i64 a0_0, .int .i64 a0_1, .slice A0_2 l0_2.length c0_2], .int .i64 1048576] ?_ Try.func15; (with_reducible refine (laws_szBoard.calls a0_0 a0_1 _ _ l0_2 1048576 Am _ ?side1 ?side2 A2.o).mono ?_); (case side1 => repeat (first | exact (Kd.C_below Ah.o HB.o) | (with_reducible refine Kd.C_alloc ?_ _) | (with_reducible refine Kd.C_drewN ?_ _) | (with_reducible refine Kd.C_drew ?_))); (case side2 => exact Af.o); rintro e BJ ⟨rfl, hb⟩; refine ⟨_, rfl, ?_⟩; replace A0 := kB A0 hb; replace HB := bB HB hb; (try clear hb); (try clear Bg); (try clear hk); (try clear hi); have Aw := bc0 A0; have Ax := bc1 A0; have Ay := bc2 A0; have AI := qz A0.o 0; have AJ := qz A0.o 1; have AK := qz A0.o 2) | ((with_reducible refine gc (f := 17) rfl ?_); refine gA (some 16) _ #[.agg #[.int .i64 a0_0, .int .i64 a0_1, .slice A0_2 l0_2.length c0_2]] ?_ Try.func17; (with_reducible refine (laws_toBoard.calls k a0_0 a0_1 _ _ l0_2 AR AS Ap _ ?side1 ?side2 A7.o).mono ?_); (case side1 => repeat (first | exact (Kd.C_below Ah.o HB.o) | (with_reducible refine Kd.C_alloc ?_ _) | (with_reducible refine Kd.C_drewN ?_ _) | (with_reducible refine Kd.C_drew ?_))); (case side2 => exact Af.o); rintro e BK ⟨BF, rfl, As, hb⟩; refine ⟨_, rfl, ?_⟩; have A5 := Z.m (Kd.R_lower As (below_size (vB HB))); replace A0 := kB A0 hb; replace HB := bB HB hb; (try clear hb); (try clear Bg); (try clear hk); (try clear hi); (try clear As); obtain ⟨Ba, Be, Bj⟩ := Kd.R_slice A5.o; subst Bj) | ((with_reducible refine gc (f := 29) rfl ?_); refine gA (some 17) _ #[.agg #[.int .i64 AR, .int .i64 AS, .slice Ba Ap.length Be]] ?_ Try.func29; (with_reducible refine (spec_BoardText.calls k AR AS _ _ Ap Aq Ar _ ?side1 ?side2 A8.o).mono ?_); (case side1 => repeat (first | exact (Kd.RrZ A5.o).2.2 | (with_reducible refine Kd.C_alloc ?_ _) | (with_reducible refine Kd.C_drewN ?_ _) | (with_reducible refine Kd.C_drew ?_))); (case side2 => exact (Kd.RrZ A5.o).2.1); rintro e BL ⟨rfl, hb⟩; refine ⟨_, rfl, ?_⟩; replace A5 := Z.m (Kd.Rb (vR A5) hb); replace A0 := kB A0 hb; replace HB := bB HB hb; (try clear hb); (try clear Bg); (try clear hk); (try clear hi); have Az := bc0 A0; have AA := bc1 A0; have AB := bc2 A0; have AL := qz A0.o 0; have AM := qz A0.o 1; have AN := qz A0.o 2) | ((with_reducible refine gc (f := 17) rfl ?_); refine gA (some 21) _ #[.agg #[.int .i64 a0_0, .int .i64 a0_1, .slice A0_2 l0_2.length c0_2]] ?_ Try.func17; (with_reducible refine (laws_toBoard.calls k a0_0 a0_1 _ _ l0_2 A6 Aa A4 _ ?side1 ?side2 A9.o).mono ?_); (case side1 => repeat (first | exact (Kd.C_below Ah.o HB.o) | (with_reducible refine Kd.C_alloc ?_ _) | (with_reducible refine Kd.C_drewN ?_ _) | (with_reducible refine Kd.C_drew ?_))); (case side2 => exact Af.o); rintro e BM ⟨BG, rfl, As, hb⟩; refine ⟨_, rfl, ?_⟩; have Ab := Z.m (Kd.R_lower (Kd.R_new' As (Kd.R_lt (vR A5))) (below_size (vB HB))); replace A5 := Z.m (Kd.R_elder' (vR A5) (Kd.R_base As) hb); replace A0 := kB A0 hb; replace HB := bB HB hb; (try clear hb); (try clear Bg); (try clear hk); (try clear hi); (try clear As)) | ((with_reducible refine gq (N := 6) rfl ?_); refine be (N := 6) (cs := #[.int .i64 0, .int .i64 0, .slice none 0 0]) (t := 29) ?_; intro Ai hg BN hbox hb; have A1 := Z.m (hbox); have Bc := gW (w := w) HB hg; have Bv := Bc; have Ac := neL A0 hg; have Al := neG A0 hg; replace A5 := Z.m (Kd.Rb (vR A5) hb); replace Ab := Z.m (Kd.Rb (vR Ab) hb); replace A0 := kB A0 hb; replace HB := bB HB hb; clear hb hbox hg; have Bx := Al.o; have By := Ac.o; have AC := bc0 A1; have AD := bc1 A1; have AE := bc2 A1; have AO := qz A1.o 0; have AP := qz A1.o 1; have AQ := qz A1.o 2; obtain ⟨Ak, Aj, Bk⟩ := Kd.R_slice Ab.o; subst Bk) | ((with_reducible refine gc (f := 30) rfl ?_); refine gA (some 24) _ #[.agg #[.int .i64 A6, .int .i64 Aa, .slice Ak A4.length Aj]] ?_ Try.func30; (with_reducible refine (impl_BoardText.calls k A6 Aa _ _ A4 AY AZ _ ?side1 ?side2 Bz.o).mono ?_); (case side1 => refine (Kd.RrZ (e := 34) (base := w.heap.size) (ok := fun k_ => (True ∧ some k_ ≠ (.slice Ba Ap.length Be : Value).ownBlock)) (n := A4.length) (c := Aj) ?_).2.2; exact (by refine rK ?_; exact (Kd.Rm (rf (rf (rf (Kd.Ry Ab.o A1.o (by decide))))) (fun _ h_ => h_.1)))); (case side2 => exact (Kd.RrZ Ab.o).2.1); rintro e BO ⟨rfl, hb⟩; refine ⟨_, rfl, ?_⟩; replace A5 := Z.m (Kd.Rb (by refine rK ?_; exact (Kd.Rm (rf (rf (rf (Kd.Ry A5.o A1.o (by decide))))) (fun _ h_ => h_.1))) hb); replace Ab := Z.m (Kd.Rb (by refine rK ?_; exact (Kd.Rm (rf (rf (rf (Kd.Ry Ab.o A1.o (by decide))))) (fun _ h_ => h_.1))) hb); replace A0 := Z.m (qb (g := Ad) (o := .cells #[.int .i64 a0_0, .int .i64 a0_1, .slice A0_2 l0_2.length c0_2] 24 (0, 0)) (by refine bK ?_; (iterate 3 refine qF ?_ Ac); exact A0.o) hb); replace A1 := Z.m (qb (g := Ai) (o := .cells #[.int .i64 A6, .int .i64 Aa, .slice Ak A4.length Aj] 29 (0, 0)) (by refine bK ?_; apply st3; refine bK ?_; exact A1.o) hb); replace HB := bB HB hb; (try clear hb); (try clear Bg); (try clear hk); (try clear hi)))
  (try simp only [Act.put, q1, q2, q3])
  go_cut [34] (fun v34 wc => ∃ (kq : Nat) (Ae : Bool), v34 = .bool Ae ∧ Z (laws_FnExactBoardText.j0 kq Ae a0_0 a0_1 l0_2 A6 Aa A4 = some true) ∧ Z (kq ≤ k) ∧ Z (Kd.R k34 34 wc w.heap.size (fun _ => True) (.slice Ak A4.length Aj) A4) ∧ Z (wc.heap[Ad]? = some (.cells #[.int .i64 a0_0, .int .i64 a0_1, (.slice A0_2 l0_2.length c0_2)] 24 (0, 0))) ∧ Z (wc.heap[Ai]? = some (.cells #[.int .i64 A6, .int .i64 Aa, (.slice Ak A4.length Aj)] 29 (0, 0))) ∧ Z (Below w.heap.size w wc))
  case first =>
   have H := AX.o
   clear AX
   by_cases c26 : AY.toList = Aq.toList
   ·rw [if_pos c26] at H
    have AW := beq_iff_eq.mpr c26
    have Bw := bne_eq_false_iff_eq.mpr c26
    clear c26
    (first | rw [AW] | (simp only [i64_w, i32_w]; rw [AW]) | skip)
    have H' := Z.m H
    clear H
    go_wp2
    go_meet
    case rel => exact ⟨_, ((AZ != Ar)), (by first | rfl | (simp; done) | (simp [*]; done)), H', ⟨by first | omega | exact Nat.le_refl _⟩, ⟨by refine rK ?_; exact Kd.Rm Ab.o (fun _ hk => trivial)⟩, ⟨vK A0⟩, ⟨vK A1⟩, ⟨vB HB⟩⟩
   ·(rw [if_neg c26] at H; exact absurd H (laws_FnExactBoardText.bad_j0 _ _ _ _ _ _ _))
  case rest =>
   clear AX
   (try clear Bd)
   (try clear At); (try clear Au); (try clear Av); (try clear Aw); (try clear Ax); (try clear Ay); (try clear Az); (try clear AA)
   (try clear AB); (try clear AC); (try clear AD); (try clear AE); (try clear AF); (try clear AG); (try clear AH); (try clear AI)
   (try clear AJ); (try clear AK); (try clear AL); (try clear AM); (try clear AN); (try clear AO); (try clear AP); (try clear AQ)
   obtain ⟨kq, Ae, rfl, HA, BC, A3, A0, A1, HB⟩ := hcut
   cases kq with
   | zero => exact absurd HA.o (by simp [laws_FnExactBoardText.j0])
   | succ kj10 =>
    have H := HA.o
    clear HA
    simp only [laws_FnExactBoardText.j0] at H
    by_cases c27 : Ae = true
    ·(rw [if_pos c27] at H; exact absurd H (by decide))
    ·replace c27 := Bool.eq_false_iff.mpr c27
     subst c27
     have H1 : ((laws_toBoard.f kj10 a0_0 a0_1 l0_2).bind fun bt520 => ((laws_eqBoard.f kj10 A6 Aa A4 bt520.1 bt520.2.1 bt520.2.2).bind fun An => (if An = true then (some true) else (some false)))) = some true := by rw [if_neg (show ¬ (false = true) by decide)] at H; exact H
     clear H
     have H := H1
     clear H1
     replace H := Option.bind_eq_some_iff.mp H
     obtain ⟨⟨AT, AU, AV⟩, B2, H⟩ := H
     replace H : ((laws_eqBoard.f kj10 A6 Aa A4 AT AU AV).bind fun An => (if An = true then (some true) else (some false))) = some true := H
     have BA := Z.m B2
     clear B2
     replace H := Option.bind_eq_some_iff.mp H
     obtain ⟨An, B9, H⟩ := H
     replace H : (if An = true then (some true) else (some false)) = some true := H
     have BB := Z.m B9
     clear B9
     by_cases c30 : An = true
     ·subst c30
      have H1 : (some true) = some true := rfl
      clear H
      have H := H1
      clear H1
      clear H
      try go_wp2
      replace A3 := Z.m (Kd.R_drew A3.o)
      replace A0 := Z.m (blk_drew A0.o)
      replace A1 := Z.m (blk_drew A1.o)
      replace HB := Z.m (qd HB.o)
      refine start_ (n := 5) (S := fun w' => w'.cell? ⟨Ai, 0, none⟩ = some (.int .i64 A6) ∧ w'.cell? ⟨Ai, 1, none⟩ = some (.int .i64 Aa) ∧ w'.cell? ⟨Ai, 2, none⟩ = some (.slice Ak A4.length Aj) ∧ w'.cell? ⟨Ad, 0, none⟩ = some (.int .i64 a0_0) ∧ w'.cell? ⟨Ad, 1, none⟩ = some (.int .i64 a0_1) ∧ w'.cell? ⟨Ad, 2, none⟩ = some (.slice A0_2 l0_2.length c0_2)) (ds := []) #[false, false, false, false, false] (by kernel_rfl) rfl rfl ⟨(ql A1.o 0).trans rfl, (ql A1.o 1).trans rfl, (ql A1.o 2).trans rfl, (ql A0.o 0).trans rfl, (ql A0.o 1).trans rfl, (ql A0.o 2).trans rfl⟩ (fun hHeld => ?_)
      generalize wc.drew = BP at A3 A0 A1 HB hHeld ⊢
      refine take_ (i := 0) (N := some 35) (v := ?_) (a' := ?_) #[true, false, false, false, false] rfl rfl (by kernel_rfl) (fun _ _ _ h => h) (Or.inl ⟨by rfl, ?_⟩) hHeld ?_ ?_
      rotate_left
      ·rintro w' ⟨s0, s1, s2, s3, s4, s5⟩
       go_simp
       with_reducible rfl
      rotate_left
      ·simp only [Act.put, q1, q2, q3, i64_w, i32_w]
       rfl
      refine take_ (i := 1) (N := some 36) (v := ?_) (a' := ?_) #[true, true, false, false, false] rfl rfl (by kernel_rfl) (fun _ _ _ h => h) (Or.inl ⟨by rfl, ?_⟩) hHeld ?_ ?_
      rotate_left
      ·rintro w' ⟨s0, s1, s2, s3, s4, s5⟩
       go_simp
       with_reducible rfl
      rotate_left
      ·simp only [Act.put, q1, q2, q3, i64_w, i32_w]
       rfl
      refine one_ (i := 2) (N := some 37) #[true, true, true, false, false] rfl rfl (by kernel_rfl) (by decide) (fun K hK => ?_)
      refine goes_ Try.func17 (by kernel_rfl) rfl #[.agg #[.int .i64 a0_0, .int .i64 a0_1, .slice A0_2 l0_2.length c0_2]] (by rfl) rfl rfl (by (try simp only [List.map_toArray, List.map_cons, List.map_nil]); first | done | rfl | (simp only [List.length_drop, List.length_take]; rfl)) ?_
      with_reducible refine (laws_toBoard.calls kj10 a0_0 a0_1 _ _ l0_2 AT AU AV _ ?side1 ?side2 BA.o).mono ?_
      (case side1 => repeat (first | exact (Kd.C_below Ah.o HB.o) | (with_reducible refine Kd.C_alloc ?_ _) | (with_reducible refine Kd.C_drewN ?_ _) | (with_reducible refine Kd.C_drew ?_)))
      (case side2 => exact Af.o)
      rintro e BQ ⟨BH, rfl, As, hb⟩
      refine ⟨_, rfl, ?_⟩
      have Ag := Z.m (Kd.R_lower (Kd.R_new' As (Kd.R_lt (vR A3))) (below_size (vB HB)))
      replace A3 := Z.m (Kd.R_elder' (vR A3) (Kd.R_base As) hb)
      replace A0 := kB A0 hb
      replace A1 := kB A1 hb
      replace HB := bB HB hb
      (try clear hb); (try clear As)
      obtain ⟨Bh, Bi, Bf⟩ := Kd.R_slice Ag.o
      (first | subst Bf | (injection Bf with f1_ f2_ f3_; have f4_ := f1_.symm; have f5_ := f3_.symm; clear f1_ f2_ f3_; subst f4_; subst f5_))
      refine hK.out _ _ ⟨(ql A1.o 0).trans rfl, (ql A1.o 1).trans rfl, (ql A1.o 2).trans rfl, (ql A0.o 0).trans rfl, (ql A0.o 1).trans rfl, (ql A0.o 2).trans rfl⟩ (fun hHeld => ?_)
      clear hK K
      refine norm_ (a' := ?_) ?_ ?_
      rotate_left
      ·show Act.put _ (some 37) _ = _
       simp only [Act.put, q1, q2, q3, i64_w, i32_w]
       rfl
      refine one_ (i := 3) (N := some 38) #[true, true, true, true, false] rfl rfl (by kernel_rfl) (by decide) (fun K hK => ?_)
      refine goes_ Try.func19 (by kernel_rfl) rfl #[.agg #[.int .i64 A6, .int .i64 Aa, .slice Ak A4.length Aj], .agg #[.int .i64 AT, .int .i64 AU, .slice Bh AV.length Bi]] (by rfl) rfl rfl (by (try simp only [List.map_toArray, List.map_cons, List.map_nil]); first | done | rfl | (simp only [List.length_drop, List.length_take]; rfl)) ?_
      with_reducible refine (laws_eqBoard.calls kj10 A6 Aa _ _ A4 AT AU _ _ AV true _ ?side1 ?side2 ?side3 ?side4 BB.o).mono ?_
      (case side1 => repeat (first | exact (Kd.RrZ A3.o).2.2 | (with_reducible refine Kd.C_alloc ?_ _) | (with_reducible refine Kd.C_drewN ?_ _) | (with_reducible refine Kd.C_drew ?_)))
      (case side2 => exact (Kd.RrZ A3.o).2.1)
      (case side3 => repeat (first | exact (Kd.RrZ Ag.o).2.2 | (with_reducible refine Kd.C_alloc ?_ _) | (with_reducible refine Kd.C_drewN ?_ _) | (with_reducible refine Kd.C_drew ?_)))
      (case side4 => exact (Kd.RrZ Ag.o).2.1)
      rintro e BR ⟨rfl, hb⟩
      refine ⟨_, rfl, ?_⟩
      replace A3 := Z.m (Kd.Rb (vR A3) hb)
      replace Ag := Z.m (Kd.Rb (vR Ag) hb)
      replace A0 := kB A0 hb
      replace A1 := kB A1 hb
      replace HB := bB HB hb
      (try clear hb)
      refine hK.out _ _ ⟨(ql A1.o 0).trans rfl, (ql A1.o 1).trans rfl, (ql A1.o 2).trans rfl, (ql A0.o 0).trans rfl, (ql A0.o 1).trans rfl, (ql A0.o 2).trans rfl⟩ (fun hHeld => ?_)
      clear hK K
      refine norm_ (a' := ?_) ?_ ?_
      rotate_left
      ·show Act.put _ (some 38) _ = _
       simp only [Act.put, q1, q2, q3, i64_w, i32_w]
       rfl
      refine pure_ (i := 4) (N := some 39) (v := ?_) (a' := ?_) #[true, true, true, true, true] rfl rfl (by kernel_rfl) (fun _ _ _ h => h) (Or.inl ⟨by rfl, ?_⟩) ?_ ?_
      rotate_left
      ·intro w'
       go_simp
       with_reducible rfl
      rotate_left
      ·simp only [Act.put, q1, q2, q3, i64_w, i32_w]
       rfl
      refine done_ (by kernel_rfl) ?_
      try go_wp2
      go_ret
      exact ⟨by first | rfl | (simp [eN, eS] <;> rfl) | (simp [*, eN, eS] <;> rfl), vB HB⟩
     ·(rw [if_neg c30] at H; exact absurd H (by decide))

end Go.Proofs.Yteodcegmkbcjjaa.PAll
