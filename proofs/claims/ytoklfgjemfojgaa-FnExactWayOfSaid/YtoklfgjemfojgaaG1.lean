/- Began as a text that print.sh wrote (of the functions named below); turned and shortened by this session. -/
import Derived.Test.YtoklfgjemfojgaaG0
namespace Go.Proofs.Ytoklfgjemfojgaa.PAll
open Go.RowKit Go.Proofs.YtoklfgjemfojgaaW.PrintWords Go.Proofs.YtoklfgjemfojgaaW.PrintLast Go.Proofs.YtoklfgjemfojgaaW.PrintMore
attribute [local go_sem] max2_int min2_int max_two min_two max_three min_three max_four min_four   -- for this text's walks alone
set_option linter.unusedVariables false
set_option linter.unusedSimpArgs false

/-! ### laws_szCellS: function 49 -/
def laws_szCellS.f (l0 : List (S91)) (a1 : Int) : Option (Int) := if (wrap64 (a1 - (l0.length : Int))) < 0 then (some (-1)) else (some (wrap64 (a1 - (l0.length : Int))))
set_option maxHeartbeats 8000000 in
set_option maxRecDepth 100000 in
theorem laws_szCellS.calls (A0 : Option Addr) (c0 : Nat) (l0 : List (S91)) (a1 : Int) (r : Int) (w : World) (hr0 : Kd.C k91 w A0 l0.length l0) (hc0 : l0.length ≤ c0) (h : laws_szCellS.f l0 a1 = some r) :
 Calls Try.prog 49 #[.slice A0 l0.length c0, .int .i64 a1] w fun e w' => e = .returned (.int .i64 r) ∧ Drawn0 w w' := by
 have A3 := Z.m hr0
 have A2 := Z.m hc0
 clear hr0 hc0
 have H : (if (wrap64 (a1 - (l0.length : Int))) < 0 then (some (-1)) else (some (wrap64 (a1 - (l0.length : Int))))) = some r := h
 clear h
 by_cases c3 : (wrap64 (a1 - (l0.length : Int))) < 0
 ·rw [if_pos c3] at H
  have A1 := decide_eq_true c3
  clear c3
  obtain rfl := Option.some.inj H
  go_enter Try.func49, Try.ntmps49
  go_wp2
  go_ret
  exact ⟨by first | rfl | (simp; done) | (simp [*]; done), by repeat (first | exact Drawn0.refl _ | apply Drawn0.step)⟩
 ·rw [if_neg c3] at H
  have A1 := decide_eq_false c3
  clear c3
  obtain rfl := Option.some.inj H
  go_enter Try.func49, Try.ntmps49
  go_wp2
  go_ret
  exact ⟨by first | rfl | (simp; done) | (simp [*]; done), by repeat (first | exact Drawn0.refl _ | apply Drawn0.step)⟩

/-! ### laws_szBoard: function 13 -/
def laws_szBoard.f (a0_0 : Int) (a0_1 : Int) (l0_2 : List (S91)) (a1 : Int) : Option (Int) := (laws_szCellS.f l0_2 a1).bind fun t102 => (if t102 < 0 then (some (-1)) else (some t102))
set_option maxHeartbeats 8000000 in
set_option maxRecDepth 100000 in
theorem laws_szBoard.calls (a0_0 : Int) (a0_1 : Int) (A0_2 : Option Addr) (c0_2 : Nat) (l0_2 : List (S91)) (a1 : Int) (r : Int) (w : World) (hr0_2 : Kd.C k91 w A0_2 l0_2.length l0_2) (hc0_2 : l0_2.length ≤ c0_2) (h : laws_szBoard.f a0_0 a0_1 l0_2 a1 = some r) :
 Calls Try.prog 13 #[.agg #[.int .i64 a0_0, .int .i64 a0_1, .slice A0_2 l0_2.length c0_2], .int .i64 a1] w fun e w' => e = .returned (.int .i64 r) ∧ Below w.heap.size w w' := by
 have Am := Try.underlying24
 have A5 := Z.m hr0_2
 have A4 := Z.m hc0_2
 clear hr0_2 hc0_2
 have HB := Z.m (Below.refl w.heap.size w)
 have H : ((laws_szCellS.f l0_2 a1).bind fun A1 => (if A1 < 0 then (some (-1)) else (some A1))) = some r := h
 clear h
 replace H := Option.bind_eq_some_iff.mp H
 obtain ⟨A1, Al, H⟩ := H
 replace H : (if A1 < 0 then (some (-1)) else (some A1)) = some r := H
 have A3 := Z.m Al
 clear Al
 by_cases c4 : A1 < 0
 ·rw [if_pos c4] at H
  have A8 := decide_eq_true c4
  clear c4
  obtain rfl := Option.some.inj H
  go_enter Try.func13, Try.ntmps13
  go_wp2_with (first | ((with_reducible refine gq (N := 2) rfl ?_); refine be (N := 2) (cs := #[.int .i64 a0_0, .int .i64 a0_1, .slice A0_2 l0_2.length c0_2]) (t := 24) ?_; intro A7 hg w5 hbox hb; have A0 := Z.m (hbox); have A2 := gW (w := w) HB hg; have A6 := A2; replace HB := bB HB hb; clear hb hbox hg; have A9 := bc0 A0; have Aa := bc1 A0; have Ab := bc2 A0; have Af := qz A0.o 0; have Ag := qz A0.o 1; have Ah := qz A0.o 2) | ((with_reducible refine gc (f := 49) rfl ?_); refine gA (some 8) _ #[.slice A0_2 l0_2.length c0_2, .int .i64 a1] ?_ Try.func49; (with_reducible refine (laws_szCellS.calls _ _ l0_2 a1 A1 _ ?side1 ?side2 A3.o).mono ?_); (case side1 => repeat (first | exact (Kd.C_below A5.o HB.o) | (with_reducible refine Kd.C_alloc ?_ _) | (with_reducible refine Kd.C_drewN ?_ _) | (with_reducible refine Kd.C_drew ?_))); (case side2 => exact A4.o); rintro e w' ⟨rfl, ⟨nd, rfl⟩⟩; refine ⟨_, rfl, ?_⟩))
  go_ret
  exact ⟨by first | rfl | (simp [eN, eS] <;> rfl) | (simp [*, eN, eS] <;> rfl), vB HB⟩
 ·rw [if_neg c4] at H
  have A8 := decide_eq_false c4
  clear c4
  obtain rfl := Option.some.inj H
  go_enter Try.func13, Try.ntmps13
  go_wp2_with (first | ((with_reducible refine gq (N := 2) rfl ?_); refine be (N := 2) (cs := #[.int .i64 a0_0, .int .i64 a0_1, .slice A0_2 l0_2.length c0_2]) (t := 24) ?_; intro A7 hg w7 hbox hb; have A0 := Z.m (hbox); have A2 := gW (w := w) HB hg; have A6 := A2; replace HB := bB HB hb; clear hb hbox hg; have Ac := bc0 A0; have Ad := bc1 A0; have Ae := bc2 A0; have Ai := qz A0.o 0; have Aj := qz A0.o 1; have Ak := qz A0.o 2) | ((with_reducible refine gc (f := 49) rfl ?_); refine gA (some 8) _ #[.slice A0_2 l0_2.length c0_2, .int .i64 a1] ?_ Try.func49; (with_reducible refine (laws_szCellS.calls _ _ l0_2 a1 A1 _ ?side1 ?side2 A3.o).mono ?_); (case side1 => repeat (first | exact (Kd.C_below A5.o HB.o) | (with_reducible refine Kd.C_alloc ?_ _) | (with_reducible refine Kd.C_drewN ?_ _) | (with_reducible refine Kd.C_drew ?_))); (case side2 => exact A4.o); rintro e w' ⟨rfl, ⟨nd, rfl⟩⟩; refine ⟨_, rfl, ?_⟩))
  go_ret
  exact ⟨by first | rfl | (simp [eN, eS] <;> rfl) | (simp [*, eN, eS] <;> rfl), vB HB⟩

/-! ### laws_toCell: function 72 -/
def laws_toCell.f (a0_0 : Int) (a0_1 : Int) : Option (Int × Int) := some (a0_0, a0_1)
set_option maxHeartbeats 8000000 in
set_option maxRecDepth 100000 in
theorem laws_toCell.calls (a0_0 : Int) (a0_1 : Int) (r1 : Int) (r2 : Int) (w : World) (h : laws_toCell.f a0_0 a0_1 = some (r1, r2)) :
 Calls Try.prog 72 #[.agg #[.int .i64 a0_0, .int .i64 a0_1]] w fun e w' => e = .returned (.agg #[.int .i64 r1, .int .i64 r2]) ∧ Below w.heap.size w w' := by
 have AB := Try.underlying91
 have AA := Try.underlying89
 have HB := Z.m (Below.refl w.heap.size w)
 have H : (some (a0_0, a0_1)) = some (r1, r2) := h
 clear h
 simp only [Option.some.injEq, Prod.mk.injEq] at H
 obtain ⟨rfl, rfl⟩ := H
 go_enter Try.func72, Try.ntmps72
 go_wp2_with (first | ((with_reducible refine gq (N := 1) rfl ?_); refine be (N := 1) (cs := #[.int .i64 a0_0, .int .i64 a0_1]) (t := 91) ?_; intro As hg w2 hbox hb; have A0 := Z.m (hbox); have A9 := gW (w := w) HB hg; have Ap := A9; replace HB := bB HB hb; clear hb hbox hg) | ((with_reducible refine gq (N := 2) rfl ?_); refine be (N := 2) (cs := #[.int .i64 0, .int .i64 0]) (t := 89) ?_; intro Ac hg w3 hbox hb; have A1 := Z.m (hbox); have Aa := gW (w := w) HB hg; have Aq := Aa; have A4 := neL A0 hg; have A6 := neG A0 hg; replace A0 := kB A0 hb; replace HB := bB HB hb; clear hb hbox hg) | ((with_reducible refine gq (N := 3) rfl ?_); refine be (N := 3) (cs := #[.int .i64 0, .int .i64 0]) (t := 89) ?_; intro At hg w4 hbox hb; have A3 := Z.m (hbox); have Ab := gW (w := w) HB hg; have Ar := Ab; have A5 := neL A0 hg; have A7 := neG A0 hg; have A2 := neL A1 hg; have A8 := neG A1 hg; replace A0 := kB A0 hb; replace A1 := kB A1 hb; replace HB := bB HB hb; clear hb hbox hg; have Au := A4.o; have Ax := A6.o; have Av := A5.o; have Ay := A7.o; have Ah := bc0 A0; have Ai := bc1 A0; have Al := qz A0.o 0; have Am := qz A0.o 1; have Aw := A8.o; have Az := A2.o; have Aj := bc0 A3; have Ak := bc1 A3; have An := qz A3.o 0; have Ao := qz A3.o 1; have Ad := bc0 A1; have Ae := bc1 A1; have Af := qz A1.o 0; have Ag := qz A1.o 1))
 refine bodyPost_ret (results_cell_row rfl _ _ Ac 89 #[.int .i64 a0_0, .int .i64 a0_1] (0, 0) _ rfl (by refine bK ?_; refine qp (cs := #[iV a0_0, iV 0]) ?_ 1 _ rfl; refine bK ?_; refine qp (cs := #[iV 0, iV 0]) ?_ 0 _ rfl; refine bK ?_; (iterate 2 refine qF ?_ A2); exact A1.o) Try.underlying89 rfl (by kernel_rfl)) rfl ?_
 exact ⟨by first | rfl | (simp [eN, eS] <;> rfl) | (simp [*, eN, eS] <;> rfl), vB HB⟩

/-! ### laws_toCellS: function 52 -/
def laws_toCellS.l0 : Nat → List (S91) → List (S89) → Int → Option ((List (S89)))
 | 0, _, _, _ => none
 | k + 1, x0, x3, x4 => if x4 < (x0.length : Int) then (if 0 ≤ x4 then ((laws_toCell.f ((rd_T91 x0 x4).f0) ((rd_T91 x0 x4).f1)).bind fun bt110 => (if x4 < (x3.length : Int) then (laws_toCellS.l0 k x0 (x3.set (x4 : Int).toNat (⟨bt110.1, bt110.2⟩ : S89)) (wrap64 (x4 + 1))) else (none))) else (none)) else (some x3)
def laws_toCellS.f (k : Nat) (l0 : List (S91)) : Option ((List (S89))) := if 0 ≤ (l0.length : Int) then (if ((l0.length : Int) : Int).toNat ≤ 17592186044416 then (laws_toCellS.l0 k l0 (List.replicate ((l0.length : Int) : Int).toNat z89) 0) else (none)) else (none)
set_option maxHeartbeats 8000000 in
set_option maxRecDepth 100000 in
theorem laws_toCellS.calls (k : Nat) (A0 : Option Addr) (c0 : Nat) (l0 : List (S91)) (r : List (S89)) (w : World) (hr0 : Kd.C k91 w A0 l0.length l0) (hc0 : l0.length ≤ c0) (h : laws_toCellS.f k l0 = some r) :
 Calls Try.prog 52 #[.slice A0 l0.length c0] w fun e w' => ∃ v0_ : Value, e = .returned (v0_) ∧ Kd.R k89 89 w' w.heap.size (fun _ => True) v0_ r ∧ Below w.heap.size w w' := by
 have AX := Try.underlying91
 have AW := Try.underlying89
 have AR := Z.m hr0
 have AY := Z.m hc0
 clear hr0 hc0
 have HB := Z.m (Below.refl w.heap.size w)
 have H : (if 0 ≤ (l0.length : Int) then (if ((l0.length : Int) : Int).toNat ≤ 17592186044416 then (laws_toCellS.l0 k l0 (List.replicate ((l0.length : Int) : Int).toNat z89) 0) else (none)) else (none)) = some r := h
 clear h
 by_cases c2 : 0 ≤ (l0.length : Int)
 ·rw [if_pos c2] at H
  have AC := eq_true c2
  have AD := decide_eq_true c2
  clear c2
  by_cases c3 : ((l0.length : Int) : Int).toNat ≤ 17592186044416
  ·rw [if_pos c3] at H
   have AE := eq_true c3
   have AF := decide_eq_true c3
   clear c3
   obtain ⟨AB, A7⟩ : ∃ y_ : List (S89), y_ = (List.replicate ((l0.length : Int) : Int).toNat z89) := ⟨_, rfl⟩
   replace H : (laws_toCellS.l0 k l0 AB 0) = some r := by first | (rw [A7]; with_reducible exact H) | (have H2_ := (Option.bind_some _ _).symm.trans H; rw [A7]; with_reducible exact H2_) | (have H2_ := (Option.bind_some _ _).symm.trans H; with_reducible exact H2_) | with_reducible exact H | (rw [A7]; exact H) | exact H
   have Ag := Z.m A7
   clear A7
   have H' := Z.m H
   clear H
   go_enter Try.func52, Try.ntmps52
   go_wp2_with (first | ((with_reducible refine gq (N := 7) rfl ?_); refine Kd.R_make k89 _ 89 rfl (N := 7) rfl 30 _ _ rfl (l0.length : Int) rfl rfl Try.underlying30 (.agg #[(.int .i64 0), (.int .i64 0)]) 16 info89 rfl (by decide) (by omega) z89 (ok := fun _ => True) (okp := fun _ => True) (k89_mkM _ _ _ z89 ) (fun _ hk => hk) trivial (ofD) (Nat.le_trans (Nat.mul_le_mul_right _ (ofD : (l0.length : Int).toNat ≤ 17592186044416)) (by omega)) (Below.refl _ _) (Nat.le_refl _) ?_; intro AL w4 AA hb hg_ hnew_; clear hg_ hnew_; (first | rw [← Ag.o] at AA | (simp only [Int.reduceToNat] at AA; rw [← Ag.o] at AA)); have Ar := Z.m (Kd.R_lower AA (below_size (vB HB))); replace HB := bB HB hb; clear hb AA))
   go_loopg [4] k (fun kq v4 w' => ∃ (A2 : List (S89)) (A1 : Int), v4 = .int .i64 A1 ∧ Z (laws_toCellS.l0 kq l0 A2 A1 = some r) ∧ Z (kq ≤ k) ∧ Z (Kd.R k89 89 w' w.heap.size (fun _ => True) AL A2) ∧ Z (Below w.heap.size w w'))
   case atStart => exact ⟨(AB), (0), (by first | rfl | (simp; done) | (simp [*]; done)), H', ⟨Nat.le_refl _⟩, ⟨vR Ar⟩, ⟨vB HB⟩⟩
   case round =>
    clear H'
    (try clear AC); (try clear AD); (try clear AE); (try clear AF)
    obtain ⟨A2, A1, rfl, HA, AO, A3, HB⟩ := hrel
    cases gk with
    | zero => exact absurd HA.o (by simp [laws_toCellS.l0])
    | succ k1 =>
     have H := HA.o
     clear HA
     simp only [laws_toCellS.l0] at H
     by_cases c6 : A1 < (l0.length : Int)
     ·rw [if_pos c6] at H
      have AG := decide_eq_true c6
      clear c6
      by_cases c7 : 0 ≤ A1
      ·rw [if_pos c7] at H
       have AS := decide_eq_true c7
       clear c7
       replace H := Option.bind_eq_some_iff.mp H
       obtain ⟨⟨Aa, Ab⟩, AN, H⟩ := H
       replace H : (if A1 < (A2.length : Int) then (laws_toCellS.l0 k1 l0 (A2.set (A1 : Int).toNat (⟨Aa, Ab⟩ : S89)) (wrap64 (A1 + 1))) else (none)) = some r := H
       have A8 := Z.m AN
       clear AN
       by_cases c9 : A1 < (A2.length : Int)
       ·rw [if_pos c9] at H
        have AT := decide_eq_true c9
        clear c9
        obtain ⟨Ao, A9⟩ : ∃ y_ : List (S89), y_ = (A2.set (A1 : Int).toNat (⟨Aa, Ab⟩ : S89)) := ⟨_, rfl⟩
        replace H : (laws_toCellS.l0 k1 l0 Ao (wrap64 (A1 + 1))) = some r := by first | (rw [A9]; with_reducible exact H) | (have H2_ := (Option.bind_some _ _).symm.trans H; rw [A9]; with_reducible exact H2_) | (have H2_ := (Option.bind_some _ _).symm.trans H; with_reducible exact H2_) | with_reducible exact H | (rw [A9]; exact H) | exact H
        have At := Z.m A9
        clear A9
        have H' := Z.m H
        clear H
        have p109 : 0 ≤ (A1 : Int) := ofD
        have q109 : A1 < (l0.length : Int) := ofD
        obtain ⟨AP, e109, A5, A6⟩ := at_T91 AR.o A1 p109 q109
        cases e109
        replace A5 := (HB.o.cell (World.block_lt_of_cell? w _ A5)).trans A5
        replace A6 := (HB.o.cell (World.block_lt_of_cell? w _ A6)).trans A6
        replace p109 := eq_true p109
        replace q109 := eq_true q109
        go_wp2_with (first | ((with_reducible refine gc (f := 72) rfl ?_); refine gA (some 20) _ #[.agg #[.int .i64 ((rd_T91 l0 A1).f0), .int .i64 ((rd_T91 l0 A1).f1)]] ?_ Try.func72; (with_reducible refine (laws_toCell.calls ((rd_T91 l0 A1).f0) ((rd_T91 l0 A1).f1) Aa Ab _ A8.o).mono ?_); rintro e An ⟨rfl, hb⟩; refine ⟨_, rfl, ?_⟩; replace A3 := Z.m (Kd.Rb (vR A3) hb); replace HB := bB HB hb; (try clear hb); (try clear AZ); (try clear hk); (try clear hi); have p10 : 0 ≤ (A1 : Int) := ofD; have q10 : (A1 : Int) < ((A2.length : Int) : Int) := ofD; obtain ⟨A4, Au, Av, Aw, gl10, cl10, Aq⟩ := Kd.R_form A3.o (by omega); (first | cases Av | (injection Av with ea_ en_ ec_; (first | subst ea_ | (injection ea_ with ea_; subst ea_)); subst ec_; clear en_)); have Ap := Z.m Aw; have AQ := Z.m Aq; clear Aw gl10 Aq; obtain ⟨AU, Az, Ax, Ad, Ae⟩ := Kd.R_elem A3.o z89 (A1 : Int) p10 q10; obtain rfl := k89_openM Ax; have AJ : An.cell? ⟨A4, (A1 : Int).toNat * 2, none⟩ = some (.int .i64 ((rd_T89 A2 A1).f0)) := Ad 0 _ rfl; have AK : An.cell? ⟨A4, (A1 : Int).toNat * 2 + 1, none⟩ = some (.int .i64 ((rd_T89 A2 A1).f1)) := Ad 1 _ rfl; have AH : An.frozen? ⟨A4, (A1 : Int).toNat * 2, none⟩ = false := Ae 0; have AI : An.frozen? ⟨A4, (A1 : Int).toNat * 2 + 1, none⟩ = false := Ae 1; (try clear Az); (try clear Ad); (try clear Ae); (try clear Ax); replace p10 := eq_true p10; replace q10 := eq_true q10; have As := Z.m (show Kd.R k89 89 An w.heap.size (fun _ => True) (.slice (some ⟨A4, 0, none⟩) A2.length Au) A2 from (vR A3)); obtain ⟨AV, Ah, Ay, Ac, Af⟩ := Kd.R_elem As.o z89 (A1 : Int) (ofD) (by have h_ : (A1 : Int) < ((A2.length : Int) : Int) := ofD; first | exact h_ | (have e_ := (Kd.RrZ A3.o).1; omega) | simpa using h_); obtain rfl := k89_openM Ay; have Ai := Kd.R_seg As.o (A1 : Int) (ofD) (by have h_ : (A1 : Int) < ((A2.length : Int) : Int) := ofD; first | exact h_ | (have e_ := (Kd.RrZ A3.o).1; omega) | simpa using h_) (seg := [.int .i64 Aa, .int .i64 Ab]) (j := 0) Ah Ac (show 2 ≤ 2 from by decide) (x' := (⟨Aa, Ab⟩ : S89)) (k89_mkM _ _ _ (⟨Aa, Ab⟩ : S89) ) (fun _ hk => hk); have Al := Ac 0 _ rfl; (try simp only [show (k89).sz = 2 from rfl, Nat.mul_one, Nat.add_zero] at Al); have Aj := Af 0; (try simp only [show (k89).sz = 2 from rfl, Nat.mul_one, Nat.add_zero] at Aj); have Am := Ac 1 _ rfl; (try simp only [show (k89).sz = 2 from rfl, Nat.mul_one, Nat.add_zero] at Am); have Ak := Af 1; (try simp only [show (k89).sz = 2 from rfl, Nat.mul_one, Nat.add_zero] at Ak); (try clear Ah); (try clear Ac); (try clear Af); (try clear Ay)) | ((with_reducible refine gt (t := 89) (p := 21) rfl ?_); refine store_event (t := 89) (p := 21) (v := ?vo_w13) (w1 := ((An.setCell ⟨A4, (A1 : Int).toNat * 2, none⟩ (.int .i64 Aa)).setCell ⟨A4, (A1 : Int).toNat * 2 + 1, none⟩ (.int .i64 Ab))) ?hg ?ho ?hn ?hr ?_; (case ho => rfl); (case hg => rfl); (case hn => rfl); (case hr => first | (go_simp; done) | (go_simp; rfl)); intro AM hw; have hg : An.grownBy AM (some A4) := (by rw [hw]; exact Ai.2); have hp_ : Kd.R k89 89 AM w.heap.size (fun _ => True) (.slice (some ⟨A4, 0, none⟩) A2.length Au) Ao := (by rw [hw, At.o]; exact Ai.1); clear Ai; replace A3 := Z.m (hp_); replace HB := Z.m ((by rw [hw]; exact qx (qx (HB.o) Ap.o) Ap.o : Below w.heap.size w AM)); clear hg hw hp_))
        go_roundg k1
        case measure => have := AO.o; omega
        case rel => exact ⟨(Ao), (wrap64 (A1 + 1)), (by first | rfl | (simp; done) | (simp [*]; done)), H', ⟨by have := AO.o; omega⟩, ⟨vR A3⟩, ⟨vB HB⟩⟩
       ·rw [if_neg c9] at H
        exact absurd H (by simp)
      ·rw [if_neg c7] at H
       exact absurd H (by simp)
     ·rw [if_neg c6] at H
      have AG := decide_eq_false c6
      clear c6
      obtain rfl := Option.some.inj H
      go_wp2
      go_ret
      exact ⟨_, by first | rfl | (simp [eN, eS] <;> rfl) | (simp [*, eN, eS] <;> rfl), vR A3, vB HB⟩
  ·rw [if_neg c3] at H
   exact absurd H (by simp)
 ·rw [if_neg c2] at H
  exact absurd H (by simp)

/-! ### laws_toBoard: function 15 -/
def laws_toBoard.f (k : Nat) (a0_0 : Int) (a0_1 : Int) (l0_2 : List (S91)) : Option (Int × Int × (List (S89))) := (laws_toCellS.f k l0_2).bind fun t116 => (some (a0_0, a0_1, t116))
set_option maxHeartbeats 8000000 in
set_option maxRecDepth 100000 in
theorem laws_toBoard.calls (k : Nat) (a0_0 : Int) (a0_1 : Int) (A0_2 : Option Addr) (c0_2 : Nat) (l0_2 : List (S91)) (r1 : Int) (r2 : Int) (r3 : List (S89)) (w : World) (hr0_2 : Kd.C k91 w A0_2 l0_2.length l0_2) (hc0_2 : l0_2.length ≤ c0_2) (h : laws_toBoard.f k a0_0 a0_1 l0_2 = some (r1, r2, r3)) :
 Calls Try.prog 15 #[.agg #[.int .i64 a0_0, .int .i64 a0_1, .slice A0_2 l0_2.length c0_2]] w fun e w' => ∃ v2_ : Value, e = .returned (.agg #[.int .i64 r1, .int .i64 r2, v2_]) ∧ Kd.R k89 89 w' w.heap.size (fun _ => True) v2_ r3 ∧ Below w.heap.size w w' := by
 have AW := Try.underlying24
 have AX := Try.underlying32
 have Ah := Z.m hr0_2
 have Ag := Z.m hc0_2
 clear hr0_2 hc0_2
 have HB := Z.m (Below.refl w.heap.size w)
 have H : ((laws_toCellS.f k l0_2).bind fun Aa => (some (a0_0, a0_1, Aa))) = some (r1, r2, r3) := h
 clear h
 replace H := Option.bind_eq_some_iff.mp H
 obtain ⟨Aa, AL, H⟩ := H
 replace H : (some (a0_0, a0_1, Aa)) = some (r1, r2, r3) := H
 have A2 := Z.m AL
 clear AL
 simp only [Option.some.injEq, Prod.mk.injEq] at H
 obtain ⟨rfl, rfl, rfl⟩ := H
 go_enter Try.func15, Try.ntmps15
 go_wp2_with (first | ((with_reducible refine gq (N := 1) rfl ?_); refine be (N := 1) (cs := #[.int .i64 a0_0, .int .i64 a0_1, .slice A0_2 l0_2.length c0_2]) (t := 24) ?_; intro Ai hg w3 hbox hb; have A0 := Z.m (hbox); have Ad := gW (w := w) HB hg; have AM := Ad; replace HB := bB HB hb; clear hb hbox hg) | ((with_reducible refine gq (N := 2) rfl ?_); refine be (N := 2) (cs := #[.int .i64 0, .int .i64 0, .slice none 0 0]) (t := 32) ?_; intro Ac hg w4 hbox hb; have A3 := Z.m (hbox); have Ae := gW (w := w) HB hg; have AN := Ae; have A6 := neL A0 hg; have A7 := neG A0 hg; replace A0 := kB A0 hb; replace HB := bB HB hb; clear hb hbox hg) | ((with_reducible refine gq (N := 3) rfl ?_); refine be (N := 3) (cs := #[.int .i64 0, .int .i64 0, .slice none 0 0]) (t := 32) ?_; intro Aj hg w5 hbox hb; have A1 := Z.m (hbox); have Af := gW (w := w) HB hg; have AO := Af; have A5 := neL A0 hg; have A8 := neG A0 hg; have A4 := neL A3 hg; have A9 := neG A3 hg; replace A0 := kB A0 hb; replace A3 := kB A3 hb; replace HB := bB HB hb; clear hb hbox hg; have AQ := A6.o; have AT := A7.o; have AR := A5.o; have AU := A8.o; have AF := bc0 A0; have AG := bc1 A0; have AH := bc2 A0; have AI := qz A0.o 0; have AJ := qz A0.o 1; have AK := qz A0.o 2; have AS := A9.o; have AV := A4.o; have Ak := bc0 A1; have Al := bc1 A1; have Am := bc2 A1; have At := qz A1.o 0; have Au := qz A1.o 1; have Av := qz A1.o 2) | ((with_reducible refine gc (f := 52) rfl ?_); refine gA (some 12) _ #[.slice A0_2 l0_2.length c0_2] ?_ Try.func52; (with_reducible refine (laws_toCellS.calls k _ _ l0_2 Aa _ ?side1 ?side2 A2.o).mono ?_); (case side1 => exact Kd.C_below Ah.o (vB HB)); (case side2 => exact Ag.o); rintro e B0 ⟨AY, rfl, AP, hb⟩; refine ⟨_, rfl, ?_⟩; have Ab := Z.m (Kd.R_lower AP (below_size (vB HB))); replace A0 := Z.m (qb (g := Ai) (o := .cells #[.int .i64 a0_0, .int .i64 a0_1, .slice A0_2 l0_2.length c0_2] 24 (0, 0)) (by refine bK ?_; (iterate 2 refine qF ?_ A5); exact A0.o) hb); replace A3 := Z.m (qb (g := Ac) (o := .cells #[.int .i64 0, .int .i64 0, .slice none 0 0] 32 (0, 0)) (by refine bK ?_; (iterate 2 refine qF ?_ A4); exact A3.o) hb); replace A1 := Z.m (qb (g := Aj) (o := .cells #[.int .i64 a0_0, .int .i64 a0_1, .slice none 0 0] 32 (0, 0)) (by refine bK ?_; refine qp (cs := #[iV a0_0, iV 0, .slice none 0 0]) ?_ 1 _ rfl; refine bK ?_; refine qp (cs := #[iV 0, iV 0, .slice none 0 0]) ?_ 0 _ rfl; refine bK ?_; exact A1.o) hb); replace HB := bB HB hb; (try clear hb); (try clear AZ); (try clear hk); (try clear hi); (try clear AP); obtain ⟨AC, AD, AE⟩ := Kd.R_slice Ab.o; subst AE; have An := bc0 A1; have Ao := bc1 A1; have Ap := bc2 A1; have Aw := qz A1.o 0; have Ax := qz A1.o 1; have Ay := qz A1.o 2; have Aq := bc0 A3; have Ar := bc1 A3; have As := bc2 A3; have Az := qz A3.o 0; have AA := qz A3.o 1; have AB := qz A3.o 2))
 refine bodyPost_ret (results_cell_row rfl _ _ Ac 32 #[.int .i64 a0_0, .int .i64 a0_1, .slice AC Aa.length AD] (0, 0) _ rfl (by refine bK ?_; apply st3; refine bK ?_; refine qF ?_ A4; exact A3.o) Try.underlying32 rfl (by kernel_rfl)) rfl ?_
 exact ⟨_, by first | rfl | (simp [eN, eS] <;> rfl) | (simp [*, eN, eS] <;> rfl), by refine rK ?_; exact Kd.Rm (rf (rf (rf (rf1 (Kd.Ry (Kd.Ry Ab.o A1.o (by decide)) A3.o (by decide)))))) (fun _ hk => trivial), vB HB⟩

/-! ### laws_eqCell: function 77 -/
def laws_eqCell.f (a0_0 : Int) (a0_1 : Int) (a1_0 : Int) (a1_1 : Int) : Option (Bool) := if a0_0 = a1_0 then (if a0_1 = a1_1 then (some true) else (some false)) else (some false)
set_option maxHeartbeats 8000000 in
set_option maxRecDepth 100000 in
theorem laws_eqCell.calls (a0_0 : Int) (a0_1 : Int) (a1_0 : Int) (a1_1 : Int) (r : Bool) (w : World) (h : laws_eqCell.f a0_0 a0_1 a1_0 a1_1 = some r) :
 Calls Try.prog 77 #[.agg #[.int .i64 a0_0, .int .i64 a0_1], .agg #[.int .i64 a1_0, .int .i64 a1_1]] w fun e w' => e = .returned (.bool r) ∧ Below w.heap.size w w' := by
 have AI := Try.underlying89
 have HB := Z.m (Below.refl w.heap.size w)
 have H : (if a0_0 = a1_0 then (if a0_1 = a1_1 then (some true) else (some false)) else (some false)) = some r := h
 clear h
 by_cases c3 : a0_0 = a1_0
 ·rw [if_pos c3] at H
  have Aq := beq_iff_eq.mpr c3
  have Ar := bne_eq_false_iff_eq.mpr c3
  clear c3
  by_cases c4 : a0_1 = a1_1
  ·rw [if_pos c4] at H
   have As := beq_iff_eq.mpr c4
   have At := bne_eq_false_iff_eq.mpr c4
   clear c4
   obtain rfl := Option.some.inj H
   go_enter Try.func77, Try.ntmps77
   go_wp2_with (first | ((with_reducible refine gq (N := 2) rfl ?_); refine be (N := 2) (cs := #[.int .i64 a0_0, .int .i64 a0_1]) (t := 89) ?_; intro A8 hg w5 hbox hb; have A0 := Z.m (hbox); have A4 := gW (w := w) HB hg; have A6 := A4; replace HB := bB HB hb; clear hb hbox hg) | ((with_reducible refine gq (N := 3) rfl ?_); refine be (N := 3) (cs := #[.int .i64 a1_0, .int .i64 a1_1]) (t := 89) ?_; intro A9 hg w6 hbox hb; have A1 := Z.m (hbox); have A5 := gW (w := w) HB hg; have A7 := A5; have A2 := neL A0 hg; have A3 := neG A0 hg; replace A0 := kB A0 hb; replace HB := bB HB hb; clear hb hbox hg; have AG := A2.o; have AH := A3.o; have Au := bc0 A0; have Av := bc1 A0; have Ay := qz A0.o 0; have Az := qz A0.o 1; have Aw := bc0 A1; have Ax := bc1 A1; have AA := qz A1.o 0; have AB := qz A1.o 1))
   go_ret
   exact ⟨by first | rfl | (simp [eN, eS] <;> rfl) | (simp [*, eN, eS] <;> rfl), vB HB⟩
  ·rw [if_neg c4] at H
   have As := beq_eq_false_iff_ne.mpr c4
   have At := bne_iff_ne.mpr c4
   obtain rfl := Option.some.inj H
   go_enter Try.func77, Try.ntmps77
   go_wp2_with (first | ((with_reducible refine gq (N := 2) rfl ?_); refine be (N := 2) (cs := #[.int .i64 a0_0, .int .i64 a0_1]) (t := 89) ?_; intro A8 hg AJ hbox hb; have A0 := Z.m (hbox); have A4 := gW (w := w) HB hg; have A6 := A4; replace HB := bB HB hb; clear hb hbox hg) | ((with_reducible refine gq (N := 3) rfl ?_); refine be (N := 3) (cs := #[.int .i64 a1_0, .int .i64 a1_1]) (t := 89) ?_; intro A9 hg AK hbox hb; have A1 := Z.m (hbox); have A5 := gW (w := w) HB hg; have A7 := A5; have A2 := neL A0 hg; have A3 := neG A0 hg; replace A0 := kB A0 hb; replace HB := bB HB hb; clear hb hbox hg; have AC := A2.o; have AE := A3.o; have Aa := bc0 A0; have Ab := bc1 A0; have Ai := qz A0.o 0; have Aj := qz A0.o 1; have Ac := bc0 A1; have Ad := bc1 A1; have Ak := qz A1.o 0; have Al := qz A1.o 1))
   go_ret
   exact ⟨by first | rfl | (simp [eN, eS] <;> rfl) | (simp [*, eN, eS] <;> rfl), vB HB⟩
 ·rw [if_neg c3] at H
  have Aq := beq_eq_false_iff_ne.mpr c3
  have Ar := bne_iff_ne.mpr c3
  obtain rfl := Option.some.inj H
  go_enter Try.func77, Try.ntmps77
  go_wp2_with (first | ((with_reducible refine gq (N := 2) rfl ?_); refine be (N := 2) (cs := #[.int .i64 a0_0, .int .i64 a0_1]) (t := 89) ?_; intro A8 hg AL hbox hb; have A0 := Z.m (hbox); have A4 := gW (w := w) HB hg; have A6 := A4; replace HB := bB HB hb; clear hb hbox hg) | ((with_reducible refine gq (N := 3) rfl ?_); refine be (N := 3) (cs := #[.int .i64 a1_0, .int .i64 a1_1]) (t := 89) ?_; intro A9 hg AM hbox hb; have A1 := Z.m (hbox); have A5 := gW (w := w) HB hg; have A7 := A5; have A2 := neL A0 hg; have A3 := neG A0 hg; replace A0 := kB A0 hb; replace HB := bB HB hb; clear hb hbox hg; have AD := A2.o; have AF := A3.o; have Ae := bc0 A0; have Af := bc1 A0; have Am := qz A0.o 0; have An := qz A0.o 1; have Ag := bc0 A1; have Ah := bc1 A1; have Ao := qz A1.o 0; have Ap := qz A1.o 1))
  go_ret
  exact ⟨by first | rfl | (simp [eN, eS] <;> rfl) | (simp [*, eN, eS] <;> rfl), vB HB⟩

/-! ### laws_eqCellS: function 57 -/
def laws_eqCellS.l0 : Nat → List (S89) → List (S89) → Int → Option (Bool)
 | 0, _, _, _ => none
 | k + 1, x0, x1, x5 => if x5 < (x0.length : Int) then (if 0 ≤ x5 then (if x5 < (x1.length : Int) then ((laws_eqCell.f ((rd_T89 x0 x5).f0) ((rd_T89 x0 x5).f1) ((rd_T89 x1 x5).f0) ((rd_T89 x1 x5).f1)).bind fun t123 => (if t123 = true then (laws_eqCellS.l0 k x0 x1 (wrap64 (x5 + 1))) else (some false))) else (none)) else (none)) else (some true)
def laws_eqCellS.f (k : Nat) (l0 : List (S89)) (l1 : List (S89)) : Option (Bool) := if (l0.length : Int) = (l1.length : Int) then (laws_eqCellS.l0 k l0 l1 0) else (some false)
def laws_eqCellS.T6 : Bool × List (List Nat × List Nat) := (true, [([], []), ([], []), ([0, 1], [0, 1]), ([2], [2]), ([], []), ([], []), ([4, 5], [4, 5]), ([6], [6]), ([3, 7], [3, 7]), ([8], [8])])
def laws_eqCellS.B6 : List Nat := [0, 0, 3, 7, 0, 0, 48, 112, 255, 511]
theorem laws_eqCellS.tab6 : rtab .any (opsOf Try.f57 6) = laws_eqCellS.T6 := by kernel_rfl
theorem laws_eqCellS.bits6 : waitsOk laws_eqCellS.T6.2 laws_eqCellS.B6 = true := by kernel_rfl
set_option maxHeartbeats 8000000 in
set_option maxRecDepth 100000 in
theorem laws_eqCellS.calls (k : Nat) (A0 : Option Addr) (c0 : Nat) (l0 : List (S89)) (A1 : Option Addr) (c1 : Nat) (l1 : List (S89)) (r : Bool) (w : World) (hr0 : Kd.C k89 w A0 l0.length l0) (hc0 : l0.length ≤ c0) (hr1 : Kd.C k89 w A1 l1.length l1) (hc1 : l1.length ≤ c1) (h : laws_eqCellS.f k l0 l1 = some r) :
 Calls Try.prog 57 #[.slice A0 l0.length c0, .slice A1 l1.length c1] w fun e w' => e = .returned (.bool r) ∧ Below w.heap.size w w' := by
 have Al := Try.underlying89
 have Ah := Z.m hr0
 have Am := Z.m hc0
 clear hr0 hc0
 have Ai := Z.m hr1
 have An := Z.m hc1
 clear hr1 hc1
 have HB := Z.m (Below.refl w.heap.size w)
 have H : (if (l0.length : Int) = (l1.length : Int) then (laws_eqCellS.l0 k l0 l1 0) else (some false)) = some r := h
 clear h
 by_cases c3 : (l0.length : Int) = (l1.length : Int)
 ·rw [if_pos c3] at H
  have Aa := beq_iff_eq.mpr c3
  have Ab := bne_eq_false_iff_eq.mpr c3
  have Ac : (l0.length == l1.length) = true := by first | simpa using c3 | (simp at c3 ⊢; omega)
  clear c3
  have H' := Z.m H
  clear H
  go_enter Try.func57, Try.ntmps57
  go_wp2
  go_loopg [5] k (fun kq v5 w' => ∃ (A2 : Int), v5 = .int .i64 A2 ∧ Z (laws_eqCellS.l0 kq l0 l1 A2 = some r) ∧ Z (kq ≤ k) ∧ Z (Below w.heap.size w w'))
  case atStart => exact ⟨(0), (by first | rfl | (simp; done) | (simp [*]; done)), H', ⟨Nat.le_refl _⟩, ⟨vB HB⟩⟩
  case round =>
   clear H'
   (try clear Aa); (try clear Ab); (try clear Ac)
   obtain ⟨A2, rfl, HA, Ag, HB⟩ := hrel
   cases gk with
   | zero => exact absurd HA.o (by simp [laws_eqCellS.l0])
   | succ k1 =>
    have H := HA.o
    clear HA
    simp only [laws_eqCellS.l0] at H
    by_cases c4 : A2 < (l0.length : Int)
    ·rw [if_pos c4] at H
     have Ae := decide_eq_true c4
     clear c4
     by_cases c5 : 0 ≤ A2
     ·rw [if_pos c5] at H
      have Aj := decide_eq_true c5
      clear c5
      by_cases c6 : A2 < (l1.length : Int)
      ·rw [if_pos c6] at H
       have Ak := decide_eq_true c6
       clear c6
       replace H := Option.bind_eq_some_iff.mp H
       obtain ⟨Ad, Af, H⟩ := H
       replace H : (if Ad = true then (laws_eqCellS.l0 k1 l0 l1 (wrap64 (A2 + 1))) else (some false)) = some r := H
       have A7 := Z.m Af
       clear Af
       by_cases c8 : Ad = true
       ·subst c8
        have H1 : (laws_eqCellS.l0 k1 l0 l1 (wrap64 (A2 + 1))) = some r := by rw [if_pos rfl] at H; exact H
        clear H
        have H := H1
        clear H1
        have H' := Z.m H
        clear H
        try go_wp2
        replace HB := Z.m (qd HB.o)
        have p121 : 0 ≤ (A2 : Int) := ofD
        have q121 : A2 < (l0.length : Int) := ofD
        obtain ⟨A8, e121, A3, A4⟩ := at_T89 Ah.o A2 p121 q121
        have hw121_1 := A4
        have hw121_0 := A3
        cases e121
        replace A3 := (HB.o.cell (World.block_lt_of_cell? w _ A3)).trans A3
        replace A4 := (HB.o.cell (World.block_lt_of_cell? w _ A4)).trans A4
        replace p121 := eq_true p121
        replace q121 := eq_true q121
        have p122 : 0 ≤ (A2 : Int) := ofD
        have q122 : A2 < (l1.length : Int) := ofD
        obtain ⟨A9, e122, A5, A6⟩ := at_T89 Ai.o A2 p122 q122
        have hw122_1 := A6
        have hw122_0 := A5
        cases e122
        replace A5 := (HB.o.cell (World.block_lt_of_cell? w _ A5)).trans A5
        replace A6 := (HB.o.cell (World.block_lt_of_cell? w _ A6)).trans A6
        replace p122 := eq_true p122
        replace q122 := eq_true q122
        refine start_ (n := 10) (S := fun w' => w'.cell? (A8.add ((A2).toNat * 2)) = some (.int .i64 ((rd_T89 l0 A2).f0)) ∧ w'.cell? ⟨(A8.add ((A2).toNat * 2)).block, (A8.add ((A2).toNat * 2)).off + 1, none⟩ = some (.int .i64 ((rd_T89 l0 A2).f1)) ∧ w'.cell? (A9.add ((A2).toNat * 2)) = some (.int .i64 ((rd_T89 l1 A2).f0)) ∧ w'.cell? ⟨(A9.add ((A2).toNat * 2)).block, (A9.add ((A2).toNat * 2)).off + 1, none⟩ = some (.int .i64 ((rd_T89 l1 A2).f1))) (ds := []) #[false, false, false, false, false, false, false, false, false, false] (by kernel_rfl) rfl rfl ⟨((HB.o.cell (World.block_lt_of_cell? w _ hw121_0)).trans hw121_0), ((HB.o.cell (World.block_lt_of_cell? w _ hw121_1)).trans hw121_1), ((HB.o.cell (World.block_lt_of_cell? w _ hw122_0)).trans hw122_0), ((HB.o.cell (World.block_lt_of_cell? w _ hw122_1)).trans hw122_1)⟩ (fun hHeld => ?_); refine with_tabW laws_eqCellS.tab6 laws_eqCellS.bits6 (fun HT_ HW_ => ?_)
        generalize wr.drew = w9 at HB A3 A4 A5 A6 hHeld ⊢
        refine pure_ (i := 0) (N := some 17) (v := ?_) (a' := ?_) #[true, false, false, false, false, false, false, false, false, false] rfl rfl (any_of HT_.o (by kernel_rfl)) (fun _ _ _ h => h) (Or.inl ⟨by rfl, ?_⟩) ?_ ?_
        rotate_left
        ·intro w'
         go_simp
         with_reducible rfl
        rotate_left
        ·simp only [Act.put, q1, q2, q3, i64_w, i32_w]
         rfl
        refine pure_ (i := 1) (N := some 18) (v := ?_) (a' := ?_) #[true, true, false, false, false, false, false, false, false, false] rfl rfl (any_of HT_.o (by kernel_rfl)) (fun _ _ _ h => h) (Or.inl ⟨by rfl, ?_⟩) ?_ ?_
        rotate_left
        ·intro w'
         go_simp
         with_reducible rfl
        rotate_left
        ·simp only [Act.put, q1, q2, q3, i64_w, i32_w]
         rfl
        refine pure_ (i := 2) (N := some 19) (v := ?_) (a' := ?_) #[true, true, true, false, false, false, false, false, false, false] rfl rfl (any_of HT_.o (by kernel_rfl)) (fun _ _ _ h => h) (Or.inl ⟨by rfl, ?_⟩) ?_ ?_
        rotate_left
        ·intro w'
         go_simp
         with_reducible rfl
        rotate_left
        ·simp only [Act.put, q1, q2, q3, i64_w, i32_w]
         rfl
        refine pure_ (i := 4) (N := some 21) (v := ?_) (a' := ?_) #[true, true, true, false, true, false, false, false, false, false] rfl rfl (any_of HT_.o (by kernel_rfl)) (fun _ _ _ h => h) (Or.inl ⟨by rfl, ?_⟩) ?_ ?_
        rotate_left
        ·intro w'
         go_simp
         with_reducible rfl
        rotate_left
        ·simp only [Act.put, q1, q2, q3, i64_w, i32_w]
         rfl
        refine pure_ (i := 5) (N := some 22) (v := ?_) (a' := ?_) #[true, true, true, false, true, true, false, false, false, false] rfl rfl (any_of HT_.o (by kernel_rfl)) (fun _ _ _ h => h) (Or.inl ⟨by rfl, ?_⟩) ?_ ?_
        rotate_left
        ·intro w'
         go_simp
         with_reducible rfl
        rotate_left
        ·simp only [Act.put, q1, q2, q3, i64_w, i32_w]
         rfl
        refine pure_ (i := 6) (N := some 23) (v := ?_) (a' := ?_) #[true, true, true, false, true, true, true, false, false, false] rfl rfl (any_of HT_.o (by kernel_rfl)) (fun _ _ _ h => h) (Or.inl ⟨by rfl, ?_⟩) ?_ ?_
        rotate_left
        ·intro w'
         go_simp
         with_reducible rfl
        rotate_left
        ·simp only [Act.put, q1, q2, q3, i64_w, i32_w]
         rfl
        refine take_ (i := 3) (N := some 20) (v := ?_) (a' := ?_) #[true, true, true, true, true, true, true, false, false, false] rfl rfl (take_ofW HT_.o HW_.o (by kernel_rfl)) (fun _ _ _ h => h) (Or.inl ⟨by rfl, ?_⟩) hHeld ?_ ?_
        rotate_left
        ·rintro w' ⟨s0, s1, s2, s3⟩
         go_simp
         with_reducible rfl
        rotate_left
        ·simp only [Act.put, q1, q2, q3, i64_w, i32_w]
         rfl
        refine take_ (i := 7) (N := some 24) (v := ?_) (a' := ?_) #[true, true, true, true, true, true, true, true, false, false] rfl rfl (take_ofW HT_.o HW_.o (by kernel_rfl)) (fun _ _ _ h => h) (Or.inl ⟨by rfl, ?_⟩) hHeld ?_ ?_
        rotate_left
        ·rintro w' ⟨s0, s1, s2, s3⟩
         go_simp
         with_reducible rfl
        rotate_left
        ·simp only [Act.put, q1, q2, q3, i64_w, i32_w]
         rfl
        refine one_ (i := 8) (N := some 25) #[true, true, true, true, true, true, true, true, true, false] rfl rfl (one_of HT_.o (by kernel_rfl)) (by decide) (fun K hK => ?_)
        refine goes_ Try.func77 (by kernel_rfl) rfl #[.agg #[.int .i64 ((rd_T89 l0 A2).f0), .int .i64 ((rd_T89 l0 A2).f1)], .agg #[.int .i64 ((rd_T89 l1 A2).f0), .int .i64 ((rd_T89 l1 A2).f1)]] (by rfl) rfl rfl (by (try simp only [List.map_toArray, List.map_cons, List.map_nil]); first | done | rfl | (simp only [List.length_drop, List.length_take]; rfl)) ?_
        with_reducible refine (laws_eqCell.calls ((rd_T89 l0 A2).f0) ((rd_T89 l0 A2).f1) ((rd_T89 l1 A2).f0) ((rd_T89 l1 A2).f1) true _ A7.o).mono ?_
        rintro e Ao ⟨rfl, hb⟩
        refine ⟨_, rfl, ?_⟩
        replace HB := bB HB hb
        (try clear hb)
        refine hK.out _ _ ⟨((HB.o.cell (World.block_lt_of_cell? w _ hw121_0)).trans hw121_0), ((HB.o.cell (World.block_lt_of_cell? w _ hw121_1)).trans hw121_1), ((HB.o.cell (World.block_lt_of_cell? w _ hw122_0)).trans hw122_0), ((HB.o.cell (World.block_lt_of_cell? w _ hw122_1)).trans hw122_1)⟩ (fun hHeld => ?_)
        clear hK K
        refine norm_ (a' := ?_) ?_ ?_
        rotate_left
        ·show Act.put _ (some 25) _ = _
         simp only [Act.put, q1, q2, q3, i64_w, i32_w]
         rfl
        refine pure_ (i := 9) (N := some 26) (v := ?_) (a' := ?_) #[true, true, true, true, true, true, true, true, true, true] rfl rfl (any_of HT_.o (by kernel_rfl)) (fun _ _ _ h => h) (Or.inl ⟨by rfl, ?_⟩) ?_ ?_
        rotate_left
        ·intro w'
         go_simp
         with_reducible rfl
        rotate_left
        ·simp only [Act.put, q1, q2, q3, i64_w, i32_w]
         rfl
        refine done_ (done_of HT_.o (by kernel_rfl)) ?_
        try go_wp2
        go_roundg k1
        case measure => have := Ag.o; omega
        case rel => exact ⟨(wrap64 (A2 + 1)), (by first | rfl | (simp; done) | (simp [*]; done)), H', ⟨by have := Ag.o; omega⟩, ⟨vB HB⟩⟩
       ·replace c8 := Bool.eq_false_iff.mpr c8
        subst c8
        have H1 : (some false) = some r := by rw [if_neg (show ¬ (false = true) by decide)] at H; exact H
        clear H
        have H := H1
        clear H1
        obtain rfl := Option.some.inj H
        try go_wp2
        replace HB := Z.m (qd HB.o)
        have p121 : 0 ≤ (A2 : Int) := ofD
        have q121 : A2 < (l0.length : Int) := ofD
        obtain ⟨A8, e121, A3, A4⟩ := at_T89 Ah.o A2 p121 q121
        have hw121_1 := A4
        have hw121_0 := A3
        cases e121
        replace A3 := (HB.o.cell (World.block_lt_of_cell? w _ A3)).trans A3
        replace A4 := (HB.o.cell (World.block_lt_of_cell? w _ A4)).trans A4
        replace p121 := eq_true p121
        replace q121 := eq_true q121
        have p122 : 0 ≤ (A2 : Int) := ofD
        have q122 : A2 < (l1.length : Int) := ofD
        obtain ⟨A9, e122, A5, A6⟩ := at_T89 Ai.o A2 p122 q122
        have hw122_1 := A6
        have hw122_0 := A5
        cases e122
        replace A5 := (HB.o.cell (World.block_lt_of_cell? w _ A5)).trans A5
        replace A6 := (HB.o.cell (World.block_lt_of_cell? w _ A6)).trans A6
        replace p122 := eq_true p122
        replace q122 := eq_true q122
        refine start_ (n := 10) (S := fun w' => w'.cell? (A8.add ((A2).toNat * 2)) = some (.int .i64 ((rd_T89 l0 A2).f0)) ∧ w'.cell? ⟨(A8.add ((A2).toNat * 2)).block, (A8.add ((A2).toNat * 2)).off + 1, none⟩ = some (.int .i64 ((rd_T89 l0 A2).f1)) ∧ w'.cell? (A9.add ((A2).toNat * 2)) = some (.int .i64 ((rd_T89 l1 A2).f0)) ∧ w'.cell? ⟨(A9.add ((A2).toNat * 2)).block, (A9.add ((A2).toNat * 2)).off + 1, none⟩ = some (.int .i64 ((rd_T89 l1 A2).f1))) (ds := []) #[false, false, false, false, false, false, false, false, false, false] (by kernel_rfl) rfl rfl ⟨((HB.o.cell (World.block_lt_of_cell? w _ hw121_0)).trans hw121_0), ((HB.o.cell (World.block_lt_of_cell? w _ hw121_1)).trans hw121_1), ((HB.o.cell (World.block_lt_of_cell? w _ hw122_0)).trans hw122_0), ((HB.o.cell (World.block_lt_of_cell? w _ hw122_1)).trans hw122_1)⟩ (fun hHeld => ?_); refine with_tabW laws_eqCellS.tab6 laws_eqCellS.bits6 (fun HT_ HW_ => ?_)
        generalize wr.drew = Ap at HB A3 A4 A5 A6 hHeld ⊢
        refine pure_ (i := 0) (N := some 17) (v := ?_) (a' := ?_) #[true, false, false, false, false, false, false, false, false, false] rfl rfl (any_of HT_.o (by kernel_rfl)) (fun _ _ _ h => h) (Or.inl ⟨by rfl, ?_⟩) ?_ ?_
        rotate_left
        ·intro w'
         go_simp
         with_reducible rfl
        rotate_left
        ·simp only [Act.put, q1, q2, q3, i64_w, i32_w]
         rfl
        refine pure_ (i := 1) (N := some 18) (v := ?_) (a' := ?_) #[true, true, false, false, false, false, false, false, false, false] rfl rfl (any_of HT_.o (by kernel_rfl)) (fun _ _ _ h => h) (Or.inl ⟨by rfl, ?_⟩) ?_ ?_
        rotate_left
        ·intro w'
         go_simp
         with_reducible rfl
        rotate_left
        ·simp only [Act.put, q1, q2, q3, i64_w, i32_w]
         rfl
        refine pure_ (i := 2) (N := some 19) (v := ?_) (a' := ?_) #[true, true, true, false, false, false, false, false, false, false] rfl rfl (any_of HT_.o (by kernel_rfl)) (fun _ _ _ h => h) (Or.inl ⟨by rfl, ?_⟩) ?_ ?_
        rotate_left
        ·intro w'
         go_simp
         with_reducible rfl
        rotate_left
        ·simp only [Act.put, q1, q2, q3, i64_w, i32_w]
         rfl
        refine pure_ (i := 4) (N := some 21) (v := ?_) (a' := ?_) #[true, true, true, false, true, false, false, false, false, false] rfl rfl (any_of HT_.o (by kernel_rfl)) (fun _ _ _ h => h) (Or.inl ⟨by rfl, ?_⟩) ?_ ?_
        rotate_left
        ·intro w'
         go_simp
         with_reducible rfl
        rotate_left
        ·simp only [Act.put, q1, q2, q3, i64_w, i32_w]
         rfl
        refine pure_ (i := 5) (N := some 22) (v := ?_) (a' := ?_) #[true, true, true, false, true, true, false, false, false, false] rfl rfl (any_of HT_.o (by kernel_rfl)) (fun _ _ _ h => h) (Or.inl ⟨by rfl, ?_⟩) ?_ ?_
        rotate_left
        ·intro w'
         go_simp
         with_reducible rfl
        rotate_left
        ·simp only [Act.put, q1, q2, q3, i64_w, i32_w]
         rfl
        refine pure_ (i := 6) (N := some 23) (v := ?_) (a' := ?_) #[true, true, true, false, true, true, true, false, false, false] rfl rfl (any_of HT_.o (by kernel_rfl)) (fun _ _ _ h => h) (Or.inl ⟨by rfl, ?_⟩) ?_ ?_
        rotate_left
        ·intro w'
         go_simp
         with_reducible rfl
        rotate_left
        ·simp only [Act.put, q1, q2, q3, i64_w, i32_w]
         rfl
        refine take_ (i := 3) (N := some 20) (v := ?_) (a' := ?_) #[true, true, true, true, true, true, true, false, false, false] rfl rfl (take_ofW HT_.o HW_.o (by kernel_rfl)) (fun _ _ _ h => h) (Or.inl ⟨by rfl, ?_⟩) hHeld ?_ ?_
        rotate_left
        ·rintro w' ⟨s0, s1, s2, s3⟩
         go_simp
         with_reducible rfl
        rotate_left
        ·simp only [Act.put, q1, q2, q3, i64_w, i32_w]
         rfl
        refine take_ (i := 7) (N := some 24) (v := ?_) (a' := ?_) #[true, true, true, true, true, true, true, true, false, false] rfl rfl (take_ofW HT_.o HW_.o (by kernel_rfl)) (fun _ _ _ h => h) (Or.inl ⟨by rfl, ?_⟩) hHeld ?_ ?_
        rotate_left
        ·rintro w' ⟨s0, s1, s2, s3⟩
         go_simp
         with_reducible rfl
        rotate_left
        ·simp only [Act.put, q1, q2, q3, i64_w, i32_w]
         rfl
        refine one_ (i := 8) (N := some 25) #[true, true, true, true, true, true, true, true, true, false] rfl rfl (one_of HT_.o (by kernel_rfl)) (by decide) (fun K hK => ?_)
        refine goes_ Try.func77 (by kernel_rfl) rfl #[.agg #[.int .i64 ((rd_T89 l0 A2).f0), .int .i64 ((rd_T89 l0 A2).f1)], .agg #[.int .i64 ((rd_T89 l1 A2).f0), .int .i64 ((rd_T89 l1 A2).f1)]] (by rfl) rfl rfl (by (try simp only [List.map_toArray, List.map_cons, List.map_nil]); first | done | rfl | (simp only [List.length_drop, List.length_take]; rfl)) ?_
        with_reducible refine (laws_eqCell.calls ((rd_T89 l0 A2).f0) ((rd_T89 l0 A2).f1) ((rd_T89 l1 A2).f0) ((rd_T89 l1 A2).f1) false _ A7.o).mono ?_
        rintro e Aq ⟨rfl, hb⟩
        refine ⟨_, rfl, ?_⟩
        replace HB := bB HB hb
        (try clear hb)
        refine hK.out _ _ ⟨((HB.o.cell (World.block_lt_of_cell? w _ hw121_0)).trans hw121_0), ((HB.o.cell (World.block_lt_of_cell? w _ hw121_1)).trans hw121_1), ((HB.o.cell (World.block_lt_of_cell? w _ hw122_0)).trans hw122_0), ((HB.o.cell (World.block_lt_of_cell? w _ hw122_1)).trans hw122_1)⟩ (fun hHeld => ?_)
        clear hK K
        refine norm_ (a' := ?_) ?_ ?_
        rotate_left
        ·show Act.put _ (some 25) _ = _
         simp only [Act.put, q1, q2, q3, i64_w, i32_w]
         rfl
        refine pure_ (i := 9) (N := some 26) (v := ?_) (a' := ?_) #[true, true, true, true, true, true, true, true, true, true] rfl rfl (any_of HT_.o (by kernel_rfl)) (fun _ _ _ h => h) (Or.inl ⟨by rfl, ?_⟩) ?_ ?_
        rotate_left
        ·intro w'
         go_simp
         with_reducible rfl
        rotate_left
        ·simp only [Act.put, q1, q2, q3, i64_w, i32_w]
         rfl
        refine done_ (done_of HT_.o (by kernel_rfl)) ?_
        try go_wp2
        go_ret
        exact ⟨by first | rfl | (simp [eN, eS] <;> rfl) | (simp [*, eN, eS] <;> rfl), vB HB⟩
      ·rw [if_neg c6] at H
       exact absurd H (by simp)
     ·rw [if_neg c5] at H
      exact absurd H (by simp)
    ·rw [if_neg c4] at H
     have Ae := decide_eq_false c4
     clear c4
     obtain rfl := Option.some.inj H
     go_wp2
     go_ret
     exact ⟨by first | rfl | (simp [eN, eS] <;> rfl) | (simp [*, eN, eS] <;> rfl), vB HB⟩
 ·rw [if_neg c3] at H
  have Aa := beq_eq_false_iff_ne.mpr c3
  have Ab := bne_iff_ne.mpr c3
  have Ac : (l0.length == l1.length) = false := by first | simpa using c3 | (simp at c3 ⊢; omega)
  obtain rfl := Option.some.inj H
  go_enter Try.func57, Try.ntmps57
  go_wp2
  go_ret
  exact ⟨by first | rfl | (simp [eN, eS] <;> rfl) | (simp [*, eN, eS] <;> rfl), vB HB⟩

/-! ### laws_eqBoard: function 18 -/
def laws_eqBoard.f (k : Nat) (a0_0 : Int) (a0_1 : Int) (l0_2 : List (S89)) (a1_0 : Int) (a1_1 : Int) (l1_2 : List (S89)) : Option (Bool) := if a0_0 = a1_0 then (if a0_1 = a1_1 then ((laws_eqCellS.f k l0_2 l1_2).bind fun t126 => (if t126 = true then (some true) else (some false))) else (some false)) else (some false)
set_option maxHeartbeats 8000000 in
set_option maxRecDepth 100000 in
theorem laws_eqBoard.calls (k : Nat) (a0_0 : Int) (a0_1 : Int) (A0_2 : Option Addr) (c0_2 : Nat) (l0_2 : List (S89)) (a1_0 : Int) (a1_1 : Int) (A1_2 : Option Addr) (c1_2 : Nat) (l1_2 : List (S89)) (r : Bool) (w : World) (hr0_2 : Kd.C k89 w A0_2 l0_2.length l0_2) (hc0_2 : l0_2.length ≤ c0_2) (hr1_2 : Kd.C k89 w A1_2 l1_2.length l1_2) (hc1_2 : l1_2.length ≤ c1_2) (h : laws_eqBoard.f k a0_0 a0_1 l0_2 a1_0 a1_1 l1_2 = some r) :
 Calls Try.prog 18 #[.agg #[.int .i64 a0_0, .int .i64 a0_1, .slice A0_2 l0_2.length c0_2], .agg #[.int .i64 a1_0, .int .i64 a1_1, .slice A1_2 l1_2.length c1_2]] w fun e w' => e = .returned (.bool r) ∧ Below w.heap.size w w' := by
 have Bn := Try.underlying32
 have Ae := Z.m hr0_2
 have Ac := Z.m hc0_2
 clear hr0_2 hc0_2
 have Af := Z.m hr1_2
 have Ad := Z.m hc1_2
 clear hr1_2 hc1_2
 have HB := Z.m (Below.refl w.heap.size w)
 have H : (if a0_0 = a1_0 then (if a0_1 = a1_1 then ((laws_eqCellS.f k l0_2 l1_2).bind fun Ab => (if Ab = true then (some true) else (some false))) else (some false)) else (some false)) = some r := h
 clear h
 by_cases c3 : a0_0 = a1_0
 ·rw [if_pos c3] at H
  have B7 := beq_iff_eq.mpr c3
  have Ba := bne_eq_false_iff_eq.mpr c3
  clear c3
  by_cases c4 : a0_1 = a1_1
  ·rw [if_pos c4] at H
   have Bb := beq_iff_eq.mpr c4
   have Bc := bne_eq_false_iff_eq.mpr c4
   clear c4
   replace H := Option.bind_eq_some_iff.mp H
   obtain ⟨Ab, Bd, H⟩ := H
   replace H : (if Ab = true then (some true) else (some false)) = some r := H
   have A5 := Z.m Bd
   clear Bd
   by_cases c6 : Ab = true
   ·subst c6
    have H1 : (some true) = some r := by rw [if_pos rfl] at H; exact H
    clear H
    have H := H1
    clear H1
    obtain rfl := Option.some.inj H
    go_enter Try.func18, Try.ntmps18
    go_wp2_with (first | ((with_reducible refine gq (N := 2) rfl ?_); refine be (N := 2) (cs := #[.int .i64 a0_0, .int .i64 a0_1, .slice A0_2 l0_2.length c0_2]) (t := 32) ?_; intro A9 hg w7 hbox hb; have A0 := Z.m (hbox); have A4 := gW (w := w) HB hg; have A7 := A4; replace HB := bB HB hb; clear hb hbox hg) | ((with_reducible refine gq (N := 3) rfl ?_); refine be (N := 3) (cs := #[.int .i64 a1_0, .int .i64 a1_1, .slice A1_2 l1_2.length c1_2]) (t := 32) ?_; intro Aa hg w8 hbox hb; have A1 := Z.m (hbox); have A6 := gW (w := w) HB hg; have A8 := A6; have A2 := neL A0 hg; have A3 := neG A0 hg; replace A0 := kB A0 hb; replace HB := bB HB hb; clear hb hbox hg; have Bl := A2.o; have Bm := A3.o; have Ag := bc0 A0; have Ah := bc1 A0; have Ai := bc2 A0; have AE := qz A0.o 0; have AF := qz A0.o 1; have AG := qz A0.o 2; have Aj := bc0 A1; have Ak := bc1 A1; have Al := bc2 A1; have AH := qz A1.o 0; have AI := qz A1.o 1; have AJ := qz A1.o 2) | ((with_reducible refine gc (f := 57) rfl ?_); refine gA (some 19) _ #[.slice A0_2 l0_2.length c0_2, .slice A1_2 l1_2.length c1_2] ?_ Try.func57; (with_reducible refine (laws_eqCellS.calls k _ _ l0_2 _ _ l1_2 true _ ?side1 ?side2 ?side3 ?side4 A5.o).mono ?_); (case side1 => repeat (first | exact (Kd.C_below Ae.o HB.o) | (with_reducible refine Kd.C_alloc ?_ _) | (with_reducible refine Kd.C_drewN ?_ _) | (with_reducible refine Kd.C_drew ?_))); (case side2 => exact Ac.o); (case side3 => repeat (first | exact (Kd.C_below Af.o HB.o) | (with_reducible refine Kd.C_alloc ?_ _) | (with_reducible refine Kd.C_drewN ?_ _) | (with_reducible refine Kd.C_drew ?_))); (case side4 => exact Ad.o); rintro e Bo ⟨rfl, hb⟩; refine ⟨_, rfl, ?_⟩; replace A0 := kB A0 hb; replace A1 := kB A1 hb; replace HB := bB HB hb; (try clear hb); (try clear Bk); (try clear hk); (try clear hi)))
    go_ret
    exact ⟨by first | rfl | (simp [eN, eS] <;> rfl) | (simp [*, eN, eS] <;> rfl), vB HB⟩
   ·replace c6 := Bool.eq_false_iff.mpr c6
    subst c6
    have H1 : (some false) = some r := by rw [if_neg (show ¬ (false = true) by decide)] at H; exact H
    clear H
    have H := H1
    clear H1
    obtain rfl := Option.some.inj H
    go_enter Try.func18, Try.ntmps18
    go_wp2_with (first | ((with_reducible refine gq (N := 2) rfl ?_); refine be (N := 2) (cs := #[.int .i64 a0_0, .int .i64 a0_1, .slice A0_2 l0_2.length c0_2]) (t := 32) ?_; intro A9 hg Bp hbox hb; have A0 := Z.m (hbox); have A4 := gW (w := w) HB hg; have A7 := A4; replace HB := bB HB hb; clear hb hbox hg) | ((with_reducible refine gq (N := 3) rfl ?_); refine be (N := 3) (cs := #[.int .i64 a1_0, .int .i64 a1_1, .slice A1_2 l1_2.length c1_2]) (t := 32) ?_; intro Aa hg Bq hbox hb; have A1 := Z.m (hbox); have A6 := gW (w := w) HB hg; have A8 := A6; have A2 := neL A0 hg; have A3 := neG A0 hg; replace A0 := kB A0 hb; replace HB := bB HB hb; clear hb hbox hg; have Be := A2.o; have Bh := A3.o; have Am := bc0 A0; have An := bc1 A0; have Ao := bc2 A0; have AK := qz A0.o 0; have AL := qz A0.o 1; have AM := qz A0.o 2; have Ap := bc0 A1; have Aq := bc1 A1; have Ar := bc2 A1; have AN := qz A1.o 0; have AO := qz A1.o 1; have AP := qz A1.o 2) | ((with_reducible refine gc (f := 57) rfl ?_); refine gA (some 19) _ #[.slice A0_2 l0_2.length c0_2, .slice A1_2 l1_2.length c1_2] ?_ Try.func57; (with_reducible refine (laws_eqCellS.calls k _ _ l0_2 _ _ l1_2 false _ ?side1 ?side2 ?side3 ?side4 A5.o).mono ?_); (case side1 => repeat (first | exact (Kd.C_below Ae.o HB.o) | (with_reducible refine Kd.C_alloc ?_ _) | (with_reducible refine Kd.C_drewN ?_ _) | (with_reducible refine Kd.C_drew ?_))); (case side2 => exact Ac.o); (case side3 => repeat (first | exact (Kd.C_below Af.o HB.o) | (with_reducible refine Kd.C_alloc ?_ _) | (with_reducible refine Kd.C_drewN ?_ _) | (with_reducible refine Kd.C_drew ?_))); (case side4 => exact Ad.o); rintro e Br ⟨rfl, hb⟩; refine ⟨_, rfl, ?_⟩; replace A0 := kB A0 hb; replace A1 := kB A1 hb; replace HB := bB HB hb; (try clear hb); (try clear Bk); (try clear hk); (try clear hi)))
    go_ret
    exact ⟨by first | rfl | (simp [eN, eS] <;> rfl) | (simp [*, eN, eS] <;> rfl), vB HB⟩
  ·rw [if_neg c4] at H
   have Bb := beq_eq_false_iff_ne.mpr c4
   have Bc := bne_iff_ne.mpr c4
   obtain rfl := Option.some.inj H
   go_enter Try.func18, Try.ntmps18
   go_wp2_with (first | ((with_reducible refine gq (N := 2) rfl ?_); refine be (N := 2) (cs := #[.int .i64 a0_0, .int .i64 a0_1, .slice A0_2 l0_2.length c0_2]) (t := 32) ?_; intro A9 hg Bs hbox hb; have A0 := Z.m (hbox); have A4 := gW (w := w) HB hg; have A7 := A4; replace HB := bB HB hb; clear hb hbox hg) | ((with_reducible refine gq (N := 3) rfl ?_); refine be (N := 3) (cs := #[.int .i64 a1_0, .int .i64 a1_1, .slice A1_2 l1_2.length c1_2]) (t := 32) ?_; intro Aa hg Bt hbox hb; have A1 := Z.m (hbox); have A6 := gW (w := w) HB hg; have A8 := A6; have A2 := neL A0 hg; have A3 := neG A0 hg; replace A0 := kB A0 hb; replace HB := bB HB hb; clear hb hbox hg; have Bf := A2.o; have Bi := A3.o; have As := bc0 A0; have At := bc1 A0; have Au := bc2 A0; have AQ := qz A0.o 0; have AR := qz A0.o 1; have AS := qz A0.o 2; have Av := bc0 A1; have Aw := bc1 A1; have Ax := bc2 A1; have AT := qz A1.o 0; have AU := qz A1.o 1; have AV := qz A1.o 2))
   go_ret
   exact ⟨by first | rfl | (simp [eN, eS] <;> rfl) | (simp [*, eN, eS] <;> rfl), vB HB⟩
 ·rw [if_neg c3] at H
  have B7 := beq_eq_false_iff_ne.mpr c3
  have Ba := bne_iff_ne.mpr c3
  obtain rfl := Option.some.inj H
  go_enter Try.func18, Try.ntmps18
  go_wp2_with (first | ((with_reducible refine gq (N := 2) rfl ?_); refine be (N := 2) (cs := #[.int .i64 a0_0, .int .i64 a0_1, .slice A0_2 l0_2.length c0_2]) (t := 32) ?_; intro A9 hg Bu hbox hb; have A0 := Z.m (hbox); have A4 := gW (w := w) HB hg; have A7 := A4; replace HB := bB HB hb; clear hb hbox hg) | ((with_reducible refine gq (N := 3) rfl ?_); refine be (N := 3) (cs := #[.int .i64 a1_0, .int .i64 a1_1, .slice A1_2 l1_2.length c1_2]) (t := 32) ?_; intro Aa hg Bv hbox hb; have A1 := Z.m (hbox); have A6 := gW (w := w) HB hg; have A8 := A6; have A2 := neL A0 hg; have A3 := neG A0 hg; replace A0 := kB A0 hb; replace HB := bB HB hb; clear hb hbox hg; have Bg := A2.o; have Bj := A3.o; have Ay := bc0 A0; have Az := bc1 A0; have AA := bc2 A0; have AW := qz A0.o 0; have AX := qz A0.o 1; have AY := qz A0.o 2; have AB := bc0 A1; have AC := bc1 A1; have AD := bc2 A1; have AZ := qz A1.o 0; have B0 := qz A1.o 1; have B2 := qz A1.o 2))
  go_ret
  exact ⟨by first | rfl | (simp [eN, eS] <;> rfl) | (simp [*, eN, eS] <;> rfl), vB HB⟩

end Go.Proofs.Ytoklfgjemfojgaa.PAll
