/- Began as a text that print.sh wrote (of the functions named below); turned and shortened by this session. -/
import Derived.Test.YtklmdnlambinaaaDoorG0
import Derived.Test.YtklmdnlambinaaaDoorG2
namespace Go.Proofs.YtklmdnlambinaaaDoor.PAll
open Go.RowKit Go.Proofs.YtklmdnlambinaaaDoorW.PrintWords Go.Proofs.YtklmdnlambinaaaDoorW.PrintLast Go.Proofs.YtklmdnlambinaaaDoorW.PrintMore
attribute [local go_sem] max2_int min2_int max_two min_two max_three min_three max_four min_four   -- for this text's walks alone
set_option linter.unusedVariables false
set_option linter.unusedSimpArgs false

/-! ### laws_toCellS: function 41 -/
def laws_toCellS.l0 : Nat → List (S79) → List (S62) → Int → Option ((List (S62)))
 | 0, _, _, _ => none
 | k + 1, x0, x3, x4 => if x4 < (x0.length : Int) then (if 0 ≤ x4 then ((laws_toCell.f ((rd_T79 x0 x4).f0) ((rd_T79 x0 x4).f1)).bind fun bt162 => (if x4 < (x3.length : Int) then (laws_toCellS.l0 k x0 (x3.set (x4 : Int).toNat (⟨bt162.1, bt162.2⟩ : S62)) (wrap64 (x4 + 1))) else (none))) else (none)) else (some x3)
def laws_toCellS.f (k : Nat) (l0 : List (S79)) : Option ((List (S62))) := if 0 ≤ (l0.length : Int) then (if ((l0.length : Int) : Int).toNat ≤ 17592186044416 then (laws_toCellS.l0 k l0 (List.replicate ((l0.length : Int) : Int).toNat z62) 0) else (none)) else (none)
set_option maxHeartbeats 8000000 in
set_option maxRecDepth 100000 in
theorem laws_toCellS.calls (k : Nat) (A0 : Option Addr) (c0 : Nat) (l0 : List (S79)) (r : List (S62)) (w : World) (hr0 : Kd.C k79 w A0 l0.length l0) (hc0 : l0.length ≤ c0) (h : laws_toCellS.f k l0 = some r) :
 Calls Tryd.prog 41 #[.slice A0 l0.length c0] w fun e w' => ∃ v0_ : Value, e = .returned (v0_) ∧ Kd.R k62 62 w' w.heap.size (fun _ => True) v0_ r ∧ Below w.heap.size w w' := by
 have AX := Tryd.underlying79
 have AW := Tryd.underlying62
 have AR := Z.m hr0
 have AY := Z.m hc0
 clear hr0 hc0
 have HB := Z.m (Below.refl w.heap.size w)
 have H : (if 0 ≤ (l0.length : Int) then (if ((l0.length : Int) : Int).toNat ≤ 17592186044416 then (laws_toCellS.l0 k l0 (List.replicate ((l0.length : Int) : Int).toNat z62) 0) else (none)) else (none)) = some r := h
 clear h
 by_cases c2 : 0 ≤ (l0.length : Int)
 ·rw [if_pos c2] at H
  have AC := eq_true c2
  have AD := decide_eq_true c2
  clear c2
  by_cases c3 : ((l0.length : Int) : Int).toNat ≤ 17592186044416
  ·rw [if_pos c3] at H
   have AE := eq_true c3
   have AF := decide_eq_true c3
   clear c3
   obtain ⟨AB, A7⟩ : ∃ y_ : List (S62), y_ = (List.replicate ((l0.length : Int) : Int).toNat z62) := ⟨_, rfl⟩
   replace H : (laws_toCellS.l0 k l0 AB 0) = some r := by first | (rw [A7]; with_reducible exact H) | (have H2_ := (Option.bind_some _ _).symm.trans H; rw [A7]; with_reducible exact H2_) | (have H2_ := (Option.bind_some _ _).symm.trans H; with_reducible exact H2_) | with_reducible exact H | (rw [A7]; exact H) | exact H
   have Ag := Z.m A7
   clear A7
   have H' := Z.m H
   clear H
   go_enter Tryd.func41, Tryd.ntmps41
   go_wp2_with (first | ((with_reducible refine gq (N := 7) rfl ?_); refine Kd.R_make k62 _ 62 rfl (N := 7) rfl 22 _ _ rfl (l0.length : Int) rfl rfl Tryd.underlying22 (.agg #[(.int .i64 0), (.int .i64 0)]) 16 info62 rfl (by decide) (by omega) z62 (ok := fun _ => True) (okp := fun _ => True) (k62_mkM _ _ _ z62 ) (fun _ hk => hk) trivial (ofD) (Nat.le_trans (Nat.mul_le_mul_right _ (ofD : (l0.length : Int).toNat ≤ 17592186044416)) (by omega)) (Below.refl _ _) (Nat.le_refl _) ?_; intro AL w4 AA hb hg_ hnew_; clear hg_ hnew_; (first | rw [← Ag.o] at AA | (simp only [Int.reduceToNat] at AA; rw [← Ag.o] at AA)); have Ar := Z.m (Kd.R_lower AA (below_size (vB HB))); replace HB := bB HB hb; clear hb AA))
   go_loopg [4] k (fun kq v4 w' => ∃ (A2 : List (S62)) (A1 : Int), v4 = .int .i64 A1 ∧ Z (laws_toCellS.l0 kq l0 A2 A1 = some r) ∧ Z (kq ≤ k) ∧ Z (Kd.R k62 62 w' w.heap.size (fun _ => True) AL A2) ∧ Z (Below w.heap.size w w'))
   case atStart => exact ⟨(AB), (0), (by first | rfl | (simp; done) | (simp [*]; done)), H', ⟨Nat.le_refl _⟩, ⟨vR Ar⟩, ⟨vB HB⟩⟩
   case round =>
    clear H'
    (try clear AC); (try clear AD); (try clear AE); (try clear AF)
    obtain ⟨A2, A1, rfl, HA, AO, A3, HB⟩ := hrel
    cases gk with
    | zero => exact absurd HA.o (by simp [laws_toCellS.l0])
    | succ k1 =>
     have H := HA.o
     clear HA
     simp only [laws_toCellS.l0] at H
     by_cases c6 : A1 < (l0.length : Int)
     ·rw [if_pos c6] at H
      have AG := decide_eq_true c6
      clear c6
      by_cases c7 : 0 ≤ A1
      ·rw [if_pos c7] at H
       have AS := decide_eq_true c7
       clear c7
       replace H := Option.bind_eq_some_iff.mp H
       obtain ⟨⟨Aa, Ab⟩, AN, H⟩ := H
       replace H : (if A1 < (A2.length : Int) then (laws_toCellS.l0 k1 l0 (A2.set (A1 : Int).toNat (⟨Aa, Ab⟩ : S62)) (wrap64 (A1 + 1))) else (none)) = some r := H
       have A8 := Z.m AN
       clear AN
       by_cases c9 : A1 < (A2.length : Int)
       ·rw [if_pos c9] at H
        have AT := decide_eq_true c9
        clear c9
        obtain ⟨Ao, A9⟩ : ∃ y_ : List (S62), y_ = (A2.set (A1 : Int).toNat (⟨Aa, Ab⟩ : S62)) := ⟨_, rfl⟩
        replace H : (laws_toCellS.l0 k1 l0 Ao (wrap64 (A1 + 1))) = some r := by first | (rw [A9]; with_reducible exact H) | (have H2_ := (Option.bind_some _ _).symm.trans H; rw [A9]; with_reducible exact H2_) | (have H2_ := (Option.bind_some _ _).symm.trans H; with_reducible exact H2_) | with_reducible exact H | (rw [A9]; exact H) | exact H
        have At := Z.m A9
        clear A9
        have H' := Z.m H
        clear H
        have p161 : 0 ≤ (A1 : Int) := ofD
        have q161 : A1 < (l0.length : Int) := ofD
        obtain ⟨AP, e161, A5, A6⟩ := at_T79 AR.o A1 p161 q161
        cases e161
        replace A5 := (HB.o.cell (World.block_lt_of_cell? w _ A5)).trans A5
        replace A6 := (HB.o.cell (World.block_lt_of_cell? w _ A6)).trans A6
        replace p161 := eq_true p161
        replace q161 := eq_true q161
        go_wp2_with (first | ((with_reducible refine gc (f := 52) rfl ?_); refine gA (some 20) _ #[.agg #[.int .i64 ((rd_T79 l0 A1).f0), .int .i64 ((rd_T79 l0 A1).f1)]] ?_ Tryd.func52; (with_reducible refine (laws_toCell.calls ((rd_T79 l0 A1).f0) ((rd_T79 l0 A1).f1) Aa Ab _ A8.o).mono ?_); rintro e An ⟨rfl, hb⟩; refine ⟨_, rfl, ?_⟩; replace A3 := Z.m (Kd.Rb (vR A3) hb); replace HB := bB HB hb; (try clear hb); (try clear AZ); (try clear hk); (try clear hi); have p10 : 0 ≤ (A1 : Int) := ofD; have q10 : (A1 : Int) < ((A2.length : Int) : Int) := ofD; obtain ⟨A4, Au, Av, Aw, gl10, cl10, Aq⟩ := Kd.R_form A3.o (by omega); (first | cases Av | (injection Av with ea_ en_ ec_; (first | subst ea_ | (injection ea_ with ea_; subst ea_)); subst ec_; clear en_)); have Ap := Z.m Aw; have AQ := Z.m Aq; clear Aw gl10 Aq; obtain ⟨AU, Az, Ax, Ad, Ae⟩ := Kd.R_elem A3.o z62 (A1 : Int) p10 q10; obtain rfl := k62_openM Ax; have AJ : An.cell? ⟨A4, (A1 : Int).toNat * 2, none⟩ = some (.int .i64 ((rd_T62 A2 A1).f0)) := Ad 0 _ rfl; have AK : An.cell? ⟨A4, (A1 : Int).toNat * 2 + 1, none⟩ = some (.int .i64 ((rd_T62 A2 A1).f1)) := Ad 1 _ rfl; have AH : An.frozen? ⟨A4, (A1 : Int).toNat * 2, none⟩ = false := Ae 0; have AI : An.frozen? ⟨A4, (A1 : Int).toNat * 2 + 1, none⟩ = false := Ae 1; (try clear Az); (try clear Ad); (try clear Ae); (try clear Ax); replace p10 := eq_true p10; replace q10 := eq_true q10; have As := Z.m (show Kd.R k62 62 An w.heap.size (fun _ => True) (.slice (some ⟨A4, 0, none⟩) A2.length Au) A2 from (vR A3)); obtain ⟨AV, Ah, Ay, Ac, Af⟩ := Kd.R_elem As.o z62 (A1 : Int) (ofD) (by have h_ : (A1 : Int) < ((A2.length : Int) : Int) := ofD; first | exact h_ | (have e_ := (Kd.Rr A3.o).1; omega) | simpa using h_); obtain rfl := k62_openM Ay; have Ai := Kd.R_seg As.o (A1 : Int) (ofD) (by have h_ : (A1 : Int) < ((A2.length : Int) : Int) := ofD; first | exact h_ | (have e_ := (Kd.Rr A3.o).1; omega) | simpa using h_) (seg := [.int .i64 Aa, .int .i64 Ab]) (j := 0) Ah Ac (show 2 ≤ 2 from by decide) (x' := (⟨Aa, Ab⟩ : S62)) (k62_mkM _ _ _ (⟨Aa, Ab⟩ : S62) ) (fun _ hk => hk); have Al := Ac 0 _ rfl; (try simp only [show (k62).sz = 2 from rfl, Nat.mul_one, Nat.add_zero] at Al); have Aj := Af 0; (try simp only [show (k62).sz = 2 from rfl, Nat.mul_one, Nat.add_zero] at Aj); have Am := Ac 1 _ rfl; (try simp only [show (k62).sz = 2 from rfl, Nat.mul_one, Nat.add_zero] at Am); have Ak := Af 1; (try simp only [show (k62).sz = 2 from rfl, Nat.mul_one, Nat.add_zero] at Ak); (try clear Ah); (try clear Ac); (try clear Af); (try clear Ay)) | ((with_reducible refine gt (t := 62) (p := 21) rfl ?_); refine store_event (t := 62) (p := 21) (v := ?vo_w13) (w1 := ((An.setCell ⟨A4, (A1 : Int).toNat * 2, none⟩ (.int .i64 Aa)).setCell ⟨A4, (A1 : Int).toNat * 2 + 1, none⟩ (.int .i64 Ab))) ?hg ?ho ?hn ?hr ?_; (case ho => rfl); (case hg => rfl); (case hn => rfl); (case hr => first | (go_simp; done) | (go_simp; rfl)); intro AM hw; have hg : An.grownBy AM (some A4) := (by rw [hw]; exact Ai.2); have hp_ : Kd.R k62 62 AM w.heap.size (fun _ => True) (.slice (some ⟨A4, 0, none⟩) A2.length Au) Ao := (by rw [hw, At.o]; exact Ai.1); clear Ai; replace A3 := Z.m (hp_); replace HB := Z.m ((by rw [hw]; exact qx (qx (HB.o) Ap.o) Ap.o : Below w.heap.size w AM)); clear hg hw hp_))
        go_roundg k1
        case measure => have := AO.o; omega
        case rel => exact ⟨(Ao), (wrap64 (A1 + 1)), (by first | rfl | (simp; done) | (simp [*]; done)), H', ⟨by have := AO.o; omega⟩, ⟨vR A3⟩, ⟨vB HB⟩⟩
       ·rw [if_neg c9] at H
        exact absurd H (by simp)
      ·rw [if_neg c7] at H
       exact absurd H (by simp)
     ·rw [if_neg c6] at H
      have AG := decide_eq_false c6
      clear c6
      obtain rfl := Option.some.inj H
      go_wp2
      go_ret
      exact ⟨_, by first | rfl | (simp [eN, eS] <;> rfl) | (simp [*, eN, eS] <;> rfl), vR A3, vB HB⟩
  ·rw [if_neg c3] at H
   exact absurd H (by simp)
 ·rw [if_neg c2] at H
  exact absurd H (by simp)

/-! ### laws_toBoard: function 25 -/
def laws_toBoard.f (k : Nat) (a0_0 : Int) (a0_1 : Int) (l0_2 : List (S79)) : Option (Int × Int × (List (S62))) := (laws_toCellS.f k l0_2).bind fun t168 => (some (a0_0, a0_1, t168))
set_option maxHeartbeats 8000000 in
set_option maxRecDepth 100000 in
theorem laws_toBoard.calls (k : Nat) (a0_0 : Int) (a0_1 : Int) (A0_2 : Option Addr) (c0_2 : Nat) (l0_2 : List (S79)) (r1 : Int) (r2 : Int) (r3 : List (S62)) (w : World) (hr0_2 : Kd.C k79 w A0_2 l0_2.length l0_2) (hc0_2 : l0_2.length ≤ c0_2) (h : laws_toBoard.f k a0_0 a0_1 l0_2 = some (r1, r2, r3)) :
 Calls Tryd.prog 25 #[.agg #[.int .i64 a0_0, .int .i64 a0_1, .slice A0_2 l0_2.length c0_2]] w fun e w' => ∃ v2_ : Value, e = .returned (.agg #[.int .i64 r1, .int .i64 r2, v2_]) ∧ Kd.R k62 62 w' w.heap.size (fun _ => True) v2_ r3 ∧ Below w.heap.size w w' := by
 have AX := Tryd.underlying32
 have AW := Tryd.underlying24
 have Ah := Z.m hr0_2
 have Ag := Z.m hc0_2
 clear hr0_2 hc0_2
 have HB := Z.m (Below.refl w.heap.size w)
 have H : ((laws_toCellS.f k l0_2).bind fun Aa => (some (a0_0, a0_1, Aa))) = some (r1, r2, r3) := h
 clear h
 replace H := Option.bind_eq_some_iff.mp H
 obtain ⟨Aa, AL, H⟩ := H
 replace H : (some (a0_0, a0_1, Aa)) = some (r1, r2, r3) := H
 have A2 := Z.m AL
 clear AL
 simp only [Option.some.injEq, Prod.mk.injEq] at H
 obtain ⟨rfl, rfl, rfl⟩ := H
 go_enter Tryd.func25, Tryd.ntmps25
 go_wp2_with (first | ((with_reducible refine gq (N := 1) rfl ?_); refine be (N := 1) (cs := #[.int .i64 a0_0, .int .i64 a0_1, .slice A0_2 l0_2.length c0_2]) (t := 32) ?_; intro Ai hg w3 hbox hb; have A0 := Z.m (hbox); have Ad := gW (w := w) HB hg; have AM := Ad; replace HB := bB HB hb; clear hb hbox hg) | ((with_reducible refine gq (N := 2) rfl ?_); refine be (N := 2) (cs := #[.int .i64 0, .int .i64 0, .slice none 0 0]) (t := 24) ?_; intro Ac hg w4 hbox hb; have A3 := Z.m (hbox); have Ae := gW (w := w) HB hg; have AN := Ae; have A6 := neL A0 hg; have A7 := neG A0 hg; replace A0 := kB A0 hb; replace HB := bB HB hb; clear hb hbox hg) | ((with_reducible refine gq (N := 3) rfl ?_); refine be (N := 3) (cs := #[.int .i64 0, .int .i64 0, .slice none 0 0]) (t := 24) ?_; intro Aj hg w5 hbox hb; have A1 := Z.m (hbox); have Af := gW (w := w) HB hg; have AO := Af; have A5 := neL A0 hg; have A8 := neG A0 hg; have A4 := neL A3 hg; have A9 := neG A3 hg; replace A0 := kB A0 hb; replace A3 := kB A3 hb; replace HB := bB HB hb; clear hb hbox hg; have AQ := A6.o; have AT := A7.o; have AR := A5.o; have AU := A8.o; have AF := bc0 A0; have AG := bc1 A0; have AH := bc2 A0; have AI := qz A0.o 0; have AJ := qz A0.o 1; have AK := qz A0.o 2; have AS := A9.o; have AV := A4.o; have Ak := bc0 A1; have Al := bc1 A1; have Am := bc2 A1; have At := qz A1.o 0; have Au := qz A1.o 1; have Av := qz A1.o 2) | ((with_reducible refine gc (f := 41) rfl ?_); refine gA (some 12) _ #[.slice A0_2 l0_2.length c0_2] ?_ Tryd.func41; (with_reducible refine (laws_toCellS.calls k _ _ l0_2 Aa _ ?side1 ?side2 A2.o).mono ?_); (case side1 => exact Kd.C_below Ah.o (vB HB)); (case side2 => exact Ag.o); rintro e B0 ⟨AY, rfl, AP, hb⟩; refine ⟨_, rfl, ?_⟩; have Ab := Z.m (Kd.R_lower AP (below_size (vB HB))); replace A0 := Z.m (qb (g := Ai) (o := .cells #[.int .i64 a0_0, .int .i64 a0_1, .slice A0_2 l0_2.length c0_2] 32 (0, 0)) (by refine bK ?_; (iterate 2 refine qF ?_ A5); exact A0.o) hb); replace A3 := Z.m (qb (g := Ac) (o := .cells #[.int .i64 0, .int .i64 0, .slice none 0 0] 24 (0, 0)) (by refine bK ?_; (iterate 2 refine qF ?_ A4); exact A3.o) hb); replace A1 := Z.m (qb (g := Aj) (o := .cells #[.int .i64 a0_0, .int .i64 a0_1, .slice none 0 0] 24 (0, 0)) (by refine bK ?_; refine qp (cs := #[iV a0_0, iV 0, .slice none 0 0]) ?_ 1 _ rfl; refine bK ?_; refine qp (cs := #[iV 0, iV 0, .slice none 0 0]) ?_ 0 _ rfl; refine bK ?_; exact A1.o) hb); replace HB := bB HB hb; (try clear hb); (try clear AZ); (try clear hk); (try clear hi); (try clear AP); obtain ⟨AC, AD, AE⟩ := Kd.R_slice Ab.o; subst AE; have An := bc0 A1; have Ao := bc1 A1; have Ap := bc2 A1; have Aw := qz A1.o 0; have Ax := qz A1.o 1; have Ay := qz A1.o 2; have Aq := bc0 A3; have Ar := bc1 A3; have As := bc2 A3; have Az := qz A3.o 0; have AA := qz A3.o 1; have AB := qz A3.o 2))
 refine bodyPost_ret (results_cell_row rfl _ _ Ac 24 #[.int .i64 a0_0, .int .i64 a0_1, .slice AC Aa.length AD] (0, 0) _ rfl (by refine bK ?_; apply st3; refine bK ?_; refine qF ?_ A4; exact A3.o) Tryd.underlying24 rfl (by kernel_rfl)) rfl ?_
 exact ⟨_, by first | rfl | (simp [eN, eS] <;> rfl) | (simp [*, eN, eS] <;> rfl), by refine rK ?_; exact Kd.Rm (rf (rf (rf (rf1 (Kd.Ry (Kd.Ry Ab.o A1.o (by decide)) A3.o (by decide)))))) (fun _ hk => trivial), vB HB⟩

/-! ### laws_toMachine: function 12 -/
def laws_toMachine.f (k : Nat) (a0_0 : Int) (a0_1 : Int) (l0_2 : List (S79)) (a0_3 : Int) (a0_4 : Int) (a0_5 : Int) (a0_6 : Int) (a0_7 : Int) : Option (Int × Int × (List (S62)) × Int × Int × Int × Int × Int) := (laws_toBoard.f k a0_0 a0_1 l0_2).bind fun bt174 => (some (bt174.1, bt174.2.1, bt174.2.2, a0_3, a0_4, a0_5, a0_6, a0_7))
set_option maxHeartbeats 8000000 in
set_option maxRecDepth 100000 in
theorem laws_toMachine.calls (k : Nat) (a0_0 : Int) (a0_1 : Int) (A0_2 : Option Addr) (c0_2 : Nat) (l0_2 : List (S79)) (a0_3 : Int) (a0_4 : Int) (a0_5 : Int) (a0_6 : Int) (a0_7 : Int) (r1 : Int) (r2 : Int) (r3 : List (S62)) (r4 : Int) (r5 : Int) (r6 : Int) (r7 : Int) (r8 : Int) (w : World) (hr0_2 : Kd.C k79 w A0_2 l0_2.length l0_2) (hc0_2 : l0_2.length ≤ c0_2) (h : laws_toMachine.f k a0_0 a0_1 l0_2 a0_3 a0_4 a0_5 a0_6 a0_7 = some (r1, r2, r3, r4, r5, r6, r7, r8)) :
 Calls Tryd.prog 12 #[.agg #[.int .i64 a0_0, .int .i64 a0_1, .slice A0_2 l0_2.length c0_2, .int .i64 a0_3, .int .i64 a0_4, .int .i64 a0_5, .int .i64 a0_6, .int .i64 a0_7]] w fun e w' => ∃ v2_ : Value, e = .returned (.agg #[.int .i64 r1, .int .i64 r2, v2_, .int .i64 r4, .int .i64 r5, .int .i64 r6, .int .i64 r7, .int .i64 r8]) ∧ Kd.R k62 62 w' w.heap.size (fun _ => True) v2_ r3 ∧ Below w.heap.size w w' := by
 have BG := Tryd.underlying34
 have BH := Tryd.underlying39
 have BF := Tryd.underlying32
 have BE := Tryd.underlying24
 have Ai := Z.m hr0_2
 have Ah := Z.m hc0_2
 clear hr0_2 hc0_2
 have HB := Z.m (Below.refl w.heap.size w)
 have H : ((laws_toBoard.f k a0_0 a0_1 l0_2).bind fun bt174 => (some (bt174.1, bt174.2.1, bt174.2.2, a0_3, a0_4, a0_5, a0_6, a0_7))) = some (r1, r2, r3, r4, r5, r6, r7, r8) := h
 clear h
 replace H := Option.bind_eq_some_iff.mp H
 obtain ⟨⟨Ab, Ac, Ad⟩, Br, H⟩ := H
 replace H : (some (Ab, Ac, Ad, a0_3, a0_4, a0_5, a0_6, a0_7)) = some (r1, r2, r3, r4, r5, r6, r7, r8) := H
 have A2 := Z.m Br
 clear Br
 simp only [Option.some.injEq, Prod.mk.injEq] at H
 obtain ⟨rfl, rfl, rfl, rfl, rfl, rfl, rfl, rfl⟩ := H
 go_enter Tryd.func12, Tryd.ntmps12
 go_wp2_with (first | ((with_reducible refine gq (N := 1) rfl ?_); refine be (N := 1) (cs := #[.int .i64 a0_0, .int .i64 a0_1, .slice A0_2 l0_2.length c0_2, .int .i64 a0_3, .int .i64 a0_4, .int .i64 a0_5, .int .i64 a0_6, .int .i64 a0_7]) (t := 34) ?_; intro Bv hg w3 hbox hb; have A0 := Z.m (hbox); have Ae := gW (w := w) HB hg; have Bs := Ae; replace HB := bB HB hb; clear hb hbox hg) | ((with_reducible refine gq (N := 2) rfl ?_); refine be (N := 2) (cs := #[.int .i64 0, .int .i64 0, .slice none 0 0, .int .i64 0, .int .i64 0, .int .i64 0, .int .i64 0, .int .i64 0]) (t := 39) ?_; intro Aj hg w4 hbox hb; have A1 := Z.m (hbox); have Af := gW (w := w) HB hg; have Bt := Af; have A5 := neL A0 hg; have A7 := neG A0 hg; replace A0 := kB A0 hb; replace HB := bB HB hb; clear hb hbox hg) | ((with_reducible refine gq (N := 3) rfl ?_); refine be (N := 3) (cs := #[.int .i64 0, .int .i64 0, .slice none 0 0, .int .i64 0, .int .i64 0, .int .i64 0, .int .i64 0, .int .i64 0]) (t := 39) ?_; intro Bw hg w5 hbox hb; have A3 := Z.m (hbox); have Ag := gW (w := w) HB hg; have Bu := Ag; have A6 := neL A0 hg; have A8 := neG A0 hg; have A4 := neL A1 hg; have A9 := neG A1 hg; replace A0 := kB A0 hb; replace A1 := kB A1 hb; replace HB := bB HB hb; clear hb hbox hg; have BA := A5.o; have BC := A7.o; have BB := A6.o; have BD := A8.o; have Bb := bc0 A0; have Bc := bc1 A0; have Bd := bc2 A0; have Be := bc3 A0; have Bf := bc4 A0; have Bg := bc5 A0; have Bh := bc6 A0; have Bi := bc7 A0; have Bj := qz A0.o 0; have Bk := qz A0.o 1; have Bl := qz A0.o 2; have Bm := qz A0.o 3; have Bn := qz A0.o 4; have Bo := qz A0.o 5; have Bp := qz A0.o 6; have Bq := qz A0.o 7) | ((with_reducible refine gc (f := 25) rfl ?_); refine gA (some 6) _ #[.agg #[.int .i64 a0_0, .int .i64 a0_1, .slice A0_2 l0_2.length c0_2]] ?_ Tryd.func25; (with_reducible refine (laws_toBoard.calls k a0_0 a0_1 _ _ l0_2 Ab Ac Ad _ ?side1 ?side2 A2.o).mono ?_); (case side1 => repeat (first | exact (Kd.C_below Ai.o HB.o) | (with_reducible refine Kd.C_alloc ?_ _) | (with_reducible refine Kd.C_drewN ?_ _) | (with_reducible refine Kd.C_drew ?_))); (case side2 => exact Ah.o); rintro e w9 ⟨BI, rfl, Bz, hb⟩; refine ⟨_, rfl, ?_⟩; have Aa := Z.m (Kd.R_lower Bz (below_size (vB HB))); replace A0 := kB A0 hb; replace A1 := kB A1 hb; replace A3 := kB A3 hb; replace HB := bB HB hb; (try clear hb); (try clear BJ); (try clear hk); (try clear hi); (try clear Bz); have Bx := A9.o; have By := A4.o; have Ak := bc0 A3; have Al := bc1 A3; have Am := bc2 A3; have An := bc3 A3; have Ao := bc4 A3; have Ap := bc5 A3; have Aq := bc6 A3; have Ar := bc7 A3; have AI := qz A3.o 0; have AJ := qz A3.o 1; have AK := qz A3.o 2; have AL := qz A3.o 3; have AM := qz A3.o 4; have AN := qz A3.o 5; have AO := qz A3.o 6; have AP := qz A3.o 7; obtain ⟨B8, B9, Ba⟩ := Kd.R_slice Aa.o; subst Ba; have As := bc0 A0; have At := bc1 A0; have Au := bc2 A0; have Av := bc3 A0; have Aw := bc4 A0; have Ax := bc5 A0; have Ay := bc6 A0; have Az := bc7 A0; have AQ := qz A0.o 0; have AR := qz A0.o 1; have AS := qz A0.o 2; have AT := qz A0.o 3; have AU := qz A0.o 4; have AV := qz A0.o 5; have AW := qz A0.o 6; have AX := qz A0.o 7; have AA := bc0 A1; have AB := bc1 A1; have AC := bc2 A1; have AD := bc3 A1; have AE := bc4 A1; have AF := bc5 A1; have AG := bc6 A1; have AH := bc7 A1; have AY := qz A1.o 0; have AZ := qz A1.o 1; have B0 := qz A1.o 2; have B1 := qz A1.o 3; have B2 := qz A1.o 4; have B4 := qz A1.o 5; have B5 := qz A1.o 6; have B7 := qz A1.o 7))
 refine bodyPost_ret (results_cell_row rfl _ _ Aj 39 #[.int .i64 Ab, .int .i64 Ac, .slice B8 Ad.length B9, .int .i64 a0_3, .int .i64 a0_4, .int .i64 a0_5, .int .i64 a0_6, .int .i64 a0_7] (0, 0) _ rfl (by refine bK ?_; apply st8; refine bK ?_; (iterate 8 refine qF ?_ A4); exact A1.o) Tryd.underlying39 rfl (by kernel_rfl)) rfl ?_
 exact ⟨_, by first | rfl | (simp [eN, eS] <;> rfl) | (simp [*, eN, eS] <;> rfl), by refine rK ?_; exact Kd.Rm (rf (rf (rf (rf (rf (rf (rf (rf (rf1 (rf1 (rf1 (rf1 (rf1 (rf1 (rf1 (rf1 (Kd.Ry (Kd.Ry Aa.o A3.o (by decide)) A1.o (by decide)))))))))))))))))) (fun _ hk => trivial), vB HB⟩

/-! ### impl_IsCell: function 60 -/
def impl_IsCell.f (a0_0 : Int) (a0_1 : Int) : Option (Bool) := if a0_0 < 0 then (some false) else (if a0_0 > 7 then (some false) else (if a0_1 < 0 then (some false) else (if a0_1 > 1 then (some false) else (if a0_1 = 0 then (some true) else (if a0_0 = 3 then (some true) else (some (a0_0 == 6)))))))
set_option maxHeartbeats 8000000 in
set_option maxRecDepth 100000 in
theorem impl_IsCell.calls (a0_0 : Int) (a0_1 : Int) (r : Bool) (w : World) (h : impl_IsCell.f a0_0 a0_1 = some r) :
 Calls Tryd.prog 60 #[.agg #[.int .i64 a0_0, .int .i64 a0_1]] w fun e w' => e = .returned (.bool r) ∧ Below w.heap.size w w' := by
 have AE := Tryd.underlying62
 have HB := Z.m (Below.refl w.heap.size w)
 have H : (if a0_0 < 0 then (some false) else (if a0_0 > 7 then (some false) else (if a0_1 < 0 then (some false) else (if a0_1 > 1 then (some false) else (if a0_1 = 0 then (some true) else (if a0_0 = 3 then (some true) else (some (a0_0 == 6)))))))) = some r := h
 clear h
 by_cases c2 : a0_0 < 0
 ·rw [if_pos c2] at H
  have At := decide_eq_true c2
  clear c2
  obtain rfl := Option.some.inj H
  go_enter Tryd.func60, Tryd.ntmps60
  go_wp2_with (first | ((with_reducible refine gq (N := 1) rfl ?_); refine be (N := 1) (cs := #[.int .i64 a0_0, .int .i64 a0_1]) (t := 62) ?_; intro A3 hg w3 hbox hb; have A0 := Z.m (hbox); have A1 := gW (w := w) HB hg; have A2 := A1; replace HB := bB HB hb; clear hb hbox hg; have Aw := bc0 A0; have Ax := bc1 A0; have AA := qz A0.o 0; have AB := qz A0.o 1))
  go_ret
  exact ⟨by first | rfl | (simp [eN, eS] <;> rfl) | (simp [*, eN, eS] <;> rfl), vB HB⟩
 ·rw [if_neg c2] at H
  have At := decide_eq_false c2
  clear c2
  by_cases c5 : a0_0 > 7
  ·rw [if_pos c5] at H
   have Au := decide_eq_true c5
   clear c5
   obtain rfl := Option.some.inj H
   go_enter Tryd.func60, Tryd.ntmps60
   go_wp2_with (first | ((with_reducible refine gq (N := 1) rfl ?_); refine be (N := 1) (cs := #[.int .i64 a0_0, .int .i64 a0_1]) (t := 62) ?_; intro A3 hg w6 hbox hb; have A0 := Z.m (hbox); have A1 := gW (w := w) HB hg; have A2 := A1; replace HB := bB HB hb; clear hb hbox hg; have Ay := bc0 A0; have Az := bc1 A0; have AC := qz A0.o 0; have AD := qz A0.o 1))
   go_ret
   exact ⟨by first | rfl | (simp [eN, eS] <;> rfl) | (simp [*, eN, eS] <;> rfl), vB HB⟩
  ·rw [if_neg c5] at H
   have Au := decide_eq_false c5
   clear c5
   by_cases c8 : a0_1 < 0
   ·rw [if_pos c8] at H
    have Av := decide_eq_true c8
    clear c8
    obtain rfl := Option.some.inj H
    go_enter Tryd.func60, Tryd.ntmps60
    go_wp2_with (first | ((with_reducible refine gq (N := 1) rfl ?_); refine be (N := 1) (cs := #[.int .i64 a0_0, .int .i64 a0_1]) (t := 62) ?_; intro A3 hg w9 hbox hb; have A0 := Z.m (hbox); have A1 := gW (w := w) HB hg; have A2 := A1; replace HB := bB HB hb; clear hb hbox hg; have A9 := bc0 A0; have Aa := bc1 A0; have Aj := qz A0.o 0; have Ak := qz A0.o 1))
    go_ret
    exact ⟨by first | rfl | (simp [eN, eS] <;> rfl) | (simp [*, eN, eS] <;> rfl), vB HB⟩
   ·rw [if_neg c8] at H
    have Av := decide_eq_false c8
    clear c8
    by_cases c11 : a0_1 > 1
    ·rw [if_pos c11] at H
     have A4 := decide_eq_true c11
     clear c11
     obtain rfl := Option.some.inj H
     go_enter Tryd.func60, Tryd.ntmps60
     go_wp2_with (first | ((with_reducible refine gq (N := 1) rfl ?_); refine be (N := 1) (cs := #[.int .i64 a0_0, .int .i64 a0_1]) (t := 62) ?_; intro A3 hg AF hbox hb; have A0 := Z.m (hbox); have A1 := gW (w := w) HB hg; have A2 := A1; replace HB := bB HB hb; clear hb hbox hg; have Ab := bc0 A0; have Ac := bc1 A0; have Al := qz A0.o 0; have Am := qz A0.o 1))
     go_ret
     exact ⟨by first | rfl | (simp [eN, eS] <;> rfl) | (simp [*, eN, eS] <;> rfl), vB HB⟩
    ·rw [if_neg c11] at H
     have A4 := decide_eq_false c11
     clear c11
     by_cases c14 : a0_1 = 0
     ·rw [if_pos c14] at H
      have A5 := beq_iff_eq.mpr c14
      have A6 := bne_eq_false_iff_eq.mpr c14
      clear c14
      obtain rfl := Option.some.inj H
      go_enter Tryd.func60, Tryd.ntmps60
      go_wp2_with (first | ((with_reducible refine gq (N := 1) rfl ?_); refine be (N := 1) (cs := #[.int .i64 a0_0, .int .i64 a0_1]) (t := 62) ?_; intro A3 hg AG hbox hb; have A0 := Z.m (hbox); have A1 := gW (w := w) HB hg; have A2 := A1; replace HB := bB HB hb; clear hb hbox hg; have Ad := bc0 A0; have Ae := bc1 A0; have An := qz A0.o 0; have Ao := qz A0.o 1))
      go_ret
      exact ⟨by first | rfl | (simp [eN, eS] <;> rfl) | (simp [*, eN, eS] <;> rfl), vB HB⟩
     ·rw [if_neg c14] at H
      have A5 := beq_eq_false_iff_ne.mpr c14
      have A6 := bne_iff_ne.mpr c14
      by_cases c17 : a0_0 = 3
      ·rw [if_pos c17] at H
       have A7 := beq_iff_eq.mpr c17
       have A8 := bne_eq_false_iff_eq.mpr c17
       clear c17
       obtain rfl := Option.some.inj H
       go_enter Tryd.func60, Tryd.ntmps60
       go_wp2_with (first | ((with_reducible refine gq (N := 1) rfl ?_); refine be (N := 1) (cs := #[.int .i64 a0_0, .int .i64 a0_1]) (t := 62) ?_; intro A3 hg AH hbox hb; have A0 := Z.m (hbox); have A1 := gW (w := w) HB hg; have A2 := A1; replace HB := bB HB hb; clear hb hbox hg; have Af := bc0 A0; have Ag := bc1 A0; have Ap := qz A0.o 0; have Aq := qz A0.o 1))
       go_ret
       exact ⟨by first | rfl | (simp [eN, eS] <;> rfl) | (simp [*, eN, eS] <;> rfl), vB HB⟩
      ·rw [if_neg c17] at H
       have A7 := beq_eq_false_iff_ne.mpr c17
       have A8 := bne_iff_ne.mpr c17
       obtain rfl := Option.some.inj H
       go_enter Tryd.func60, Tryd.ntmps60
       go_wp2_with (first | ((with_reducible refine gq (N := 1) rfl ?_); refine be (N := 1) (cs := #[.int .i64 a0_0, .int .i64 a0_1]) (t := 62) ?_; intro A3 hg AI hbox hb; have A0 := Z.m (hbox); have A1 := gW (w := w) HB hg; have A2 := A1; replace HB := bB HB hb; clear hb hbox hg; have Ah := bc0 A0; have Ai := bc1 A0; have Ar := qz A0.o 0; have As := qz A0.o 1))
       go_ret
       exact ⟨by first | rfl | (simp [eN, eS] <;> rfl) | (simp [*, eN, eS] <;> rfl), vB HB⟩

/-! ### impl_validCells: function 53 -/
def impl_validCells.l0 : Nat → List (S62) → Int → Int → Option (Bool)
 | 0, _, _, _ => none
 | k + 1, x8, x9, x10 => if x10 < x9 then (if 0 ≤ x10 then (if x10 < (x8.length : Int) then ((impl_IsCell.f ((rd_T62 x8 x10).f0) ((rd_T62 x8 x10).f1)).bind fun t182 => (if t182 = true then (impl_validCells.l0 k x8 x9 (wrap64 (x10 + 1))) else (some false))) else (none)) else (none)) else (some true)
def impl_validCells.f (k : Nat) (l0 : List (S62)) : Option (Bool) := if (l0.length : Int) > 90 then (some false) else (impl_validCells.l0 k l0 (l0.length : Int) 0)
set_option maxHeartbeats 8000000 in
set_option maxRecDepth 100000 in
theorem impl_validCells.calls (k : Nat) (A0 : Option Addr) (c0 : Nat) (l0 : List (S62)) (r : Bool) (w : World) (hr0 : Kd.C k62 w A0 l0.length l0) (hc0 : l0.length ≤ c0) (h : impl_validCells.f k l0 = some r) :
 Calls Tryd.prog 53 #[.slice A0 l0.length c0] w fun e w' => e = .returned (.bool r) ∧ Below w.heap.size w w' := by
 have As := Tryd.underlying62
 have Ao := Z.m hr0
 have At := Z.m hc0
 clear hr0 hc0
 have HB := Z.m (Below.refl w.heap.size w)
 have H : (if (l0.length : Int) > 90 then (some false) else (impl_validCells.l0 k l0 (l0.length : Int) 0)) = some r := h
 clear h
 by_cases c2 : (l0.length : Int) > 90
 ·rw [if_pos c2] at H
  have Aa := decide_eq_true c2
  have Ab : decide (90 < l0.length) = true := decide_eq_true (by omega)
  clear c2
  obtain rfl := Option.some.inj H
  go_enter Tryd.func53, Tryd.ntmps53
  go_wp2
  go_ret
  exact ⟨by first | rfl | (simp [eN, eS] <;> rfl) | (simp [*, eN, eS] <;> rfl), vB HB⟩
 ·rw [if_neg c2] at H
  have Aa := decide_eq_false c2
  have Ab : decide (90 < l0.length) = false := decide_eq_false (by omega)
  clear c2
  have H' := Z.m H
  clear H
  go_enter Tryd.func53, Tryd.ntmps53
  go_wp2
  go_loopg [10] k (fun kq v10 w' => ∃ (A1 : Int), v10 = .int .i64 A1 ∧ Z (impl_validCells.l0 kq l0 (l0.length : Int) A1 = some r) ∧ Z (kq ≤ k) ∧ Z (Below w.heap.size w w'))
  case atStart => exact ⟨(0), (by first | rfl | (simp; done) | (simp [*]; done)), H', ⟨Nat.le_refl _⟩, ⟨vB HB⟩⟩
  case round =>
   clear H'
   (try clear Aa); (try clear Ab)
   obtain ⟨A1, rfl, HA, An, HB⟩ := hrel
   cases gk with
   | zero => exact absurd HA.o (by simp [impl_validCells.l0])
   | succ k1 =>
    have H := HA.o
    clear HA
    simp only [impl_validCells.l0] at H
    by_cases c3 : A1 < (l0.length : Int)
    ·rw [if_pos c3] at H
     have Ah := decide_eq_true c3
     clear c3
     by_cases c4 : 0 ≤ A1
     ·rw [if_pos c4] at H
      have Ap := decide_eq_true c4
      clear c4
      by_cases c5 : A1 < (l0.length : Int)
      ·rw [if_pos c5] at H
       have Aq := decide_eq_true c5
       clear c5
       replace H := Option.bind_eq_some_iff.mp H
       obtain ⟨Ac, Am, H⟩ := H
       replace H : (if Ac = true then (impl_validCells.l0 k1 l0 (l0.length : Int) (wrap64 (A1 + 1))) else (some false)) = some r := H
       have A6 := Z.m Am
       clear Am
       by_cases c7 : Ac = true
       ·subst c7
        have H1 : (impl_validCells.l0 k1 l0 (l0.length : Int) (wrap64 (A1 + 1))) = some r := by rw [if_pos rfl] at H; exact H
        clear H
        have H := H1
        clear H1
        have H' := Z.m H
        clear H
        have p180 : 0 ≤ (A1 : Int) := ofD
        have q180 : A1 < (l0.length : Int) := ofD
        obtain ⟨A9, e180, A3, A4⟩ := at_T62 Ao.o A1 p180 q180
        cases e180
        replace A3 := (HB.o.cell (World.block_lt_of_cell? w _ A3)).trans A3
        replace A4 := (HB.o.cell (World.block_lt_of_cell? w _ A4)).trans A4
        replace p180 := eq_true p180
        replace q180 := eq_true q180
        go_wp2_with (first | ((with_reducible refine gq (N := 4) rfl ?_); refine be (N := 4) (cs := #[.int .i64 0, .int .i64 0]) (t := 62) ?_; intro A7 hg w8 hbox hb; have A2 := Z.m (hbox); have A5 := gW (w := w) HB hg; have A8 := A5; replace HB := bB HB hb; clear hb hbox hg; have Ai := bc0 A2; have Aj := bc1 A2; have Ak := qz A2.o 0; have Al := qz A2.o 1) | ((with_reducible refine gc (f := 60) rfl ?_); refine gA (some 15) _ #[.agg #[.int .i64 ((rd_T62 l0 A1).f0), .int .i64 ((rd_T62 l0 A1).f1)]] ?_ Tryd.func60; (with_reducible refine (impl_IsCell.calls ((rd_T62 l0 A1).f0) ((rd_T62 l0 A1).f1) true _ A6.o).mono ?_); rintro e Au ⟨rfl, hb⟩; refine ⟨_, rfl, ?_⟩; replace A2 := Z.m (qb (g := A7) (o := .cells #[.int .i64 ((rd_T62 l0 A1).f0), .int .i64 ((rd_T62 l0 A1).f1)] 62 (0, 0)) (by refine bK ?_; refine qp (cs := #[iV ((rd_T62 l0 A1).f0), iV 0]) ?_ 1 _ rfl; refine bK ?_; refine qp (cs := #[iV 0, iV 0]) ?_ 0 _ rfl; refine bK ?_; exact A2.o) hb); replace HB := bB HB hb; (try clear hb); (try clear Ar); (try clear hk); (try clear hi)))
        go_roundg k1
        case measure => have := An.o; omega
        case rel => exact ⟨(wrap64 (A1 + 1)), (by first | rfl | (simp; done) | (simp [*]; done)), H', ⟨by have := An.o; omega⟩, ⟨vB HB⟩⟩
       ·replace c7 := Bool.eq_false_iff.mpr c7
        subst c7
        have H1 : (some false) = some r := by rw [if_neg (show ¬ (false = true) by decide)] at H; exact H
        clear H
        have H := H1
        clear H1
        obtain rfl := Option.some.inj H
        have p180 : 0 ≤ (A1 : Int) := ofD
        have q180 : A1 < (l0.length : Int) := ofD
        obtain ⟨A9, e180, A3, A4⟩ := at_T62 Ao.o A1 p180 q180
        cases e180
        replace A3 := (HB.o.cell (World.block_lt_of_cell? w _ A3)).trans A3
        replace A4 := (HB.o.cell (World.block_lt_of_cell? w _ A4)).trans A4
        replace p180 := eq_true p180
        replace q180 := eq_true q180
        go_wp2_with (first | ((with_reducible refine gq (N := 4) rfl ?_); refine be (N := 4) (cs := #[.int .i64 0, .int .i64 0]) (t := 62) ?_; intro A7 hg Av hbox hb; have A2 := Z.m (hbox); have A5 := gW (w := w) HB hg; have A8 := A5; replace HB := bB HB hb; clear hb hbox hg; have Ad := bc0 A2; have Ae := bc1 A2; have Af := qz A2.o 0; have Ag := qz A2.o 1) | ((with_reducible refine gc (f := 60) rfl ?_); refine gA (some 15) _ #[.agg #[.int .i64 ((rd_T62 l0 A1).f0), .int .i64 ((rd_T62 l0 A1).f1)]] ?_ Tryd.func60; (with_reducible refine (impl_IsCell.calls ((rd_T62 l0 A1).f0) ((rd_T62 l0 A1).f1) false _ A6.o).mono ?_); rintro e Aw ⟨rfl, hb⟩; refine ⟨_, rfl, ?_⟩; replace A2 := Z.m (qb (g := A7) (o := .cells #[.int .i64 ((rd_T62 l0 A1).f0), .int .i64 ((rd_T62 l0 A1).f1)] 62 (0, 0)) (by refine bK ?_; refine qp (cs := #[iV ((rd_T62 l0 A1).f0), iV 0]) ?_ 1 _ rfl; refine bK ?_; refine qp (cs := #[iV 0, iV 0]) ?_ 0 _ rfl; refine bK ?_; exact A2.o) hb); replace HB := bB HB hb; (try clear hb); (try clear Ar); (try clear hk); (try clear hi)))
        go_ret
        exact ⟨by first | rfl | (simp [eN, eS] <;> rfl) | (simp [*, eN, eS] <;> rfl), vB HB⟩
      ·rw [if_neg c5] at H
       exact absurd H (by simp)
     ·rw [if_neg c4] at H
      exact absurd H (by simp)
    ·rw [if_neg c3] at H
     have Ah := decide_eq_false c3
     clear c3
     obtain rfl := Option.some.inj H
     go_wp2
     go_ret
     exact ⟨by first | rfl | (simp [eN, eS] <;> rfl) | (simp [*, eN, eS] <;> rfl), vB HB⟩

/-! ### impl_IsBoard: function 43 -/
def impl_IsBoard.f (k : Nat) (a0_0 : Int) (a0_1 : Int) (l0_2 : List (S62)) : Option (Bool) := if a0_0 ≥ 1 then (if a0_0 ≤ 10 then (if a0_1 ≥ 1 then (if a0_1 ≤ 9 then (if (l0_2.length : Int) = (wrap64 (a0_0 * a0_1)) then ((impl_validCells.f k l0_2).bind fun t184 => (some t184)) else (some false)) else (some false)) else (some false)) else (some false)) else (some false)
set_option maxHeartbeats 8000000 in
set_option maxRecDepth 100000 in
theorem impl_IsBoard.calls (k : Nat) (a0_0 : Int) (a0_1 : Int) (A0_2 : Option Addr) (c0_2 : Nat) (l0_2 : List (S62)) (r : Bool) (w : World) (hr0_2 : Kd.C k62 w A0_2 l0_2.length l0_2) (hc0_2 : l0_2.length ≤ c0_2) (h : impl_IsBoard.f k a0_0 a0_1 l0_2 = some r) :
 Calls Tryd.prog 43 #[.agg #[.int .i64 a0_0, .int .i64 a0_1, .slice A0_2 l0_2.length c0_2]] w fun e w' => e = .returned (.bool r) ∧ Below w.heap.size w w' := by
 have AP := Tryd.underlying24
 have A6 := Z.m hr0_2
 have A5 := Z.m hc0_2
 clear hr0_2 hc0_2
 have HB := Z.m (Below.refl w.heap.size w)
 have H : (if a0_0 ≥ 1 then (if a0_0 ≤ 10 then (if a0_1 ≥ 1 then (if a0_1 ≤ 9 then (if (l0_2.length : Int) = (wrap64 (a0_0 * a0_1)) then ((impl_validCells.f k l0_2).bind fun A4 => (some A4)) else (some false)) else (some false)) else (some false)) else (some false)) else (some false)) = some r := h
 clear h
 by_cases c2 : a0_0 ≥ 1
 ·rw [if_pos c2] at H
  have AC := decide_eq_true c2
  clear c2
  by_cases c3 : a0_0 ≤ 10
  ·rw [if_pos c3] at H
   have AD := decide_eq_true c3
   clear c3
   by_cases c4 : a0_1 ≥ 1
   ·rw [if_pos c4] at H
    have AE := decide_eq_true c4
    clear c4
    by_cases c5 : a0_1 ≤ 9
    ·rw [if_pos c5] at H
     have AF := decide_eq_true c5
     clear c5
     by_cases c6 : (l0_2.length : Int) = (wrap64 (a0_0 * a0_1))
     ·rw [if_pos c6] at H
      have AG := beq_iff_eq.mpr c6
      have AH := bne_eq_false_iff_eq.mpr c6
      clear c6
      replace H := Option.bind_eq_some_iff.mp H
      obtain ⟨A4, AO, H⟩ := H
      replace H : (some A4) = some r := H
      have A7 := Z.m AO
      clear AO
      obtain rfl := Option.some.inj H
      go_enter Tryd.func43, Tryd.ntmps43
      go_wp2_with (first | ((with_reducible refine gq (N := 1) rfl ?_); (try (refine gate_guard (by rfl) ?_; dsimp only)); refine be (N := 1) (cs := #[.int .i64 a0_0, .int .i64 a0_1, .slice A0_2 l0_2.length c0_2]) (t := 24) ?_; intro A3 hg w8 hbox hb; have A0 := Z.m (hbox); have A1 := gW (w := w) HB hg; have A2 := A1; replace HB := bB HB hb; clear hb hbox hg; have AI := bc0 A0; have AJ := bc1 A0; have AK := bc2 A0; have AL := qz A0.o 0; have AM := qz A0.o 1; have AN := qz A0.o 2) | (go_at_call 53; (with_reducible refine (impl_validCells.calls k _ _ l0_2 A4 _ ?side1 ?side2 A7.o).mono ?_); (case side1 => repeat (first | exact (Kd.C_below A6.o HB.o) | (with_reducible refine Kd.C_alloc ?_ _) | (with_reducible refine Kd.C_drewN ?_ _) | (with_reducible refine Kd.C_drew ?_))); (case side2 => exact A5.o); rintro e AR ⟨rfl, hb⟩; replace A0 := kB A0 hb; replace HB := bB HB hb; (try clear hb); (try clear AQ); (try clear hk); (try clear hi)))
      go_ret
      exact ⟨by first | rfl | (simp [eN, eS] <;> rfl) | (simp [*, eN, eS] <;> rfl), vB HB⟩
     ·rw [if_neg c6] at H
      have AG := beq_eq_false_iff_ne.mpr c6
      have AH := bne_iff_ne.mpr c6
      obtain rfl := Option.some.inj H
      go_enter Tryd.func43, Tryd.ntmps43
      go_wp2_with (first | ((with_reducible refine gq (N := 1) rfl ?_); (try (refine gate_guard (by rfl) ?_; dsimp only)); refine be (N := 1) (cs := #[.int .i64 a0_0, .int .i64 a0_1, .slice A0_2 l0_2.length c0_2]) (t := 24) ?_; intro A3 hg AS hbox hb; have A0 := Z.m (hbox); have A1 := gW (w := w) HB hg; have A2 := A1; replace HB := bB HB hb; clear hb hbox hg; have A8 := bc0 A0; have A9 := bc1 A0; have Aa := bc2 A0; have An := qz A0.o 0; have Ao := qz A0.o 1; have Ap := qz A0.o 2))
      go_ret
      exact ⟨by first | rfl | (simp [eN, eS] <;> rfl) | (simp [*, eN, eS] <;> rfl), vB HB⟩
    ·rw [if_neg c5] at H
     have AF := decide_eq_false c5
     clear c5
     obtain rfl := Option.some.inj H
     go_enter Tryd.func43, Tryd.ntmps43
     go_wp2_with (first | ((with_reducible refine gq (N := 1) rfl ?_); (try (refine gate_guard (by rfl) ?_; dsimp only)); refine be (N := 1) (cs := #[.int .i64 a0_0, .int .i64 a0_1, .slice A0_2 l0_2.length c0_2]) (t := 24) ?_; intro A3 hg AT hbox hb; have A0 := Z.m (hbox); have A1 := gW (w := w) HB hg; have A2 := A1; replace HB := bB HB hb; clear hb hbox hg; have Ab := bc0 A0; have Ac := bc1 A0; have Ad := bc2 A0; have Aq := qz A0.o 0; have Ar := qz A0.o 1; have As := qz A0.o 2))
     go_ret
     exact ⟨by first | rfl | (simp [eN, eS] <;> rfl) | (simp [*, eN, eS] <;> rfl), vB HB⟩
   ·rw [if_neg c4] at H
    have AE := decide_eq_false c4
    clear c4
    obtain rfl := Option.some.inj H
    go_enter Tryd.func43, Tryd.ntmps43
    go_wp2_with (first | ((with_reducible refine gq (N := 1) rfl ?_); (try (refine gate_guard (by rfl) ?_; dsimp only)); refine be (N := 1) (cs := #[.int .i64 a0_0, .int .i64 a0_1, .slice A0_2 l0_2.length c0_2]) (t := 24) ?_; intro A3 hg AU hbox hb; have A0 := Z.m (hbox); have A1 := gW (w := w) HB hg; have A2 := A1; replace HB := bB HB hb; clear hb hbox hg; have Ae := bc0 A0; have Af := bc1 A0; have Ag := bc2 A0; have At := qz A0.o 0; have Au := qz A0.o 1; have Av := qz A0.o 2))
    go_ret
    exact ⟨by first | rfl | (simp [eN, eS] <;> rfl) | (simp [*, eN, eS] <;> rfl), vB HB⟩
  ·rw [if_neg c3] at H
   have AD := decide_eq_false c3
   clear c3
   obtain rfl := Option.some.inj H
   go_enter Tryd.func43, Tryd.ntmps43
   go_wp2_with (first | ((with_reducible refine gq (N := 1) rfl ?_); (try (refine gate_guard (by rfl) ?_; dsimp only)); refine be (N := 1) (cs := #[.int .i64 a0_0, .int .i64 a0_1, .slice A0_2 l0_2.length c0_2]) (t := 24) ?_; intro A3 hg AV hbox hb; have A0 := Z.m (hbox); have A1 := gW (w := w) HB hg; have A2 := A1; replace HB := bB HB hb; clear hb hbox hg; have Ah := bc0 A0; have Ai := bc1 A0; have Aj := bc2 A0; have Aw := qz A0.o 0; have Ax := qz A0.o 1; have Ay := qz A0.o 2))
   go_ret
   exact ⟨by first | rfl | (simp [eN, eS] <;> rfl) | (simp [*, eN, eS] <;> rfl), vB HB⟩
 ·rw [if_neg c2] at H
  have AC := decide_eq_false c2
  clear c2
  obtain rfl := Option.some.inj H
  go_enter Tryd.func43, Tryd.ntmps43
  go_wp2_with (first | ((with_reducible refine gq (N := 1) rfl ?_); (try (refine gate_guard (by rfl) ?_; dsimp only)); refine be (N := 1) (cs := #[.int .i64 a0_0, .int .i64 a0_1, .slice A0_2 l0_2.length c0_2]) (t := 24) ?_; intro A3 hg AW hbox hb; have A0 := Z.m (hbox); have A1 := gW (w := w) HB hg; have A2 := A1; replace HB := bB HB hb; clear hb hbox hg; have Ak := bc0 A0; have Al := bc1 A0; have Am := bc2 A0; have Az := qz A0.o 0; have AA := qz A0.o 1; have AB := qz A0.o 2))
  go_ret
  exact ⟨by first | rfl | (simp [eN, eS] <;> rfl) | (simp [*, eN, eS] <;> rfl), vB HB⟩

/-! ### impl_validEntry: function 42 -/
def impl_validEntry.f (k : Nat) (a0_0 : Int) (a0_1 : Int) (l0_2 : List (S62)) (a1 : Int) : Option (Bool) := (impl_IsBoard.f k a0_0 a0_1 l0_2).bind fun t186 => (if t186 = true then (if a1 ≥ 0 then (some (decide (a1 < a0_1))) else (some false)) else (some false))
set_option maxHeartbeats 8000000 in
set_option maxRecDepth 100000 in
theorem impl_validEntry.calls (k : Nat) (a0_0 : Int) (a0_1 : Int) (A0_2 : Option Addr) (c0_2 : Nat) (l0_2 : List (S62)) (a1 : Int) (r : Bool) (w : World) (hr0_2 : Kd.C k62 w A0_2 l0_2.length l0_2) (hc0_2 : l0_2.length ≤ c0_2) (h : impl_validEntry.f k a0_0 a0_1 l0_2 a1 = some r) :
 Calls Tryd.prog 42 #[.agg #[.int .i64 a0_0, .int .i64 a0_1, .slice A0_2 l0_2.length c0_2], .int .i64 a1] w fun e w' => e = .returned (.bool r) ∧ Below w.heap.size w w' := by
 have Az := Tryd.underlying24
 have A4 := Z.m hr0_2
 have A2 := Z.m hc0_2
 clear hr0_2 hc0_2
 have HB := Z.m (Below.refl w.heap.size w)
 have H : ((impl_IsBoard.f k a0_0 a0_1 l0_2).bind fun A5 => (if A5 = true then (if a1 ≥ 0 then (some (decide (a1 < a0_1))) else (some false)) else (some false))) = some r := h
 clear h
 replace H := Option.bind_eq_some_iff.mp H
 obtain ⟨A5, Ax, H⟩ := H
 replace H : (if A5 = true then (if a1 ≥ 0 then (some (decide (a1 < a0_1))) else (some false)) else (some false)) = some r := H
 have A3 := Z.m Ax
 clear Ax
 by_cases c4 : A5 = true
 ·subst c4
  have H1 : (if a1 ≥ 0 then (some (decide (a1 < a0_1))) else (some false)) = some r := by rw [if_pos rfl] at H; exact H
  clear H
  have H := H1
  clear H1
  by_cases c5 : a1 ≥ 0
  ·rw [if_pos c5] at H
   have Ak := decide_eq_true c5
   clear c5
   obtain rfl := Option.some.inj H
   go_enter Tryd.func42, Tryd.ntmps42
   go_wp2_with (first | ((with_reducible refine gq (N := 2) rfl ?_); refine be (N := 2) (cs := #[.int .i64 a0_0, .int .i64 a0_1, .slice A0_2 l0_2.length c0_2]) (t := 24) ?_; intro A7 hg w6 hbox hb; have A0 := Z.m (hbox); have A1 := gW (w := w) HB hg; have A6 := A1; replace HB := bB HB hb; clear hb hbox hg; have Al := bc0 A0; have Am := bc1 A0; have An := bc2 A0; have Ar := qz A0.o 0; have As := qz A0.o 1; have At := qz A0.o 2) | ((with_reducible refine gc (f := 43) rfl ?_); refine gA (some 6) _ #[.agg #[.int .i64 a0_0, .int .i64 a0_1, .slice A0_2 l0_2.length c0_2]] ?_ Tryd.func43; (with_reducible refine (impl_IsBoard.calls k a0_0 a0_1 _ _ l0_2 true _ ?side1 ?side2 A3.o).mono ?_); (case side1 => repeat (first | exact (Kd.C_below A4.o HB.o) | (with_reducible refine Kd.C_alloc ?_ _) | (with_reducible refine Kd.C_drewN ?_ _) | (with_reducible refine Kd.C_drew ?_))); (case side2 => exact A2.o); rintro e w8 ⟨rfl, hb⟩; refine ⟨_, rfl, ?_⟩; replace A0 := kB A0 hb; replace HB := bB HB hb; (try clear hb); (try clear Ay); (try clear hk); (try clear hi); have Ao := bc0 A0; have Ap := bc1 A0; have Aq := bc2 A0; have Au := qz A0.o 0; have Av := qz A0.o 1; have Aw := qz A0.o 2))
   go_ret
   exact ⟨by first | rfl | (simp [eN, eS] <;> rfl) | (simp [*, eN, eS] <;> rfl), vB HB⟩
  ·rw [if_neg c5] at H
   have Ak := decide_eq_false c5
   clear c5
   obtain rfl := Option.some.inj H
   go_enter Tryd.func42, Tryd.ntmps42
   go_wp2_with (first | ((with_reducible refine gq (N := 2) rfl ?_); refine be (N := 2) (cs := #[.int .i64 a0_0, .int .i64 a0_1, .slice A0_2 l0_2.length c0_2]) (t := 24) ?_; intro A7 hg AA hbox hb; have A0 := Z.m (hbox); have A1 := gW (w := w) HB hg; have A6 := A1; replace HB := bB HB hb; clear hb hbox hg; have A8 := bc0 A0; have A9 := bc1 A0; have Aa := bc2 A0; have Ae := qz A0.o 0; have Af := qz A0.o 1; have Ag := qz A0.o 2) | ((with_reducible refine gc (f := 43) rfl ?_); refine gA (some 6) _ #[.agg #[.int .i64 a0_0, .int .i64 a0_1, .slice A0_2 l0_2.length c0_2]] ?_ Tryd.func43; (with_reducible refine (impl_IsBoard.calls k a0_0 a0_1 _ _ l0_2 true _ ?side1 ?side2 A3.o).mono ?_); (case side1 => repeat (first | exact (Kd.C_below A4.o HB.o) | (with_reducible refine Kd.C_alloc ?_ _) | (with_reducible refine Kd.C_drewN ?_ _) | (with_reducible refine Kd.C_drew ?_))); (case side2 => exact A2.o); rintro e AB ⟨rfl, hb⟩; refine ⟨_, rfl, ?_⟩; replace A0 := kB A0 hb; replace HB := bB HB hb; (try clear hb); (try clear Ay); (try clear hk); (try clear hi)))
   go_ret
   exact ⟨by first | rfl | (simp [eN, eS] <;> rfl) | (simp [*, eN, eS] <;> rfl), vB HB⟩
 ·replace c4 := Bool.eq_false_iff.mpr c4
  subst c4
  have H1 : (some false) = some r := by rw [if_neg (show ¬ (false = true) by decide)] at H; exact H
  clear H
  have H := H1
  clear H1
  obtain rfl := Option.some.inj H
  go_enter Tryd.func42, Tryd.ntmps42
  go_wp2_with (first | ((with_reducible refine gq (N := 2) rfl ?_); refine be (N := 2) (cs := #[.int .i64 a0_0, .int .i64 a0_1, .slice A0_2 l0_2.length c0_2]) (t := 24) ?_; intro A7 hg AC hbox hb; have A0 := Z.m (hbox); have A1 := gW (w := w) HB hg; have A6 := A1; replace HB := bB HB hb; clear hb hbox hg; have Ab := bc0 A0; have Ac := bc1 A0; have Ad := bc2 A0; have Ah := qz A0.o 0; have Ai := qz A0.o 1; have Aj := qz A0.o 2) | ((with_reducible refine gc (f := 43) rfl ?_); refine gA (some 6) _ #[.agg #[.int .i64 a0_0, .int .i64 a0_1, .slice A0_2 l0_2.length c0_2]] ?_ Tryd.func43; (with_reducible refine (impl_IsBoard.calls k a0_0 a0_1 _ _ l0_2 false _ ?side1 ?side2 A3.o).mono ?_); (case side1 => repeat (first | exact (Kd.C_below A4.o HB.o) | (with_reducible refine Kd.C_alloc ?_ _) | (with_reducible refine Kd.C_drewN ?_ _) | (with_reducible refine Kd.C_drew ?_))); (case side2 => exact A2.o); rintro e AD ⟨rfl, hb⟩; refine ⟨_, rfl, ?_⟩; replace A0 := kB A0 hb; replace HB := bB HB hb; (try clear hb); (try clear Ay); (try clear hk); (try clear hi)))
  go_ret
  exact ⟨by first | rfl | (simp [eN, eS] <;> rfl) | (simp [*, eN, eS] <;> rfl), vB HB⟩

end Go.Proofs.YtklmdnlambinaaaDoor.PAll
