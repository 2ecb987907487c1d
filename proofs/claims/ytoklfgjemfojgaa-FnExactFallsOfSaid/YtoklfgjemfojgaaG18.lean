/- Began as a text that print.sh wrote (of the functions named below); turned and shortened by this session. -/
import Derived.Test.YtoklfgjemfojgaaG0
import Derived.Test.YtoklfgjemfojgaaG8
import Derived.Test.YtoklfgjemfojgaaG10
import Derived.Test.YtoklfgjemfojgaaG11
import Derived.Test.YtoklfgjemfojgaaG12
namespace Go.Proofs.Ytoklfgjemfojgaa.PAll
open Go.RowKit Go.Proofs.YtoklfgjemfojgaaW.PrintWords Go.Proofs.YtoklfgjemfojgaaW.PrintLast Go.Proofs.YtoklfgjemfojgaaW.PrintMore
attribute [local go_sem] max2_int min2_int max_two min_two max_three min_three max_four min_four   -- for this text's walks alone
set_option linter.unusedVariables false
set_option linter.unusedSimpArgs false

/-! ### laws_toIntS: function 33 -/
def laws_toIntS.l0 : Nat → List Int → List Int → Int → Option (List Int)
 | 0, _, _, _ => none
 | k + 1, x0, x3, x4 => if x4 < (x0.length : Int) then (if 0 ≤ x4 then (if x4 < (x3.length : Int) then (laws_toIntS.l0 k x0 (x3.set (x4 : Int).toNat (rd x0 x4)) (wrap64 (x4 + 1))) else (none)) else (none)) else (some x3)
def laws_toIntS.f (k : Nat) (l0 : List Int) : Option (List Int) := if 0 ≤ (l0.length : Int) then (if ((l0.length : Int) : Int).toNat ≤ 35184372088832 then (laws_toIntS.l0 k l0 (List.replicate ((l0.length : Int) : Int).toNat 0) 0) else (none)) else (none)
set_option maxHeartbeats 8000000 in
set_option maxRecDepth 100000 in
theorem laws_toIntS.calls (k : Nat) (A0 : Option Addr) (c0 : Nat) (l0 : List Int) (r : List Int) (w : World) (hr0 : Kd.C (Kd.int .i64) w A0 l0.length l0) (hc0 : l0.length ≤ c0) (h : laws_toIntS.f k l0 = some r) :
 Calls Try.prog 33 #[.slice A0 l0.length c0] w fun e w' => ∃ v0_ : Value, e = .returned (v0_) ∧ Kd.R (Kd.int .i64) 3 w' w.heap.size (fun _ => True) v0_ r ∧ Below w.heap.size w w' := by
 have Au := Z.m hr0
 have Az := Z.m hc0
 clear hr0 hc0
 have HB := Z.m (Below.refl w.heap.size w)
 have H : (if 0 ≤ (l0.length : Int) then (if ((l0.length : Int) : Int).toNat ≤ 35184372088832 then (laws_toIntS.l0 k l0 (List.replicate ((l0.length : Int) : Int).toNat 0) 0) else (none)) else (none)) = some r := h
 clear h
 by_cases c2 : 0 ≤ (l0.length : Int)
 ·rw [if_pos c2] at H
  have Ae := eq_true c2
  have Af := decide_eq_true c2
  clear c2
  by_cases c3 : ((l0.length : Int) : Int).toNat ≤ 35184372088832
  ·rw [if_pos c3] at H
   have Ag := eq_true c3
   have Ah := decide_eq_true c3
   clear c3
   obtain ⟨Ad, A3⟩ : ∃ y_ : List Int, y_ = (List.replicate ((l0.length : Int) : Int).toNat 0) := ⟨_, rfl⟩
   replace H : (laws_toIntS.l0 k l0 Ad 0) = some r := by first | (rw [A3]; with_reducible exact H) | (have H2_ := (Option.bind_some _ _).symm.trans H; rw [A3]; with_reducible exact H2_) | (have H2_ := (Option.bind_some _ _).symm.trans H; with_reducible exact H2_) | with_reducible exact H | (rw [A3]; exact H) | exact H
   have A7 := Z.m A3
   clear A3
   have H' := Z.m H
   clear H
   go_enter Try.func33, Try.ntmps33
   go_wp2_with (first | ((with_reducible refine gq (N := 7) rfl ?_); refine Kd.R_make (Kd.int .i64) _ 3 rfl (N := 7) rfl 43 _ _ rfl (l0.length : Int) rfl rfl Try.underlying43 (.int .i64 0) 8 info3 rfl (by decide) (by omega) 0 (ok := fun _ => True) (okp := fun _ => True) rfl (fun _ hk => hk) trivial (ofD) (Nat.le_trans (Nat.mul_le_mul_right _ (ofD : (l0.length : Int).toNat ≤ 35184372088832)) (by omega)) (Below.refl _ _) (Nat.le_refl _) ?_; intro Ak w4 Ac hb hg_ hnew_; clear hg_ hnew_; (first | rw [← A7.o] at Ac | (simp only [Int.reduceToNat] at Ac; rw [← A7.o] at Ac)); have Aa := Z.m (Kd.R_lower Ac (below_size (vB HB))); replace HB := bB HB hb; clear hb Ac))
   go_loopg [4] k (fun kq v4 w' => ∃ (A5 : List Int) (A1 : Int), v4 = .int .i64 A1 ∧ Z (laws_toIntS.l0 kq l0 A5 A1 = some r) ∧ Z (kq ≤ k) ∧ Z (Kd.R (Kd.int .i64) 3 w' w.heap.size (fun _ => True) Ak A5) ∧ Z (Below w.heap.size w w'))
   case atStart => exact ⟨(Ad), (0), (by first | rfl | (simp; done) | (simp [*]; done)), H', ⟨Nat.le_refl _⟩, ⟨vR Aa⟩, ⟨vB HB⟩⟩
   case round =>
    clear H'
    (try clear Ae); (try clear Af); (try clear Ag); (try clear Ah)
    obtain ⟨A5, A1, rfl, HA, An, A6, HB⟩ := hrel
    cases gk with
    | zero => exact absurd HA.o (by simp [laws_toIntS.l0])
    | succ k1 =>
     have H := HA.o
     clear HA
     simp only [laws_toIntS.l0] at H
     by_cases c6 : A1 < (l0.length : Int)
     ·rw [if_pos c6] at H
      have Ai := decide_eq_true c6
      clear c6
      by_cases c7 : 0 ≤ A1
      ·rw [if_pos c7] at H
       have Av := decide_eq_true c7
       clear c7
       by_cases c8 : A1 < (A5.length : Int)
       ·rw [if_pos c8] at H
        have Aw := decide_eq_true c8
        clear c8
        obtain ⟨A9, A4⟩ : ∃ y_ : List Int, y_ = (A5.set (A1 : Int).toNat (rd l0 A1)) := ⟨_, rfl⟩
        replace H : (laws_toIntS.l0 k1 l0 A9 (wrap64 (A1 + 1))) = some r := by first | (rw [A4]; with_reducible exact H) | (have H2_ := (Option.bind_some _ _).symm.trans H; rw [A4]; with_reducible exact H2_) | (have H2_ := (Option.bind_some _ _).symm.trans H; with_reducible exact H2_) | with_reducible exact H | (rw [A4]; exact H) | exact H
        have Ab := Z.m A4
        clear A4
        have H' := Z.m H
        clear H
        have p718 : 0 ≤ (A1 : Int) := ofD
        have q718 : A1 < (l0.length : Int) := ofD
        obtain ⟨Ao, e718, A2⟩ := Kd.at_int Au.o A1 p718 q718
        cases e718
        replace A2 := (HB.o.cell (World.block_lt_of_cell? w _ A2)).trans A2
        replace p718 := eq_true p718
        replace q718 := eq_true q718
        have p9 : 0 ≤ (A1 : Int) := ofD
        have q9 : (A1 : Int) < ((A5.length : Int) : Int) := ofD
        obtain ⟨Aj, Ax, Ap, Aq, gl9, cl9, Am⟩ := Kd.R_form A6.o (by omega)
        (first | cases Ap | (injection Ap with ea_ en_ ec_; (first | subst ea_ | (injection ea_ with ea_; subst ea_)); subst ec_; clear en_))
        have At := Z.m Aq
        have Ay := Z.m Am
        clear Aq gl9 Am
        obtain ⟨As, Ar⟩ := Kd.R_celln 0 A6.o (A1 : Int) p9 q9
        replace p9 := eq_true p9
        replace q9 := eq_true q9
        have A8 := Kd.R_putg A6.o (A1 : Int) (rd l0 A1)
        go_wp2_with (first | ((with_reducible refine gt (t := 3) (p := 20) rfl ?_); refine store_event (t := 3) (p := 20) (v := ?vo_w11) (w1 := (wr.setCell ⟨Aj, (A1 : Int).toNat, none⟩ (.int .i64 (rd l0 A1)))) ?hg ?ho ?hn ?hr ?_; (case ho => rfl); (case hg => rfl); (case hn => rfl); (case hr => first | (go_simp; done) | (go_simp; rfl)); intro Al hw; have hg : wr.grownBy Al (some Aj) := (by rw [hw]; exact A8.2); have hp_ : Kd.R (Kd.int .i64) 3 Al w.heap.size (fun _ => True) (.slice (some ⟨Aj, 0, none⟩) A5.length Ax) A9 := (by rw [hw, Ab.o]; exact A8.1); clear A8; replace A6 := Z.m (hp_); replace HB := Z.m ((by rw [hw]; exact qx (HB.o) At.o : Below w.heap.size w Al)); clear hg hw hp_))
        go_roundg k1
        case measure => have := An.o; omega
        case rel => exact ⟨(A9), (wrap64 (A1 + 1)), (by first | rfl | (simp; done) | (simp [*]; done)), H', ⟨by have := An.o; omega⟩, ⟨vR A6⟩, ⟨vB HB⟩⟩
       ·rw [if_neg c8] at H
        exact absurd H (by simp)
      ·rw [if_neg c7] at H
       exact absurd H (by simp)
     ·rw [if_neg c6] at H
      have Ai := decide_eq_false c6
      clear c6
      obtain rfl := Option.some.inj H
      go_wp2
      go_ret
      exact ⟨_, by first | rfl | (simp [eN, eS] <;> rfl) | (simp [*, eN, eS] <;> rfl), vR A6, vB HB⟩
  ·rw [if_neg c3] at H
   exact absurd H (by simp)
 ·rw [if_neg c2] at H
  exact absurd H (by simp)

/-! ### impl_validEntries: function 67 -/
mutual
def impl_validEntries.j0 : Nat → List Int → Bool → Int → Int → List (S89) → Option (Bool)
 | 0, _, _, _, _, _ => none
 | k + 1, x1, x14, x721000, x721001, x721002 => if x14 = true then (some false) else (impl_validEntries.l0 k x1 (x1.length : Int) 0 x721000 x721001 x721002)
def impl_validEntries.l0 : Nat → List Int → Int → Int → Int → Int → List (S89) → Option (Bool)
 | 0, _, _, _, _, _, _ => none
 | k + 1, x15, x16, x17, x721000, x721001, x721002 => if x17 < x16 then (if 0 ≤ x17 then (if x17 < (x15.length : Int) then (if (rd x15 x17) < 0 then (some false) else (if (rd x15 x17) ≥ x721001 then (some false) else (impl_validEntries.l0 k x15 x16 (wrap64 (x17 + 1)) x721000 x721001 x721002))) else (none)) else (none)) else (some true)
end
def impl_validEntries.f (k : Nat) (a0_0 : Int) (a0_1 : Int) (l0_2 : List (S89)) (l1 : List Int) : Option (Bool) := (impl_IsBoard.f k a0_0 a0_1 l0_2).bind fun t721 => (if t721 = true then (impl_validEntries.j0 k l1 (decide ((l1.length : Int) > 60)) a0_0 a0_1 l0_2) else (impl_validEntries.j0 k l1 true a0_0 a0_1 l0_2))
set_option maxHeartbeats 8000000 in
set_option maxRecDepth 100000 in
theorem impl_validEntries.calls (k : Nat) (a0_0 : Int) (a0_1 : Int) (A0_2 : Option Addr) (c0_2 : Nat) (l0_2 : List (S89)) (A1 : Option Addr) (c1 : Nat) (l1 : List Int) (r : Bool) (w : World) (hr0_2 : Kd.C k89 w A0_2 l0_2.length l0_2) (hc0_2 : l0_2.length ≤ c0_2) (hr1 : Kd.C (Kd.int .i64) w A1 l1.length l1) (hc1 : l1.length ≤ c1) (h : impl_validEntries.f k a0_0 a0_1 l0_2 l1 = some r) :
 Calls Try.prog 67 #[.agg #[.int .i64 a0_0, .int .i64 a0_1, .slice A0_2 l0_2.length c0_2], .slice A1 l1.length c1] w fun e w' => e = .returned (.bool r) ∧ Below w.heap.size w w' := by
 have AM := Try.underlying32
 have A8 := Z.m hr0_2
 have A7 := Z.m hc0_2
 clear hr0_2 hc0_2
 have As := Z.m hr1
 have AN := Z.m hc1
 clear hr1 hc1
 have HB := Z.m (Below.refl w.heap.size w)
 have H : ((impl_IsBoard.f k a0_0 a0_1 l0_2).bind fun A6 => (if A6 = true then (impl_validEntries.j0 k l1 (decide ((l1.length : Int) > 60)) a0_0 a0_1 l0_2) else (impl_validEntries.j0 k l1 true a0_0 a0_1 l0_2))) = some r := h
 clear h
 have Ar := Z.m H
 clear H
 go_enter Try.func67, Try.ntmps67
 go_upto_region 1 with (first | ((with_reducible refine gq (N := 2) rfl ?_); (try (refine gate_guard (by rfl) ?_; dsimp only)); refine be (N := 2) (cs := #[.int .i64 a0_0, .int .i64 a0_1, .slice A0_2 l0_2.length c0_2]) (t := 32) ?_; intro Aa hg w4 hbox hb; have A0 := Z.m (hbox); have Ab := gW (w := w) HB hg; have AG := Ab; replace HB := bB HB hb; clear hb hbox hg))
 (try simp only [Act.put, q1, q2, q3])
 go_cut [14] (fun v14 wc => ∃ (kq : Nat) (A4 : Bool), v14 = .bool A4 ∧ Z (impl_validEntries.j0 kq l1 A4 a0_0 a0_1 l0_2 = some r) ∧ Z (kq ≤ k) ∧ Z (wc.heap[Aa]? = some (.cells #[.int .i64 a0_0, .int .i64 a0_1, (.slice A0_2 l0_2.length c0_2)] 32 (0, 0))) ∧ Z (Below w.heap.size w wc))
 case first =>
  have H := Ar.o
  clear Ar
  replace H := Option.bind_eq_some_iff.mp H
  obtain ⟨A6, AF, H⟩ := H
  replace H : (if A6 = true then (impl_validEntries.j0 k l1 (decide ((l1.length : Int) > 60)) a0_0 a0_1 l0_2) else (impl_validEntries.j0 k l1 true a0_0 a0_1 l0_2)) = some r := H
  have A5 := Z.m AF
  clear AF
  by_cases c6 : A6 = true
  ·subst c6
   have H1 : (impl_validEntries.j0 k l1 (decide ((l1.length : Int) > 60)) a0_0 a0_1 l0_2) = some r := by rw [if_pos rfl] at H; exact H
   clear H
   have H := H1
   clear H1
   have H' := Z.m H
   clear H
   have At := bc0 A0
   have Au := bc1 A0
   have Av := bc2 A0
   have Az := qz A0.o 0
   have AA := qz A0.o 1
   have AB := qz A0.o 2
   go_wp2_with (first | ((with_reducible refine gc (f := 59) rfl ?_); refine gA (some 8) _ #[.agg #[.int .i64 a0_0, .int .i64 a0_1, .slice A0_2 l0_2.length c0_2]] ?_ Try.func59; (with_reducible refine (impl_IsBoard.calls k a0_0 a0_1 _ _ l0_2 true _ ?side1 ?side2 A5.o).mono ?_); (case side1 => repeat (first | exact (Kd.C_below A8.o HB.o) | (with_reducible refine Kd.C_alloc ?_ _) | (with_reducible refine Kd.C_drewN ?_ _) | (with_reducible refine Kd.C_drew ?_))); (case side2 => exact A7.o); rintro e w8 ⟨rfl, hb⟩; refine ⟨_, rfl, ?_⟩; replace A0 := kB A0 hb; replace HB := bB HB hb; (try clear hb); (try clear AL); (try clear hk); (try clear hi)))
   go_meet
   case rel => exact ⟨_, (decide ((l1.length : Int) > 60)), (by first | rfl | (simp; done) | (simp [*]; done)), H', ⟨by first | omega | exact Nat.le_refl _⟩, ⟨vK A0⟩, ⟨vB HB⟩⟩
  ·replace c6 := Bool.eq_false_iff.mpr c6
   subst c6
   have H1 : (impl_validEntries.j0 k l1 true a0_0 a0_1 l0_2) = some r := by rw [if_neg (show ¬ (false = true) by decide)] at H; exact H
   clear H
   have H := H1
   clear H1
   have H' := Z.m H
   clear H
   have Aw := bc0 A0
   have Ax := bc1 A0
   have Ay := bc2 A0
   have AC := qz A0.o 0
   have AD := qz A0.o 1
   have AE := qz A0.o 2
   go_wp2_with (first | ((with_reducible refine gc (f := 59) rfl ?_); refine gA (some 8) _ #[.agg #[.int .i64 a0_0, .int .i64 a0_1, .slice A0_2 l0_2.length c0_2]] ?_ Try.func59; (with_reducible refine (impl_IsBoard.calls k a0_0 a0_1 _ _ l0_2 false _ ?side1 ?side2 A5.o).mono ?_); (case side1 => repeat (first | exact (Kd.C_below A8.o HB.o) | (with_reducible refine Kd.C_alloc ?_ _) | (with_reducible refine Kd.C_drewN ?_ _) | (with_reducible refine Kd.C_drew ?_))); (case side2 => exact A7.o); rintro e AO ⟨rfl, hb⟩; refine ⟨_, rfl, ?_⟩; replace A0 := kB A0 hb; replace HB := bB HB hb; (try clear hb); (try clear AL); (try clear hk); (try clear hi)))
   go_meet
   case rel => exact ⟨_, (true), (by first | rfl | (simp; done) | (simp [*]; done)), H', ⟨by first | omega | exact Nat.le_refl _⟩, ⟨vK A0⟩, ⟨vB HB⟩⟩
 case rest =>
  clear Ar
  obtain ⟨kq, A4, rfl, HA, AH, A0, HB⟩ := hcut
  cases kq with
  | zero => exact absurd HA.o (by simp [impl_validEntries.j0])
  | succ kj2 =>
   have H := HA.o
   clear HA
   simp only [impl_validEntries.j0] at H
   by_cases c11 : A4 = true
   ·subst c11
    have H1 : (some false) = some r := by rw [if_pos rfl] at H; exact H
    clear H
    have H := H1
    clear H1
    obtain rfl := Option.some.inj H
    go_wp2
    go_ret
    exact ⟨by first | rfl | (simp [eN, eS] <;> rfl) | (simp [*, eN, eS] <;> rfl), vB HB⟩
   ·replace c11 := Bool.eq_false_iff.mpr c11
    subst c11
    have H1 : (impl_validEntries.l0 kj2 l1 (l1.length : Int) 0 a0_0 a0_1 l0_2) = some r := by rw [if_neg (show ¬ (false = true) by decide)] at H; exact H
    clear H
    have H := H1
    clear H1
    have H' := Z.m H
    clear H
    go_wp2
    go_loopg [17] kj2 (fun kq v17 w' => ∃ (A3 : Int), v17 = .int .i64 A3 ∧ Z (impl_validEntries.l0 kq l1 (l1.length : Int) A3 a0_0 a0_1 l0_2 = some r) ∧ Z (kq ≤ kj2) ∧ Z (w'.heap[Aa]? = some (.cells #[.int .i64 a0_0, .int .i64 a0_1, (.slice A0_2 l0_2.length c0_2)] 32 (0, 0))) ∧ Z (Below w.heap.size w w'))
    case atStart => exact ⟨(0), (by first | rfl | (simp; done) | (simp [*]; done)), H', ⟨Nat.le_refl _⟩, ⟨vK A0⟩, ⟨vB HB⟩⟩
    case round =>
     clear H'
     (try clear c11)
     obtain ⟨A3, rfl, HA, AI, A0, HB⟩ := hrel
     cases gk with
     | zero => exact absurd HA.o (by simp [impl_validEntries.l0])
     | succ k2 =>
      have H := HA.o
      clear HA
      simp only [impl_validEntries.l0] at H
      by_cases c12 : A3 < (l1.length : Int)
      ·rw [if_pos c12] at H
       have Ac := decide_eq_true c12
       clear c12
       by_cases c13 : 0 ≤ A3
       ·rw [if_pos c13] at H
        have AJ := decide_eq_true c13
        clear c13
        by_cases c14 : A3 < (l1.length : Int)
        ·rw [if_pos c14] at H
         have AK := decide_eq_true c14
         clear c14
         by_cases c15 : (rd l1 A3) < 0
         ·rw [if_pos c15] at H
          have Ad := decide_eq_true c15
          clear c15
          obtain rfl := Option.some.inj H
          have p722 : 0 ≤ (A3 : Int) := ofD
          have q722 : A3 < (l1.length : Int) := ofD
          obtain ⟨A9, e722, A2⟩ := Kd.at_int As.o A3 p722 q722
          cases e722
          replace A2 := (HB.o.cell (World.block_lt_of_cell? w _ A2)).trans A2
          replace p722 := eq_true p722
          replace q722 := eq_true q722
          go_wp2
          go_ret
          exact ⟨by first | rfl | (simp [eN, eS] <;> rfl) | (simp [*, eN, eS] <;> rfl), vB HB⟩
         ·rw [if_neg c15] at H
          have Ad := decide_eq_false c15
          clear c15
          by_cases c16 : (rd l1 A3) ≥ a0_1
          ·rw [if_pos c16] at H
           have Ae := decide_eq_true c16
           clear c16
           obtain rfl := Option.some.inj H
           have p722 : 0 ≤ (A3 : Int) := ofD
           have q722 : A3 < (l1.length : Int) := ofD
           obtain ⟨A9, e722, A2⟩ := Kd.at_int As.o A3 p722 q722
           cases e722
           replace A2 := (HB.o.cell (World.block_lt_of_cell? w _ A2)).trans A2
           replace p722 := eq_true p722
           replace q722 := eq_true q722
           have Af := bc0 A0
           have Ag := bc1 A0
           have Ah := bc2 A0
           have Al := qz A0.o 0
           have Am := qz A0.o 1
           have An := qz A0.o 2
           go_wp2
           go_ret
           exact ⟨by first | rfl | (simp [eN, eS] <;> rfl) | (simp [*, eN, eS] <;> rfl), vB HB⟩
          ·rw [if_neg c16] at H
           have Ae := decide_eq_false c16
           clear c16
           have H' := Z.m H
           clear H
           have p722 : 0 ≤ (A3 : Int) := ofD
           have q722 : A3 < (l1.length : Int) := ofD
           obtain ⟨A9, e722, A2⟩ := Kd.at_int As.o A3 p722 q722
           cases e722
           replace A2 := (HB.o.cell (World.block_lt_of_cell? w _ A2)).trans A2
           replace p722 := eq_true p722
           replace q722 := eq_true q722
           have Ai := bc0 A0
           have Aj := bc1 A0
           have Ak := bc2 A0
           have Ao := qz A0.o 0
           have Ap := qz A0.o 1
           have Aq := qz A0.o 2
           go_wp2
           go_roundg k2
           case measure => have := AH.o; have := AI.o; omega
           case rel => exact ⟨(wrap64 (A3 + 1)), (by first | rfl | (simp; done) | (simp [*]; done)), H', ⟨by have := AH.o; have := AI.o; omega⟩, ⟨vK A0⟩, ⟨vB HB⟩⟩
        ·rw [if_neg c14] at H
         exact absurd H (by simp)
       ·rw [if_neg c13] at H
        exact absurd H (by simp)
      ·rw [if_neg c12] at H
       have Ac := decide_eq_false c12
       clear c12
       obtain rfl := Option.some.inj H
       go_wp2
       go_ret
       exact ⟨by first | rfl | (simp [eN, eS] <;> rfl) | (simp [*, eN, eS] <;> rfl), vB HB⟩

/-! ### impl_dropAll: function 68 -/
def impl_dropAll.l0 : Nat → List Int → List (S27) → List Int → Int → Int → Int → Int → List (S89) → Option ((List (S27)) × Int × Int × (List (S89)))
 | 0, _, _, _, _, _, _, _, _ => none
 | k + 1, x7, x8, x18, x19, x20, x731000, x731001, x731002 => if x20 < x19 then (if 0 ≤ x20 then (if x20 < (x18.length : Int) then ((impl_drop.f k x731000 x731001 x731002 x7 (rd x18 x20)).bind fun bt738 => (if x8.length < 5864062014805 then (impl_dropAll.l0 k x7 (x8 ++ [(⟨bt738.1, bt738.2.1, bt738.2.2.1⟩ : S27)]) x18 x19 (wrap64 (x20 + 1)) x731000 x731001 bt738.2.2.2.2) else (none))) else (none)) else (none)) else (some (x8, x731000, x731001, x731002))
def impl_dropAll.f (k : Nat) (a0_0 : Int) (a0_1 : Int) (l0_2 : List (S89)) (l1 : List Int) : Option ((List (S27)) × Int × Int × (List (S89))) := (impl_copyBoard.f a0_0 a0_1 l0_2).bind fun bt725 => ((impl_groupNumbers.f k a0_0 a0_1 l0_2).bind fun t731 => (impl_dropAll.l0 k t731 (([] : List (S27))) l1 (l1.length : Int) 0 bt725.1 bt725.2.1 bt725.2.2))
set_option maxHeartbeats 8000000 in
set_option maxRecDepth 100000 in
theorem impl_dropAll.calls (k : Nat) (a0_0 : Int) (a0_1 : Int) (A0_2 : Option Addr) (c0_2 : Nat) (l0_2 : List (S89)) (A1 : Option Addr) (c1 : Nat) (l1 : List Int) (r1 : List (S27)) (r2 : Int) (r3 : Int) (r4 : List (S89)) (w : World) (hr0_2 : Kd.C k89 w A0_2 l0_2.length l0_2) (hc0_2 : l0_2.length ≤ c0_2) (hr1 : Kd.C (Kd.int .i64) w A1 l1.length l1) (hc1 : l1.length ≤ c1) (h : impl_dropAll.f k a0_0 a0_1 l0_2 l1 = some (r1, r2, r3, r4)) :
 Calls Try.prog 68 #[.agg #[.int .i64 a0_0, .int .i64 a0_1, .slice A0_2 l0_2.length c0_2], .slice A1 l1.length c1] w fun e w' => ∃ v0_ v3_ : Value, e = .returned (.tuple #[v0_, .agg #[.int .i64 r2, .int .i64 r3, v3_]]) ∧ Kd.R k27 27 w' w.heap.size (fun _ => True) v0_ r1 ∧ Kd.R k89 89 w' w.heap.size (fun _ => True) v3_ r4 ∧ Below w.heap.size w w' := by
 have Cz := Try.underlying32
 have Cy := Try.underlying27
 have AY := Z.m hr0_2
 have AX := Z.m hc0_2
 clear hr0_2 hc0_2
 have Cr := Z.m hr1
 have CD := Z.m hc1
 clear hr1 hc1
 have HB := Z.m (Below.refl w.heap.size w)
 have H : ((impl_copyBoard.f a0_0 a0_1 l0_2).bind fun bt725 => ((impl_groupNumbers.f k a0_0 a0_1 l0_2).bind fun Ai => (impl_dropAll.l0 k Ai (([] : List (S27))) l1 (l1.length : Int) 0 bt725.1 bt725.2.1 bt725.2.2))) = some (r1, r2, r3, r4) := h
 clear h
 replace H := Option.bind_eq_some_iff.mp H
 obtain ⟨⟨Ag, Ah, Az⟩, C2, H⟩ := H
 replace H : ((impl_groupNumbers.f k a0_0 a0_1 l0_2).bind fun Ai => (impl_dropAll.l0 k Ai (([] : List (S27))) l1 (l1.length : Int) 0 Ag Ah Az)) = some (r1, r2, r3, r4) := H
 have A3 := Z.m C2
 clear C2
 replace H := Option.bind_eq_some_iff.mp H
 obtain ⟨Ai, C3, H⟩ := H
 replace H : (impl_dropAll.l0 k Ai (([] : List (S27))) l1 (l1.length : Int) 0 Ag Ah Az) = some (r1, r2, r3, r4) := H
 have A4 := Z.m C3
 clear C3
 obtain ⟨Bv, At⟩ : ∃ y_ : List (S27), y_ = (([] : List (S27))) := ⟨_, rfl⟩
 replace H : (impl_dropAll.l0 k Ai Bv l1 (l1.length : Int) 0 Ag Ah Az) = some (r1, r2, r3, r4) := by first | (rw [At]; with_reducible exact H) | (have H2_ := (Option.bind_some _ _).symm.trans H; rw [At]; with_reducible exact H2_) | (have H2_ := (Option.bind_some _ _).symm.trans H; with_reducible exact H2_) | with_reducible exact H | (rw [At]; exact H) | exact H
 have AZ := Z.m At
 clear At
 have H' := Z.m H
 clear H
 go_enter Try.func68, Try.ntmps68
 go_wp2_with (first | ((with_reducible refine gq (N := 2) rfl ?_); refine be (N := 2) (cs := #[.int .i64 a0_0, .int .i64 a0_1, .slice A0_2 l0_2.length c0_2]) (t := 32) ?_; intro AH hg w5 hbox hb; have A2 := Z.m (hbox); have Bi := gW (w := w) HB hg; have Bf := Bi; replace HB := bB HB hb; clear hb hbox hg) | ((with_reducible refine gq (N := 5) rfl ?_); refine be (N := 5) (cs := #[.int .i64 0, .int .i64 0, .slice none 0 0]) (t := 32) ?_; intro Am hg w6 hbox hb; have A6 := Z.m (hbox); have Bj := gW (w := w) HB hg; have Bg := Bj; have Ad := neL A2 hg; have Ae := neG A2 hg; replace A2 := kB A2 hb; replace HB := bB HB hb; clear hb hbox hg; have Ct := Ad.o; have Cu := Ae.o; have B0 := bc0 A2; have B2 := bc1 A2; have B3 := bc2 A2; have B7 := qz A2.o 0; have B8 := qz A2.o 1; have Ba := qz A2.o 2) | ((with_reducible refine gc (f := 55) rfl ?_); refine gA (some 14) _ #[.agg #[.int .i64 a0_0, .int .i64 a0_1, .slice A0_2 l0_2.length c0_2]] ?_ Try.func55; (with_reducible refine (impl_copyBoard.calls a0_0 a0_1 _ _ l0_2 Ag Ah Az _ ?side1 ?side2 A3.o).mono ?_); (case side1 => repeat (first | exact (Kd.C_below AY.o HB.o) | (with_reducible refine Kd.C_alloc ?_ _) | (with_reducible refine Kd.C_drewN ?_ _) | (with_reducible refine Kd.C_drew ?_))); (case side2 => exact AX.o); rintro e w9 ⟨CA, rfl, AV, hb⟩; refine ⟨_, rfl, ?_⟩; have Ak := Z.m (Kd.R_lower AV (below_size (vB HB))); replace A2 := kB A2 hb; replace A6 := kB A6 hb; replace HB := bB HB hb; (try clear hb); (try clear Cs); (try clear hk); (try clear hi); (try clear AV)) | ((with_reducible refine gq (N := 6) rfl ?_); refine be (N := 6) (cs := #[.int .i64 0, .int .i64 0, .slice none 0 0]) (t := 32) ?_; intro Ar hg CE hbox hb; have A5 := Z.m (hbox); have Bk := gW (w := w) HB hg; have Bh := Bk; have Aj := neL A2 hg; have Ap := neG A2 hg; have A9 := neL A6 hg; have A7 := neG A6 hg; replace Ak := Z.m (Kd.Rb (vR Ak) hb); replace A2 := kB A2 hb; replace A6 := kB A6 hb; replace HB := bB HB hb; clear hb hbox hg; have C9 := Ap.o; have Ch := Aj.o; have Ca := A7.o; have Ci := A9.o; have AJ := bc0 A5; have AK := bc1 A5; have AL := bc2 A5; have AP := qz A5.o 0; have AQ := qz A5.o 1; have AR := qz A5.o 2; obtain ⟨Bc, Br, BV⟩ := Kd.R_slice Ak.o; subst BV; have AM := bc0 A2; have AN := bc1 A2; have AO := bc2 A2; have AS := qz A2.o 0; have AT := qz A2.o 1; have AU := qz A2.o 2) | ((with_reducible refine gc (f := 56) rfl ?_); refine gA (some 16) _ #[.agg #[.int .i64 a0_0, .int .i64 a0_1, .slice A0_2 l0_2.length c0_2]] ?_ Try.func56; (with_reducible refine (impl_groupNumbers.calls k a0_0 a0_1 _ _ l0_2 Ai _ ?side1 ?side2 A4.o).mono ?_); (case side1 => exact Kd.C_below AY.o (vB HB)); (case side2 => exact AX.o); rintro e CF ⟨BZ, rfl, AV, hb⟩; refine ⟨_, rfl, ?_⟩; have AF := Z.m (Kd.R_lower AV (below_size (vB HB))); replace Ak := Z.m (Kd.Rb (by refine rK ?_; exact (Kd.Rm (rf (rf (rf (Kd.Ry Ak.o A5.o (by decide))))) (fun _ h_ => h_.1))) hb); replace A2 := Z.m (qb (g := AH) (o := .cells #[.int .i64 a0_0, .int .i64 a0_1, .slice A0_2 l0_2.length c0_2] 32 (0, 0)) (by refine bK ?_; (iterate 3 refine qF ?_ Aj); exact A2.o) hb); replace A6 := Z.m (qb (g := Am) (o := .cells #[.int .i64 0, .int .i64 0, .slice none 0 0] 32 (0, 0)) (by refine bK ?_; (iterate 3 refine qF ?_ A9); exact A6.o) hb); replace A5 := Z.m (qb (g := Ar) (o := .cells #[.int .i64 Ag, .int .i64 Ah, .slice Bc Az.length Br] 32 (0, 0)) (by refine bK ?_; apply st3; refine bK ?_; exact A5.o) hb); replace HB := bB HB hb; (try clear hb); (try clear Cs); (try clear hk); (try clear hi); (try clear AV)) | ((with_reducible refine gq (N := 17) rfl ?_); refine Kd.R_lit k27 _ 27 ?hg (N := 17) ?hd (xs := ([] : List (S27))) (inner := []) (ok := fun _ => True) (okp := fun _ => True) ?hr ?hp (fun _ hk => hk) trivial (Below.refl _ _) (Nat.le_refl _) (by simp) ?_; (case hd => rfl); (case hg => rfl); (case hr => first | (go_simp; done) | (go_simp; rfl)); (case hp => exact (Reps.none _ _)); intro CB CG AI hb hg_ hnew_; clear hg_ hnew_; (first | rw [← AZ.o] at AI | (simp only [Int.reduceToNat] at AI; rw [← AZ.o] at AI)); have Bm := Z.m (Kd.R_lower AI (below_size (vB HB))); replace Ak := Z.m (Kd.Rb (vR Ak) hb); replace AF := Z.m (Kd.Rb (vR AF) hb); replace A2 := kB A2 hb; replace A6 := kB A6 hb; replace A5 := kB A5 hb; replace HB := bB HB hb; clear hb AI))
 go_loopg [8, 20] k (fun kq v8 v20 w' => ∃ (Ay : List (S27)) (Aa : Int) (A8 : List (S89)) (u731002 : Value), v20 = .int .i64 Aa ∧ Z (impl_dropAll.l0 kq Ai Ay l1 (l1.length : Int) Aa Ag Ah A8 = some (r1, r2, r3, r4)) ∧ Z (kq ≤ k) ∧ Z (Kd.R (Kd.int .i64) 3 w' w.heap.size (fun _ => True) BZ Ai) ∧ Z (Kd.R k27 27 w' w.heap.size (fun _ => True) v8 Ay) ∧ Z (Kd.R k89 89 w' w.heap.size (fun _ => True) u731002 A8) ∧ Z (w'.heap[AH]? = some (.cells #[.int .i64 a0_0, .int .i64 a0_1, (.slice A0_2 l0_2.length c0_2)] 32 (0, 0))) ∧ Z (w'.heap[Am]? = some (.cells #[.int .i64 0, .int .i64 0, (.slice none 0 0)] 32 (0, 0))) ∧ Z (w'.heap[Ar]? = some (.cells #[.int .i64 Ag, .int .i64 Ah, u731002] 32 (0, 0))) ∧ Z (Below w.heap.size w w'))
 case atStart => exact ⟨(Bv), (0), (Az), (.slice Bc Az.length Br), (by first | rfl | (simp; done) | (simp [*]; done)), H', ⟨Nat.le_refl _⟩, ⟨vR AF⟩, ⟨vR Bm⟩, ⟨vR Ak⟩, ⟨vK A2⟩, ⟨vK A6⟩, ⟨vK A5⟩, ⟨vB HB⟩⟩
 case round =>
  clear H'
  (try clear AJ); (try clear AK); (try clear AL); (try clear AM); (try clear AN); (try clear AO); (try clear B0); (try clear B2)
  (try clear B3); (try clear AP); (try clear AQ); (try clear AR); (try clear AS); (try clear AT); (try clear AU); (try clear B7)
  (try clear B8); (try clear Ba)
  obtain ⟨Ay, Aa, A8, u731002, rfl, HA, C5, Af, Ac, A0, A2, A6, A5, HB⟩ := hrel
  cases gk with
  | zero => exact absurd HA.o (by simp [impl_dropAll.l0])
  | succ k1 =>
   have H := HA.o
   clear HA
   simp only [impl_dropAll.l0] at H
   by_cases c19 : Aa < (l1.length : Int)
   ·rw [if_pos c19] at H
    have Bq := decide_eq_true c19
    clear c19
    by_cases c20 : 0 ≤ Aa
    ·rw [if_pos c20] at H
     have C7 := decide_eq_true c20
     clear c20
     by_cases c21 : Aa < (l1.length : Int)
     ·rw [if_pos c21] at H
      have C8 := decide_eq_true c21
      clear c21
      replace H := Option.bind_eq_some_iff.mp H
      obtain ⟨⟨Av, Aw, Ax, BY, AW⟩, Bb, H⟩ := H
      replace H : (if Ay.length < 5864062014805 then (impl_dropAll.l0 k1 Ai (Ay ++ [(⟨Av, Aw, Ax⟩ : S27)]) l1 (l1.length : Int) (wrap64 (Aa + 1)) Ag Ah AW) else (none)) = some (r1, r2, r3, r4) := H
      have Cq := Z.m Bb
      clear Bb
      by_cases c23 : Ay.length < 5864062014805
      ·rw [if_pos c23] at H
       have Bo := Z.m c23
       clear c23
       obtain ⟨Bw, Au⟩ : ∃ y_ : List (S27), y_ = (Ay ++ [(⟨Av, Aw, Ax⟩ : S27)]) := ⟨_, rfl⟩
       replace H : (impl_dropAll.l0 k1 Ai Bw l1 (l1.length : Int) (wrap64 (Aa + 1)) Ag Ah AW) = some (r1, r2, r3, r4) := by first | (rw [Au]; with_reducible exact H) | (have H2_ := (Option.bind_some _ _).symm.trans H; rw [Au]; with_reducible exact H2_) | (have H2_ := (Option.bind_some _ _).symm.trans H; with_reducible exact H2_) | with_reducible exact H | (rw [Au]; exact H) | exact H
       have Bp := Z.m Au
       clear Au
       have H' := Z.m H
       clear H
       have p737 : 0 ≤ (Aa : Int) := ofD
       have q737 : Aa < (l1.length : Int) := ofD
       obtain ⟨C6, e737, As⟩ := Kd.at_int Cr.o Aa p737 q737
       cases e737
       replace As := (HB.o.cell (World.block_lt_of_cell? w _ As)).trans As
       replace p737 := eq_true p737
       replace q737 := eq_true q737
       have Cb := Ap.o
       have Cj := Aj.o
       have Cd := A7.o
       have Cl := A9.o
       have Bx := bc0 A5
       have By := bc1 A5
       have Bz := bc2 A5
       have BD := qz A5.o 0
       have BE := qz A5.o 1
       have BF := qz A5.o 2
       obtain ⟨AE, AG, BW⟩ := Kd.R_slice A0.o
       subst BW
       obtain ⟨Bd, Bs, BX⟩ := Kd.R_slice Af.o
       subst BX
       go_wp2_with (first | ((with_reducible refine gc (f := 54) rfl ?_); refine gA (some 28) _ #[.agg #[.int .i64 Ag, .int .i64 Ah, .slice AE A8.length AG], .slice Bd Ai.length Bs, .int .i64 (rd l1 Aa)] ?_ Try.func54; (with_reducible refine (impl_drop.calls k1 Ag Ah (fun k_ => some k_ = (.slice AE A8.length AG : Value).ownBlock) (.slice AE A8.length AG) A8 _ _ Ai (rd l1 Aa) Av Aw Ax BY AW w _ ?side1 ?side2 ?side3 ?side4 Cq.o).mono ?_); (case side1 => repeat (first | (with_reducible first | exact HB.o | apply qa | apply qn | apply qd | refine qx ?_ Bf.o | refine qx ?_ Bg.o | refine qx ?_ Bh.o) | exact HB.o)); (case side2 => exact Kd.Rg rfl A0.o); (case side3 => exact Kd.Ck ((Kd.Ra Af.o (Kd.Rt A0.o) (by decide))) (fun k_ hk_ hs_ => (hk_.2) hs_)); (case side4 => exact (Kd.RrZ Af.o).2.1); rintro e CH ⟨C0, rfl, AV, Cp, hb, hkp⟩; refine ⟨_, rfl, ?_⟩; have AA := Z.m (Kd.Rm (ok' := fun k_ => some k_ ≠ (.slice Bd Ai.length Bs : Value).ownBlock) AV (fun k_ hk_ => Or.elim hk_ (fun hs_ => fun e_ => ((((Kd.Ra Af.o (Kd.Rt A0.o) (by decide))).1 k_ e_.symm).2) hs_) (fun hn_ => (Kd.fresh' (Kd.R_lt (vR Af)) k_ hn_)))); replace Af := Z.m (Kd.Rm (ok' := fun k_ => some k_ ≠ (C0 : Value).ownBlock) (Kd.Rk ((Kd.Ra Af.o (Kd.Rt A0.o) (by decide))) hkp (fun k_ hk_ hs_ => (hk_.2) hs_)) (fun k_ hk_ => fun e_ => Or.elim (AV.1 k_ e_.symm) (fun hs_ => hk_.2.1 hs_) (fun hn_ => Nat.not_le.2 hk_.2.2 hn_))); replace Ac := Z.m (Kd.Rm (ok' := fun k_ => True) (Kd.Rk ((Kd.Ra Ac.o (Kd.Rt A0.o) (by decide))) hkp (fun k_ hk_ hs_ => (hk_.2) hs_)) (fun k_ hk_ => trivial)); replace A2 := Z.m (qk (vK A2) hkp (fun hs_ => (fun e_ => (Kd.R_ne A0.o A2.o (by decide)) e_) hs_)); replace A6 := Z.m (qk (vK A6) hkp (fun hs_ => (fun e_ => (Kd.R_ne A0.o A6.o (by decide)) e_) hs_)); replace A5 := Z.m (qk (vK A5) hkp (fun hs_ => (fun e_ => (Kd.R_ne A0.o A5.o (by decide)) e_) hs_)); replace A0 := Z.m (Kd.Re rfl Cp (fun k_ e_ => A0.o.1 k_ e_)); replace HB := Z.m (hb); (try clear hb); (try clear hkp); (try clear AV); (try clear Cp)) | ((with_reducible refine gq (N := 11) rfl ?_); refine be (N := 11) (cs := #[.int .i64 0, .int .i64 0, .int .i64 0]) (t := 27) ?_; intro Al hg CI hbox hb; have Ab := Z.m (hbox); have Bl := gW (w := w) HB hg; have C4 := Bl; have An := neL A2 hg; have AB := neG A2 hg; have Ao := neL A6 hg; have AC := neG A6 hg; have Aq := neL A5 hg; have AD := neG A5 hg; replace Af := Z.m (Kd.Rb (vR Af) hb); replace Ac := Z.m (Kd.Rb (Kd.R_elderB (vR Ac) Al (Nat.le_of_eq hg.symm)) hb); replace A0 := Z.m (Kd.Rb (vR A0) hb); replace AA := Z.m (Kd.Rb (vR AA) hb); replace A2 := kB A2 hb; replace A6 := kB A6 hb; replace A5 := kB A5 hb; replace HB := bB HB hb; clear hb hbox hg; have Ce := AB.o; have Cm := An.o; have Cf := AC.o; have Cn := Ao.o; have Cg := AD.o; have Co := Aq.o; have BA := bc0 Ab; have BB := bc1 Ab; have BC := bc2 Ab; have BG := qz Ab.o 0; have BH := qz Ab.o 1; have BI := qz Ab.o 2) | ((with_reducible refine gu (b := .append) (xs := #[.tmp 31, .tmp 33]) rfl ?_); at_builtin; refine Kd.R_append k27 (w0 := w) w.heap.size rfl (.tmp 31) (.tmp 33) 61 27 (.agg #[(.int .i64 0), (.int .i64 0), (.int .i64 0)]) 24 rfl Try.underlying61 info27 rfl (by decide) (by omega) u8 Ay (⟨Av, Aw, Ax⟩ : S27) [.int .i64 Av, .int .i64 Aw, .int .i64 Ax] (fun k_ => k_ ≠ Al) (fun _ => False) rfl (by first | (go_simp; done) | (go_simp; rfl)) ?aP (fun _ hk => hk.elim) ?aF ?aO ?aB ?aS ?aL ?_; (case aP => exact k27_mkM _ _ _ (⟨Av, Aw, Ax⟩ : S27)); (case aB => exact (vB HB)); (case aF => exact (fun k_ hk => Kd.freshB (g := Al) (o := .cells #[.int .i64 Av, .int .i64 Aw, .int .i64 Ax] 27 (0, 0)) (by refine bK ?_; apply st3; refine bK ?_; exact Ab.o) k_ hk)); (case aO => exact (by refine rK ?_; exact Kd.Rm (rf (rf (rf (Kd.Rm Ac.o (fun k_ hk => (⟨hk, hk.2⟩ : _ ∧ k_ ≠ Al)))))) (fun _ hk => hk.1.2))); (case aS => exact (below_size (vB HB))); (case aL => have := Bo.o; omega); intro CC CJ ho hb hg hat; rw [← Bp.o] at ho; have Bn := Z.m (ho); replace Af := Z.m (Kd.Ro (by refine rK ?_; exact (Kd.Rm (rf (rf (rf (Kd.Ry Af.o Ab.o (by decide))))) (fun _ h_ => h_.1))) (Kd.Rt (by refine rK ?_; exact (Kd.Rm (rf (rf (rf (Kd.Rm Ac.o (fun k_ hk => (⟨hk, hk.2⟩ : _ ∧ k_ ≠ Al)))))) (fun _ h_ => h_.1)))) (by decide) hg); replace A0 := Z.m (Kd.Ro (by refine rK ?_; exact (Kd.Rm (rf (rf (rf (Kd.Ry A0.o Ab.o (by decide))))) (fun _ h_ => h_.1))) (Kd.Rt (by refine rK ?_; exact (Kd.Rm (rf (rf (rf (Kd.Rm Ac.o (fun k_ hk => (⟨hk, hk.2⟩ : _ ∧ k_ ≠ Al)))))) (fun _ h_ => h_.1)))) (by decide) hg); replace A2 := Z.m (qg (g := AH) (o := .cells #[.int .i64 a0_0, .int .i64 a0_1, .slice A0_2 l0_2.length c0_2] 32 (0, 0)) (by refine bK ?_; (iterate 3 refine qF ?_ An); exact A2.o) hg (Kd.R_ne Ac.o A2.o (by decide))); replace A6 := Z.m (qg (g := Am) (o := .cells #[.int .i64 0, .int .i64 0, .slice none 0 0] 32 (0, 0)) (by refine bK ?_; (iterate 3 refine qF ?_ Ao); exact A6.o) hg (Kd.R_ne Ac.o A6.o (by decide))); replace A5 := Z.m (qg (g := Ar) (o := .cells #[.int .i64 Ag, .int .i64 Ah, .slice AE A8.length AG] 32 (0, 0)) (by refine bK ?_; (iterate 3 refine qF ?_ Aq); exact A5.o) hg (Kd.R_ne Ac.o A5.o (by decide))); replace AA := Z.m (Kd.Ro (by refine rK ?_; exact (Kd.Rm (rf (rf (rf (Kd.Ry AA.o Ab.o (by decide))))) (fun _ h_ => h_.1))) (Kd.Rt (by refine rK ?_; exact (Kd.Rm (rf (rf (rf (Kd.Rm Ac.o (fun k_ hk => (⟨hk, hk.2⟩ : _ ∧ k_ ≠ Al)))))) (fun _ h_ => h_.1)))) (by decide) hg); replace Ab := Z.m (qg (g := Al) (o := .cells #[.int .i64 Av, .int .i64 Aw, .int .i64 Ax] 27 (0, 0)) (by refine bK ?_; apply st3; refine bK ?_; exact Ab.o) hg (Kd.R_away Ac.o (fun _ hk => hk.2))); replace HB := Z.m (hb); clear Ac; clear ho hb hg hat))
       go_roundg k1
       case measure => have := C5.o; omega
       case rel => exact ⟨(Bw), (wrap64 (Aa + 1)), (AW), (.slice AE A8.length AG), (by first | rfl | (simp; done) | (simp [*]; done)), H', ⟨by have := C5.o; omega⟩, ⟨by refine rK ?_; exact Kd.Rm Af.o (fun _ hk => trivial)⟩, ⟨by refine rK ?_; exact Kd.Rm Bn.o (fun _ hk => trivial)⟩, ⟨vR A0⟩, ⟨vK A2⟩, ⟨vK A6⟩, ⟨vK A5⟩, ⟨vB HB⟩⟩
      ·rw [if_neg c23] at H
       exact absurd H (by simp)
     ·rw [if_neg c21] at H
      exact absurd H (by simp)
    ·rw [if_neg c20] at H
     exact absurd H (by simp)
   ·rw [if_neg c19] at H
    have Bq := decide_eq_false c19
    clear c19
    simp only [Option.some.injEq, Prod.mk.injEq] at H
    obtain ⟨rfl, rfl, rfl, rfl⟩ := H
    try go_wp2
    replace Af := Z.m (Kd.R_drew Af.o)
    replace Ac := Z.m (Kd.R_drew Ac.o)
    replace A0 := Z.m (Kd.R_drew A0.o)
    replace A2 := Z.m (blk_drew A2.o)
    replace A6 := Z.m (blk_drew A6.o)
    replace A5 := Z.m (blk_drew A5.o)
    replace HB := Z.m (qd HB.o)
    obtain ⟨Be, Bt, Bu⟩ := Kd.R_slice A0.o
    (first | subst Bu | (injection Bu with f1_ f2_ f3_; have f4_ := f1_.symm; have f5_ := f3_.symm; clear f1_ f2_ f3_; subst f4_; subst f5_))
    refine start_ (n := 4) (S := fun w' => w'.cell? ⟨Ar, 0, none⟩ = some (.int .i64 Ag) ∧ w'.cell? ⟨Ar, 1, none⟩ = some (.int .i64 Ah) ∧ w'.cell? ⟨Ar, 2, none⟩ = some (.slice Be A8.length Bt)) (ds := []) #[false, false, false, false] (by kernel_rfl) rfl rfl ⟨(ql A5.o 0).trans rfl, (ql A5.o 1).trans rfl, (ql A5.o 2).trans rfl⟩ (fun hHeld => ?_)
    generalize wr.drew = C1 at Af Ac A0 A2 A6 A5 HB hHeld ⊢
    refine pure_ (i := 0) (N := some 36) (v := ?_) (a' := ?_) #[true, false, false, false] rfl rfl (by kernel_rfl) (fun _ _ _ h => h) (Or.inl ⟨by rfl, ?_⟩) ?_ ?_
    rotate_left
    ·intro w'
     go_simp
     with_reducible rfl
    rotate_left
    ·simp only [Act.put, q1, q2, q3, i64_w, i32_w]
     rfl
    refine pure_ (i := 2) (N := some 4) (v := ?_) (a' := ?_) #[true, false, true, false] rfl rfl (by kernel_rfl) (fun _ _ _ h => h) (Or.inl ⟨by rfl, ?_⟩) ?_ ?_
    rotate_left
    ·intro w'
     go_simp
     with_reducible rfl
    rotate_left
    ·simp only [Act.put, q1, q2, q3, i64_w, i32_w]
     rfl
    refine take_ (i := 1) (N := some 37) (v := ?_) (a' := ?_) #[true, true, true, false] rfl rfl (by kernel_rfl) (fun _ _ _ h => h) (Or.inl ⟨by rfl, ?_⟩) hHeld ?_ ?_
    rotate_left
    ·rintro w' ⟨s0, s1, s2⟩
     go_simp
     with_reducible rfl
    rotate_left
    ·simp only [Act.put, q1, q2, q3, i64_w, i32_w]
     rfl
    refine one_ (i := 3) (N := none) #[true, true, true, true] rfl rfl (by kernel_rfl) (by decide) (fun K hK => ?_)
    have Cv : C1.cell? ⟨Am, 0, none⟩ = some (.int .i64 0) := (ql A6.o 0).trans rfl
    have hfs37 := qz A6.o 0
    have BP := Ad.o
    have BQ := A7.o
    have BJ := Ae.o
    have BK := A9.o
    have Cw : C1.cell? ⟨Am, 1, none⟩ = some (.int .i64 0) := (ql A6.o 1).trans rfl
    have hfs38 := qz A6.o 1
    have BR := Ad.o
    have BS := A7.o
    have BL := Ae.o
    have BM := A9.o
    have Cx : C1.cell? ⟨Am, 2, none⟩ = some (.slice none 0 0) := (ql A6.o 2).trans rfl
    have hfs40 := qz A6.o 2
    have BT := Ad.o
    have BU := A7.o
    have BN := Ae.o
    have BO := A9.o
    refine skip_ (w1 := ?_) ?hwx ?hnx ?_ ?_; (case hwx => rfl); (case hnx => rfl)
    rotate_left
    ·go_simp
     rfl
    refine hK.out _ _ ⟨(cx A7.o ((cx A7.o ((cx A7.o (hHeld.1)))))), (cx A7.o ((cx A7.o ((cx A7.o (hHeld.2.1)))))), (cx A7.o ((cx A7.o ((cx A7.o (hHeld.2.2))))))⟩ (fun hHeld => ?_)
    clear hK K
    refine done_ (by kernel_rfl) ?_
    try go_wp2
    refine bodyPost_ret (results_tc rfl _ _ Am 32 #[.int .i64 Ag, .int .i64 Ah, .slice Be A8.length Bt] (0, 0) _ rfl (by refine bK ?_; apply st3; refine bK ?_; exact A6.o) Try.underlying32 rfl (by kernel_rfl)) rfl ?_
    exact ⟨_, _, by first | rfl | (simp [eN, eS] <;> rfl) | (simp [*, eN, eS] <;> rfl), by refine rK ?_; exact Kd.Rm (rf (rf (rf (Kd.Ry Ac.o A6.o (by decide))))) (fun _ hk => trivial), by refine rK ?_; exact Kd.Rm (rf (rf (rf (Kd.Ry A0.o A6.o (by decide))))) (fun _ hk => trivial), vB HB⟩

end Go.Proofs.Ytoklfgjemfojgaa.PAll
