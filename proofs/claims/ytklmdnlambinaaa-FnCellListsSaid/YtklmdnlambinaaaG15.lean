/- Began as a text that print.sh wrote (of the functions named below); turned and shortened by this session. -/
import Derived.Test.YtklmdnlambinaaaG0
import Derived.Test.YtklmdnlambinaaaG4
import Derived.Test.YtklmdnlambinaaaG8
import Derived.Test.YtklmdnlambinaaaG14
namespace Go.Proofs.Ytklmdnlambinaaa.PAll
open Go.RowKit Go.Proofs.YtklmdnlambinaaaW.PrintWords Go.Proofs.YtklmdnlambinaaaW.PrintLast Go.Proofs.YtklmdnlambinaaaW.PrintMore
attribute [local go_sem] max2_int min2_int max_two min_two max_three min_three max_four min_four   -- for this text's walks alone
set_option linter.unusedVariables false
set_option linter.unusedSimpArgs false

/-! ### spec_paText: function 53 -/
def spec_paText.l0 : Nat → ByteArray → List (S25) → Int → Int → Option (ByteArray)
 | 0, _, _, _, _ => none
 | k + 1, x3, x6, x7, x8 => if x8 < x7 then (if 0 ≤ x8 then (if x8 < (x6.length : Int) then ((spec_paLetter.f ((rd_T25 x6 x8).f0) ((rd_T25 x6 x8).f1)).bind fun t404 => (if x3.size + t404.size ≤ 9223372036854775807 then (spec_paText.l0 k (x3 ++ t404) x6 x7 (wrap64 (x8 + 1))) else (none))) else (none)) else (none)) else (some x3)
def spec_paText.f (k : Nat) (l0 : List (S25)) : Option (ByteArray) := spec_paText.l0 k (⟨#[]⟩ : ByteArray) l0 (l0.length : Int) 0
set_option maxHeartbeats 8000000 in
set_option maxRecDepth 100000 in
theorem spec_paText.calls (k : Nat) (A0 : Option Addr) (c0 : Nat) (l0 : List (S25)) (r : ByteArray) (w : World) (hr0 : Kd.C k25 w A0 l0.length l0) (hc0 : l0.length ≤ c0) (h : spec_paText.f k l0 = some r) :
 Calls Try.prog 53 #[.slice A0 l0.length c0] w fun e w' => e = .returned (.string r) ∧ Below w.heap.size w w' := by
 have Ap := Try.underlying25
 have Aj := Z.m hr0
 have Aq := Z.m hc0
 clear hr0 hc0
 have HB := Z.m (Below.refl w.heap.size w)
 have H : (spec_paText.l0 k (⟨#[]⟩ : ByteArray) l0 (l0.length : Int) 0) = some r := h
 clear h
 have H' := Z.m H
 clear H
 go_enter Try.func53, Try.ntmps53
 go_wp2
 go_loopg [3, 8] k (fun kq v3 v8 w' => ∃ (A6 : ByteArray) (A1 : Int), v3 = .string A6 ∧ v8 = .int .i64 A1 ∧ Z (spec_paText.l0 kq A6 l0 (l0.length : Int) A1 = some r) ∧ Z (kq ≤ k) ∧ Z (Below w.heap.size w w'))
 case atStart => exact ⟨((⟨#[]⟩ : ByteArray)), (0), (by first | rfl | (simp; done) | (simp [*]; done)), (by first | rfl | (simp; done) | (simp [*]; done)), H', ⟨Nat.le_refl _⟩, ⟨vB HB⟩⟩
 case round =>
  clear H'
  obtain ⟨A6, A1, rfl, rfl, HA, Ah, HB⟩ := hrel
  cases gk with
  | zero => exact absurd HA.o (by simp [spec_paText.l0])
  | succ k1 =>
   have H := HA.o
   clear HA
   simp only [spec_paText.l0] at H
   by_cases c2 : A1 < (l0.length : Int)
   ·rw [if_pos c2] at H
    have Aa := decide_eq_true c2
    clear c2
    by_cases c3 : 0 ≤ A1
    ·rw [if_pos c3] at H
     have Ak := decide_eq_true c3
     clear c3
     by_cases c4 : A1 < (l0.length : Int)
     ·rw [if_pos c4] at H
      have Al := decide_eq_true c4
      clear c4
      replace H := Option.bind_eq_some_iff.mp H
      obtain ⟨A7, Af, H⟩ := H
      replace H : (if A6.size + A7.size ≤ 9223372036854775807 then (spec_paText.l0 k1 (A6 ++ A7) l0 (l0.length : Int) (wrap64 (A1 + 1))) else (none)) = some r := H
      have A5 := Z.m Af
      clear Af
      by_cases c6 : A6.size + A7.size ≤ 9223372036854775807
      ·rw [if_pos c6] at H
       have Am := eq_true c6
       have An := decide_eq_true c6
       try have Ao : (9223372036854775807 < A6.size + A7.size) = False := eq_false (Nat.not_lt.2 c6)
       have H' := Z.m H
       clear H
       have p402 : 0 ≤ (A1 : Int) := ofD
       have q402 : A1 < (l0.length : Int) := ofD
       obtain ⟨Ai, e402, A3, A4⟩ := at_T25 Aj.o A1 p402 q402
       cases e402
       replace A3 := (HB.o.cell (World.block_lt_of_cell? w _ A3)).trans A3
       replace A4 := (HB.o.cell (World.block_lt_of_cell? w _ A4)).trans A4
       replace p402 := eq_true p402
       replace q402 := eq_true q402
       go_wp2_with (first | ((with_reducible refine gq (N := 5) rfl ?_); refine be (N := 5) (cs := #[.int .i64 0, .int .i64 0]) (t := 25) ?_; intro A9 hg w7 hbox hb; have A2 := Z.m (hbox); have A8 := gW (w := w) HB hg; have Ag := A8; replace HB := bB HB hb; clear hb hbox hg; have Ab := bc0 A2; have Ac := bc1 A2; have Ad := qz A2.o 0; have Ae := qz A2.o 1) | ((with_reducible refine gc (f := 39) rfl ?_); refine gA (some 14) _ #[.agg #[.int .i64 ((rd_T25 l0 A1).f0), .int .i64 ((rd_T25 l0 A1).f1)]] ?_ Try.func39; (with_reducible refine (spec_paLetter.calls ((rd_T25 l0 A1).f0) ((rd_T25 l0 A1).f1) A7 _ A5.o).mono ?_); rintro e w9 ⟨rfl, hb⟩; refine ⟨_, rfl, ?_⟩; replace A2 := Z.m (qb (g := A9) (o := .cells #[.int .i64 ((rd_T25 l0 A1).f0), .int .i64 ((rd_T25 l0 A1).f1)] 25 (0, 0)) (by refine bK ?_; refine qp (cs := #[iV ((rd_T25 l0 A1).f0), iV 0]) ?_ 1 _ rfl; refine bK ?_; refine qp (cs := #[iV 0, iV 0]) ?_ 0 _ rfl; refine bK ?_; exact A2.o) hb); replace HB := bB HB hb; (try clear hb); (try clear Ar); (try clear hk); (try clear hi)))
       go_roundg k1
       case measure => have := Ah.o; omega
       case rel => exact ⟨(A6 ++ A7), (wrap64 (A1 + 1)), (by first | rfl | (simp; done) | (simp [*]; done)), (by first | rfl | (simp; done) | (simp [*]; done)), H', ⟨by have := Ah.o; omega⟩, ⟨vB HB⟩⟩
      ·rw [if_neg c6] at H
       exact absurd H (by simp)
     ·rw [if_neg c4] at H
      exact absurd H (by simp)
    ·rw [if_neg c3] at H
     exact absurd H (by simp)
   ·rw [if_neg c2] at H
    have Aa := decide_eq_false c2
    clear c2
    obtain rfl := Option.some.inj H
    go_wp2
    go_ret
    exact ⟨by first | rfl | (simp [eN, eS] <;> rfl) | (simp [*, eN, eS] <;> rfl), vB HB⟩

/-! ### spec_CellsText: function 26 -/
def spec_CellsText.f (k : Nat) (l0 : List (S25)) : Option (ByteArray × Bool) := (spec_paList.f k l0).bind fun t405 => (if t405 = true then ((spec_paText.f k l0).bind fun t406 => (some (t406, true))) else (some ((⟨#[]⟩ : ByteArray), false)))
set_option maxHeartbeats 8000000 in
set_option maxRecDepth 100000 in
theorem spec_CellsText.calls (k : Nat) (A0 : Option Addr) (c0 : Nat) (l0 : List (S25)) (r1 : ByteArray) (r2 : Bool) (w : World) (hr0 : Kd.C k25 w A0 l0.length l0) (hc0 : l0.length ≤ c0) (h : spec_CellsText.f k l0 = some (r1, r2)) :
 Calls Try.prog 26 #[.slice A0 l0.length c0] w fun e w' => e = .returned (.tuple #[.string r1, .bool r2]) ∧ Below w.heap.size w w' := by
 have A6 := Z.m hr0
 have A5 := Z.m hc0
 clear hr0 hc0
 have HB := Z.m (Below.refl w.heap.size w)
 have H : ((spec_paList.f k l0).bind fun A3 => (if A3 = true then ((spec_paText.f k l0).bind fun A1 => (some (A1, true))) else (some ((⟨#[]⟩ : ByteArray), false)))) = some (r1, r2) := h
 clear h
 replace H := Option.bind_eq_some_iff.mp H
 obtain ⟨A3, A7, H⟩ := H
 replace H : (if A3 = true then ((spec_paText.f k l0).bind fun A1 => (some (A1, true))) else (some ((⟨#[]⟩ : ByteArray), false))) = some (r1, r2) := H
 have A2 := Z.m A7
 clear A7
 by_cases c3 : A3 = true
 ·subst c3
  have H1 : ((spec_paText.f k l0).bind fun A1 => (some (A1, true))) = some (r1, r2) := by rw [if_pos rfl] at H; exact H
  clear H
  have H := H1
  clear H1
  replace H := Option.bind_eq_some_iff.mp H
  obtain ⟨A1, A8, H⟩ := H
  replace H : (some (A1, true)) = some (r1, r2) := H
  have A4 := Z.m A8
  clear A8
  simp only [Option.some.injEq, Prod.mk.injEq] at H
  obtain ⟨rfl, rfl⟩ := H
  go_enter Try.func26, Try.ntmps26
  go_wp2_with (first | ((with_reducible refine gc (f := 52) rfl ?_); refine gA (some 5) _ #[.slice A0 l0.length c0] ?_ Try.func52; (with_reducible refine (spec_paList.calls k _ _ l0 true _ ?side1 ?side2 A2.o).mono ?_); (case side1 => repeat (first | exact A6.o | (with_reducible refine Kd.C_alloc ?_ _) | (with_reducible refine Kd.C_drewN ?_ _) | (with_reducible refine Kd.C_drew ?_))); (case side2 => exact A5.o); rintro e w5 ⟨rfl, hb⟩; refine ⟨_, rfl, ?_⟩; replace HB := bB HB hb; (try clear hb); (try clear A9); (try clear hk); (try clear hi)) | ((with_reducible refine gc (f := 53) rfl ?_); refine gA (some 8) _ #[.slice A0 l0.length c0] ?_ Try.func53; (with_reducible refine (spec_paText.calls k _ _ l0 A1 _ ?side1 ?side2 A4.o).mono ?_); (case side1 => repeat (first | exact (Kd.C_below A6.o HB.o) | (with_reducible refine Kd.C_alloc ?_ _) | (with_reducible refine Kd.C_drewN ?_ _) | (with_reducible refine Kd.C_drew ?_))); (case side2 => exact A5.o); rintro e w6 ⟨rfl, hb⟩; refine ⟨_, rfl, ?_⟩; replace HB := bB HB hb; (try clear hb); (try clear A9); (try clear hk); (try clear hi)))
  go_ret2
  exact ⟨by first | rfl | (simp [eN, eS] <;> rfl) | (simp [*, eN, eS] <;> rfl), vB HB⟩
 ·replace c3 := Bool.eq_false_iff.mpr c3
  subst c3
  have H1 : (some ((⟨#[]⟩ : ByteArray), false)) = some (r1, r2) := by rw [if_neg (show ¬ (false = true) by decide)] at H; exact H
  clear H
  have H := H1
  clear H1
  simp only [Option.some.injEq, Prod.mk.injEq] at H
  obtain ⟨rfl, rfl⟩ := H
  go_enter Try.func26, Try.ntmps26
  go_wp2_with (first | ((with_reducible refine gc (f := 52) rfl ?_); refine gA (some 5) _ #[.slice A0 l0.length c0] ?_ Try.func52; (with_reducible refine (spec_paList.calls k _ _ l0 false _ ?side1 ?side2 A2.o).mono ?_); (case side1 => repeat (first | exact A6.o | (with_reducible refine Kd.C_alloc ?_ _) | (with_reducible refine Kd.C_drewN ?_ _) | (with_reducible refine Kd.C_drew ?_))); (case side2 => exact A5.o); rintro e w7 ⟨rfl, hb⟩; refine ⟨_, rfl, ?_⟩; replace HB := bB HB hb; (try clear hb); (try clear A9); (try clear hk); (try clear hi)))
  go_ret2
  exact ⟨by first | rfl | (simp [eN, eS] <;> rfl) | (simp [*, eN, eS] <;> rfl), vB HB⟩

/-! ### impl_CountKinds: function 27 -/
def impl_CountKinds.l0 : Nat → List Int → List (S25) → Int → Int → Option (List Int × Bool)
 | 0, _, _, _, _ => none
 | k + 1, x4, x11, x12, x13 => if x13 < x12 then (if 0 ≤ x13 then (if x13 < (x11.length : Int) then (if 0 ≤ ((rd_T25 x11 x13).f0) then (if ((rd_T25 x11 x13).f0) < (x4.length : Int) then (impl_CountKinds.l0 k (x4.set (((rd_T25 x11 x13).f0) : Int).toNat (wrap64 ((rd x4 ((rd_T25 x11 x13).f0)) + 1))) x11 x12 (wrap64 (x13 + 1))) else (none)) else (none)) else (none)) else (none)) else (some (x4, true))
def impl_CountKinds.f (k : Nat) (l0 : List (S25)) : Option (List Int × Bool) := (impl_validCells.f k l0).bind fun t407 => (if t407 = true then (if 8 ≤ 35184372088832 then (impl_CountKinds.l0 k (List.replicate 8 0) l0 (l0.length : Int) 0) else (none)) else (some (([] : List Int), false)))
set_option maxHeartbeats 8000000 in
set_option maxRecDepth 100000 in
theorem impl_CountKinds.calls (k : Nat) (A0 : Option Addr) (c0 : Nat) (l0 : List (S25)) (r1 : List Int) (r2 : Bool) (w : World) (hr0 : Kd.C k25 w A0 l0.length l0) (hc0 : l0.length ≤ c0) (h : impl_CountKinds.f k l0 = some (r1, r2)) :
 Calls Try.prog 27 #[.slice A0 l0.length c0] w fun e w' => ∃ v0_ : Value, e = .returned (.tuple #[v0_, .bool r2]) ∧ Kd.R (Kd.int .i64) 3 w' w.heap.size (fun _ => True) v0_ r1 ∧ Below w.heap.size w w' := by
 have AX := Try.underlying25
 have AA := Z.m hr0
 have AL := Z.m hc0
 clear hr0 hc0
 have HB := Z.m (Below.refl w.heap.size w)
 have H : ((impl_validCells.f k l0).bind fun Ac => (if Ac = true then (if 8 ≤ 35184372088832 then (impl_CountKinds.l0 k (List.replicate 8 0) l0 (l0.length : Int) 0) else (none)) else (some (([] : List Int), false)))) = some (r1, r2) := h
 clear h
 replace H := Option.bind_eq_some_iff.mp H
 obtain ⟨Ac, AJ, H⟩ := H
 replace H : (if Ac = true then (if 8 ≤ 35184372088832 then (impl_CountKinds.l0 k (List.replicate 8 0) l0 (l0.length : Int) 0) else (none)) else (some (([] : List Int), false))) = some (r1, r2) := H
 have A2 := Z.m AJ
 clear AJ
 by_cases c3 : Ac = true
 ·subst c3
  have H1 : (if 8 ≤ 35184372088832 then (impl_CountKinds.l0 k (List.replicate 8 0) l0 (l0.length : Int) 0) else (none)) = some (r1, r2) := by rw [if_pos rfl] at H; exact H
  clear H
  have H := H1
  clear H1
  by_cases c4 : 8 ≤ 35184372088832
  ·rw [if_pos c4] at H
   have AB := eq_true c4
   have AC := decide_eq_true c4
   clear c4
   obtain ⟨Aq, A8⟩ : ∃ y_ : List Int, y_ = (List.replicate 8 0) := ⟨_, rfl⟩
   replace H : (impl_CountKinds.l0 k Aq l0 (l0.length : Int) 0) = some (r1, r2) := by first | (rw [A8]; with_reducible exact H) | (have H2_ := (Option.bind_some _ _).symm.trans H; rw [A8]; with_reducible exact H2_) | (have H2_ := (Option.bind_some _ _).symm.trans H; with_reducible exact H2_) | with_reducible exact H | (rw [A8]; exact H) | exact H
   have Ad := Z.m A8
   clear A8
   have H' := Z.m H
   clear H
   go_enter Try.func27, Try.ntmps27
   go_wp2_with (first | ((with_reducible refine gc (f := 51) rfl ?_); refine gA (some 8) _ #[.slice A0 l0.length c0] ?_ Try.func51; (with_reducible refine (impl_validCells.calls k _ _ l0 true _ ?side1 ?side2 A2.o).mono ?_); (case side1 => repeat (first | exact AA.o | (with_reducible refine Kd.C_alloc ?_ _) | (with_reducible refine Kd.C_drewN ?_ _) | (with_reducible refine Kd.C_drew ?_))); (case side2 => exact AL.o); rintro e w5 ⟨rfl, hb⟩; refine ⟨_, rfl, ?_⟩; replace HB := bB HB hb; (try clear hb); (try clear AW); (try clear hk); (try clear hi)) | ((with_reducible refine gq (N := 10) rfl ?_); refine Kd.R_make (Kd.int .i64) _ 3 rfl (N := 10) rfl 43 _ _ rfl 8 rfl rfl Try.underlying43 (.int .i64 0) 8 info3 rfl (by decide) (by omega) 0 (ok := fun _ => True) (okp := fun _ => True) rfl (fun _ hk => hk) trivial (by omega) (by omega) (Below.refl _ _) (Nat.le_refl _) ?_; intro Ao w6 An hb hg_ hnew_; clear hg_ hnew_; (first | rw [← Ad.o] at An | (simp only [Int.reduceToNat] at An; rw [← Ad.o] at An)); have Aj := Z.m (Kd.R_lower An (below_size (vB HB))); replace HB := bB HB hb; clear hb An))
   go_loopg [13] k (fun kq v13 w' => ∃ (A5 : List Int) (A1 : Int), v13 = .int .i64 A1 ∧ Z (impl_CountKinds.l0 kq A5 l0 (l0.length : Int) A1 = some (r1, r2)) ∧ Z (kq ≤ k) ∧ Z (Kd.R (Kd.int .i64) 3 w' w.heap.size (fun _ => True) Ao A5) ∧ Z (Below w.heap.size w w'))
   case atStart => exact ⟨(Aq), (0), (by first | rfl | (simp; done) | (simp [*]; done)), H', ⟨Nat.le_refl _⟩, ⟨vR Aj⟩, ⟨vB HB⟩⟩
   case round =>
    clear H'
    (try clear c3); (try clear AB); (try clear AC)
    obtain ⟨A5, A1, rfl, HA, AM, A4, HB⟩ := hrel
    cases gk with
    | zero => exact absurd HA.o (by simp [impl_CountKinds.l0])
    | succ k1 =>
     have H := HA.o
     clear HA
     simp only [impl_CountKinds.l0] at H
     by_cases c8 : A1 < (l0.length : Int)
     ·rw [if_pos c8] at H
      have AD := decide_eq_true c8
      clear c8
      by_cases c9 : 0 ≤ A1
      ·rw [if_pos c9] at H
       have AU := decide_eq_true c9
       clear c9
       by_cases c10 : A1 < (l0.length : Int)
       ·rw [if_pos c10] at H
        have AP := decide_eq_true c10
        clear c10
        by_cases c11 : 0 ≤ ((rd_T25 l0 A1).f0)
        ·rw [if_pos c11] at H
         have AQ := decide_eq_true c11
         clear c11
         by_cases c12 : ((rd_T25 l0 A1).f0) < (A5.length : Int)
         ·rw [if_pos c12] at H
          have AR := decide_eq_true c12
          clear c12
          obtain ⟨Ag, A9⟩ : ∃ y_ : List Int, y_ = (A5.set (((rd_T25 l0 A1).f0) : Int).toNat (wrap64 ((rd A5 ((rd_T25 l0 A1).f0)) + 1))) := ⟨_, rfl⟩
          replace H : (impl_CountKinds.l0 k1 Ag l0 (l0.length : Int) (wrap64 (A1 + 1))) = some (r1, r2) := by first | (rw [A9]; with_reducible exact H) | (have H2_ := (Option.bind_some _ _).symm.trans H; rw [A9]; with_reducible exact H2_) | (have H2_ := (Option.bind_some _ _).symm.trans H; with_reducible exact H2_) | with_reducible exact H | (rw [A9]; exact H) | exact H
          have Ak := Z.m A9
          clear A9
          have H' := Z.m H
          clear H
          have p411 : 0 ≤ (A1 : Int) := ofD
          have q411 : A1 < (l0.length : Int) := ofD
          obtain ⟨AN, e411, A6, A7⟩ := at_T25 AA.o A1 p411 q411
          cases e411
          replace A6 := (HB.o.cell (World.block_lt_of_cell? w _ A6)).trans A6
          replace A7 := (HB.o.cell (World.block_lt_of_cell? w _ A7)).trans A7
          replace p411 := eq_true p411
          replace q411 := eq_true q411
          go_wp2_with (first | ((with_reducible refine gq (N := 6) rfl ?_); refine be (N := 6) (cs := #[.int .i64 0, .int .i64 0]) (t := 25) ?_; intro Aa hg AY hbox hb; have A3 := Z.m (hbox); have Ah := gW (w := w) HB hg; have AK := Ah; replace A4 := Z.m (Kd.Rb (vR A4) hb); replace HB := bB HB hb; clear hb hbox hg; have Ar := bc0 A3; have As := bc1 A3; have Av := qz A3.o 0; have Aw := qz A3.o 1) | ((with_reducible refine gt (t := 25) (p := 6) rfl ?_); refine store_event (t := 25) (p := 6) (v := ?vo_w16) (w1 := ((AY.setCell ⟨Aa, 0, none⟩ (.int .i64 ((rd_T25 l0 A1).f0))).setCell ⟨Aa, 1, none⟩ (.int .i64 ((rd_T25 l0 A1).f1)))) ?hg ?ho ?hn ?hr ?_; (case ho => rfl); (case hg => rfl); (case hn => rfl); (case hr => first | (go_simp; done) | (go_simp; rfl)); intro Ap hw; replace A4 : Z (Kd.R (Kd.int .i64) 3 Ap w.heap.size (fun _ => True) Ao A5) := ⟨(by rw [hw]; exact (by refine rK ?_; exact Kd.Rm (rf (rf (Kd.Ry A4.o A3.o (by decide)))) (fun _ hk => trivial)))⟩; replace A3 : Z (Ap.heap[Aa]? = some (.cells #[.int .i64 ((rd_T25 l0 A1).f0), .int .i64 ((rd_T25 l0 A1).f1)] 25 (0, 0))) := ⟨(by rw [hw]; exact (by refine bK ?_; refine qp (cs := #[iV ((rd_T25 l0 A1).f0), iV 0]) ?_ 1 _ rfl; refine bK ?_; refine qp (cs := #[iV 0, iV 0]) ?_ 0 _ rfl; refine bK ?_; exact A3.o))⟩; replace HB : Z (Below w.heap.size w Ap) := ⟨(by rw [hw]; exact (vB HB))⟩; clear hw; have At := bc0 A3; have Au := bc1 A3; have Ax := qz A3.o 0; have Ay := qz A3.o 1; obtain ⟨AS, AE, AF⟩ := Kd.R_slice A4.o; subst AF; have p413 : 0 ≤ (((rd_T25 l0 A1).f0) : Int) := ofD; have q413 : ((rd_T25 l0 A1).f0) < (A5.length : Int) := ofD; obtain ⟨AO, e413, Ab⟩ := Kd.at_int (Kd.RrZ A4.o).2.2 ((rd_T25 l0 A1).f0) p413 q413; cases e413; replace p413 := eq_true p413; replace q413 := eq_true q413; have p13 : 0 ≤ (((rd_T25 l0 A1).f0) : Int) := ofD; have q13 : (((rd_T25 l0 A1).f0) : Int) < ((A5.length : Int) : Int) := ofD; obtain ⟨Af, AV, Al, Am, gl13, cl13, Ai⟩ := Kd.R_form A4.o (by omega); (first | cases Al | (injection Al with ea_ en_ ec_; (first | subst ea_ | (injection ea_ with ea_; subst ea_)); subst ec_; clear en_)); have Az := Z.m Am; have AT := Z.m Ai; clear Am gl13 Ai; (first | simp only [add_plain] at Ab | skip); obtain ⟨AH, AG⟩ := Kd.R_celln 0 A4.o (((rd_T25 l0 A1).f0) : Int) p13 q13; replace p13 := eq_true p13; replace q13 := eq_true q13; obtain ⟨hy19_, hz19_⟩ := Kd.R_celln 0 A4.o (((rd_T25 l0 A1).f0) : Int) (ofD) (ofD); have Ae := Kd.R_putg A4.o (((rd_T25 l0 A1).f0) : Int) (wrap64 ((rd A5 ((rd_T25 l0 A1).f0)) + 1))) | ((with_reducible refine gt (t := 3) (p := 23) rfl ?_); refine store_event (t := 3) (p := 23) (v := ?vo_w20) (w1 := (Ap.setCell ⟨Af, (((rd_T25 l0 A1).f0) : Int).toNat, none⟩ (.int .i64 (wrap64 ((rd A5 ((rd_T25 l0 A1).f0)) + 1))))) ?hg ?ho ?hn ?hr ?_; (case ho => rfl); (case hg => rfl); (case hn => rfl); (case hr => first | (go_simp; done) | (go_simp; rfl)); intro AI hw; have hg : Ap.grownBy AI (some Af) := (by rw [hw]; exact Ae.2); have hp_ : Kd.R (Kd.int .i64) 3 AI w.heap.size (fun _ => True) (.slice (some ⟨Af, 0, none⟩) A5.length AE) Ag := (by rw [hw, Ak.o]; exact Ae.1); clear Ae; replace A3 := Z.m (qg (g := Aa) (o := .cells #[.int .i64 ((rd_T25 l0 A1).f0), .int .i64 ((rd_T25 l0 A1).f1)] 25 (0, 0)) (vK A3) hg (Kd.R_ne A4.o A3.o (by decide))); replace A4 := Z.m (hp_); replace HB := Z.m ((by rw [hw]; exact qx (HB.o) Az.o : Below w.heap.size w AI)); clear hg hw hp_))
          go_roundg k1
          case measure => have := AM.o; omega
          case rel => exact ⟨(Ag), (wrap64 (A1 + 1)), (by first | rfl | (simp; done) | (simp [*]; done)), H', ⟨by have := AM.o; omega⟩, ⟨vR A4⟩, ⟨vB HB⟩⟩
         ·rw [if_neg c12] at H
          exact absurd H (by simp)
        ·rw [if_neg c11] at H
         exact absurd H (by simp)
       ·rw [if_neg c10] at H
        exact absurd H (by simp)
      ·rw [if_neg c9] at H
       exact absurd H (by simp)
     ·rw [if_neg c8] at H
      have AD := decide_eq_false c8
      clear c8
      simp only [Option.some.injEq, Prod.mk.injEq] at H
      obtain ⟨rfl, rfl⟩ := H
      go_wp2
      go_ret2
      exact ⟨_, by first | rfl | (simp [eN, eS] <;> rfl) | (simp [*, eN, eS] <;> rfl), vR A4, vB HB⟩
  ·rw [if_neg c4] at H
   exact absurd H (by simp)
 ·replace c3 := Bool.eq_false_iff.mpr c3
  subst c3
  have H1 : (some (([] : List Int), false)) = some (r1, r2) := by rw [if_neg (show ¬ (false = true) by decide)] at H; exact H
  clear H
  have H := H1
  clear H1
  simp only [Option.some.injEq, Prod.mk.injEq] at H
  obtain ⟨rfl, rfl⟩ := H
  go_enter Try.func27, Try.ntmps27
  go_wp2_with (first | ((with_reducible refine gc (f := 51) rfl ?_); refine gA (some 8) _ #[.slice A0 l0.length c0] ?_ Try.func51; (with_reducible refine (impl_validCells.calls k _ _ l0 false _ ?side1 ?side2 A2.o).mono ?_); (case side1 => repeat (first | exact AA.o | (with_reducible refine Kd.C_alloc ?_ _) | (with_reducible refine Kd.C_drewN ?_ _) | (with_reducible refine Kd.C_drew ?_))); (case side2 => exact AL.o); rintro e AZ ⟨rfl, hb⟩; refine ⟨_, rfl, ?_⟩; replace HB := bB HB hb; (try clear hb); (try clear AW); (try clear hk); (try clear hi)))
  go_ret2
  exact ⟨_, by first | rfl | (simp [eN, eS] <;> rfl) | (simp [*, eN, eS] <;> rfl), by first | exact Kd.R_nil _ _ _ _ _ | exact Kd.N_nil _ _ _ _ _ | exact Kd.V_nil _ _ _ _ _ | exact Kd.Q_nil _ _ _ _ _ | exact Kd.S_nil _ _ _ _ _, vB HB⟩

/-! ### spec_CountKinds: function 28 -/
def spec_CountKinds.l0 : Nat → List Int → List (S25) → Int → Int → Option (List Int × Bool)
 | 0, _, _, _, _ => none
 | k + 1, x4, x11, x12, x13 => if x13 < x12 then (if 0 ≤ x13 then (if x13 < (x11.length : Int) then (if 0 ≤ ((rd_T25 x11 x13).f0) then (if ((rd_T25 x11 x13).f0) < (x4.length : Int) then (spec_CountKinds.l0 k (x4.set (((rd_T25 x11 x13).f0) : Int).toNat (wrap64 ((rd x4 ((rd_T25 x11 x13).f0)) + 1))) x11 x12 (wrap64 (x13 + 1))) else (none)) else (none)) else (none)) else (none)) else (some (x4, true))
def spec_CountKinds.f (k : Nat) (l0 : List (S25)) : Option (List Int × Bool) := (spec_paList.f k l0).bind fun t415 => (if t415 = true then (if 8 ≤ 35184372088832 then (spec_CountKinds.l0 k (List.replicate 8 0) l0 (l0.length : Int) 0) else (none)) else (some (([] : List Int), false)))
set_option maxHeartbeats 8000000 in
set_option maxRecDepth 100000 in
theorem spec_CountKinds.calls (k : Nat) (A0 : Option Addr) (c0 : Nat) (l0 : List (S25)) (r1 : List Int) (r2 : Bool) (w : World) (hr0 : Kd.C k25 w A0 l0.length l0) (hc0 : l0.length ≤ c0) (h : spec_CountKinds.f k l0 = some (r1, r2)) :
 Calls Try.prog 28 #[.slice A0 l0.length c0] w fun e w' => ∃ v0_ : Value, e = .returned (.tuple #[v0_, .bool r2]) ∧ Kd.R (Kd.int .i64) 3 w' w.heap.size (fun _ => True) v0_ r1 ∧ Below w.heap.size w w' := by
 have AX := Try.underlying25
 have AA := Z.m hr0
 have AL := Z.m hc0
 clear hr0 hc0
 have HB := Z.m (Below.refl w.heap.size w)
 have H : ((spec_paList.f k l0).bind fun Ac => (if Ac = true then (if 8 ≤ 35184372088832 then (spec_CountKinds.l0 k (List.replicate 8 0) l0 (l0.length : Int) 0) else (none)) else (some (([] : List Int), false)))) = some (r1, r2) := h
 clear h
 replace H := Option.bind_eq_some_iff.mp H
 obtain ⟨Ac, AJ, H⟩ := H
 replace H : (if Ac = true then (if 8 ≤ 35184372088832 then (spec_CountKinds.l0 k (List.replicate 8 0) l0 (l0.length : Int) 0) else (none)) else (some (([] : List Int), false))) = some (r1, r2) := H
 have A2 := Z.m AJ
 clear AJ
 by_cases c3 : Ac = true
 ·subst c3
  have H1 : (if 8 ≤ 35184372088832 then (spec_CountKinds.l0 k (List.replicate 8 0) l0 (l0.length : Int) 0) else (none)) = some (r1, r2) := by rw [if_pos rfl] at H; exact H
  clear H
  have H := H1
  clear H1
  by_cases c4 : 8 ≤ 35184372088832
  ·rw [if_pos c4] at H
   have AB := eq_true c4
   have AC := decide_eq_true c4
   clear c4
   obtain ⟨Aq, A8⟩ : ∃ y_ : List Int, y_ = (List.replicate 8 0) := ⟨_, rfl⟩
   replace H : (spec_CountKinds.l0 k Aq l0 (l0.length : Int) 0) = some (r1, r2) := by first | (rw [A8]; with_reducible exact H) | (have H2_ := (Option.bind_some _ _).symm.trans H; rw [A8]; with_reducible exact H2_) | (have H2_ := (Option.bind_some _ _).symm.trans H; with_reducible exact H2_) | with_reducible exact H | (rw [A8]; exact H) | exact H
   have Ad := Z.m A8
   clear A8
   have H' := Z.m H
   clear H
   go_enter Try.func28, Try.ntmps28
   go_wp2_with (first | ((with_reducible refine gc (f := 52) rfl ?_); refine gA (some 8) _ #[.slice A0 l0.length c0] ?_ Try.func52; (with_reducible refine (spec_paList.calls k _ _ l0 true _ ?side1 ?side2 A2.o).mono ?_); (case side1 => repeat (first | exact AA.o | (with_reducible refine Kd.C_alloc ?_ _) | (with_reducible refine Kd.C_drewN ?_ _) | (with_reducible refine Kd.C_drew ?_))); (case side2 => exact AL.o); rintro e w5 ⟨rfl, hb⟩; refine ⟨_, rfl, ?_⟩; replace HB := bB HB hb; (try clear hb); (try clear AW); (try clear hk); (try clear hi)) | ((with_reducible refine gq (N := 10) rfl ?_); refine Kd.R_make (Kd.int .i64) _ 3 rfl (N := 10) rfl 43 _ _ rfl 8 rfl rfl Try.underlying43 (.int .i64 0) 8 info3 rfl (by decide) (by omega) 0 (ok := fun _ => True) (okp := fun _ => True) rfl (fun _ hk => hk) trivial (by omega) (by omega) (Below.refl _ _) (Nat.le_refl _) ?_; intro Ao w6 An hb hg_ hnew_; clear hg_ hnew_; (first | rw [← Ad.o] at An | (simp only [Int.reduceToNat] at An; rw [← Ad.o] at An)); have Aj := Z.m (Kd.R_lower An (below_size (vB HB))); replace HB := bB HB hb; clear hb An))
   go_loopg [13] k (fun kq v13 w' => ∃ (A5 : List Int) (A1 : Int), v13 = .int .i64 A1 ∧ Z (spec_CountKinds.l0 kq A5 l0 (l0.length : Int) A1 = some (r1, r2)) ∧ Z (kq ≤ k) ∧ Z (Kd.R (Kd.int .i64) 3 w' w.heap.size (fun _ => True) Ao A5) ∧ Z (Below w.heap.size w w'))
   case atStart => exact ⟨(Aq), (0), (by first | rfl | (simp; done) | (simp [*]; done)), H', ⟨Nat.le_refl _⟩, ⟨vR Aj⟩, ⟨vB HB⟩⟩
   case round =>
    clear H'
    (try clear c3); (try clear AB); (try clear AC)
    obtain ⟨A5, A1, rfl, HA, AM, A4, HB⟩ := hrel
    cases gk with
    | zero => exact absurd HA.o (by simp [spec_CountKinds.l0])
    | succ k1 =>
     have H := HA.o
     clear HA
     simp only [spec_CountKinds.l0] at H
     by_cases c8 : A1 < (l0.length : Int)
     ·rw [if_pos c8] at H
      have AD := decide_eq_true c8
      clear c8
      by_cases c9 : 0 ≤ A1
      ·rw [if_pos c9] at H
       have AU := decide_eq_true c9
       clear c9
       by_cases c10 : A1 < (l0.length : Int)
       ·rw [if_pos c10] at H
        have AP := decide_eq_true c10
        clear c10
        by_cases c11 : 0 ≤ ((rd_T25 l0 A1).f0)
        ·rw [if_pos c11] at H
         have AQ := decide_eq_true c11
         clear c11
         by_cases c12 : ((rd_T25 l0 A1).f0) < (A5.length : Int)
         ·rw [if_pos c12] at H
          have AR := decide_eq_true c12
          clear c12
          obtain ⟨Ag, A9⟩ : ∃ y_ : List Int, y_ = (A5.set (((rd_T25 l0 A1).f0) : Int).toNat (wrap64 ((rd A5 ((rd_T25 l0 A1).f0)) + 1))) := ⟨_, rfl⟩
          replace H : (spec_CountKinds.l0 k1 Ag l0 (l0.length : Int) (wrap64 (A1 + 1))) = some (r1, r2) := by first | (rw [A9]; with_reducible exact H) | (have H2_ := (Option.bind_some _ _).symm.trans H; rw [A9]; with_reducible exact H2_) | (have H2_ := (Option.bind_some _ _).symm.trans H; with_reducible exact H2_) | with_reducible exact H | (rw [A9]; exact H) | exact H
          have Ak := Z.m A9
          clear A9
          have H' := Z.m H
          clear H
          have p419 : 0 ≤ (A1 : Int) := ofD
          have q419 : A1 < (l0.length : Int) := ofD
          obtain ⟨AN, e419, A6, A7⟩ := at_T25 AA.o A1 p419 q419
          cases e419
          replace A6 := (HB.o.cell (World.block_lt_of_cell? w _ A6)).trans A6
          replace A7 := (HB.o.cell (World.block_lt_of_cell? w _ A7)).trans A7
          replace p419 := eq_true p419
          replace q419 := eq_true q419
          go_wp2_with (first | ((with_reducible refine gq (N := 6) rfl ?_); refine be (N := 6) (cs := #[.int .i64 0, .int .i64 0]) (t := 25) ?_; intro Aa hg AY hbox hb; have A3 := Z.m (hbox); have Ah := gW (w := w) HB hg; have AK := Ah; replace A4 := Z.m (Kd.Rb (vR A4) hb); replace HB := bB HB hb; clear hb hbox hg; have Ar := bc0 A3; have As := bc1 A3; have Av := qz A3.o 0; have Aw := qz A3.o 1) | ((with_reducible refine gt (t := 25) (p := 6) rfl ?_); refine store_event (t := 25) (p := 6) (v := ?vo_w16) (w1 := ((AY.setCell ⟨Aa, 0, none⟩ (.int .i64 ((rd_T25 l0 A1).f0))).setCell ⟨Aa, 1, none⟩ (.int .i64 ((rd_T25 l0 A1).f1)))) ?hg ?ho ?hn ?hr ?_; (case ho => rfl); (case hg => rfl); (case hn => rfl); (case hr => first | (go_simp; done) | (go_simp; rfl)); intro Ap hw; replace A4 : Z (Kd.R (Kd.int .i64) 3 Ap w.heap.size (fun _ => True) Ao A5) := ⟨(by rw [hw]; exact (by refine rK ?_; exact Kd.Rm (rf (rf (Kd.Ry A4.o A3.o (by decide)))) (fun _ hk => trivial)))⟩; replace A3 : Z (Ap.heap[Aa]? = some (.cells #[.int .i64 ((rd_T25 l0 A1).f0), .int .i64 ((rd_T25 l0 A1).f1)] 25 (0, 0))) := ⟨(by rw [hw]; exact (by refine bK ?_; refine qp (cs := #[iV ((rd_T25 l0 A1).f0), iV 0]) ?_ 1 _ rfl; refine bK ?_; refine qp (cs := #[iV 0, iV 0]) ?_ 0 _ rfl; refine bK ?_; exact A3.o))⟩; replace HB : Z (Below w.heap.size w Ap) := ⟨(by rw [hw]; exact (vB HB))⟩; clear hw; have At := bc0 A3; have Au := bc1 A3; have Ax := qz A3.o 0; have Ay := qz A3.o 1; obtain ⟨AS, AE, AF⟩ := Kd.R_slice A4.o; subst AF; have p421 : 0 ≤ (((rd_T25 l0 A1).f0) : Int) := ofD; have q421 : ((rd_T25 l0 A1).f0) < (A5.length : Int) := ofD; obtain ⟨AO, e421, Ab⟩ := Kd.at_int (Kd.RrZ A4.o).2.2 ((rd_T25 l0 A1).f0) p421 q421; cases e421; replace p421 := eq_true p421; replace q421 := eq_true q421; have p13 : 0 ≤ (((rd_T25 l0 A1).f0) : Int) := ofD; have q13 : (((rd_T25 l0 A1).f0) : Int) < ((A5.length : Int) : Int) := ofD; obtain ⟨Af, AV, Al, Am, gl13, cl13, Ai⟩ := Kd.R_form A4.o (by omega); (first | cases Al | (injection Al with ea_ en_ ec_; (first | subst ea_ | (injection ea_ with ea_; subst ea_)); subst ec_; clear en_)); have Az := Z.m Am; have AT := Z.m Ai; clear Am gl13 Ai; (first | simp only [add_plain] at Ab | skip); obtain ⟨AH, AG⟩ := Kd.R_celln 0 A4.o (((rd_T25 l0 A1).f0) : Int) p13 q13; replace p13 := eq_true p13; replace q13 := eq_true q13; obtain ⟨hy19_, hz19_⟩ := Kd.R_celln 0 A4.o (((rd_T25 l0 A1).f0) : Int) (ofD) (ofD); have Ae := Kd.R_putg A4.o (((rd_T25 l0 A1).f0) : Int) (wrap64 ((rd A5 ((rd_T25 l0 A1).f0)) + 1))) | ((with_reducible refine gt (t := 3) (p := 23) rfl ?_); refine store_event (t := 3) (p := 23) (v := ?vo_w20) (w1 := (Ap.setCell ⟨Af, (((rd_T25 l0 A1).f0) : Int).toNat, none⟩ (.int .i64 (wrap64 ((rd A5 ((rd_T25 l0 A1).f0)) + 1))))) ?hg ?ho ?hn ?hr ?_; (case ho => rfl); (case hg => rfl); (case hn => rfl); (case hr => first | (go_simp; done) | (go_simp; rfl)); intro AI hw; have hg : Ap.grownBy AI (some Af) := (by rw [hw]; exact Ae.2); have hp_ : Kd.R (Kd.int .i64) 3 AI w.heap.size (fun _ => True) (.slice (some ⟨Af, 0, none⟩) A5.length AE) Ag := (by rw [hw, Ak.o]; exact Ae.1); clear Ae; replace A3 := Z.m (qg (g := Aa) (o := .cells #[.int .i64 ((rd_T25 l0 A1).f0), .int .i64 ((rd_T25 l0 A1).f1)] 25 (0, 0)) (vK A3) hg (Kd.R_ne A4.o A3.o (by decide))); replace A4 := Z.m (hp_); replace HB := Z.m ((by rw [hw]; exact qx (HB.o) Az.o : Below w.heap.size w AI)); clear hg hw hp_))
          go_roundg k1
          case measure => have := AM.o; omega
          case rel => exact ⟨(Ag), (wrap64 (A1 + 1)), (by first | rfl | (simp; done) | (simp [*]; done)), H', ⟨by have := AM.o; omega⟩, ⟨vR A4⟩, ⟨vB HB⟩⟩
         ·rw [if_neg c12] at H
          exact absurd H (by simp)
        ·rw [if_neg c11] at H
         exact absurd H (by simp)
       ·rw [if_neg c10] at H
        exact absurd H (by simp)
      ·rw [if_neg c9] at H
       exact absurd H (by simp)
     ·rw [if_neg c8] at H
      have AD := decide_eq_false c8
      clear c8
      simp only [Option.some.injEq, Prod.mk.injEq] at H
      obtain ⟨rfl, rfl⟩ := H
      go_wp2
      go_ret2
      exact ⟨_, by first | rfl | (simp [eN, eS] <;> rfl) | (simp [*, eN, eS] <;> rfl), vR A4, vB HB⟩
  ·rw [if_neg c4] at H
   exact absurd H (by simp)
 ·replace c3 := Bool.eq_false_iff.mpr c3
  subst c3
  have H1 : (some (([] : List Int), false)) = some (r1, r2) := by rw [if_neg (show ¬ (false = true) by decide)] at H; exact H
  clear H
  have H := H1
  clear H1
  simp only [Option.some.injEq, Prod.mk.injEq] at H
  obtain ⟨rfl, rfl⟩ := H
  go_enter Try.func28, Try.ntmps28
  go_wp2_with (first | ((with_reducible refine gc (f := 52) rfl ?_); refine gA (some 8) _ #[.slice A0 l0.length c0] ?_ Try.func52; (with_reducible refine (spec_paList.calls k _ _ l0 false _ ?side1 ?side2 A2.o).mono ?_); (case side1 => repeat (first | exact AA.o | (with_reducible refine Kd.C_alloc ?_ _) | (with_reducible refine Kd.C_drewN ?_ _) | (with_reducible refine Kd.C_drew ?_))); (case side2 => exact AL.o); rintro e AZ ⟨rfl, hb⟩; refine ⟨_, rfl, ?_⟩; replace HB := bB HB hb; (try clear hb); (try clear AW); (try clear hk); (try clear hi)))
  go_ret2
  exact ⟨_, by first | rfl | (simp [eN, eS] <;> rfl) | (simp [*, eN, eS] <;> rfl), by first | exact Kd.R_nil _ _ _ _ _ | exact Kd.N_nil _ _ _ _ _ | exact Kd.V_nil _ _ _ _ _ | exact Kd.Q_nil _ _ _ _ _ | exact Kd.S_nil _ _ _ _ _, vB HB⟩

/-! ### laws_sameInts: function 29 -/
def laws_sameInts.l0 : Nat → List Int → List Int → Int → Int → Option (Bool)
 | 0, _, _, _, _ => none
 | k + 1, x0, x1, x12, x13 => if x13 < x12 then (if 0 ≤ x13 then (if x13 < (x0.length : Int) then (if x13 < (x1.length : Int) then (if (rd x0 x13) = (rd x1 x13) then (laws_sameInts.l0 k x0 x1 x12 (wrap64 (x13 + 1))) else (some false)) else (none)) else (none)) else (none)) else (some true)
def laws_sameInts.f (k : Nat) (l0 : List Int) (l1 : List Int) : Option (Bool) := if (l0.length : Int) = (l1.length : Int) then (laws_sameInts.l0 k l0 l1 (l0.length : Int) 0) else (some false)
set_option maxHeartbeats 8000000 in
set_option maxRecDepth 100000 in
theorem laws_sameInts.calls (k : Nat) (A0 : Option Addr) (c0 : Nat) (l0 : List Int) (A1 : Option Addr) (c1 : Nat) (l1 : List Int) (r : Bool) (w : World) (hr0 : Kd.C (Kd.int .i64) w A0 l0.length l0) (hc0 : l0.length ≤ c0) (hr1 : Kd.C (Kd.int .i64) w A1 l1.length l1) (hc1 : l1.length ≤ c1) (h : laws_sameInts.f k l0 l1 = some r) :
 Calls Try.prog 29 #[.slice A0 l0.length c0, .slice A1 l1.length c1] w fun e w' => e = .returned (.bool r) ∧ Drawn0 w w' := by
 have Ae := Z.m hr0
 have Aj := Z.m hc0
 clear hr0 hc0
 have Af := Z.m hr1
 have Ak := Z.m hc1
 clear hr1 hc1
 have H : (if (l0.length : Int) = (l1.length : Int) then (laws_sameInts.l0 k l0 l1 (l0.length : Int) 0) else (some false)) = some r := h
 clear h
 by_cases c3 : (l0.length : Int) = (l1.length : Int)
 ·rw [if_pos c3] at H
  have A7 := beq_iff_eq.mpr c3
  have A8 := bne_eq_false_iff_eq.mpr c3
  have A9 : (l0.length == l1.length) = true := by first | simpa using c3 | (simp at c3 ⊢; omega)
  clear c3
  have H' := Z.m H
  clear H
  go_enter Try.func29, Try.ntmps29
  go_wp2
  repeat (go_quiet (fail); try go_wp2)
  go_loopg [13] k (fun kq v13 w' => ∃ (A2 : Int), v13 = .int .i64 A2 ∧ Z (laws_sameInts.l0 kq l0 l1 (l0.length : Int) A2 = some r) ∧ Z (kq ≤ k) ∧ Drawn0 w w')
  case atStart => exact ⟨(0), (by first | rfl | (simp; done) | (simp [*]; done)), H', ⟨Nat.le_refl _⟩, by repeat (first | exact Drawn0.refl _ | apply Drawn0.step)⟩
  case round =>
   clear H'
   (try clear A7); (try clear A8); (try clear A9)
   obtain ⟨A2, rfl, HA, Ad, ⟨m1, rfl⟩⟩ := hrel
   cases gk with
   | zero => exact absurd HA.o (by simp [laws_sameInts.l0])
   | succ k1 =>
    have H := HA.o
    clear HA
    simp only [laws_sameInts.l0] at H
    by_cases c4 : A2 < (l0.length : Int)
    ·rw [if_pos c4] at H
     have Aa := decide_eq_true c4
     clear c4
     by_cases c5 : 0 ≤ A2
     ·rw [if_pos c5] at H
      have Ag := decide_eq_true c5
      clear c5
      by_cases c6 : A2 < (l0.length : Int)
      ·rw [if_pos c6] at H
       have Ah := decide_eq_true c6
       clear c6
       by_cases c7 : A2 < (l1.length : Int)
       ·rw [if_pos c7] at H
        have Ai := decide_eq_true c7
        clear c7
        by_cases c8 : (rd l0 A2) = (rd l1 A2)
        ·rw [if_pos c8] at H
         have Ab := beq_iff_eq.mpr c8
         have Ac := bne_eq_false_iff_eq.mpr c8
         clear c8
         have H' := Z.m H
         clear H
         have p423 : 0 ≤ (A2 : Int) := ofD
         have q423 : A2 < (l0.length : Int) := ofD
         obtain ⟨A5, e423, A3⟩ := Kd.at_int Ae.o A2 p423 q423
         cases e423
         replace p423 := eq_true p423
         replace q423 := eq_true q423
         have p424 : 0 ≤ (A2 : Int) := ofD
         have q424 : A2 < (l1.length : Int) := ofD
         obtain ⟨A6, e424, A4⟩ := Kd.at_int Af.o A2 p424 q424
         cases e424
         replace p424 := eq_true p424
         replace q424 := eq_true q424
         go_wp2
         repeat (go_quiet (fail); try go_wp2)
         go_roundg k1
         case measure => have := Ad.o; omega
         case rel => exact ⟨(wrap64 (A2 + 1)), (by first | rfl | (simp; done) | (simp [*]; done)), H', ⟨by have := Ad.o; omega⟩, by repeat (first | exact Drawn0.refl _ | apply Drawn0.step)⟩
        ·rw [if_neg c8] at H
         have Ab := beq_eq_false_iff_ne.mpr c8
         have Ac := bne_iff_ne.mpr c8
         obtain rfl := Option.some.inj H
         have p423 : 0 ≤ (A2 : Int) := ofD
         have q423 : A2 < (l0.length : Int) := ofD
         obtain ⟨A5, e423, A3⟩ := Kd.at_int Ae.o A2 p423 q423
         cases e423
         replace p423 := eq_true p423
         replace q423 := eq_true q423
         have p424 : 0 ≤ (A2 : Int) := ofD
         have q424 : A2 < (l1.length : Int) := ofD
         obtain ⟨A6, e424, A4⟩ := Kd.at_int Af.o A2 p424 q424
         cases e424
         replace p424 := eq_true p424
         replace q424 := eq_true q424
         go_wp2
         repeat (go_quiet (fail); try go_wp2)
         go_ret
         exact ⟨by first | rfl | (simp; done) | (simp [*]; done), by repeat (first | exact Drawn0.refl _ | apply Drawn0.step)⟩
       ·rw [if_neg c7] at H
        exact absurd H (by simp)
      ·rw [if_neg c6] at H
       exact absurd H (by simp)
     ·rw [if_neg c5] at H
      exact absurd H (by simp)
    ·rw [if_neg c4] at H
     have Aa := decide_eq_false c4
     clear c4
     obtain rfl := Option.some.inj H
     go_wp2
     repeat (go_quiet (fail); try go_wp2)
     go_ret
     exact ⟨by first | rfl | (simp; done) | (simp [*]; done), by repeat (first | exact Drawn0.refl _ | apply Drawn0.step)⟩
 ·rw [if_neg c3] at H
  have A7 := beq_eq_false_iff_ne.mpr c3
  have A8 := bne_iff_ne.mpr c3
  have A9 : (l0.length == l1.length) = false := by first | simpa using c3 | (simp at c3 ⊢; omega)
  obtain rfl := Option.some.inj H
  go_enter Try.func29, Try.ntmps29
  go_wp2
  repeat (go_quiet (fail); try go_wp2)
  go_ret
  exact ⟨by first | rfl | (simp; done) | (simp [*]; done), by repeat (first | exact Drawn0.refl _ | apply Drawn0.step)⟩

/-! ### impl_ReadCells: function 30 -/
def impl_ReadCells.l0 : Nat → ByteArray → List (S25) → Int → Option ((List (S25)) × Bool)
 | 0, _, _, _ => none
 | k + 1, x0, x4, x5 => if x5 < (x0.size : Int) then (if 0 ≤ x5 then (if x5 ≤ (wrap64 (x5 + 1)) then (if (wrap64 (x5 + 1)) ≤ (x0.size : Int) then ((impl_ReadCell.f k (x0.extract (x5 : Int).toNat ((wrap64 (x5 + 1)) : Int).toNat)).bind fun bt428 => (if bt428.2.2 = true then (if x4.length < 8796093022208 then (impl_ReadCells.l0 k x0 (x4 ++ [(⟨bt428.1, bt428.2.1⟩ : S25)]) (wrap64 (x5 + 1))) else (none)) else (some (([] : List (S25)), false)))) else (none)) else (none)) else (none)) else (some (x4, true))
def impl_ReadCells.f (k : Nat) (a0 : ByteArray) : Option ((List (S25)) × Bool) := if (a0.size : Int) > 90 then (some (([] : List (S25)), false)) else (impl_ReadCells.l0 k a0 (([] : List (S25))) 0)
set_option maxHeartbeats 8000000 in
set_option maxRecDepth 100000 in
theorem impl_ReadCells.calls (k : Nat) (a0 : ByteArray) (r1 : List (S25)) (r2 : Bool) (w : World) (h : impl_ReadCells.f k a0 = some (r1, r2)) :
 Calls Try.prog 30 #[.string a0] w fun e w' => ∃ v0_ : Value, e = .returned (.tuple #[v0_, .bool r2]) ∧ Kd.R k25 25 w' w.heap.size (fun _ => True) v0_ r1 ∧ Below w.heap.size w w' := by
 have AF := Try.underlying25
 have HB := Z.m (Below.refl w.heap.size w)
 have H : (if (a0.size : Int) > 90 then (some (([] : List (S25)), false)) else (impl_ReadCells.l0 k a0 (([] : List (S25))) 0)) = some (r1, r2) := h
 clear h
 by_cases c2 : (a0.size : Int) > 90
 ·rw [if_pos c2] at H
  have Ah := decide_eq_true c2
  have Ai : decide (90 < a0.size) = true := decide_eq_true (by omega)
  clear c2
  simp only [Option.some.injEq, Prod.mk.injEq] at H
  obtain ⟨rfl, rfl⟩ := H
  go_enter Try.func30, Try.ntmps30
  go_wp2
  go_ret2
  exact ⟨_, by first | rfl | (simp [eN, eS] <;> rfl) | (simp [*, eN, eS] <;> rfl), by first | exact Kd.R_nil _ _ _ _ _ | exact Kd.N_nil _ _ _ _ _ | exact Kd.V_nil _ _ _ _ _ | exact Kd.Q_nil _ _ _ _ _ | exact Kd.S_nil _ _ _ _ _, vB HB⟩
 ·rw [if_neg c2] at H
  have Ah := decide_eq_false c2
  have Ai : decide (90 < a0.size) = false := decide_eq_false (by omega)
  clear c2
  obtain ⟨Al, A7⟩ : ∃ y_ : List (S25), y_ = (([] : List (S25))) := ⟨_, rfl⟩
  replace H : (impl_ReadCells.l0 k a0 Al 0) = some (r1, r2) := by first | (rw [A7]; with_reducible exact H) | (have H2_ := (Option.bind_some _ _).symm.trans H; rw [A7]; with_reducible exact H2_) | (have H2_ := (Option.bind_some _ _).symm.trans H; with_reducible exact H2_) | with_reducible exact H | (rw [A7]; exact H) | exact H
  have Ab := Z.m A7
  clear A7
  have H' := Z.m H
  clear H
  go_enter Try.func30, Try.ntmps30
  go_wp2_with (first | ((with_reducible refine gq (N := 11) rfl ?_); refine Kd.R_lit k25 _ 25 ?hg (N := 11) ?hd (xs := ([] : List (S25))) (inner := []) (ok := fun _ => True) (okp := fun _ => True) ?hr ?hp (fun _ hk => hk) trivial (Below.refl _ _) (Nat.le_refl _) (by simp) ?_; (case hd => rfl); (case hg => rfl); (case hr => first | (go_simp; done) | (go_simp; rfl)); (case hp => exact (Reps.none _ _)); intro AG w3 Aj hb hg_ hnew_; clear hg_ hnew_; (first | rw [← Ab.o] at Aj | (simp only [Int.reduceToNat] at Aj; rw [← Ab.o] at Aj)); have Ad := Z.m (Kd.R_lower Aj (below_size (vB HB))); replace HB := bB HB hb; clear hb Aj))
  go_loopg [4, 5] k (fun kq v4 v5 w' => ∃ (A6 : List (S25)) (A0 : Int), v5 = .int .i64 A0 ∧ Z (impl_ReadCells.l0 kq a0 A6 A0 = some (r1, r2)) ∧ Z (kq ≤ k) ∧ Z (Kd.R k25 25 w' w.heap.size (fun _ => True) v4 A6) ∧ Z (Below w.heap.size w w'))
  case atStart => exact ⟨(Al), (0), (by first | rfl | (simp; done) | (simp [*]; done)), H', ⟨Nat.le_refl _⟩, ⟨vR Ad⟩, ⟨vB HB⟩⟩
  case round =>
   clear H'
   (try clear Ah); (try clear Ai)
   obtain ⟨A6, A0, rfl, HA, Ax, A2, HB⟩ := hrel
   cases gk with
   | zero => exact absurd HA.o (by simp [impl_ReadCells.l0])
   | succ k1 =>
    have H := HA.o
    clear HA
    simp only [impl_ReadCells.l0] at H
    by_cases c5 : A0 < (a0.size : Int)
    ·rw [if_pos c5] at H
     have Av := decide_eq_true c5
     clear c5
     by_cases c6 : 0 ≤ A0
     ·rw [if_pos c6] at H
      have Ay := eq_true c6
      have Az := decide_eq_true c6
      clear c6
      by_cases c7 : A0 ≤ (wrap64 (A0 + 1))
      ·rw [if_pos c7] at H
       have AA := eq_true c7
       have AB := decide_eq_true c7
       by_cases c8 : (wrap64 (A0 + 1)) ≤ (a0.size : Int)
       ·rw [if_pos c8] at H
        have AC := eq_true c8
        have AD := decide_eq_true c8
        replace H := Option.bind_eq_some_iff.mp H
        obtain ⟨⟨A3, A5, Ak⟩, Aw, H⟩ := H
        replace H : (if Ak = true then (if A6.length < 8796093022208 then (impl_ReadCells.l0 k1 a0 (A6 ++ [(⟨A3, A5⟩ : S25)]) (wrap64 (A0 + 1))) else (none)) else (some (([] : List (S25)), false))) = some (r1, r2) := H
        have A9 := Z.m Aw
        clear Aw
        by_cases c10 : Ak = true
        ·subst c10
         have H1 : (if A6.length < 8796093022208 then (impl_ReadCells.l0 k1 a0 (A6 ++ [(⟨A3, A5⟩ : S25)]) (wrap64 (A0 + 1))) else (none)) = some (r1, r2) := by rw [if_pos rfl] at H; exact H
         clear H
         have H := H1
         clear H1
         by_cases c11 : A6.length < 8796093022208
         ·rw [if_pos c11] at H
          have Af := Z.m c11
          clear c11
          obtain ⟨Am, A8⟩ : ∃ y_ : List (S25), y_ = (A6 ++ [(⟨A3, A5⟩ : S25)]) := ⟨_, rfl⟩
          replace H : (impl_ReadCells.l0 k1 a0 Am (wrap64 (A0 + 1))) = some (r1, r2) := by first | (rw [A8]; with_reducible exact H) | (have H2_ := (Option.bind_some _ _).symm.trans H; rw [A8]; with_reducible exact H2_) | (have H2_ := (Option.bind_some _ _).symm.trans H; with_reducible exact H2_) | with_reducible exact H | (rw [A8]; exact H) | exact H
          have Ag := Z.m A8
          clear A8
          have H' := Z.m H
          clear H
          go_wp2_with (first | ((with_reducible refine gc (f := 15) rfl ?_); refine gA (some 24) _ #[.string (a0.extract (A0 : Int).toNat ((wrap64 (A0 + 1)) : Int).toNat)] ?_ Try.func15; (with_reducible refine (impl_ReadCell.calls k1 (a0.extract (A0 : Int).toNat ((wrap64 (A0 + 1)) : Int).toNat) A3 A5 true _ A9.o).mono ?_); rintro e AI ⟨rfl, hb⟩; refine ⟨_, rfl, ?_⟩; replace A2 := Z.m (Kd.Rb (vR A2) hb); replace HB := bB HB hb; (try clear hb); (try clear AE); (try clear hk); (try clear hi)) | ((with_reducible refine gq (N := 6) rfl ?_); refine be (N := 6) (cs := #[.int .i64 0, .int .i64 0]) (t := 25) ?_; intro A4 hg AJ hbox hb; have A1 := Z.m (hbox); have Aa := gW (w := w) HB hg; have Ac := Aa; replace A2 := Z.m (Kd.Rb (Kd.R_elderB (vR A2) A4 (Nat.le_of_eq hg.symm)) hb); replace HB := bB HB hb; clear hb hbox hg; have An := bc0 A1; have Ao := bc1 A1; have Ar := qz A1.o 0; have As := qz A1.o 1) | ((with_reducible refine gu (b := .append) (xs := #[.tmp 29, .tmp 31]) rfl ?_); at_builtin; refine Kd.R_append k25 (w0 := w) w.heap.size rfl (.tmp 29) (.tmp 31) 40 25 (.agg #[(.int .i64 0), (.int .i64 0)]) 16 rfl Try.underlying40 info25 rfl (by decide) (by omega) u4 A6 (⟨A3, A5⟩ : S25) [.int .i64 A3, .int .i64 A5] (fun k_ => k_ ≠ A4) (fun _ => False) rfl (by first | (go_simp; done) | (go_simp; rfl)) ?aP (fun _ hk => hk.elim) ?aF ?aO ?aB ?aS ?aL ?_; (case aP => exact k25_mkM _ _ _ (⟨A3, A5⟩ : S25)); (case aB => exact (vB HB)); (case aF => exact (fun k_ hk => Kd.freshB (g := A4) (o := .cells #[.int .i64 A3, .int .i64 A5] 25 (0, 0)) (by refine bK ?_; refine qp (cs := #[iV A3, iV 0]) ?_ 1 _ rfl; refine bK ?_; refine qp (cs := #[iV 0, iV 0]) ?_ 0 _ rfl; refine bK ?_; exact A1.o) k_ hk)); (case aO => exact (by refine rK ?_; exact Kd.Rm (rf (rf (Kd.Rm A2.o (fun k_ hk => (⟨hk, hk.2⟩ : _ ∧ k_ ≠ A4))))) (fun _ hk => hk.1.2))); (case aS => exact (below_size (vB HB))); (case aL => have := Af.o; omega); intro AH AK ho hb hg hat; rw [← Ag.o] at ho; have Ae := Z.m (ho); replace A1 := Z.m (qg (g := A4) (o := .cells #[.int .i64 A3, .int .i64 A5] 25 (0, 0)) (by refine bK ?_; refine qp (cs := #[iV A3, iV 0]) ?_ 1 _ rfl; refine bK ?_; refine qp (cs := #[iV 0, iV 0]) ?_ 0 _ rfl; refine bK ?_; exact A1.o) hg (Kd.R_away A2.o (fun _ hk => hk.2))); replace HB := Z.m (hb); clear A2; clear ho hb hg hat))
          go_roundg k1
          case measure => have := Ax.o; omega
          case rel => exact ⟨(Am), (wrap64 (A0 + 1)), (by first | rfl | (simp; done) | (simp [*]; done)), H', ⟨by have := Ax.o; omega⟩, ⟨by refine rK ?_; exact Kd.Rm Ae.o (fun _ hk => trivial)⟩, ⟨vB HB⟩⟩
         ·rw [if_neg c11] at H
          exact absurd H (by simp)
        ·replace c10 := Bool.eq_false_iff.mpr c10
         subst c10
         have H1 : (some (([] : List (S25)), false)) = some (r1, r2) := by rw [if_neg (show ¬ (false = true) by decide)] at H; exact H
         clear H
         have H := H1
         clear H1
         simp only [Option.some.injEq, Prod.mk.injEq] at H
         obtain ⟨rfl, rfl⟩ := H
         go_wp2_with (first | ((with_reducible refine gc (f := 15) rfl ?_); refine gA (some 24) _ #[.string (a0.extract (A0 : Int).toNat ((wrap64 (A0 + 1)) : Int).toNat)] ?_ Try.func15; (with_reducible refine (impl_ReadCell.calls k1 (a0.extract (A0 : Int).toNat ((wrap64 (A0 + 1)) : Int).toNat) A3 A5 false _ A9.o).mono ?_); rintro e AL ⟨rfl, hb⟩; refine ⟨_, rfl, ?_⟩; replace A2 := Z.m (Kd.Rb (vR A2) hb); replace HB := bB HB hb; (try clear hb); (try clear AE); (try clear hk); (try clear hi)) | ((with_reducible refine gq (N := 6) rfl ?_); refine be (N := 6) (cs := #[.int .i64 0, .int .i64 0]) (t := 25) ?_; intro A4 hg AM hbox hb; have A1 := Z.m (hbox); have Aa := gW (w := w) HB hg; have Ac := Aa; replace A2 := Z.m (Kd.Rb (Kd.R_elderB (vR A2) A4 (Nat.le_of_eq hg.symm)) hb); replace HB := bB HB hb; clear hb hbox hg; have Ap := bc0 A1; have Aq := bc1 A1; have At := qz A1.o 0; have Au := qz A1.o 1))
         go_ret2
         exact ⟨_, by first | rfl | (simp [eN, eS] <;> rfl) | (simp [*, eN, eS] <;> rfl), by first | exact Kd.R_nil _ _ _ _ _ | exact Kd.N_nil _ _ _ _ _ | exact Kd.V_nil _ _ _ _ _ | exact Kd.Q_nil _ _ _ _ _ | exact Kd.S_nil _ _ _ _ _, vB HB⟩
       ·rw [if_neg c8] at H
        exact absurd H (by simp)
      ·rw [if_neg c7] at H
       exact absurd H (by simp)
     ·rw [if_neg c6] at H
      exact absurd H (by simp)
    ·rw [if_neg c5] at H
     have Av := decide_eq_false c5
     clear c5
     simp only [Option.some.injEq, Prod.mk.injEq] at H
     obtain ⟨rfl, rfl⟩ := H
     go_wp2
     go_ret2
     exact ⟨_, by first | rfl | (simp [eN, eS] <;> rfl) | (simp [*, eN, eS] <;> rfl), vR A2, vB HB⟩

end Go.Proofs.Ytklmdnlambinaaa.PAll
