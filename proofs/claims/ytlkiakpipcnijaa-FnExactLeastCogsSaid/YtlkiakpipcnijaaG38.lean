/- Began as a text that print.sh wrote (of the functions named below); turned and shortened by this session. -/
import Derived.Test.YtlkiakpipcnijaaG0
import Derived.Test.YtlkiakpipcnijaaG1
import Derived.Test.YtlkiakpipcnijaaG10
import Derived.Test.YtlkiakpipcnijaaG31
import Derived.Test.YtlkiakpipcnijaaG36
import Derived.Test.YtlkiakpipcnijaaG37
namespace Go.Proofs.Ytlkiakpipcnijaa.PAll
open Go.RowKit Go.Proofs.YtlkiakpipcnijaaW.PrintWords Go.Proofs.YtlkiakpipcnijaaW.PrintLast Go.Proofs.YtlkiakpipcnijaaW.PrintMore
attribute [local go_sem] max2_int min2_int max_two min_two max_three min_three max_four min_four   -- for this text's walks alone
set_option linter.unusedVariables false
set_option linter.unusedSimpArgs false

/-! ### impl_LeastCogs: function 23 -/
mutual
def impl_LeastCogs.j0 : Nat → Int → Int → Int → Int → Bool → Int → Int → List (S71) → Option (Int × Bool)
 | 0, _, _, _, _, _, _, _, _ => none
 | k + 1, x1, x2, x3, x4, x26, x898000, x898001, x898002 => if x26 = true then (some (0, false)) else (if 0 ≤ (wrap64 ((wrap64 (x1 * x898001)) + x2)) then (if (wrap64 ((wrap64 (x1 * x898001)) + x2)) < (x898002.length : Int) then ((impl_isGeared.f ((rd_T71 x898002 (wrap64 ((wrap64 (x1 * x898001)) + x2))).f0) ((rd_T71 x898002 (wrap64 ((wrap64 (x1 * x898001)) + x2))).f1)).bind fun t901 => (if t901 = true then (if 0 ≤ (wrap64 ((wrap64 (x3 * x898001)) + x4)) then (if (wrap64 ((wrap64 (x3 * x898001)) + x4)) < (x898002.length : Int) then ((impl_isGeared.f ((rd_T71 x898002 (wrap64 ((wrap64 (x3 * x898001)) + x4))).f0) ((rd_T71 x898002 (wrap64 ((wrap64 (x3 * x898001)) + x4))).f1)).bind fun t903 => (impl_LeastCogs.j1 k (wrap64 ((wrap64 (x1 * x898001)) + x2)) (wrap64 ((wrap64 (x3 * x898001)) + x4)) (!t903) x898000 x898001 x898002)) else (none)) else (none)) else (impl_LeastCogs.j1 k (wrap64 ((wrap64 (x1 * x898001)) + x2)) (wrap64 ((wrap64 (x3 * x898001)) + x4)) true x898000 x898001 x898002))) else (none)) else (none))
def impl_LeastCogs.j1 : Nat → Int → Int → Bool → Int → Int → List (S71) → Option (Int × Bool)
 | 0, _, _, _, _, _, _ => none
 | k + 1, x12, x13, x54, x898000, x898001, x898002 => if x54 = true then (some (0, false)) else ((impl_cogCosts.f k x898000 x898001 x898002 x12).bind fun t904 => (if 0 ≤ x13 then (if x13 < (t904.length : Int) then (if (rd t904 x13) < 0 then (some (0, false)) else (some (rd t904 x13, true))) else (none)) else (none)))
end
def impl_LeastCogs.f (k : Nat) (a0_0 : Int) (a0_1 : Int) (l0_2 : List (S71)) (a1 : Int) (a2 : Int) (a3 : Int) (a4 : Int) : Option (Int × Bool) := (impl_onBoard.f k a0_0 a0_1 l0_2 a1 a2).bind fun t898 => (if t898 = true then ((impl_onBoard.f k a0_0 a0_1 l0_2 a3 a4).bind fun t899 => (impl_LeastCogs.j0 k a1 a2 a3 a4 (!t899) a0_0 a0_1 l0_2)) else (impl_LeastCogs.j0 k a1 a2 a3 a4 true a0_0 a0_1 l0_2))
set_option maxHeartbeats 8000000 in
set_option maxRecDepth 100000 in
theorem impl_LeastCogs.calls (k : Nat) (a0_0 : Int) (a0_1 : Int) (A0_2 : Option Addr) (c0_2 : Nat) (l0_2 : List (S71)) (a1 : Int) (a2 : Int) (a3 : Int) (a4 : Int) (r1 : Int) (r2 : Bool) (w : World) (hr0_2 : Kd.C k71 w A0_2 l0_2.length l0_2) (hc0_2 : l0_2.length ≤ c0_2) (h : impl_LeastCogs.f k a0_0 a0_1 l0_2 a1 a2 a3 a4 = some (r1, r2)) :
 Calls Try.prog 23 #[.agg #[.int .i64 a0_0, .int .i64 a0_1, .slice A0_2 l0_2.length c0_2], .int .i64 a1, .int .i64 a2, .int .i64 a3, .int .i64 a4] w fun e w' => e = .returned (.tuple #[.int .i64 r1, .bool r2]) ∧ Below w.heap.size w w' := by
 have BX := Try.underlying30
 have BY := Try.underlying71
 have Ab := Z.m hr0_2
 have Ai := Z.m hc0_2
 clear hr0_2 hc0_2
 have HB := Z.m (Below.refl w.heap.size w)
 have H : ((impl_onBoard.f k a0_0 a0_1 l0_2 a1 a2).bind fun As => (if As = true then ((impl_onBoard.f k a0_0 a0_1 l0_2 a3 a4).bind fun Ag => (impl_LeastCogs.j0 k a1 a2 a3 a4 (!Ag) a0_0 a0_1 l0_2)) else (impl_LeastCogs.j0 k a1 a2 a3 a4 true a0_0 a0_1 l0_2))) = some (r1, r2) := h
 clear h
 have BE := Z.m H
 clear H
 go_enter Try.func23, Try.ntmps23
 go_upto_region 1 with (first | ((with_reducible refine gq (N := 5) rfl ?_); refine be (N := 5) (cs := #[.int .i64 a0_0, .int .i64 a0_1, .slice A0_2 l0_2.length c0_2]) (t := 30) ?_; intro Aw hg w7 hbox hb; have A0 := Z.m (hbox); have AD := gW (w := w) HB hg; have BJ := AD; replace HB := bB HB hb; clear hb hbox hg))
 (try simp only [Act.put, q1, q2, q3])
 go_cut [26] (fun v26 wc => ∃ (kq : Nat) (Aj : Bool), v26 = .bool Aj ∧ Z (impl_LeastCogs.j0 kq a1 a2 a3 a4 Aj a0_0 a0_1 l0_2 = some (r1, r2)) ∧ Z (kq ≤ k) ∧ Z (wc.heap[Aw]? = some (.cells #[.int .i64 a0_0, .int .i64 a0_1, (.slice A0_2 l0_2.length c0_2)] 30 (0, 0))) ∧ Z (Below w.heap.size w wc))
 case first =>
  have H := BE.o
  clear BE
  replace H := Option.bind_eq_some_iff.mp H
  obtain ⟨As, BI, H⟩ := H
  replace H : (if As = true then ((impl_onBoard.f k a0_0 a0_1 l0_2 a3 a4).bind fun Ag => (impl_LeastCogs.j0 k a1 a2 a3 a4 (!Ag) a0_0 a0_1 l0_2)) else (impl_LeastCogs.j0 k a1 a2 a3 a4 true a0_0 a0_1 l0_2)) = some (r1, r2) := H
  have A8 := Z.m BI
  clear BI
  by_cases c9 : As = true
  ·subst c9
   have H1 : ((impl_onBoard.f k a0_0 a0_1 l0_2 a3 a4).bind fun Ag => (impl_LeastCogs.j0 k a1 a2 a3 a4 (!Ag) a0_0 a0_1 l0_2)) = some (r1, r2) := by rw [if_pos rfl] at H; exact H
   clear H
   have H := H1
   clear H1
   replace H := Option.bind_eq_some_iff.mp H
   obtain ⟨Ag, Az, H⟩ := H
   replace H : (impl_LeastCogs.j0 k a1 a2 a3 a4 (!Ag) a0_0 a0_1 l0_2) = some (r1, r2) := H
   have BQ := Z.m Az
   clear Az
   have H' := Z.m H
   clear H
   have AI := bc0 A0
   have AJ := bc1 A0
   have AK := bc2 A0
   have Bd := qz A0.o 0
   have Be := qz A0.o 1
   have Bf := qz A0.o 2
   go_wp2_with (first | ((with_reducible refine gc (f := 56) rfl ?_); refine gA (some 18) _ #[.agg #[.int .i64 a0_0, .int .i64 a0_1, .slice A0_2 l0_2.length c0_2], .int .i64 a1, .int .i64 a2] ?_ Try.func56; (with_reducible refine (impl_onBoard.calls k a0_0 a0_1 _ _ l0_2 a1 a2 true _ ?side1 ?side2 A8.o).mono ?_); (case side1 => repeat (first | exact (Kd.C_below Ab.o HB.o) | (with_reducible refine Kd.C_alloc ?_ _) | (with_reducible refine Kd.C_drewN ?_ _) | (with_reducible refine Kd.C_drew ?_))); (case side2 => exact Ai.o); rintro e BZ ⟨rfl, hb⟩; refine ⟨_, rfl, ?_⟩; replace A0 := kB A0 hb; replace HB := bB HB hb; (try clear hb); (try clear Ay); (try clear hk); (try clear hi); have AL := bc0 A0; have AM := bc1 A0; have AN := bc2 A0; have Bg := qz A0.o 0; have Bh := qz A0.o 1; have Bi := qz A0.o 2) | (go_at_call 56; (with_reducible refine (impl_onBoard.calls k a0_0 a0_1 _ _ l0_2 a3 a4 Ag _ ?side1 ?side2 BQ.o).mono ?_); (case side1 => repeat (first | exact (Kd.C_below Ab.o HB.o) | (with_reducible refine Kd.C_alloc ?_ _) | (with_reducible refine Kd.C_drewN ?_ _) | (with_reducible refine Kd.C_drew ?_))); (case side2 => exact Ai.o); rintro e C0 ⟨rfl, hb⟩; replace A0 := kB A0 hb; replace HB := bB HB hb; (try clear hb); (try clear Ay); (try clear hk); (try clear hi)))
   (try subst A7); (try subst Ac); (try subst A6)
   go_meet
   case rel => exact ⟨_, (!Ag), (by first | rfl | (simp; done) | (simp [*]; done)), H', ⟨by first | omega | exact Nat.le_refl _⟩, ⟨vK A0⟩, ⟨vB HB⟩⟩
  ·replace c9 := Bool.eq_false_iff.mpr c9
   subst c9
   have H1 : (impl_LeastCogs.j0 k a1 a2 a3 a4 true a0_0 a0_1 l0_2) = some (r1, r2) := by rw [if_neg (show ¬ (false = true) by decide)] at H; exact H
   clear H
   have H := H1
   clear H1
   have H' := Z.m H
   clear H
   have AO := bc0 A0
   have AP := bc1 A0
   have AQ := bc2 A0
   have Bj := qz A0.o 0
   have Bk := qz A0.o 1
   have Bl := qz A0.o 2
   go_wp2_with (first | ((with_reducible refine gc (f := 56) rfl ?_); refine gA (some 18) _ #[.agg #[.int .i64 a0_0, .int .i64 a0_1, .slice A0_2 l0_2.length c0_2], .int .i64 a1, .int .i64 a2] ?_ Try.func56; (with_reducible refine (impl_onBoard.calls k a0_0 a0_1 _ _ l0_2 a1 a2 false _ ?side1 ?side2 A8.o).mono ?_); (case side1 => repeat (first | exact (Kd.C_below Ab.o HB.o) | (with_reducible refine Kd.C_alloc ?_ _) | (with_reducible refine Kd.C_drewN ?_ _) | (with_reducible refine Kd.C_drew ?_))); (case side2 => exact Ai.o); rintro e C1 ⟨rfl, hb⟩; refine ⟨_, rfl, ?_⟩; replace A0 := kB A0 hb; replace HB := bB HB hb; (try clear hb); (try clear Ay); (try clear hk); (try clear hi)))
   (try subst A7); (try subst Ac); (try subst A6)
   go_meet
   case rel => exact ⟨_, (true), (by first | rfl | (simp; done) | (simp [*]; done)), H', ⟨by first | omega | exact Nat.le_refl _⟩, ⟨vK A0⟩, ⟨vB HB⟩⟩
 case rest =>
  clear BE
  obtain ⟨kq, Aj, rfl, HA, BK, A0, HB⟩ := hcut
  cases kq with
  | zero => exact absurd HA.o (by simp [impl_LeastCogs.j0])
  | succ kj5 =>
   have H := HA.o
   clear HA
   simp only [impl_LeastCogs.j0] at H
   by_cases c17 : Aj = true
   ·subst c17
    have H1 : (some (0, false)) = some (r1, r2) := by rw [if_pos rfl] at H; exact H
    clear H
    have H := H1
    clear H1
    simp only [Option.some.injEq, Prod.mk.injEq] at H
    obtain ⟨rfl, rfl⟩ := H
    go_wp2
    go_ret2
    exact ⟨by first | rfl | (simp [eN, eS] <;> rfl) | (simp [*, eN, eS] <;> rfl), vB HB⟩
   ·replace c17 := Bool.eq_false_iff.mpr c17
    subst c17
    have H1 : (if 0 ≤ (wrap64 ((wrap64 (a1 * a0_1)) + a2)) then (if (wrap64 ((wrap64 (a1 * a0_1)) + a2)) < (l0_2.length : Int) then ((impl_isGeared.f ((rd_T71 l0_2 (wrap64 ((wrap64 (a1 * a0_1)) + a2))).f0) ((rd_T71 l0_2 (wrap64 ((wrap64 (a1 * a0_1)) + a2))).f1)).bind fun Ak => (if Ak = true then (if 0 ≤ (wrap64 ((wrap64 (a3 * a0_1)) + a4)) then (if (wrap64 ((wrap64 (a3 * a0_1)) + a4)) < (l0_2.length : Int) then ((impl_isGeared.f ((rd_T71 l0_2 (wrap64 ((wrap64 (a3 * a0_1)) + a4))).f0) ((rd_T71 l0_2 (wrap64 ((wrap64 (a3 * a0_1)) + a4))).f1)).bind fun Aa => (impl_LeastCogs.j1 kj5 (wrap64 ((wrap64 (a1 * a0_1)) + a2)) (wrap64 ((wrap64 (a3 * a0_1)) + a4)) (!Aa) a0_0 a0_1 l0_2)) else (none)) else (none)) else (impl_LeastCogs.j1 kj5 (wrap64 ((wrap64 (a1 * a0_1)) + a2)) (wrap64 ((wrap64 (a3 * a0_1)) + a4)) true a0_0 a0_1 l0_2))) else (none)) else (none)) = some (r1, r2) := by rw [if_neg (show ¬ (false = true) by decide)] at H; exact H
    clear H
    have H := H1
    clear H1
    have Ax := Z.m H
    clear H
    have Al := bc0 A0
    have Am := bc1 A0
    have An := bc2 A0
    have Ao := qz A0.o 0
    have Ap := qz A0.o 1
    have Aq := qz A0.o 2
    go_upto_region 5 with (fail)
    go_cut [54] (fun v54 wc => ∃ (kq : Nat) (Ah : Bool), v54 = .bool Ah ∧ Z (impl_LeastCogs.j1 kq (wrap64 ((wrap64 (a1 * a0_1)) + a2)) (wrap64 ((wrap64 (a3 * a0_1)) + a4)) Ah a0_0 a0_1 l0_2 = some (r1, r2)) ∧ Z (kq ≤ kj5) ∧ Z (wc.heap[Aw]? = some (.cells #[.int .i64 a0_0, .int .i64 a0_1, (.slice A0_2 l0_2.length c0_2)] 30 (0, 0))) ∧ Z (Below w.heap.size w wc))
    case first =>
     have H := Ax.o
     clear Ax
     obtain ⟨A1, A7⟩ : ∃ j_ : Int, (wrap64 ((wrap64 (a1 * a0_1)) + a2)) = j_ := ⟨_, rfl⟩
     replace H : (if 0 ≤ (A1) then (if (A1) < (l0_2.length : Int) then ((impl_isGeared.f ((rd_T71 l0_2 (A1)).f0) ((rd_T71 l0_2 (A1)).f1)).bind fun Ak => (if Ak = true then (if 0 ≤ (wrap64 ((wrap64 (a3 * a0_1)) + a4)) then (if (wrap64 ((wrap64 (a3 * a0_1)) + a4)) < (l0_2.length : Int) then ((impl_isGeared.f ((rd_T71 l0_2 (wrap64 ((wrap64 (a3 * a0_1)) + a4))).f0) ((rd_T71 l0_2 (wrap64 ((wrap64 (a3 * a0_1)) + a4))).f1)).bind fun Aa => (impl_LeastCogs.j1 kj5 A1 (wrap64 ((wrap64 (a3 * a0_1)) + a4)) (!Aa) a0_0 a0_1 l0_2)) else (none)) else (none)) else (impl_LeastCogs.j1 kj5 A1 (wrap64 ((wrap64 (a3 * a0_1)) + a4)) true a0_0 a0_1 l0_2))) else (none)) else (none)) = some (r1, r2) := by first | (rw [A7] at H; exact H) | (simp only [A7] at H ⊢; exact H)
     have hji20w : (IntKind.i64.wrap ((wrap64 (a1 * a0_1)) + a2)) = A1 := (i64_w _).trans A7
     by_cases c21 : 0 ≤ (A1)
     ·rw [if_pos c21] at H
      have Av := decide_eq_true c21
      clear c21
      (first | rw [Av] | (simp only [i64_w, i32_w]; rw [Av]) | skip)
      by_cases c22 : (A1) < (l0_2.length : Int)
      ·rw [if_pos c22] at H
       have BL := decide_eq_true c22
       clear c22
       replace H := Option.bind_eq_some_iff.mp H
       obtain ⟨Ak, AA, H⟩ := H
       replace H : (if Ak = true then (if 0 ≤ (wrap64 ((wrap64 (a3 * a0_1)) + a4)) then (if (wrap64 ((wrap64 (a3 * a0_1)) + a4)) < (l0_2.length : Int) then ((impl_isGeared.f ((rd_T71 l0_2 (wrap64 ((wrap64 (a3 * a0_1)) + a4))).f0) ((rd_T71 l0_2 (wrap64 ((wrap64 (a3 * a0_1)) + a4))).f1)).bind fun Aa => (impl_LeastCogs.j1 kj5 A1 (wrap64 ((wrap64 (a3 * a0_1)) + a4)) (!Aa) a0_0 a0_1 l0_2)) else (none)) else (none)) else (impl_LeastCogs.j1 kj5 A1 (wrap64 ((wrap64 (a3 * a0_1)) + a4)) true a0_0 a0_1 l0_2)) = some (r1, r2) := H
       have BC := Z.m AA
       clear AA
       by_cases c24 : Ak = true
       ·subst c24
        have H1 : (if 0 ≤ (wrap64 ((wrap64 (a3 * a0_1)) + a4)) then (if (wrap64 ((wrap64 (a3 * a0_1)) + a4)) < (l0_2.length : Int) then ((impl_isGeared.f ((rd_T71 l0_2 (wrap64 ((wrap64 (a3 * a0_1)) + a4))).f0) ((rd_T71 l0_2 (wrap64 ((wrap64 (a3 * a0_1)) + a4))).f1)).bind fun Aa => (impl_LeastCogs.j1 kj5 A1 (wrap64 ((wrap64 (a3 * a0_1)) + a4)) (!Aa) a0_0 a0_1 l0_2)) else (none)) else (none)) = some (r1, r2) := by rw [if_pos rfl] at H; exact H
        clear H
        have H := H1
        clear H1
        obtain ⟨A9, Ac⟩ : ∃ j_ : Int, (wrap64 ((wrap64 (a3 * a0_1)) + a4)) = j_ := ⟨_, rfl⟩
        replace H : (if 0 ≤ (A9) then (if (A9) < (l0_2.length : Int) then ((impl_isGeared.f ((rd_T71 l0_2 (A9)).f0) ((rd_T71 l0_2 (A9)).f1)).bind fun Aa => (impl_LeastCogs.j1 kj5 A1 A9 (!Aa) a0_0 a0_1 l0_2)) else (none)) else (none)) = some (r1, r2) := by first | (rw [Ac] at H; exact H) | (simp only [Ac] at H ⊢; exact H)
        (try rw [Ac] at BC)
        have hji25w : (IntKind.i64.wrap ((wrap64 (a3 * a0_1)) + a4)) = A9 := (i64_w _).trans Ac
        by_cases c26 : 0 ≤ (A9)
        ·rw [if_pos c26] at H
         have BM := decide_eq_true c26
         clear c26
         by_cases c27 : (A9) < (l0_2.length : Int)
         ·rw [if_pos c27] at H
          have BN := decide_eq_true c27
          clear c27
          replace H := Option.bind_eq_some_iff.mp H
          obtain ⟨Aa, AB, H⟩ := H
          replace H : (impl_LeastCogs.j1 kj5 A1 A9 (!Aa) a0_0 a0_1 l0_2) = some (r1, r2) := H
          have BR := Z.m AB
          clear AB
          have H' := Z.m H
          clear H
          have AR := bc0 A0
          have AS := bc1 A0
          have AT := bc2 A0
          have Bm := qz A0.o 0
          have Bn := qz A0.o 1
          have Bo := qz A0.o 2
          have p900 : 0 ≤ ((A1) : Int) := ofD
          have q900 : (A1) < (l0_2.length : Int) := ofD
          obtain ⟨At, e900, A2, A3⟩ := at_T71 Ab.o (A1) p900 q900
          cases e900
          replace A2 := (HB.o.cell (World.block_lt_of_cell? w _ A2)).trans A2
          replace A3 := (HB.o.cell (World.block_lt_of_cell? w _ A3)).trans A3
          replace p900 := eq_true p900
          replace q900 := eq_true q900
          go_wp2_with (first | ((with_reducible refine gc (f := 65) rfl ?_); refine goesL_ (some 44) rfl rfl Try.func65 (by kernel_rfl) rfl #[.agg #[.int .i64 ((rd_T71 l0_2 (A1)).f0), .int .i64 ((rd_T71 l0_2 (A1)).f1)]] rfl (by (try simp only [List.map_toArray, List.map_cons, List.map_nil]); first | done | (simp only [A7]; rfl) | rfl | (simp only [List.length_drop, List.length_take]; rfl)) ?_; (with_reducible refine (impl_isGeared.calls ((rd_T71 l0_2 (A1)).f0) ((rd_T71 l0_2 (A1)).f1) true _ BC.o).mono ?_); rintro e C2 ⟨rfl, hb⟩; refine ⟨_, rfl, ?_⟩; replace A0 := kB A0 hb; replace HB := bB HB hb; (try clear hb); (try clear Ay); (try clear hk); (try clear hi); have AU := bc0 A0; have AV := bc1 A0; have AW := bc2 A0; have Bp := qz A0.o 0; have Bq := qz A0.o 1; have Br := qz A0.o 2; have p902 : 0 ≤ ((A9) : Int) := ofD; have q902 : (A9) < (l0_2.length : Int) := ofD; obtain ⟨AE, e902, Ae, Af⟩ := at_T71 Ab.o (A9) p902 q902; obtain rfl : At = AE := (by injection e902); replace Ae := (HB.o.cell (World.block_lt_of_cell? w _ Ae)).trans Ae; replace Af := (HB.o.cell (World.block_lt_of_cell? w _ Af)).trans Af; replace p902 := eq_true p902; replace q902 := eq_true q902) | (go_at_call 65; (with_reducible refine (impl_isGeared.calls ((rd_T71 l0_2 (A9)).f0) ((rd_T71 l0_2 (A9)).f1) Aa _ BR.o).mono ?_); rintro e C3 ⟨rfl, hb⟩; replace A0 := kB A0 hb; replace HB := bB HB hb; (try clear hb); (try clear Ay); (try clear hk); (try clear hi)))
          (try subst A7); (try subst Ac); (try subst A6)
          go_meet
          case rel => exact ⟨_, (!Aa), (by first | rfl | (simp; done) | (simp [*]; done)), H', ⟨by have := BK.o; first | omega | exact Nat.le_refl _⟩, ⟨vK A0⟩, ⟨vB HB⟩⟩
         ·rw [if_neg c27] at H
          exact absurd H (by simp)
        ·rw [if_neg c26] at H
         exact absurd H (by simp)
       ·replace c24 := Bool.eq_false_iff.mpr c24
        subst c24
        have H1 : (impl_LeastCogs.j1 kj5 A1 (wrap64 ((wrap64 (a3 * a0_1)) + a4)) true a0_0 a0_1 l0_2) = some (r1, r2) := by rw [if_neg (show ¬ (false = true) by decide)] at H; exact H
        clear H
        have H := H1
        clear H1
        have H' := Z.m H
        clear H
        have AX := bc0 A0
        have AY := bc1 A0
        have AZ := bc2 A0
        have Bs := qz A0.o 0
        have Bt := qz A0.o 1
        have Bu := qz A0.o 2
        have p900 : 0 ≤ ((A1) : Int) := ofD
        have q900 : (A1) < (l0_2.length : Int) := ofD
        obtain ⟨At, e900, A2, A3⟩ := at_T71 Ab.o (A1) p900 q900
        cases e900
        replace A2 := (HB.o.cell (World.block_lt_of_cell? w _ A2)).trans A2
        replace A3 := (HB.o.cell (World.block_lt_of_cell? w _ A3)).trans A3
        replace p900 := eq_true p900
        replace q900 := eq_true q900
        go_wp2_with (first | ((with_reducible refine gc (f := 65) rfl ?_); refine goesL_ (some 44) rfl rfl Try.func65 (by kernel_rfl) rfl #[.agg #[.int .i64 ((rd_T71 l0_2 (A1)).f0), .int .i64 ((rd_T71 l0_2 (A1)).f1)]] rfl (by (try simp only [List.map_toArray, List.map_cons, List.map_nil]); first | done | (simp only [A7]; rfl) | rfl | (simp only [List.length_drop, List.length_take]; rfl)) ?_; (with_reducible refine (impl_isGeared.calls ((rd_T71 l0_2 (A1)).f0) ((rd_T71 l0_2 (A1)).f1) false _ BC.o).mono ?_); rintro e C4 ⟨rfl, hb⟩; refine ⟨_, rfl, ?_⟩; replace A0 := kB A0 hb; replace HB := bB HB hb; (try clear hb); (try clear Ay); (try clear hk); (try clear hi)))
        (try subst A7); (try subst Ac); (try subst A6)
        go_meet
        case rel => exact ⟨_, (true), (by first | rfl | (simp; done) | (simp [*]; done)), H', ⟨by have := BK.o; first | omega | exact Nat.le_refl _⟩, ⟨vK A0⟩, ⟨vB HB⟩⟩
      ·rw [if_neg c22] at H
       exact absurd H (by simp)
     ·rw [if_neg c21] at H
      exact absurd H (by simp)
    case rest =>
     clear Ax
     (try clear c17)
     (try clear Al); (try clear Am); (try clear An); (try clear Ao); (try clear Ap); (try clear Aq)
     obtain ⟨kq, Ah, rfl, HA, BU, A0, HB⟩ := hcut
     cases kq with
     | zero => exact absurd HA.o (by simp [impl_LeastCogs.j1])
     | succ kj17 =>
      have H := HA.o
      clear HA
      simp only [impl_LeastCogs.j1] at H
      by_cases c35 : Ah = true
      ·subst c35
       have H1 : (some (0, false)) = some (r1, r2) := by rw [if_pos rfl] at H; exact H
       clear H
       have H := H1
       clear H1
       simp only [Option.some.injEq, Prod.mk.injEq] at H
       obtain ⟨rfl, rfl⟩ := H
       go_wp2
       go_ret2
       exact ⟨by first | rfl | (simp [eN, eS] <;> rfl) | (simp [*, eN, eS] <;> rfl), vB HB⟩
      ·replace c35 := Bool.eq_false_iff.mpr c35
       subst c35
       have H1 : ((impl_cogCosts.f kj17 a0_0 a0_1 l0_2 (wrap64 ((wrap64 (a1 * a0_1)) + a2))).bind fun A5 => (if 0 ≤ (wrap64 ((wrap64 (a3 * a0_1)) + a4)) then (if (wrap64 ((wrap64 (a3 * a0_1)) + a4)) < (A5.length : Int) then (if (rd A5 (wrap64 ((wrap64 (a3 * a0_1)) + a4))) < 0 then (some (0, false)) else (some (rd A5 (wrap64 ((wrap64 (a3 * a0_1)) + a4)), true))) else (none)) else (none))) = some (r1, r2) := by rw [if_neg (show ¬ (false = true) by decide)] at H; exact H
       clear H
       have H := H1
       clear H1
       replace H := Option.bind_eq_some_iff.mp H
       obtain ⟨A5, AC, H⟩ := H
       replace H : (if 0 ≤ (wrap64 ((wrap64 (a3 * a0_1)) + a4)) then (if (wrap64 ((wrap64 (a3 * a0_1)) + a4)) < (A5.length : Int) then (if (rd A5 (wrap64 ((wrap64 (a3 * a0_1)) + a4))) < 0 then (some (0, false)) else (some (rd A5 (wrap64 ((wrap64 (a3 * a0_1)) + a4)), true))) else (none)) else (none)) = some (r1, r2) := H
       have BD := Z.m AC
       clear AC
       obtain ⟨A4, A6⟩ : ∃ j_ : Int, (wrap64 ((wrap64 (a3 * a0_1)) + a4)) = j_ := ⟨_, rfl⟩
       replace H : (if 0 ≤ (A4) then (if (A4) < (A5.length : Int) then (if (rd A5 (A4)) < 0 then (some (0, false)) else (some (rd A5 (A4), true))) else (none)) else (none)) = some (r1, r2) := by first | (rw [A6] at H; exact H) | (simp only [A6] at H ⊢; exact H)
       (try rw [A6] at BD)
       have hji37w : (IntKind.i64.wrap ((wrap64 (a3 * a0_1)) + a4)) = A4 := (i64_w _).trans A6
       by_cases c38 : 0 ≤ (A4)
       ·rw [if_pos c38] at H
        have BO := decide_eq_true c38
        clear c38
        by_cases c39 : (A4) < (A5.length : Int)
        ·rw [if_pos c39] at H
         have BP := decide_eq_true c39
         clear c39
         by_cases c40 : (rd A5 (A4)) < 0
         ·rw [if_pos c40] at H
          have AG := decide_eq_true c40
          clear c40
          simp only [Option.some.injEq, Prod.mk.injEq] at H
          obtain ⟨rfl, rfl⟩ := H
          have B0 := bc0 A0
          have B2 := bc1 A0
          have B7 := bc2 A0
          have Bv := qz A0.o 0
          have Bw := qz A0.o 1
          have Bx := qz A0.o 2
          go_wp2_with (first | ((with_reducible refine gc (f := 66) rfl ?_); refine gA (some 57) _ #[.agg #[.int .i64 a0_0, .int .i64 a0_1, .slice A0_2 l0_2.length c0_2], .int .i64 (wrap64 ((wrap64 (a1 * a0_1)) + a2))] ?_ Try.func66; (with_reducible refine (impl_cogCosts.calls kj17 a0_0 a0_1 _ _ l0_2 (wrap64 ((wrap64 (a1 * a0_1)) + a2)) A5 _ ?side1 ?side2 BD.o).mono ?_); (case side1 => repeat (first | exact (Kd.C_below Ab.o HB.o) | (with_reducible refine Kd.C_alloc ?_ _) | (with_reducible refine Kd.C_drewN ?_ _) | (with_reducible refine Kd.C_drew ?_))); (case side2 => exact Ai.o); rintro e C5 ⟨BH, rfl, AH, hb⟩; refine ⟨_, rfl, ?_⟩; have Ad := Z.m (Kd.R_lower AH (below_size (vB HB))); replace A0 := kB A0 hb; replace HB := bB HB hb; (try clear hb); (try clear Ay); (try clear hk); (try clear hi); (try clear AH); obtain ⟨BS, BV, BF⟩ := Kd.R_slice Ad.o; subst BF; have p907 : 0 ≤ ((A4) : Int) := ofD; have q907 : (A4) < (A5.length : Int) := ofD; obtain ⟨Au, e907, Ar⟩ := Kd.at_int (Kd.RrZ Ad.o).2.2 (A4) p907 q907; cases e907; replace p907 := eq_true p907; replace q907 := eq_true q907))
          go_ret2
          exact ⟨by first | rfl | (simp [eN, eS] <;> rfl) | (simp only [← A6]; first | rfl | (simp [eN, eS] <;> rfl)) | (simp [*, eN, eS] <;> rfl), vB HB⟩
         ·rw [if_neg c40] at H
          have AG := decide_eq_false c40
          clear c40
          simp only [Option.some.injEq, Prod.mk.injEq] at H
          obtain ⟨rfl, rfl⟩ := H
          have Ba := bc0 A0
          have Bb := bc1 A0
          have Bc := bc2 A0
          have By := qz A0.o 0
          have Bz := qz A0.o 1
          have BA := qz A0.o 2
          go_wp2_with (first | ((with_reducible refine gc (f := 66) rfl ?_); refine gA (some 57) _ #[.agg #[.int .i64 a0_0, .int .i64 a0_1, .slice A0_2 l0_2.length c0_2], .int .i64 (wrap64 ((wrap64 (a1 * a0_1)) + a2))] ?_ Try.func66; (with_reducible refine (impl_cogCosts.calls kj17 a0_0 a0_1 _ _ l0_2 (wrap64 ((wrap64 (a1 * a0_1)) + a2)) A5 _ ?side1 ?side2 BD.o).mono ?_); (case side1 => repeat (first | exact (Kd.C_below Ab.o HB.o) | (with_reducible refine Kd.C_alloc ?_ _) | (with_reducible refine Kd.C_drewN ?_ _) | (with_reducible refine Kd.C_drew ?_))); (case side2 => exact Ai.o); rintro e C6 ⟨BH, rfl, AH, hb⟩; refine ⟨_, rfl, ?_⟩; have Ad := Z.m (Kd.R_lower AH (below_size (vB HB))); replace A0 := kB A0 hb; replace HB := bB HB hb; (try clear hb); (try clear Ay); (try clear hk); (try clear hi); (try clear AH); obtain ⟨BT, BW, BG⟩ := Kd.R_slice Ad.o; subst BG; have p907 : 0 ≤ ((A4) : Int) := ofD; have q907 : (A4) < (A5.length : Int) := ofD; obtain ⟨Au, e907, Ar⟩ := Kd.at_int (Kd.RrZ Ad.o).2.2 (A4) p907 q907; cases e907; replace p907 := eq_true p907; replace q907 := eq_true q907; have p908 : 0 ≤ ((A4) : Int) := ofD; have q908 : (A4) < (A5.length : Int) := ofD; obtain ⟨AF, e908, BB⟩ := Kd.at_int (Kd.RrZ Ad.o).2.2 (A4) p908 q908; obtain rfl : Au = AF := (by injection e908); replace p908 := eq_true p908; replace q908 := eq_true q908))
          go_ret2
          exact ⟨by first | rfl | (simp [eN, eS] <;> rfl) | (simp only [← A6]; first | rfl | (simp [eN, eS] <;> rfl)) | (simp [*, eN, eS] <;> rfl), vB HB⟩
        ·rw [if_neg c39] at H
         exact absurd H (by simp)
       ·rw [if_neg c38] at H
        exact absurd H (by simp)

/-! ### laws_FnExactLeastCogs: function 5 -/
def laws_FnExactLeastCogs.j0 : Nat → Bool → Int → Int → List (S84) → Int → Int → List (S71) → Option (Bool)
 | 0, _, _, _, _, _, _, _ => none
 | k + 1, x50, x910000, x910001, x910002, x924000, x924001, x924002 => if x50 = true then (some false) else ((laws_toBoard.f k x910000 x910001 x910002).bind fun bt926 => ((laws_eqBoard.f k x924000 x924001 x924002 bt926.1 bt926.2.1 bt926.2.2).bind fun t931 => (if t931 = true then (some true) else (some false))))
def laws_FnExactLeastCogs.f (k : Nat) (a0_0 : Int) (a0_1 : Int) (l0_2 : List (S84)) (a1 : Int) (a2 : Int) (a3 : Int) (a4 : Int) : Option (Bool) := (laws_szBoard.f a0_0 a0_1 l0_2 1048576).bind fun t910 => (if t910 < 0 then (some true) else ((laws_toBoard.f k a0_0 a0_1 l0_2).bind fun bt911 => ((spec_LeastCogs.f k bt911.1 bt911.2.1 bt911.2.2 a1 a2 a3 a4).bind fun bt916 => ((laws_toBoard.f k a0_0 a0_1 l0_2).bind fun bt918 => ((impl_LeastCogs.f k bt918.1 bt918.2.1 bt918.2.2 a1 a2 a3 a4).bind fun bt924 => (if bt924.1 = bt916.1 then (laws_FnExactLeastCogs.j0 k (bt924.2 != bt916.2) a0_0 a0_1 l0_2 bt918.1 bt918.2.1 bt918.2.2) else (laws_FnExactLeastCogs.j0 k true a0_0 a0_1 l0_2 bt918.1 bt918.2.1 bt918.2.2)))))))
theorem laws_FnExactLeastCogs.bad_j0 (k : Nat) (y1 : Int) (y2 : Int) (y3 : List (S84)) (y4 : Int) (y5 : Int) (y6 : List (S71)) : ¬ laws_FnExactLeastCogs.j0 k true y1 y2 y3 y4 y5 y6 = some true := by
 cases k <;> simp [laws_FnExactLeastCogs.j0]
set_option maxHeartbeats 8000000 in
set_option maxRecDepth 100000 in
theorem laws_FnExactLeastCogs.calls (k : Nat) (a0_0 : Int) (a0_1 : Int) (A0_2 : Option Addr) (c0_2 : Nat) (l0_2 : List (S84)) (a1 : Int) (a2 : Int) (a3 : Int) (a4 : Int) (w : World) (hr0_2 : Kd.C k84 w A0_2 l0_2.length l0_2) (hc0_2 : l0_2.length ≤ c0_2) (h : laws_FnExactLeastCogs.f k a0_0 a0_1 l0_2 a1 a2 a3 a4 = some true) :
 Calls Try.prog 5 #[.agg #[.int .i64 a0_0, .int .i64 a0_1, .slice A0_2 l0_2.length c0_2], .int .i64 a1, .int .i64 a2, .int .i64 a3, .int .i64 a4] w fun e w' => e = .returned (.bool true) ∧ Below w.heap.size w w' := by
 have BD := Try.underlying24
 have BE := Try.underlying30
 have Ae := Z.m hr0_2
 have Ac := Z.m hc0_2
 clear hr0_2 hc0_2
 have HB := Z.m (Below.refl w.heap.size w)
 have H : ((laws_szBoard.f a0_0 a0_1 l0_2 1048576).bind fun Aj => (if Aj < 0 then (some true) else ((laws_toBoard.f k a0_0 a0_1 l0_2).bind fun bt911 => ((spec_LeastCogs.f k bt911.1 bt911.2.1 bt911.2.2 a1 a2 a3 a4).bind fun bt916 => ((laws_toBoard.f k a0_0 a0_1 l0_2).bind fun bt918 => ((impl_LeastCogs.f k bt918.1 bt918.2.1 bt918.2.2 a1 a2 a3 a4).bind fun bt924 => (if bt924.1 = bt916.1 then (laws_FnExactLeastCogs.j0 k (bt924.2 != bt916.2) a0_0 a0_1 l0_2 bt918.1 bt918.2.1 bt918.2.2) else (laws_FnExactLeastCogs.j0 k true a0_0 a0_1 l0_2 bt918.1 bt918.2.1 bt918.2.2)))))))) = some true := h
 clear h
 replace H := Option.bind_eq_some_iff.mp H
 obtain ⟨Aj, Br, H⟩ := H
 replace H : (if Aj < 0 then (some true) else ((laws_toBoard.f k a0_0 a0_1 l0_2).bind fun bt911 => ((spec_LeastCogs.f k bt911.1 bt911.2.1 bt911.2.2 a1 a2 a3 a4).bind fun bt916 => ((laws_toBoard.f k a0_0 a0_1 l0_2).bind fun bt918 => ((impl_LeastCogs.f k bt918.1 bt918.2.1 bt918.2.2 a1 a2 a3 a4).bind fun bt924 => (if bt924.1 = bt916.1 then (laws_FnExactLeastCogs.j0 k (bt924.2 != bt916.2) a0_0 a0_1 l0_2 bt918.1 bt918.2.1 bt918.2.2) else (laws_FnExactLeastCogs.j0 k true a0_0 a0_1 l0_2 bt918.1 bt918.2.1 bt918.2.2))))))) = some true := H
 have A6 := Z.m Br
 clear Br
 by_cases c7 : Aj < 0
 ·rw [if_pos c7] at H
  have Bd := decide_eq_true c7
  clear c7
  clear H
  go_enter Try.func5, Try.ntmps5
  go_wp2_with (first | ((with_reducible refine gq (N := 5) rfl ?_); refine be (N := 5) (cs := #[.int .i64 a0_0, .int .i64 a0_1, .slice A0_2 l0_2.length c0_2]) (t := 24) ?_; intro Aa hg w8 hbox hb; have A0 := Z.m (hbox); have Al := gW (w := w) HB hg; have Bb := Al; replace HB := bB HB hb; clear hb hbox hg; have Bl := bc0 A0; have Bm := bc1 A0; have Bn := bc2 A0; have Bo := qz A0.o 0; have Bp := qz A0.o 1; have Bq := qz A0.o 2) | ((with_reducible refine gc (f := 15) rfl ?_); refine gA (some 19) _ #[.agg #[.int .i64 a0_0, .int .i64 a0_1, .slice A0_2 l0_2.length c0_2], .int .i64 1048576] ?_ Try.func15; (with_reducible refine (laws_szBoard.calls a0_0 a0_1 _ _ l0_2 1048576 Aj _ ?side1 ?side2 A6.o).mono ?_); (case side1 => repeat (first | exact (Kd.C_below Ae.o HB.o) | (with_reducible refine Kd.C_alloc ?_ _) | (with_reducible refine Kd.C_drewN ?_ _) | (with_reducible refine Kd.C_drew ?_))); (case side2 => exact Ac.o); rintro e BI ⟨rfl, hb⟩; refine ⟨_, rfl, ?_⟩; replace A0 := kB A0 hb; replace HB := bB HB hb; (try clear hb); (try clear Bg); (try clear hk); (try clear hi)))
  go_ret
  exact ⟨by first | rfl | (simp [eN, eS] <;> rfl) | (simp [*, eN, eS] <;> rfl), vB HB⟩
 ·rw [if_neg c7] at H
  have Bd := decide_eq_false c7
  clear c7
  replace H := Option.bind_eq_some_iff.mp H
  obtain ⟨⟨AO, AP, Am⟩, AX, H⟩ := H
  replace H : ((spec_LeastCogs.f k AO AP Am a1 a2 a3 a4).bind fun bt916 => ((laws_toBoard.f k a0_0 a0_1 l0_2).bind fun bt918 => ((impl_LeastCogs.f k bt918.1 bt918.2.1 bt918.2.2 a1 a2 a3 a4).bind fun bt924 => (if bt924.1 = bt916.1 then (laws_FnExactLeastCogs.j0 k (bt924.2 != bt916.2) a0_0 a0_1 l0_2 bt918.1 bt918.2.1 bt918.2.2) else (laws_FnExactLeastCogs.j0 k true a0_0 a0_1 l0_2 bt918.1 bt918.2.1 bt918.2.2))))) = some true := H
  have Bw := Z.m AX
  clear AX
  replace H := Option.bind_eq_some_iff.mp H
  obtain ⟨⟨An, Ao⟩, AY, H⟩ := H
  replace H : ((laws_toBoard.f k a0_0 a0_1 l0_2).bind fun bt918 => ((impl_LeastCogs.f k bt918.1 bt918.2.1 bt918.2.2 a1 a2 a3 a4).bind fun bt924 => (if bt924.1 = An then (laws_FnExactLeastCogs.j0 k (bt924.2 != Ao) a0_0 a0_1 l0_2 bt918.1 bt918.2.1 bt918.2.2) else (laws_FnExactLeastCogs.j0 k true a0_0 a0_1 l0_2 bt918.1 bt918.2.1 bt918.2.2)))) = some true := H
  have Bx := Z.m AY
  clear AY
  replace H := Option.bind_eq_some_iff.mp H
  obtain ⟨⟨A5, A7, A3⟩, AZ, H⟩ := H
  replace H : ((impl_LeastCogs.f k A5 A7 A3 a1 a2 a3 a4).bind fun bt924 => (if bt924.1 = An then (laws_FnExactLeastCogs.j0 k (bt924.2 != Ao) a0_0 a0_1 l0_2 A5 A7 A3) else (laws_FnExactLeastCogs.j0 k true a0_0 a0_1 l0_2 A5 A7 A3))) = some true := H
  have By := Z.m AZ
  clear AZ
  replace H := Option.bind_eq_some_iff.mp H
  obtain ⟨⟨AV, AW⟩, B0, H⟩ := H
  replace H : (if AV = An then (laws_FnExactLeastCogs.j0 k (AW != Ao) a0_0 a0_1 l0_2 A5 A7 A3) else (laws_FnExactLeastCogs.j0 k true a0_0 a0_1 l0_2 A5 A7 A3)) = some true := H
  have Bz := Z.m B0
  clear B0
  have AU := Z.m H
  clear H
  go_enter Try.func5, Try.ntmps5
  go_upto_region 8 with (first | ((with_reducible refine gq (N := 5) rfl ?_); refine be (N := 5) (cs := #[.int .i64 a0_0, .int .i64 a0_1, .slice A0_2 l0_2.length c0_2]) (t := 24) ?_; intro Aa hg BJ hbox hb; have A0 := Z.m (hbox); have Al := gW (w := w) HB hg; have Bb := Al; replace HB := bB HB hb; clear hb hbox hg; have Aq := bc0 A0; have Ar := bc1 A0; have As := bc2 A0; have AC := qz A0.o 0; have AD := qz A0.o 1; have AE := qz A0.o 2) | ((with_reducible refine gc (f := 15) rfl ?_); refine gA (some 19) _ #[.agg #[.int .i64 a0_0, .int .i64 a0_1, .slice A0_2 l0_2.length c0_2], .int .i64 1048576] ?_ Try.func15; (with_reducible refine (laws_szBoard.calls a0_0 a0_1 _ _ l0_2 1048576 Aj _ ?side1 ?side2 A6.o).mono ?_); (case side1 => repeat (first | exact (Kd.C_below Ae.o HB.o) | (with_reducible refine Kd.C_alloc ?_ _) | (with_reducible refine Kd.C_drewN ?_ _) | (with_reducible refine Kd.C_drew ?_))); (case side2 => exact Ac.o); rintro e BK ⟨rfl, hb⟩; refine ⟨_, rfl, ?_⟩; replace A0 := kB A0 hb; replace HB := bB HB hb; (try clear hb); (try clear Bg); (try clear hk); (try clear hi); have At := bc0 A0; have Au := bc1 A0; have Av := bc2 A0; have AF := qz A0.o 0; have AG := qz A0.o 1; have AH := qz A0.o 2) | ((with_reducible refine gc (f := 17) rfl ?_); refine gA (some 24) _ #[.agg #[.int .i64 a0_0, .int .i64 a0_1, .slice A0_2 l0_2.length c0_2]] ?_ Try.func17; (with_reducible refine (laws_toBoard.calls k a0_0 a0_1 _ _ l0_2 AO AP Am _ ?side1 ?side2 Bw.o).mono ?_); (case side1 => repeat (first | exact (Kd.C_below Ae.o HB.o) | (with_reducible refine Kd.C_alloc ?_ _) | (with_reducible refine Kd.C_drewN ?_ _) | (with_reducible refine Kd.C_drew ?_))); (case side2 => exact Ac.o); rintro e BL ⟨BF, rfl, Ap, hb⟩; refine ⟨_, rfl, ?_⟩; have A4 := Z.m (Kd.R_lower Ap (below_size (vB HB))); replace A0 := kB A0 hb; replace HB := bB HB hb; (try clear hb); (try clear Bg); (try clear hk); (try clear hi); (try clear Ap); obtain ⟨Ba, Be, Bj⟩ := Kd.R_slice A4.o; subst Bj) | ((with_reducible refine gc (f := 22) rfl ?_); refine gA (some 29) _ #[.agg #[.int .i64 AO, .int .i64 AP, .slice Ba Am.length Be], .int .i64 a1, .int .i64 a2, .int .i64 a3, .int .i64 a4] ?_ Try.func22; (with_reducible refine (spec_LeastCogs.calls k AO AP _ _ Am a1 a2 a3 a4 An Ao _ ?side1 ?side2 Bx.o).mono ?_); (case side1 => repeat (first | exact (Kd.RrZ A4.o).2.2 | (with_reducible refine Kd.C_alloc ?_ _) | (with_reducible refine Kd.C_drewN ?_ _) | (with_reducible refine Kd.C_drew ?_))); (case side2 => exact (Kd.RrZ A4.o).2.1); rintro e BM ⟨rfl, hb⟩; refine ⟨_, rfl, ?_⟩; replace A4 := Z.m (Kd.Rb (vR A4) hb); replace A0 := kB A0 hb; replace HB := bB HB hb; (try clear hb); (try clear Bg); (try clear hk); (try clear hi); have Aw := bc0 A0; have Ax := bc1 A0; have Ay := bc2 A0; have AI := qz A0.o 0; have AJ := qz A0.o 1; have AK := qz A0.o 2) | ((with_reducible refine gc (f := 17) rfl ?_); refine gA (some 33) _ #[.agg #[.int .i64 a0_0, .int .i64 a0_1, .slice A0_2 l0_2.length c0_2]] ?_ Try.func17; (with_reducible refine (laws_toBoard.calls k a0_0 a0_1 _ _ l0_2 A5 A7 A3 _ ?side1 ?side2 By.o).mono ?_); (case side1 => repeat (first | exact (Kd.C_below Ae.o HB.o) | (with_reducible refine Kd.C_alloc ?_ _) | (with_reducible refine Kd.C_drewN ?_ _) | (with_reducible refine Kd.C_drew ?_))); (case side2 => exact Ac.o); rintro e BN ⟨BG, rfl, Ap, hb⟩; refine ⟨_, rfl, ?_⟩; have A8 := Z.m (Kd.R_lower (Kd.R_new' Ap (Kd.R_lt (vR A4))) (below_size (vB HB))); replace A4 := Z.m (Kd.R_elder' (vR A4) (Kd.R_base Ap) hb); replace A0 := kB A0 hb; replace HB := bB HB hb; (try clear hb); (try clear Bg); (try clear hk); (try clear hi); (try clear Ap)) | ((with_reducible refine gq (N := 14) rfl ?_); refine be (N := 14) (cs := #[.int .i64 0, .int .i64 0, .slice none 0 0]) (t := 30) ?_; intro Af hg BO hbox hb; have A1 := Z.m (hbox); have Bc := gW (w := w) HB hg; have Bs := Bc; have A9 := neL A0 hg; have Ai := neG A0 hg; replace A4 := Z.m (Kd.Rb (vR A4) hb); replace A8 := Z.m (Kd.Rb (vR A8) hb); replace A0 := kB A0 hb; replace HB := bB HB hb; clear hb hbox hg; have Bu := Ai.o; have Bv := A9.o; have Az := bc0 A1; have AA := bc1 A1; have AB := bc2 A1; have AL := qz A1.o 0; have AM := qz A1.o 1; have AN := qz A1.o 2; obtain ⟨Ah, Ag, Bk⟩ := Kd.R_slice A8.o; subst Bk) | ((with_reducible refine gc (f := 23) rfl ?_); refine gA (some 40) _ #[.agg #[.int .i64 A5, .int .i64 A7, .slice Ah A3.length Ag], .int .i64 a1, .int .i64 a2, .int .i64 a3, .int .i64 a4] ?_ Try.func23; (with_reducible refine (impl_LeastCogs.calls k A5 A7 _ _ A3 a1 a2 a3 a4 AV AW _ ?side1 ?side2 Bz.o).mono ?_); (case side1 => refine (Kd.RrZ (e := 71) (base := w.heap.size) (ok := fun k_ => (True ∧ some k_ ≠ (.slice Ba Am.length Be : Value).ownBlock)) (n := A3.length) (c := Ag) ?_).2.2; exact (by refine rK ?_; exact (Kd.Rm (rf (rf (rf (Kd.Ry A8.o A1.o (by decide))))) (fun _ h_ => h_.1)))); (case side2 => exact (Kd.RrZ A8.o).2.1); rintro e BP ⟨rfl, hb⟩; refine ⟨_, rfl, ?_⟩; replace A4 := Z.m (Kd.Rb (by refine rK ?_; exact (Kd.Rm (rf (rf (rf (Kd.Ry A4.o A1.o (by decide))))) (fun _ h_ => h_.1))) hb); replace A8 := Z.m (Kd.Rb (by refine rK ?_; exact (Kd.Rm (rf (rf (rf (Kd.Ry A8.o A1.o (by decide))))) (fun _ h_ => h_.1))) hb); replace A0 := Z.m (qb (g := Aa) (o := .cells #[.int .i64 a0_0, .int .i64 a0_1, .slice A0_2 l0_2.length c0_2] 24 (0, 0)) (by refine bK ?_; (iterate 3 refine qF ?_ A9); exact A0.o) hb); replace A1 := Z.m (qb (g := Af) (o := .cells #[.int .i64 A5, .int .i64 A7, .slice Ah A3.length Ag] 30 (0, 0)) (by refine bK ?_; apply st3; refine bK ?_; exact A1.o) hb); replace HB := bB HB hb; (try clear hb); (try clear Bg); (try clear hk); (try clear hi)))
  (try simp only [Act.put, q1, q2, q3])
  go_cut [50] (fun v50 wc => ∃ (kq : Nat) (Ab : Bool), v50 = .bool Ab ∧ Z (laws_FnExactLeastCogs.j0 kq Ab a0_0 a0_1 l0_2 A5 A7 A3 = some true) ∧ Z (kq ≤ k) ∧ Z (Kd.R k71 71 wc w.heap.size (fun _ => True) (.slice Ah A3.length Ag) A3) ∧ Z (wc.heap[Aa]? = some (.cells #[.int .i64 a0_0, .int .i64 a0_1, (.slice A0_2 l0_2.length c0_2)] 24 (0, 0))) ∧ Z (wc.heap[Af]? = some (.cells #[.int .i64 A5, .int .i64 A7, (.slice Ah A3.length Ag)] 30 (0, 0))) ∧ Z (Below w.heap.size w wc))
  case first =>
   have H := AU.o
   clear AU
   by_cases c30 : AV = An
   ·rw [if_pos c30] at H
    have AT := beq_iff_eq.mpr c30
    have Bt := bne_eq_false_iff_eq.mpr c30
    clear c30
    (first | rw [AT] | (simp only [i64_w, i32_w]; rw [AT]) | skip)
    have H' := Z.m H
    clear H
    go_wp2
    go_meet
    case rel => exact ⟨_, ((AW != Ao)), (by first | rfl | (simp; done) | (simp [*]; done)), H', ⟨by first | omega | exact Nat.le_refl _⟩, ⟨by refine rK ?_; exact Kd.Rm A8.o (fun _ hk => trivial)⟩, ⟨vK A0⟩, ⟨vK A1⟩, ⟨vB HB⟩⟩
   ·(rw [if_neg c30] at H; exact absurd H (laws_FnExactLeastCogs.bad_j0 _ _ _ _ _ _ _))
  case rest =>
   clear AU
   (try clear Bd)
   (try clear Aq); (try clear Ar); (try clear As); (try clear At); (try clear Au); (try clear Av); (try clear Aw); (try clear Ax)
   (try clear Ay); (try clear Az); (try clear AA); (try clear AB); (try clear AC); (try clear AD); (try clear AE); (try clear AF)
   (try clear AG); (try clear AH); (try clear AI); (try clear AJ); (try clear AK); (try clear AL); (try clear AM); (try clear AN)
   obtain ⟨kq, Ab, rfl, HA, BC, A2, A0, A1, HB⟩ := hcut
   cases kq with
   | zero => exact absurd HA.o (by simp [laws_FnExactLeastCogs.j0])
   | succ kj14 =>
    have H := HA.o
    clear HA
    simp only [laws_FnExactLeastCogs.j0] at H
    by_cases c31 : Ab = true
    ·(rw [if_pos c31] at H; exact absurd H (by decide))
    ·replace c31 := Bool.eq_false_iff.mpr c31
     subst c31
     have H1 : ((laws_toBoard.f kj14 a0_0 a0_1 l0_2).bind fun bt926 => ((laws_eqBoard.f kj14 A5 A7 A3 bt926.1 bt926.2.1 bt926.2.2).bind fun Ak => (if Ak = true then (some true) else (some false)))) = some true := by rw [if_neg (show ¬ (false = true) by decide)] at H; exact H
     clear H
     have H := H1
     clear H1
     replace H := Option.bind_eq_some_iff.mp H
     obtain ⟨⟨AQ, AR, AS⟩, B2, H⟩ := H
     replace H : ((laws_eqBoard.f kj14 A5 A7 A3 AQ AR AS).bind fun Ak => (if Ak = true then (some true) else (some false))) = some true := H
     have BA := Z.m B2
     clear B2
     replace H := Option.bind_eq_some_iff.mp H
     obtain ⟨Ak, B7, H⟩ := H
     replace H : (if Ak = true then (some true) else (some false)) = some true := H
     have BB := Z.m B7
     clear B7
     by_cases c34 : Ak = true
     ·subst c34
      have H1 : (some true) = some true := rfl
      clear H
      have H := H1
      clear H1
      clear H
      try go_wp2
      replace A2 := Z.m (Kd.R_drew A2.o)
      replace A0 := Z.m (blk_drew A0.o)
      replace A1 := Z.m (blk_drew A1.o)
      replace HB := Z.m (qd HB.o)
      refine start_ (n := 5) (S := fun w' => w'.cell? ⟨Af, 0, none⟩ = some (.int .i64 A5) ∧ w'.cell? ⟨Af, 1, none⟩ = some (.int .i64 A7) ∧ w'.cell? ⟨Af, 2, none⟩ = some (.slice Ah A3.length Ag) ∧ w'.cell? ⟨Aa, 0, none⟩ = some (.int .i64 a0_0) ∧ w'.cell? ⟨Aa, 1, none⟩ = some (.int .i64 a0_1) ∧ w'.cell? ⟨Aa, 2, none⟩ = some (.slice A0_2 l0_2.length c0_2)) (ds := []) #[false, false, false, false, false] (by kernel_rfl) rfl rfl ⟨(ql A1.o 0).trans rfl, (ql A1.o 1).trans rfl, (ql A1.o 2).trans rfl, (ql A0.o 0).trans rfl, (ql A0.o 1).trans rfl, (ql A0.o 2).trans rfl⟩ (fun hHeld => ?_)
      generalize wc.drew = BQ at A2 A0 A1 HB hHeld ⊢
      refine take_ (i := 0) (N := some 51) (v := ?_) (a' := ?_) #[true, false, false, false, false] rfl rfl (by kernel_rfl) (fun _ _ _ h => h) (Or.inl ⟨by rfl, ?_⟩) hHeld ?_ ?_
      rotate_left
      ·rintro w' ⟨s0, s1, s2, s3, s4, s5⟩
       go_simp
       with_reducible rfl
      rotate_left
      ·simp only [Act.put, q1, q2, q3, i64_w, i32_w]
       rfl
      refine take_ (i := 1) (N := some 52) (v := ?_) (a' := ?_) #[true, true, false, false, false] rfl rfl (by kernel_rfl) (fun _ _ _ h => h) (Or.inl ⟨by rfl, ?_⟩) hHeld ?_ ?_
      rotate_left
      ·rintro w' ⟨s0, s1, s2, s3, s4, s5⟩
       go_simp
       with_reducible rfl
      rotate_left
      ·simp only [Act.put, q1, q2, q3, i64_w, i32_w]
       rfl
      refine one_ (i := 2) (N := some 53) #[true, true, true, false, false] rfl rfl (by kernel_rfl) (by decide) (fun K hK => ?_)
      refine goes_ Try.func17 (by kernel_rfl) rfl #[.agg #[.int .i64 a0_0, .int .i64 a0_1, .slice A0_2 l0_2.length c0_2]] (by rfl) rfl rfl (by (try simp only [List.map_toArray, List.map_cons, List.map_nil]); first | done | rfl | (simp only [List.length_drop, List.length_take]; rfl)) ?_
      with_reducible refine (laws_toBoard.calls kj14 a0_0 a0_1 _ _ l0_2 AQ AR AS _ ?side1 ?side2 BA.o).mono ?_
      (case side1 => repeat (first | exact (Kd.C_below Ae.o HB.o) | (with_reducible refine Kd.C_alloc ?_ _) | (with_reducible refine Kd.C_drewN ?_ _) | (with_reducible refine Kd.C_drew ?_)))
      (case side2 => exact Ac.o)
      rintro e BR ⟨BH, rfl, Ap, hb⟩
      refine ⟨_, rfl, ?_⟩
      have Ad := Z.m (Kd.R_lower (Kd.R_new' Ap (Kd.R_lt (vR A2))) (below_size (vB HB)))
      replace A2 := Z.m (Kd.R_elder' (vR A2) (Kd.R_base Ap) hb)
      replace A0 := kB A0 hb
      replace A1 := kB A1 hb
      replace HB := bB HB hb
      (try clear hb); (try clear Ap)
      obtain ⟨Bh, Bi, Bf⟩ := Kd.R_slice Ad.o
      (first | subst Bf | (injection Bf with f1_ f2_ f3_; have f4_ := f1_.symm; have f5_ := f3_.symm; clear f1_ f2_ f3_; subst f4_; subst f5_))
      refine hK.out _ _ ⟨(ql A1.o 0).trans rfl, (ql A1.o 1).trans rfl, (ql A1.o 2).trans rfl, (ql A0.o 0).trans rfl, (ql A0.o 1).trans rfl, (ql A0.o 2).trans rfl⟩ (fun hHeld => ?_)
      clear hK K
      refine norm_ (a' := ?_) ?_ ?_
      rotate_left
      ·show Act.put _ (some 53) _ = _
       simp only [Act.put, q1, q2, q3, i64_w, i32_w]
       rfl
      refine one_ (i := 3) (N := some 54) #[true, true, true, true, false] rfl rfl (by kernel_rfl) (by decide) (fun K hK => ?_)
      refine goes_ Try.func19 (by kernel_rfl) rfl #[.agg #[.int .i64 A5, .int .i64 A7, .slice Ah A3.length Ag], .agg #[.int .i64 AQ, .int .i64 AR, .slice Bh AS.length Bi]] (by rfl) rfl rfl (by (try simp only [List.map_toArray, List.map_cons, List.map_nil]); first | done | rfl | (simp only [List.length_drop, List.length_take]; rfl)) ?_
      with_reducible refine (laws_eqBoard.calls kj14 A5 A7 _ _ A3 AQ AR _ _ AS true _ ?side1 ?side2 ?side3 ?side4 BB.o).mono ?_
      (case side1 => repeat (first | exact (Kd.RrZ A2.o).2.2 | (with_reducible refine Kd.C_alloc ?_ _) | (with_reducible refine Kd.C_drewN ?_ _) | (with_reducible refine Kd.C_drew ?_)))
      (case side2 => exact (Kd.RrZ A2.o).2.1)
      (case side3 => repeat (first | exact (Kd.RrZ Ad.o).2.2 | (with_reducible refine Kd.C_alloc ?_ _) | (with_reducible refine Kd.C_drewN ?_ _) | (with_reducible refine Kd.C_drew ?_)))
      (case side4 => exact (Kd.RrZ Ad.o).2.1)
      rintro e BS ⟨rfl, hb⟩
      refine ⟨_, rfl, ?_⟩
      replace A2 := Z.m (Kd.Rb (vR A2) hb)
      replace Ad := Z.m (Kd.Rb (vR Ad) hb)
      replace A0 := kB A0 hb
      replace A1 := kB A1 hb
      replace HB := bB HB hb
      (try clear hb)
      refine hK.out _ _ ⟨(ql A1.o 0).trans rfl, (ql A1.o 1).trans rfl, (ql A1.o 2).trans rfl, (ql A0.o 0).trans rfl, (ql A0.o 1).trans rfl, (ql A0.o 2).trans rfl⟩ (fun hHeld => ?_)
      clear hK K
      refine norm_ (a' := ?_) ?_ ?_
      rotate_left
      ·show Act.put _ (some 54) _ = _
       simp only [Act.put, q1, q2, q3, i64_w, i32_w]
       rfl
      refine pure_ (i := 4) (N := some 55) (v := ?_) (a' := ?_) #[true, true, true, true, true] rfl rfl (by kernel_rfl) (fun _ _ _ h => h) (Or.inl ⟨by rfl, ?_⟩) ?_ ?_
      rotate_left
      ·intro w'
       go_simp
       with_reducible rfl
      rotate_left
      ·simp only [Act.put, q1, q2, q3, i64_w, i32_w]
       rfl
      refine done_ (by kernel_rfl) ?_
      try go_wp2
      go_ret
      exact ⟨by first | rfl | (simp [eN, eS] <;> rfl) | (simp [*, eN, eS] <;> rfl), vB HB⟩
     ·(rw [if_neg c34] at H; exact absurd H (by decide))

end Go.Proofs.Ytlkiakpipcnijaa.PAll
