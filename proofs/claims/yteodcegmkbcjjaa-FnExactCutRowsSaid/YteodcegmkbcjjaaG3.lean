/- Began as a text that print.sh wrote (of the functions named below); turned and shortened by this session. -/
import Derived.Test.YteodcegmkbcjjaaG0
import Derived.Test.YteodcegmkbcjjaaG1
import Derived.Test.YteodcegmkbcjjaaG2
namespace Go.Proofs.Yteodcegmkbcjjaa.PAll
open Go.RowKit Go.Proofs.YteodcegmkbcjjaaW.PrintWords Go.Proofs.YteodcegmkbcjjaaW.PrintLast Go.Proofs.YteodcegmkbcjjaaW.PrintMore
attribute [local go_sem] max2_int min2_int max_two min_two max_three min_three max_four min_four   -- for this text's walks alone
set_option linter.unusedVariables false
set_option linter.unusedSimpArgs false

/-! ### spec_CutRows: function 23 -/
def spec_CutRows.f (k : Nat) (a0_0 : Int) (a0_1 : Int) (l0_2 : List (S34)) (a1 : Int) (a2 : Int) : Option (Int × Int × (List (S34)) × Bool) := (spec_boGood.f k a0_0 a0_1 l0_2).bind fun t139 => (if t139 = true then ((spec_l1In.f a1 0 (wrap64 (a0_0 - 1))).bind fun t140 => (if t140 = true then ((spec_l1In.f a2 (wrap64 (a1 + 1)) a0_0).bind fun t141 => (if t141 = true then ((some (([] : List (S34)) : List (S34))).bind fun y142 => (if 0 ≤ (wrap64 (a1 * a0_1)) then (if (wrap64 (a1 * a0_1)) ≤ (wrap64 (a2 * a0_1)) then (if (wrap64 (a2 * a0_1)) ≤ (l0_2.length : Int) then ((some ((l0_2.take ((wrap64 (a2 * a0_1)) : Int).toNat).drop ((wrap64 (a1 * a0_1)) : Int).toNat : List (S34))).bind fun y145 => (if y142.length + y145.length < 8796093022208 then (some (wrap64 (a2 - a1), a0_1, (y142 ++ y145), true)) else (none))) else (none)) else (none)) else (none))) else (some (0, 0, ([] : List (S34)), false)))) else (some (0, 0, ([] : List (S34)), false)))) else (some (0, 0, ([] : List (S34)), false)))
def spec_CutRows.T3 : Bool × List (List Nat × List Nat) := (true, [([], []), ([], []), ([0, 1], [0, 1]), ([], []), ([3], [3]), ([], []), ([], []), ([6], [6]), ([], []), ([], []), ([9], [9]), ([8, 10], [8, 10]), ([], []), ([], []), ([13], [13]), ([12, 14], [12, 14]), ([7, 11, 15], [7, 11, 15]), ([5, 16], [5, 16]), ([2, 4, 17], [2, 4, 17]), ([18, 17, 0, 1, 2, 3, 4, 5, 6, 7, 8, 9, 10, 11, 12, 13, 14, 15, 16, 17, 18], [18]), ([19, 0, 1, 2, 3, 4, 5, 6, 7, 8, 9, 10, 11, 12, 13, 14, 15, 16, 17, 18, 19], [])])
def spec_CutRows.B3 : List Nat := [0, 0, 3, 0, 8, 0, 0, 64, 0, 0, 512, 1792, 0, 0, 8192, 28672, 65472, 131040, 262143, 524287, 1048575]
theorem spec_CutRows.tab3 : rtab .any (opsOf Try.f23 3) = spec_CutRows.T3 := by kernel_rfl
theorem spec_CutRows.bits3 : waitsOk spec_CutRows.T3.2 spec_CutRows.B3 = true := by kernel_rfl
set_option maxHeartbeats 8000000 in
set_option maxRecDepth 100000 in
theorem spec_CutRows.calls (k : Nat) (a0_0 : Int) (a0_1 : Int) (A0_2 : Option Addr) (c0_2 : Nat) (l0_2 : List (S34)) (a1 : Int) (a2 : Int) (r1 : Int) (r2 : Int) (r3 : List (S34)) (r4 : Bool) (w : World) (hr0_2 : Kd.C k34 w A0_2 l0_2.length l0_2) (hc0_2 : l0_2.length ≤ c0_2) (h : spec_CutRows.f k a0_0 a0_1 l0_2 a1 a2 = some (r1, r2, r3, r4)) :
 Calls Try.prog 23 #[.agg #[.int .i64 a0_0, .int .i64 a0_1, .slice A0_2 l0_2.length c0_2], .int .i64 a1, .int .i64 a2] w fun e w' => ∃ v2_ : Value, e = .returned (.tuple #[.agg #[.int .i64 r1, .int .i64 r2, v2_], .bool r4]) ∧ Kd.R k34 34 w' w.heap.size (fun _ => True) v2_ r3 ∧ Below w.heap.size w w' := by
 have Cl := Try.underlying29
 have Ai := Z.m hr0_2
 have Ah := Z.m hc0_2
 clear hr0_2 hc0_2
 have HB := Z.m (Below.refl w.heap.size w)
 have H : ((spec_boGood.f k a0_0 a0_1 l0_2).bind fun Ax => (if Ax = true then ((spec_l1In.f a1 0 (wrap64 (a0_0 - 1))).bind fun Am => (if Am = true then ((spec_l1In.f a2 (wrap64 (a1 + 1)) a0_0).bind fun Ad => (if Ad = true then ((some (([] : List (S34)) : List (S34))).bind fun A9 => (if 0 ≤ (wrap64 (a1 * a0_1)) then (if (wrap64 (a1 * a0_1)) ≤ (wrap64 (a2 * a0_1)) then (if (wrap64 (a2 * a0_1)) ≤ (l0_2.length : Int) then ((some ((l0_2.take ((wrap64 (a2 * a0_1)) : Int).toNat).drop ((wrap64 (a1 * a0_1)) : Int).toNat : List (S34))).bind fun A7 => (if A9.length + A7.length < 8796093022208 then (some (wrap64 (a2 - a1), a0_1, (A9 ++ A7), true)) else (none))) else (none)) else (none)) else (none))) else (some (0, 0, ([] : List (S34)), false)))) else (some (0, 0, ([] : List (S34)), false)))) else (some (0, 0, ([] : List (S34)), false)))) = some (r1, r2, r3, r4) := h
 clear h
 replace H := Option.bind_eq_some_iff.mp H
 obtain ⟨Ax, BX, H⟩ := H
 replace H : (if Ax = true then ((spec_l1In.f a1 0 (wrap64 (a0_0 - 1))).bind fun Am => (if Am = true then ((spec_l1In.f a2 (wrap64 (a1 + 1)) a0_0).bind fun Ad => (if Ad = true then ((some (([] : List (S34)) : List (S34))).bind fun A9 => (if 0 ≤ (wrap64 (a1 * a0_1)) then (if (wrap64 (a1 * a0_1)) ≤ (wrap64 (a2 * a0_1)) then (if (wrap64 (a2 * a0_1)) ≤ (l0_2.length : Int) then ((some ((l0_2.take ((wrap64 (a2 * a0_1)) : Int).toNat).drop ((wrap64 (a1 * a0_1)) : Int).toNat : List (S34))).bind fun A7 => (if A9.length + A7.length < 8796093022208 then (some (wrap64 (a2 - a1), a0_1, (A9 ++ A7), true)) else (none))) else (none)) else (none)) else (none))) else (some (0, 0, ([] : List (S34)), false)))) else (some (0, 0, ([] : List (S34)), false)))) else (some (0, 0, ([] : List (S34)), false))) = some (r1, r2, r3, r4) := H
 have A4 := Z.m BX
 clear BX
 by_cases c5 : Ax = true
 ·subst c5
  have H1 : ((spec_l1In.f a1 0 (wrap64 (a0_0 - 1))).bind fun Am => (if Am = true then ((spec_l1In.f a2 (wrap64 (a1 + 1)) a0_0).bind fun Ad => (if Ad = true then ((some (([] : List (S34)) : List (S34))).bind fun A9 => (if 0 ≤ (wrap64 (a1 * a0_1)) then (if (wrap64 (a1 * a0_1)) ≤ (wrap64 (a2 * a0_1)) then (if (wrap64 (a2 * a0_1)) ≤ (l0_2.length : Int) then ((some ((l0_2.take ((wrap64 (a2 * a0_1)) : Int).toNat).drop ((wrap64 (a1 * a0_1)) : Int).toNat : List (S34))).bind fun A7 => (if A9.length + A7.length < 8796093022208 then (some (wrap64 (a2 - a1), a0_1, (A9 ++ A7), true)) else (none))) else (none)) else (none)) else (none))) else (some (0, 0, ([] : List (S34)), false)))) else (some (0, 0, ([] : List (S34)), false)))) = some (r1, r2, r3, r4) := by rw [if_pos rfl] at H; exact H
  clear H
  have H := H1
  clear H1
  replace H := Option.bind_eq_some_iff.mp H
  obtain ⟨Am, BY, H⟩ := H
  replace H : (if Am = true then ((spec_l1In.f a2 (wrap64 (a1 + 1)) a0_0).bind fun Ad => (if Ad = true then ((some (([] : List (S34)) : List (S34))).bind fun A9 => (if 0 ≤ (wrap64 (a1 * a0_1)) then (if (wrap64 (a1 * a0_1)) ≤ (wrap64 (a2 * a0_1)) then (if (wrap64 (a2 * a0_1)) ≤ (l0_2.length : Int) then ((some ((l0_2.take ((wrap64 (a2 * a0_1)) : Int).toNat).drop ((wrap64 (a1 * a0_1)) : Int).toNat : List (S34))).bind fun A7 => (if A9.length + A7.length < 8796093022208 then (some (wrap64 (a2 - a1), a0_1, (A9 ++ A7), true)) else (none))) else (none)) else (none)) else (none))) else (some (0, 0, ([] : List (S34)), false)))) else (some (0, 0, ([] : List (S34)), false))) = some (r1, r2, r3, r4) := H
  have A6 := Z.m BY
  clear BY
  by_cases c7 : Am = true
  ·subst c7
   have H1 : ((spec_l1In.f a2 (wrap64 (a1 + 1)) a0_0).bind fun Ad => (if Ad = true then ((some (([] : List (S34)) : List (S34))).bind fun A9 => (if 0 ≤ (wrap64 (a1 * a0_1)) then (if (wrap64 (a1 * a0_1)) ≤ (wrap64 (a2 * a0_1)) then (if (wrap64 (a2 * a0_1)) ≤ (l0_2.length : Int) then ((some ((l0_2.take ((wrap64 (a2 * a0_1)) : Int).toNat).drop ((wrap64 (a1 * a0_1)) : Int).toNat : List (S34))).bind fun A7 => (if A9.length + A7.length < 8796093022208 then (some (wrap64 (a2 - a1), a0_1, (A9 ++ A7), true)) else (none))) else (none)) else (none)) else (none))) else (some (0, 0, ([] : List (S34)), false)))) = some (r1, r2, r3, r4) := by rw [if_pos rfl] at H; exact H
   clear H
   have H := H1
   clear H1
   replace H := Option.bind_eq_some_iff.mp H
   obtain ⟨Ad, BZ, H⟩ := H
   replace H : (if Ad = true then ((some (([] : List (S34)) : List (S34))).bind fun A9 => (if 0 ≤ (wrap64 (a1 * a0_1)) then (if (wrap64 (a1 * a0_1)) ≤ (wrap64 (a2 * a0_1)) then (if (wrap64 (a2 * a0_1)) ≤ (l0_2.length : Int) then ((some ((l0_2.take ((wrap64 (a2 * a0_1)) : Int).toNat).drop ((wrap64 (a1 * a0_1)) : Int).toNat : List (S34))).bind fun A7 => (if A9.length + A7.length < 8796093022208 then (some (wrap64 (a2 - a1), a0_1, (A9 ++ A7), true)) else (none))) else (none)) else (none)) else (none))) else (some (0, 0, ([] : List (S34)), false))) = some (r1, r2, r3, r4) := H
   have A8 := Z.m BZ
   clear BZ
   by_cases c9 : Ad = true
   ·subst c9
    have H1 : ((some (([] : List (S34)) : List (S34))).bind fun A9 => (if 0 ≤ (wrap64 (a1 * a0_1)) then (if (wrap64 (a1 * a0_1)) ≤ (wrap64 (a2 * a0_1)) then (if (wrap64 (a2 * a0_1)) ≤ (l0_2.length : Int) then ((some ((l0_2.take ((wrap64 (a2 * a0_1)) : Int).toNat).drop ((wrap64 (a1 * a0_1)) : Int).toNat : List (S34))).bind fun A7 => (if A9.length + A7.length < 8796093022208 then (some (wrap64 (a2 - a1), a0_1, (A9 ++ A7), true)) else (none))) else (none)) else (none)) else (none))) = some (r1, r2, r3, r4) := by rw [if_pos rfl] at H; exact H
    clear H
    have H := H1
    clear H1
    obtain ⟨A9, Aj⟩ : ∃ y_ : List (S34), y_ = (([] : List (S34))) := ⟨_, rfl⟩
    replace H : (if 0 ≤ (wrap64 (a1 * a0_1)) then (if (wrap64 (a1 * a0_1)) ≤ (wrap64 (a2 * a0_1)) then (if (wrap64 (a2 * a0_1)) ≤ (l0_2.length : Int) then ((some ((l0_2.take ((wrap64 (a2 * a0_1)) : Int).toNat).drop ((wrap64 (a1 * a0_1)) : Int).toNat : List (S34))).bind fun A7 => (if A9.length + A7.length < 8796093022208 then (some (wrap64 (a2 - a1), a0_1, (A9 ++ A7), true)) else (none))) else (none)) else (none)) else (none)) = some (r1, r2, r3, r4) := by first | (rw [Aj]; with_reducible exact H) | (have H2_ := (Option.bind_some _ _).symm.trans H; rw [Aj]; with_reducible exact H2_) | (have H2_ := (Option.bind_some _ _).symm.trans H; with_reducible exact H2_) | with_reducible exact H | (rw [Aj]; exact H) | exact H
    have AA := Z.m Aj
    clear Aj
    obtain ⟨Ac, Ag⟩ : ∃ j_ : Int, (wrap64 (a1 * a0_1)) = j_ := ⟨_, rfl⟩
    replace H : (if 0 ≤ (Ac) then (if (Ac) ≤ (wrap64 (a2 * a0_1)) then (if (wrap64 (a2 * a0_1)) ≤ (l0_2.length : Int) then ((some ((l0_2.take ((wrap64 (a2 * a0_1)) : Int).toNat).drop ((Ac) : Int).toNat : List (S34))).bind fun A7 => (if A9.length + A7.length < 8796093022208 then (some (wrap64 (a2 - a1), a0_1, (A9 ++ A7), true)) else (none))) else (none)) else (none)) else (none)) = some (r1, r2, r3, r4) := by first | (rw [Ag] at H; exact H) | (simp only [Ag] at H ⊢; exact H)
    (try rw [Ag] at A4)
    (try rw [Ag] at A6)
    (try rw [Ag] at A8)
    have hji10w : (IntKind.i64.wrap (a1 * a0_1)) = Ac := (i64_w _).trans Ag
    by_cases c11 : 0 ≤ (Ac)
    ·rw [if_pos c11] at H
     have C1 := eq_true c11
     have C2 := decide_eq_true c11
     clear c11
     by_cases c12 : (Ac) ≤ (wrap64 (a2 * a0_1))
     ·rw [if_pos c12] at H
      have C3 := eq_true c12
      have C4 := decide_eq_true c12
      clear c12
      by_cases c13 : (wrap64 (a2 * a0_1)) ≤ (l0_2.length : Int)
      ·rw [if_pos c13] at H
       have C5 := eq_true c13
       have C6 := decide_eq_true c13
       clear c13
       obtain ⟨A7, Ak⟩ : ∃ y_ : List (S34), y_ = ((l0_2.take ((wrap64 (a2 * a0_1)) : Int).toNat).drop ((Ac) : Int).toNat) := ⟨_, rfl⟩
       replace H : (if A9.length + A7.length < 8796093022208 then (some (wrap64 (a2 - a1), a0_1, (A9 ++ A7), true)) else (none)) = some (r1, r2, r3, r4) := by first | (rw [Ak]; with_reducible exact H) | (have H2_ := (Option.bind_some _ _).symm.trans H; rw [Ak]; with_reducible exact H2_) | (have H2_ := (Option.bind_some _ _).symm.trans H; with_reducible exact H2_) | with_reducible exact H | (rw [Ak]; exact H) | exact H
       have AB := Z.m Ak
       clear Ak
       by_cases c14 : A9.length + A7.length < 8796093022208
       ·rw [if_pos c14] at H
        have AD := Z.m c14
        clear c14
        obtain ⟨AG, Al⟩ : ∃ y_ : List (S34), y_ = (A9 ++ A7) := ⟨_, rfl⟩
        replace H : (some (wrap64 (a2 - a1), a0_1, AG, true)) = some (r1, r2, r3, r4) := by first | (rw [Al]; with_reducible exact H) | (have H2_ := (Option.bind_some _ _).symm.trans H; rw [Al]; with_reducible exact H2_) | (have H2_ := (Option.bind_some _ _).symm.trans H; with_reducible exact H2_) | with_reducible exact H | (rw [Al]; exact H) | exact H
        have AE := Z.m Al
        clear Al
        simp only [Option.some.injEq, Prod.mk.injEq] at H
        obtain ⟨rfl, rfl, rfl, rfl⟩ := H
        go_enter Try.func23, Try.ntmps23
        try go_wp2_with (first | ((with_reducible refine gq (N := 3) rfl ?_); refine be (N := 3) (cs := #[.int .i64 a0_0, .int .i64 a0_1, .slice A0_2 l0_2.length c0_2]) (t := 29) ?_; intro Ab hg Cn hbox hb; have A0 := Z.m (hbox); have Ae := gW (w := w) HB hg; have Aq := Ae; replace HB := bB HB hb; clear hb hbox hg) | ((with_reducible refine gq (N := 6) rfl ?_); refine be (N := 6) (cs := #[.int .i64 0, .int .i64 0, .slice none 0 0]) (t := 29) ?_; intro Aa hg Co hbox hb; have A2 := Z.m (hbox); have Af := gW (w := w) HB hg; have Ar := Af; have A3 := neL A0 hg; have A5 := neG A0 hg; replace A0 := kB A0 hb; replace HB := bB HB hb; clear hb hbox hg; have C7 := A3.o; have Cb := A5.o; have AH := bc0 A0; have AI := bc1 A0; have AJ := bc2 A0; have Bi := qz A0.o 0; have Bj := qz A0.o 1; have Bk := qz A0.o 2) | ((with_reducible refine gc (f := 53) rfl ?_); refine gA (some 9) _ #[.agg #[.int .i64 a0_0, .int .i64 a0_1, .slice A0_2 l0_2.length c0_2]] ?_ Try.func53; (with_reducible refine (spec_boGood.calls k a0_0 a0_1 _ _ l0_2 true _ ?side1 ?side2 A4.o).mono ?_); (case side1 => repeat (first | exact (Kd.C_below Ai.o HB.o) | (with_reducible refine Kd.C_alloc ?_ _) | (with_reducible refine Kd.C_drewN ?_ _) | (with_reducible refine Kd.C_drew ?_))); (case side2 => exact Ah.o); rintro e Ao ⟨rfl, hb⟩; refine ⟨_, rfl, ?_⟩; replace A0 := kB A0 hb; replace A2 := kB A2 hb; replace HB := bB HB hb; (try clear hb); (try clear BU); (try clear hk); (try clear hi); have AK := bc0 A0; have AL := bc1 A0; have AM := bc2 A0; have Bl := qz A0.o 0; have Bm := qz A0.o 1; have Bn := qz A0.o 2) | (go_at_call 60; (with_reducible refine (spec_l1In.calls a1 0 (wrap64 (a0_0 - 1)) true _ A6.o).mono ?_); rintro e w' ⟨rfl, ⟨nd, rfl⟩⟩; (try (rw [drewN_self Ao]; generalize hq_ : World.drewN Ao _ = Ao; replace A0 : Z (Ao.heap[Ab]? = some (.cells #[.int .i64 a0_0, .int .i64 a0_1, .slice A0_2 l0_2.length c0_2] 29 (0, 0))) := ⟨by rw [← hq_]; exact (vK A0)⟩; replace A2 : Z (Ao.heap[Aa]? = some (.cells #[.int .i64 0, .int .i64 0, .slice none 0 0] 29 (0, 0))) := ⟨by rw [← hq_]; exact (vK A2)⟩; replace HB : Z (Below w.heap.size w Ao) := ⟨by rw [← hq_]; exact (vB HB)⟩; clear hq_)); have As : Ao.cell? ⟨Ab, 0, none⟩ = some (.int .i64 a0_0) := (ql A0.o 0).trans rfl; have At := qz A0.o 0) | (go_at_call 60; (with_reducible refine (spec_l1In.calls a2 (wrap64 (a1 + 1)) a0_0 true _ A8.o).mono ?_); rintro e w' ⟨rfl, ⟨nd, rfl⟩⟩; (try (rw [drewN_self Ao]; generalize hq_ : World.drewN Ao _ = Ao; replace A0 : Z (Ao.heap[Ab]? = some (.cells #[.int .i64 a0_0, .int .i64 a0_1, .slice A0_2 l0_2.length c0_2] 29 (0, 0))) := ⟨by rw [← hq_]; exact (vK A0)⟩; replace A2 : Z (Ao.heap[Aa]? = some (.cells #[.int .i64 0, .int .i64 0, .slice none 0 0] 29 (0, 0))) := ⟨by rw [← hq_]; exact (vK A2)⟩; replace HB : Z (Below w.heap.size w Ao) := ⟨by rw [← hq_]; exact (vB HB)⟩; clear hq_))))
        replace A0 := Z.m (blk_drew A0.o)
        replace A2 := Z.m (blk_drew A2.o)
        replace HB := Z.m (qd HB.o)
        have q22 : ((wrap64 (a2 * a0_1)) : Int) ≤ ((l0_2.length : Int) : Int) := ofD
        obtain ⟨i022, hi022, _, hsz22, _⟩ := info_parts info34
        have hroom22 : l0_2.length ≤ c0_2 := Ah.o
        have hC22 : Kd.C k34 _ A0_2 l0_2.length l0_2 := Ai.o
        have ql22 : ((Ac) : Int) ≤ ((wrap64 (a2 * a0_1)) : Int) := ofD
        have q022 : (0 : Int) ≤ ((Ac) : Int) := ofD
        have hcut22 := cut_mid (P := Try.prog) 27 34 .i64 .i64 Try.underlying27 hi022 2 hsz22 A0_2 l0_2.length c0_2 (Ac) (wrap64 (a2 * a0_1)) q022 ql22 q22 hroom22
        have Av := Kd.C_mid (lo := ((Ac) : Int).toNat) (hi := ((wrap64 (a2 * a0_1)) : Int).toNat) (c := c0_2) hC22 (by omega) (by omega) hroom22
        obtain ⟨Cg, hA22⟩ : ∃ A1, A1 = (if c0_2 = ((Ac) : Int).toNat then A0_2 else (A0_2 : Option Addr).map (·.add (((Ac) : Int).toNat * 2))) := ⟨_, rfl⟩
        obtain ⟨c22, hc22⟩ : ∃ c1, c1 = c0_2 - ((Ac) : Int).toNat := ⟨_, rfl⟩
        have Aw : A7.length = ((wrap64 (a2 * a0_1)) : Int).toNat - ((Ac) : Int).toNat := (by rw [AB.o, List.length_drop, List.length_take] <;> omega)
        rw [show ((l0_2).take ((wrap64 (a2 * a0_1)) : Int).toNat).drop ((Ac) : Int).toNat = A7 from AB.o.symm] at Av
        replace Av : Kd.C k34 _ Cg A7.length A7 := (by rw [hA22]; exact Av)
        rw [← Aw, ← hA22, ← hc22] at hcut22
        have Az := Z.m Av
        have C0 := Z.m (show A7.length ≤ c22 from by rw [Aw, hc22]; exact Nat.sub_le_sub_right (Nat.le_trans (by omega) hroom22) _)
        clear Av hC22 hroom22 hi022 hsz22 hc22
        have KY22 := Z.m Aw
        have KA22 := Z.m hA22
        clear Aw hA22
        replace q22 := eq_true q22
        refine start_ (n := 21) (S := fun w' => w'.cell? ⟨Ab, 0, none⟩ = some (.int .i64 a0_0) ∧ w'.cell? ⟨Ab, 1, none⟩ = some (.int .i64 a0_1) ∧ w'.cell? ⟨Ab, 2, none⟩ = some (.slice A0_2 l0_2.length c0_2)) (ds := []) #[false, false, false, false, false, false, false, false, false, false, false, false, false, false, false, false, false, false, false, false, false] (by kernel_rfl) rfl rfl ⟨(ql A0.o 0).trans rfl, (ql A0.o 1).trans rfl, (ql A0.o 2).trans rfl⟩ (fun hHeld => ?_); refine with_tabW spec_CutRows.tab3 spec_CutRows.bits3 (fun HT_ HW_ => ?_)
        generalize Ao.drew = Cp at A0 A2 HB Az hHeld ⊢
        refine pure_ (i := 0) (N := some 29) (v := ?_) (a' := ?_) #[true, false, false, false, false, false, false, false, false, false, false, false, false, false, false, false, false, false, false, false, false] rfl rfl (any_of HT_.o (by kernel_rfl)) (fun _ _ _ h => h) (Or.inl ⟨by rfl, ?_⟩) ?_ ?_
        rotate_left
        ·intro w'
         go_simp
         with_reducible rfl
        rotate_left
        ·simp only [Act.put, q1, q2, q3, i64_w, i32_w]
         rfl
        refine pure_ (i := 1) (N := some 30) (v := ?_) (a' := ?_) #[true, true, false, false, false, false, false, false, false, false, false, false, false, false, false, false, false, false, false, false, false] rfl rfl (any_of HT_.o (by kernel_rfl)) (fun _ _ _ h => h) (Or.inl ⟨by rfl, ?_⟩) ?_ ?_
        rotate_left
        ·intro w'
         go_simp
         with_reducible rfl
        rotate_left
        ·simp only [Act.put, q1, q2, q3, i64_w, i32_w]
         rfl
        refine pure_ (i := 2) (N := some 31) (v := ?_) (a' := ?_) #[true, true, true, false, false, false, false, false, false, false, false, false, false, false, false, false, false, false, false, false, false] rfl rfl (any_of HT_.o (by kernel_rfl)) (fun _ _ _ h => h) (Or.inl ⟨by rfl, ?_⟩) ?_ ?_
        rotate_left
        ·intro w'
         go_simp
         with_reducible rfl
        rotate_left
        ·simp only [Act.put, q1, q2, q3, i64_w, i32_w]
         rfl
        refine pure_ (i := 3) (N := some 32) (v := ?_) (a' := ?_) #[true, true, true, true, false, false, false, false, false, false, false, false, false, false, false, false, false, false, false, false, false] rfl rfl (any_of HT_.o (by kernel_rfl)) (fun _ _ _ h => h) (Or.inl ⟨by rfl, ?_⟩) ?_ ?_
        rotate_left
        ·intro w'
         go_simp
         with_reducible rfl
        rotate_left
        ·simp only [Act.put, q1, q2, q3, i64_w, i32_w]
         rfl
        refine pure_ (i := 6) (N := some 35) (v := ?_) (a' := ?_) #[true, true, true, true, false, false, true, false, false, false, false, false, false, false, false, false, false, false, false, false, false] rfl rfl (any_of HT_.o (by kernel_rfl)) (fun _ _ _ h => h) (Or.inl ⟨by rfl, ?_⟩) ?_ ?_
        rotate_left
        ·intro w'
         go_simp
         with_reducible rfl
        rotate_left
        ·simp only [Act.put, q1, q2, q3, i64_w, i32_w]
         rfl
        refine pure_ (i := 8) (N := some 37) (v := ?_) (a' := ?_) #[true, true, true, true, false, false, true, false, true, false, false, false, false, false, false, false, false, false, false, false, false] rfl rfl (any_of HT_.o (by kernel_rfl)) (fun _ _ _ h => h) (Or.inl ⟨by rfl, ?_⟩) ?_ ?_
        rotate_left
        ·intro w'
         go_simp
         with_reducible rfl
        rotate_left
        ·simp only [Act.put, q1, q2, q3, i64_w, i32_w]
         rfl
        refine pure_ (i := 9) (N := some 38) (v := ?_) (a' := ?_) #[true, true, true, true, false, false, true, false, true, true, false, false, false, false, false, false, false, false, false, false, false] rfl rfl (any_of HT_.o (by kernel_rfl)) (fun _ _ _ h => h) (Or.inl ⟨by rfl, ?_⟩) ?_ ?_
        rotate_left
        ·intro w'
         go_simp
         with_reducible rfl
        rotate_left
        ·simp only [Act.put, q1, q2, q3, i64_w, i32_w]
         rfl
        refine pure_ (i := 12) (N := some 41) (v := ?_) (a' := ?_) #[true, true, true, true, false, false, true, false, true, true, false, false, true, false, false, false, false, false, false, false, false] rfl rfl (any_of HT_.o (by kernel_rfl)) (fun _ _ _ h => h) (Or.inl ⟨by rfl, ?_⟩) ?_ ?_
        rotate_left
        ·intro w'
         go_simp
         with_reducible rfl
        rotate_left
        ·simp only [Act.put, q1, q2, q3, i64_w, i32_w]
         rfl
        refine pure_ (i := 13) (N := some 42) (v := ?_) (a' := ?_) #[true, true, true, true, false, false, true, false, true, true, false, false, true, true, false, false, false, false, false, false, false] rfl rfl (any_of HT_.o (by kernel_rfl)) (fun _ _ _ h => h) (Or.inl ⟨by rfl, ?_⟩) ?_ ?_
        rotate_left
        ·intro w'
         go_simp
         with_reducible rfl
        rotate_left
        ·simp only [Act.put, q1, q2, q3, i64_w, i32_w]
         rfl
        refine take_ (i := 4) (N := some 33) (v := ?_) (a' := ?_) #[true, true, true, true, true, false, true, false, true, true, false, false, true, true, false, false, false, false, false, false, false] rfl rfl (take_ofW HT_.o HW_.o (by kernel_rfl)) (fun _ _ _ h => h) (Or.inl ⟨by rfl, ?_⟩) hHeld ?_ ?_
        rotate_left
        ·rintro w' ⟨s0, s1, s2⟩
         go_simp
         with_reducible rfl
        rotate_left
        ·simp only [Act.put, q1, q2, q3, i64_w, i32_w]
         rfl
        refine take_ (i := 7) (N := some 36) (v := ?_) (a' := ?_) #[true, true, true, true, true, false, true, true, true, true, false, false, true, true, false, false, false, false, false, false, false] rfl rfl (take_ofW HT_.o HW_.o (by kernel_rfl)) (fun _ _ _ h => h) (Or.inl ⟨by rfl, ?_⟩) hHeld ?_ ?_
        rotate_left
        ·rintro w' ⟨s0, s1, s2⟩
         go_simp
         with_reducible rfl
        rotate_left
        ·simp only [Act.put, q1, q2, q3, i64_w, i32_w]
         rfl
        refine take_ (i := 10) (N := some 39) (v := ?_) (a' := ?_) #[true, true, true, true, true, false, true, true, true, true, true, false, true, true, false, false, false, false, false, false, false] rfl rfl (take_ofW HT_.o HW_.o (by kernel_rfl)) (fun _ _ _ h => h) (Or.inl ⟨by rfl, ?_⟩) hHeld ?_ ?_
        rotate_left
        ·rintro w' ⟨s0, s1, s2⟩
         go_simp
         with_reducible rfl
        rotate_left
        ·simp only [Act.put, q1, q2, q3, i64_w, i32_w]
         rfl
        refine pure_ (i := 11) (N := some 40) (v := ?_) (a' := ?_) #[true, true, true, true, true, false, true, true, true, true, true, true, true, true, false, false, false, false, false, false, false] rfl rfl (any_of HT_.o (by kernel_rfl)) (fun _ _ _ h => h) (Or.inl ⟨by rfl, ?_⟩) ?_ ?_
        rotate_left
        ·intro w'
         go_simp
         with_reducible rfl
        rotate_left
        ·simp only [Act.put, q1, q2, q3, i64_w, i32_w]
         rfl
        refine take_ (i := 14) (N := some 43) (v := ?_) (a' := ?_) #[true, true, true, true, true, false, true, true, true, true, true, true, true, true, true, false, false, false, false, false, false] rfl rfl (take_ofW HT_.o HW_.o (by kernel_rfl)) (fun _ _ _ h => h) (Or.inl ⟨by rfl, ?_⟩) hHeld ?_ ?_
        rotate_left
        ·rintro w' ⟨s0, s1, s2⟩
         go_simp
         with_reducible rfl
        rotate_left
        ·simp only [Act.put, q1, q2, q3, i64_w, i32_w]
         rfl
        refine pure_ (i := 15) (N := some 44) (v := ?_) (a' := ?_) #[true, true, true, true, true, false, true, true, true, true, true, true, true, true, true, true, false, false, false, false, false] rfl rfl (any_of HT_.o (by kernel_rfl)) (fun _ _ _ h => h) (Or.inl ⟨by rfl, ?_⟩) ?_ ?_
        rotate_left
        ·intro w'
         go_simp
         with_reducible rfl
        rotate_left
        ·simp only [Act.put, q1, q2, q3, i64_w, i32_w]
         rfl
        refine pure_ (i := 16) (N := some 45) (v := ?_) (a' := ?_) #[true, true, true, true, true, false, true, true, true, true, true, true, true, true, true, true, true, false, false, false, false] rfl rfl (any_of HT_.o (by kernel_rfl)) (fun _ _ _ h => h) (Or.inl ⟨by rfl, ?_⟩) ?_ ?_
        rotate_left
        ·intro w'
         go_simp
         with_reducible rfl
        rotate_left
        ·simp only [Act.put, q1, q2, q3, i64_w, i32_w]
         rfl
        refine one_ (i := 5) (N := some 34) #[true, true, true, true, true, true, true, true, true, true, true, true, true, true, true, true, true, false, false, false, false] rfl rfl (one_of HT_.o (by kernel_rfl)) (by decide) (fun K hK => ?_)
        refine Kd.R_lit_step k34 _ 34 ?hg (N := 34) ?hd (xs := ([] : List (S34))) (inner := []) (ok := fun _ => True) (okp := fun _ => True) ?hr ?hp (fun _ hk => hk) trivial (Below.refl _ _) (Nat.le_refl _) (by simp) ?_; (case hd => rfl); (case hg => rfl); (case hr => first | (go_simp; done) | (go_simp; rfl)); (case hp => exact (Reps.none _ _))
        intro BV Cq Au hb hg_ hnew_
        clear hg_ hnew_
        (first | rw [← AA.o] at Au | (simp only [Int.reduceToNat] at Au; rw [← AA.o] at Au))
        have An := Z.m (Kd.R_lower Au (below_size (vB HB)))
        replace A0 := kB A0 hb
        replace A2 := kB A2 hb
        replace HB := bB HB hb
        clear hb Au
        refine hK.out _ _ ⟨(ql A0.o 0).trans rfl, (ql A0.o 1).trans rfl, (ql A0.o 2).trans rfl⟩ (fun hHeld => ?_)
        clear hK K
        refine norm_ (a' := ?_) ?_ ?_
        rotate_left
        ·show Act.put _ (some 34) _ = _
         simp only [Act.put, q1, q2, q3, i64_w, i32_w]
         rfl
        refine one_ (i := 17) (N := some 46) #[true, true, true, true, true, true, true, true, true, true, true, true, true, true, true, true, true, true, false, false, false] rfl rfl (one_of HT_.o (by kernel_rfl)) (by decide) (fun K hK => ?_)
        refine Kd.R_append_rows_step k34 (w0 := w) w.heap.size (by rfl) (.tmp 34) (.tmp 45) 27 34 (.agg #[(.int .i64 0), (.int .i64 0)]) 16 rfl Try.underlying27 info34 rfl (by decide) (by omega) BV A9 A7 _ _ _ (fun _ => True) (fun _ => False) rfl rfl ?aO ?aR (fun _ _ h => h) (fun _ h => h.elim) ?aF ?aB ?aS ?aL ?_
        (case aR => repeat (first | exact (Kd.C_below Az.o HB.o) | (with_reducible refine Kd.C_alloc ?_ _) | (with_reducible refine Kd.C_drewN ?_ _) | (with_reducible refine Kd.C_drew ?_)))
        (case aB => exact (vB HB))
        (case aF => exact (fun _ _ => trivial))
        (case aO => exact (vR An))
        (case aS => exact (below_size (vB HB)))
        (case aL => have := AD.o; omega)
        intro Cm BW ho hb hg hat
        rw [← AE.o] at ho
        have Ay := Z.m (ho)
        replace A0 := Z.m (qg (g := Ab) (o := .cells #[.int .i64 a0_0, .int .i64 a0_1, .slice A0_2 l0_2.length c0_2] 29 (0, 0)) (vK A0) hg (Kd.R_ne An.o A0.o (by decide)))
        replace A2 := Z.m (qg (g := Aa) (o := .cells #[.int .i64 0, .int .i64 0, .slice none 0 0] 29 (0, 0)) (vK A2) hg (Kd.R_ne An.o A2.o (by decide)))
        replace HB := Z.m (hb)
        clear An
        clear ho hb hg hat
        obtain ⟨BS, BT, AF⟩ := Kd.R_slice Ay.o
        (first | subst AF | (injection AF with f1_ f2_ f3_; have f4_ := f1_.symm; have f5_ := f3_.symm; clear f1_ f2_ f3_; subst f4_; subst f5_))
        refine hK.out _ _ ⟨(ql A0.o 0).trans rfl, (ql A0.o 1).trans rfl, (ql A0.o 2).trans rfl⟩ (fun hHeld => ?_)
        clear hK K
        refine norm_ (a' := ?_) ?_ ?_
        rotate_left
        ·show Act.put _ (some 46) _ = _
         simp only [Act.put, q1, q2, q3, i64_w, i32_w]
         rfl
        refine pure_ (i := 18) (N := some 47) (v := ?_) (a' := ?_) #[true, true, true, true, true, true, true, true, true, true, true, true, true, true, true, true, true, true, true, false, false] rfl rfl (any_of HT_.o (by kernel_rfl)) (fun _ _ _ h => h) (Or.inl ⟨by rfl, ?_⟩) ?_ ?_
        rotate_left
        ·intro w'
         go_simp
         with_reducible rfl
        rotate_left
        ·simp only [Act.put, q1, q2, q3, i64_w, i32_w]
         rfl
        refine one_ (i := 19) (N := none) #[true, true, true, true, true, true, true, true, true, true, true, true, true, true, true, true, true, true, true, true, false] rfl rfl (one_of HT_.o (by kernel_rfl)) (by decide) (fun K hK => ?_)
        have Ch : BW.cell? ⟨Aa, 0, none⟩ = some (.int .i64 0) := (ql A2.o 0).trans rfl
        have hfs27 := qz A2.o 0
        have BP := A3.o
        have BM := A5.o
        have Ci : BW.cell? ⟨Aa, 1, none⟩ = some (.int .i64 0) := (ql A2.o 1).trans rfl
        have hfs28 := qz A2.o 1
        have BQ := A3.o
        have BN := A5.o
        have Cj : BW.cell? ⟨Aa, 2, none⟩ = some (.slice none 0 0) := (ql A2.o 2).trans rfl
        have hfs29 := qz A2.o 2
        have BR := A3.o
        have BO := A5.o
        refine skip_ (w1 := ?_) ?hwx ?hnx ?_ ?_; (case hwx => rfl); (case hnx => rfl)
        rotate_left
        ·go_simp
         rfl
        refine hK.out _ _ ⟨(cx A3.o ((cx A3.o ((cx A3.o (hHeld.1)))))), (cx A3.o ((cx A3.o ((cx A3.o (hHeld.2.1)))))), (cx A3.o ((cx A3.o ((cx A3.o (hHeld.2.2))))))⟩ (fun hHeld => ?_)
        clear hK K
        refine pure_ (i := 20) (N := some 7) (v := ?_) (a' := ?_) #[true, true, true, true, true, true, true, true, true, true, true, true, true, true, true, true, true, true, true, true, true] rfl rfl (any_of HT_.o (by kernel_rfl)) (fun _ _ _ h => h) (Or.inl ⟨by rfl, ?_⟩) ?_ ?_
        rotate_left
        ·intro w'
         go_simp
         with_reducible rfl
        rotate_left
        ·simp only [Act.put, q1, q2, q3, i64_w, i32_w]
         rfl
        refine done_ (done_of HT_.o (by kernel_rfl)) ?_
        try go_wp2
        refine bodyPost_ret (results_ct rfl _ _ Aa 29 #[.int .i64 (wrap64 (a2 - a1)), .int .i64 a0_1, .slice BS AG.length BT] (0, 0) _ rfl (by refine bK ?_; apply st3; refine bK ?_; exact A2.o) Try.underlying29 rfl (by kernel_rfl)) rfl ?_
        exact ⟨_, by first | rfl | (simp [eN, eS] <;> rfl) | (simp only [← Ag]; first | rfl | (simp [eN, eS] <;> rfl)) | (simp [*, eN, eS] <;> rfl), by refine rK ?_; exact Kd.Rm (rf (rf (rf (Kd.Ry Ay.o A2.o (by decide))))) (fun _ hk => trivial), vB HB⟩
       ·rw [if_neg c14] at H
        exact absurd H (by simp)
      ·rw [if_neg c13] at H
       exact absurd H (by simp)
     ·rw [if_neg c12] at H
      exact absurd H (by simp)
    ·rw [if_neg c11] at H
     exact absurd H (by simp)
   ·replace c9 := Bool.eq_false_iff.mpr c9
    subst c9
    have H1 : (some (0, 0, ([] : List (S34)), false)) = some (r1, r2, r3, r4) := by rw [if_neg (show ¬ (false = true) by decide)] at H; exact H
    clear H
    have H := H1
    clear H1
    simp only [Option.some.injEq, Prod.mk.injEq] at H
    obtain ⟨rfl, rfl, rfl, rfl⟩ := H
    go_enter Try.func23, Try.ntmps23
    go_wp2_with (first | ((with_reducible refine gq (N := 3) rfl ?_); refine be (N := 3) (cs := #[.int .i64 a0_0, .int .i64 a0_1, .slice A0_2 l0_2.length c0_2]) (t := 29) ?_; intro Ab hg Cr hbox hb; have A0 := Z.m (hbox); have Ae := gW (w := w) HB hg; have Aq := Ae; replace HB := bB HB hb; clear hb hbox hg) | ((with_reducible refine gq (N := 6) rfl ?_); refine be (N := 6) (cs := #[.int .i64 0, .int .i64 0, .slice none 0 0]) (t := 29) ?_; intro Aa hg Cs hbox hb; have A2 := Z.m (hbox); have Af := gW (w := w) HB hg; have Ar := Af; have A3 := neL A0 hg; have A5 := neG A0 hg; replace A0 := kB A0 hb; replace HB := bB HB hb; clear hb hbox hg; have C8 := A3.o; have Cd := A5.o; have AN := bc0 A0; have AO := bc1 A0; have AP := bc2 A0; have Bo := qz A0.o 0; have Bp := qz A0.o 1; have Bq := qz A0.o 2) | ((with_reducible refine gc (f := 53) rfl ?_); refine gA (some 9) _ #[.agg #[.int .i64 a0_0, .int .i64 a0_1, .slice A0_2 l0_2.length c0_2]] ?_ Try.func53; (with_reducible refine (spec_boGood.calls k a0_0 a0_1 _ _ l0_2 true _ ?side1 ?side2 A4.o).mono ?_); (case side1 => repeat (first | exact (Kd.C_below Ai.o HB.o) | (with_reducible refine Kd.C_alloc ?_ _) | (with_reducible refine Kd.C_drewN ?_ _) | (with_reducible refine Kd.C_drew ?_))); (case side2 => exact Ah.o); rintro e Ap ⟨rfl, hb⟩; refine ⟨_, rfl, ?_⟩; replace A0 := kB A0 hb; replace A2 := kB A2 hb; replace HB := bB HB hb; (try clear hb); (try clear BU); (try clear hk); (try clear hi); have AQ := bc0 A0; have AR := bc1 A0; have AS := bc2 A0; have Br := qz A0.o 0; have Bs := qz A0.o 1; have Bt := qz A0.o 2) | (go_at_call 60; (with_reducible refine (spec_l1In.calls a1 0 (wrap64 (a0_0 - 1)) true _ A6.o).mono ?_); rintro e w' ⟨rfl, ⟨nd, rfl⟩⟩; (try (rw [drewN_self Ap]; generalize hq_ : World.drewN Ap _ = Ap; replace A0 : Z (Ap.heap[Ab]? = some (.cells #[.int .i64 a0_0, .int .i64 a0_1, .slice A0_2 l0_2.length c0_2] 29 (0, 0))) := ⟨by rw [← hq_]; exact (vK A0)⟩; replace A2 : Z (Ap.heap[Aa]? = some (.cells #[.int .i64 0, .int .i64 0, .slice none 0 0] 29 (0, 0))) := ⟨by rw [← hq_]; exact (vK A2)⟩; replace HB : Z (Below w.heap.size w Ap) := ⟨by rw [← hq_]; exact (vB HB)⟩; clear hq_)); have As : Ap.cell? ⟨Ab, 0, none⟩ = some (.int .i64 a0_0) := (ql A0.o 0).trans rfl; have At := qz A0.o 0) | (go_at_call 60; (with_reducible refine (spec_l1In.calls a2 (wrap64 (a1 + 1)) a0_0 false _ A8.o).mono ?_); rintro e w' ⟨rfl, ⟨nd, rfl⟩⟩; (try (rw [drewN_self Ap]; generalize hq_ : World.drewN Ap _ = Ap; replace A0 : Z (Ap.heap[Ab]? = some (.cells #[.int .i64 a0_0, .int .i64 a0_1, .slice A0_2 l0_2.length c0_2] 29 (0, 0))) := ⟨by rw [← hq_]; exact (vK A0)⟩; replace A2 : Z (Ap.heap[Aa]? = some (.cells #[.int .i64 0, .int .i64 0, .slice none 0 0] 29 (0, 0))) := ⟨by rw [← hq_]; exact (vK A2)⟩; replace HB : Z (Below w.heap.size w Ap) := ⟨by rw [← hq_]; exact (vB HB)⟩; clear hq_)); have AT := bc0 A2; have AU := bc1 A2; have AV := bc2 A2; have Bu := qz A2.o 0; have Bv := qz A2.o 1; have Bw := qz A2.o 2))
    refine bodyPost_ret (results_ct rfl _ _ Aa 29 #[.int .i64 0, .int .i64 0, .slice none 0 0] (0, 0) _ rfl (by refine bK ?_; apply st3; refine bK ?_; exact A2.o) Try.underlying29 rfl (by kernel_rfl)) rfl ?_
    exact ⟨_, by first | rfl | (simp [eN, eS] <;> rfl) | (simp [*, eN, eS] <;> rfl), by first | exact Kd.R_nil _ _ _ _ _ | exact Kd.N_nil _ _ _ _ _ | exact Kd.V_nil _ _ _ _ _ | exact Kd.Q_nil _ _ _ _ _ | exact Kd.S_nil _ _ _ _ _, vB HB⟩
  ·replace c7 := Bool.eq_false_iff.mpr c7
   subst c7
   have H1 : (some (0, 0, ([] : List (S34)), false)) = some (r1, r2, r3, r4) := by rw [if_neg (show ¬ (false = true) by decide)] at H; exact H
   clear H
   have H := H1
   clear H1
   simp only [Option.some.injEq, Prod.mk.injEq] at H
   obtain ⟨rfl, rfl, rfl, rfl⟩ := H
   go_enter Try.func23, Try.ntmps23
   go_wp2_with (first | ((with_reducible refine gq (N := 3) rfl ?_); refine be (N := 3) (cs := #[.int .i64 a0_0, .int .i64 a0_1, .slice A0_2 l0_2.length c0_2]) (t := 29) ?_; intro Ab hg Ct hbox hb; have A0 := Z.m (hbox); have Ae := gW (w := w) HB hg; have Aq := Ae; replace HB := bB HB hb; clear hb hbox hg) | ((with_reducible refine gq (N := 6) rfl ?_); refine be (N := 6) (cs := #[.int .i64 0, .int .i64 0, .slice none 0 0]) (t := 29) ?_; intro Aa hg Cu hbox hb; have A2 := Z.m (hbox); have Af := gW (w := w) HB hg; have Ar := Af; have A3 := neL A0 hg; have A5 := neG A0 hg; replace A0 := kB A0 hb; replace HB := bB HB hb; clear hb hbox hg; have C9 := A3.o; have Ce := A5.o; have AW := bc0 A0; have AX := bc1 A0; have AY := bc2 A0; have Bx := qz A0.o 0; have By := qz A0.o 1; have Bz := qz A0.o 2) | ((with_reducible refine gc (f := 53) rfl ?_); refine gA (some 9) _ #[.agg #[.int .i64 a0_0, .int .i64 a0_1, .slice A0_2 l0_2.length c0_2]] ?_ Try.func53; (with_reducible refine (spec_boGood.calls k a0_0 a0_1 _ _ l0_2 true _ ?side1 ?side2 A4.o).mono ?_); (case side1 => repeat (first | exact (Kd.C_below Ai.o HB.o) | (with_reducible refine Kd.C_alloc ?_ _) | (with_reducible refine Kd.C_drewN ?_ _) | (with_reducible refine Kd.C_drew ?_))); (case side2 => exact Ah.o); rintro e AC ⟨rfl, hb⟩; refine ⟨_, rfl, ?_⟩; replace A0 := kB A0 hb; replace A2 := kB A2 hb; replace HB := bB HB hb; (try clear hb); (try clear BU); (try clear hk); (try clear hi); have AZ := bc0 A0; have B0 := bc1 A0; have B2 := bc2 A0; have BA := qz A0.o 0; have BB := qz A0.o 1; have BC := qz A0.o 2) | (go_at_call 60; (with_reducible refine (spec_l1In.calls a1 0 (wrap64 (a0_0 - 1)) false _ A6.o).mono ?_); rintro e w' ⟨rfl, ⟨nd, rfl⟩⟩; (try (rw [drewN_self AC]; generalize hq_ : World.drewN AC _ = AC; replace A0 : Z (AC.heap[Ab]? = some (.cells #[.int .i64 a0_0, .int .i64 a0_1, .slice A0_2 l0_2.length c0_2] 29 (0, 0))) := ⟨by rw [← hq_]; exact (vK A0)⟩; replace A2 : Z (AC.heap[Aa]? = some (.cells #[.int .i64 0, .int .i64 0, .slice none 0 0] 29 (0, 0))) := ⟨by rw [← hq_]; exact (vK A2)⟩; replace HB : Z (Below w.heap.size w AC) := ⟨by rw [← hq_]; exact (vB HB)⟩; clear hq_)); have B9 := bc0 A2; have Ba := bc1 A2; have Bb := bc2 A2; have BD := qz A2.o 0; have BE := qz A2.o 1; have BF := qz A2.o 2))
   refine bodyPost_ret (results_ct rfl _ _ Aa 29 #[.int .i64 0, .int .i64 0, .slice none 0 0] (0, 0) _ rfl (by refine bK ?_; apply st3; refine bK ?_; exact A2.o) Try.underlying29 rfl (by kernel_rfl)) rfl ?_
   exact ⟨_, by first | rfl | (simp [eN, eS] <;> rfl) | (simp [*, eN, eS] <;> rfl), by first | exact Kd.R_nil _ _ _ _ _ | exact Kd.N_nil _ _ _ _ _ | exact Kd.V_nil _ _ _ _ _ | exact Kd.Q_nil _ _ _ _ _ | exact Kd.S_nil _ _ _ _ _, vB HB⟩
 ·replace c5 := Bool.eq_false_iff.mpr c5
  subst c5
  have H1 : (some (0, 0, ([] : List (S34)), false)) = some (r1, r2, r3, r4) := by rw [if_neg (show ¬ (false = true) by decide)] at H; exact H
  clear H
  have H := H1
  clear H1
  simp only [Option.some.injEq, Prod.mk.injEq] at H
  obtain ⟨rfl, rfl, rfl, rfl⟩ := H
  go_enter Try.func23, Try.ntmps23
  go_wp2_with (first | ((with_reducible refine gq (N := 3) rfl ?_); refine be (N := 3) (cs := #[.int .i64 a0_0, .int .i64 a0_1, .slice A0_2 l0_2.length c0_2]) (t := 29) ?_; intro Ab hg Cv hbox hb; have A0 := Z.m (hbox); have Ae := gW (w := w) HB hg; have Aq := Ae; replace HB := bB HB hb; clear hb hbox hg) | ((with_reducible refine gq (N := 6) rfl ?_); refine be (N := 6) (cs := #[.int .i64 0, .int .i64 0, .slice none 0 0]) (t := 29) ?_; intro Aa hg Cw hbox hb; have A2 := Z.m (hbox); have Af := gW (w := w) HB hg; have Ar := Af; have A3 := neL A0 hg; have A5 := neG A0 hg; replace A0 := kB A0 hb; replace HB := bB HB hb; clear hb hbox hg; have Ca := A3.o; have Cf := A5.o; have Bc := bc0 A0; have Bd := bc1 A0; have Be := bc2 A0; have BG := qz A0.o 0; have BH := qz A0.o 1; have BI := qz A0.o 2) | ((with_reducible refine gc (f := 53) rfl ?_); refine gA (some 9) _ #[.agg #[.int .i64 a0_0, .int .i64 a0_1, .slice A0_2 l0_2.length c0_2]] ?_ Try.func53; (with_reducible refine (spec_boGood.calls k a0_0 a0_1 _ _ l0_2 false _ ?side1 ?side2 A4.o).mono ?_); (case side1 => repeat (first | exact (Kd.C_below Ai.o HB.o) | (with_reducible refine Kd.C_alloc ?_ _) | (with_reducible refine Kd.C_drewN ?_ _) | (with_reducible refine Kd.C_drew ?_))); (case side2 => exact Ah.o); rintro e Cx ⟨rfl, hb⟩; refine ⟨_, rfl, ?_⟩; replace A0 := kB A0 hb; replace A2 := kB A2 hb; replace HB := bB HB hb; (try clear hb); (try clear BU); (try clear hk); (try clear hi); have Bf := bc0 A2; have Bg := bc1 A2; have Bh := bc2 A2; have BJ := qz A2.o 0; have BK := qz A2.o 1; have BL := qz A2.o 2))
  refine bodyPost_ret (results_ct rfl _ _ Aa 29 #[.int .i64 0, .int .i64 0, .slice none 0 0] (0, 0) _ rfl (by refine bK ?_; apply st3; refine bK ?_; exact A2.o) Try.underlying29 rfl (by kernel_rfl)) rfl ?_
  exact ⟨_, by first | rfl | (simp [eN, eS] <;> rfl) | (simp [*, eN, eS] <;> rfl), by first | exact Kd.R_nil _ _ _ _ _ | exact Kd.N_nil _ _ _ _ _ | exact Kd.V_nil _ _ _ _ _ | exact Kd.Q_nil _ _ _ _ _ | exact Kd.S_nil _ _ _ _ _, vB HB⟩

end Go.Proofs.Yteodcegmkbcjjaa.PAll
