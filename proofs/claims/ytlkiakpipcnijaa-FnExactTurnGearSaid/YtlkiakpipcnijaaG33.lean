/- Began as a text that print.sh wrote (of the functions named below); turned and shortened by this session. -/
import Derived.Test.YtlkiakpipcnijaaG0
import Derived.Test.YtlkiakpipcnijaaG11
import Derived.Test.YtlkiakpipcnijaaG18
import Derived.Test.YtlkiakpipcnijaaG31
import Derived.Test.YtlkiakpipcnijaaG32
namespace Go.Proofs.Ytlkiakpipcnijaa.PAll
open Go.RowKit Go.Proofs.YtlkiakpipcnijaaW.PrintWords Go.Proofs.YtlkiakpipcnijaaW.PrintLast Go.Proofs.YtlkiakpipcnijaaW.PrintMore
attribute [local go_sem] max2_int min2_int max_two min_two max_three min_three max_four min_four   -- for this text's walks alone
set_option linter.unusedVariables false
set_option linter.unusedSimpArgs false

/-! ### impl_TurnGear: function 33 -/
def impl_TurnGear.j0 : Nat → Int → Int → Bool → Int → Int → List (S71) → Option (Int × Int × (List (S71)) × Bool)
 | 0, _, _, _, _, _, _ => none
 | k + 1, x1, x2, x27, x759000, x759001, x759002 => if x27 = true then (some (0, 0, ([] : List (S71)), false)) else ((impl_copyBoard.f x759000 x759001 x759002).bind fun bt762 => ((impl_groupNumbers.f k x759000 x759001 x759002).bind fun t768 => ((impl_turnGroup.f k bt762.1 bt762.2.1 bt762.2.2 t768 (wrap64 ((wrap64 (x1 * x759001)) + x2))).bind fun t771 => (some (bt762.1, bt762.2.1, t771, true)))))
def impl_TurnGear.f (k : Nat) (a0_0 : Int) (a0_1 : Int) (l0_2 : List (S71)) (a1 : Int) (a2 : Int) : Option (Int × Int × (List (S71)) × Bool) := (impl_onBoard.f k a0_0 a0_1 l0_2 a1 a2).bind fun t760 => (if t760 = true then (if 0 ≤ (wrap64 ((wrap64 (a1 * a0_1)) + a2)) then (if (wrap64 ((wrap64 (a1 * a0_1)) + a2)) < (l0_2.length : Int) then (impl_TurnGear.j0 k a1 a2 (((rd_T71 l0_2 (wrap64 ((wrap64 (a1 * a0_1)) + a2))).f0) != 6) a0_0 a0_1 l0_2) else (none)) else (none)) else (impl_TurnGear.j0 k a1 a2 true a0_0 a0_1 l0_2))
def impl_TurnGear.T4 : Bool × List (List Nat × List Nat) := (true, [([], []), ([], []), ([1], [1]), ([], []), ([], []), ([4], [4]), ([3, 5], [3, 5]), ([], []), ([6, 7], [6, 7]), ([0, 2, 8, 2], [0, 2, 8])])
def impl_TurnGear.B4 : List Nat := [0, 0, 2, 0, 0, 16, 56, 0, 248, 511]
theorem impl_TurnGear.tab4 : rtab .any (opsOf Try.f33 4) = impl_TurnGear.T4 := by kernel_rfl
theorem impl_TurnGear.bits4 : waitsOk impl_TurnGear.T4.2 impl_TurnGear.B4 = true := by kernel_rfl
set_option maxHeartbeats 8000000 in
set_option maxRecDepth 100000 in
theorem impl_TurnGear.calls (k : Nat) (a0_0 : Int) (a0_1 : Int) (A0_2 : Option Addr) (c0_2 : Nat) (l0_2 : List (S71)) (a1 : Int) (a2 : Int) (r1 : Int) (r2 : Int) (r3 : List (S71)) (r4 : Bool) (w : World) (hr0_2 : Kd.C k71 w A0_2 l0_2.length l0_2) (hc0_2 : l0_2.length ≤ c0_2) (h : impl_TurnGear.f k a0_0 a0_1 l0_2 a1 a2 = some (r1, r2, r3, r4)) :
 Calls Try.prog 33 #[.agg #[.int .i64 a0_0, .int .i64 a0_1, .slice A0_2 l0_2.length c0_2], .int .i64 a1, .int .i64 a2] w fun e w' => ∃ v2_ : Value, e = .returned (.tuple #[.agg #[.int .i64 r1, .int .i64 r2, v2_], .bool r4]) ∧ Kd.R k71 71 w' w.heap.size (fun _ => True) v2_ r3 ∧ Below w.heap.size w w' := by
 have BY := Try.underlying30
 have Ai := Z.m hr0_2
 have Am := Z.m hc0_2
 clear hr0_2 hc0_2
 have HB := Z.m (Below.refl w.heap.size w)
 have H : ((impl_onBoard.f k a0_0 a0_1 l0_2 a1 a2).bind fun At => (if At = true then (if 0 ≤ (wrap64 ((wrap64 (a1 * a0_1)) + a2)) then (if (wrap64 ((wrap64 (a1 * a0_1)) + a2)) < (l0_2.length : Int) then (impl_TurnGear.j0 k a1 a2 (((rd_T71 l0_2 (wrap64 ((wrap64 (a1 * a0_1)) + a2))).f0) != 6) a0_0 a0_1 l0_2) else (none)) else (none)) else (impl_TurnGear.j0 k a1 a2 true a0_0 a0_1 l0_2))) = some (r1, r2, r3, r4) := h
 clear h
 have BB := Z.m H
 clear H
 go_enter Try.func33, Try.ntmps33
 go_upto_region 1 with (first | ((with_reducible refine gq (N := 3) rfl ?_); refine be (N := 3) (cs := #[.int .i64 a0_0, .int .i64 a0_1, .slice A0_2 l0_2.length c0_2]) (t := 30) ?_; intro Aj hg w5 hbox hb; have A0 := Z.m (hbox); have AC := gW (w := w) HB hg; have Az := AC; replace HB := bB HB hb; clear hb hbox hg) | ((with_reducible refine gq (N := 6) rfl ?_); refine be (N := 6) (cs := #[.int .i64 0, .int .i64 0, .slice none 0 0]) (t := 30) ?_; intro An hg w6 hbox hb; have A1 := Z.m (hbox); have AD := gW (w := w) HB hg; have AA := AD; have A9 := neL A0 hg; have Aa := neG A0 hg; replace A0 := kB A0 hb; replace HB := bB HB hb; clear hb hbox hg))
 (try simp only [Act.put, q1, q2, q3])
 go_cut [27] (fun v27 wc => ∃ (kq : Nat) (Ao : Bool), v27 = .bool Ao ∧ Z (impl_TurnGear.j0 kq a1 a2 Ao a0_0 a0_1 l0_2 = some (r1, r2, r3, r4)) ∧ Z (kq ≤ k) ∧ Z (wc.heap[Aj]? = some (.cells #[.int .i64 a0_0, .int .i64 a0_1, (.slice A0_2 l0_2.length c0_2)] 30 (0, 0))) ∧ Z (wc.heap[An]? = some (.cells #[.int .i64 0, .int .i64 0, (.slice none 0 0)] 30 (0, 0))) ∧ Z (Below w.heap.size w wc))
 case first =>
  have H := BB.o
  clear BB
  replace H := Option.bind_eq_some_iff.mp H
  obtain ⟨At, BE, H⟩ := H
  replace H : (if At = true then (if 0 ≤ (wrap64 ((wrap64 (a1 * a0_1)) + a2)) then (if (wrap64 ((wrap64 (a1 * a0_1)) + a2)) < (l0_2.length : Int) then (impl_TurnGear.j0 k a1 a2 (((rd_T71 l0_2 (wrap64 ((wrap64 (a1 * a0_1)) + a2))).f0) != 6) a0_0 a0_1 l0_2) else (none)) else (none)) else (impl_TurnGear.j0 k a1 a2 true a0_0 a0_1 l0_2)) = some (r1, r2, r3, r4) := H
  have A7 := Z.m BE
  clear BE
  by_cases c8 : At = true
  ·subst c8
   have H1 : (if 0 ≤ (wrap64 ((wrap64 (a1 * a0_1)) + a2)) then (if (wrap64 ((wrap64 (a1 * a0_1)) + a2)) < (l0_2.length : Int) then (impl_TurnGear.j0 k a1 a2 (((rd_T71 l0_2 (wrap64 ((wrap64 (a1 * a0_1)) + a2))).f0) != 6) a0_0 a0_1 l0_2) else (none)) else (none)) = some (r1, r2, r3, r4) := by rw [if_pos rfl] at H; exact H
   clear H
   have H := H1
   clear H1
   obtain ⟨As, Ar⟩ : ∃ j_ : Int, (wrap64 ((wrap64 (a1 * a0_1)) + a2)) = j_ := ⟨_, rfl⟩
   replace H : (if 0 ≤ (As) then (if (As) < (l0_2.length : Int) then (impl_TurnGear.j0 k a1 a2 (((rd_T71 l0_2 (As)).f0) != 6) a0_0 a0_1 l0_2) else (none)) else (none)) = some (r1, r2, r3, r4) := by first | (rw [Ar] at H; exact H) | (simp only [Ar] at H ⊢; exact H)
   (try rw [Ar] at A7)
   have hji9w : (IntKind.i64.wrap ((wrap64 (a1 * a0_1)) + a2)) = As := (i64_w _).trans Ar
   by_cases c10 : 0 ≤ (As)
   ·rw [if_pos c10] at H
    have Au := decide_eq_true c10
    clear c10
    (first | rw [Au] | (simp only [i64_w, i32_w]; rw [Au]) | skip)
    by_cases c11 : (As) < (l0_2.length : Int)
    ·rw [if_pos c11] at H
     have BG := decide_eq_true c11
     clear c11
     have H' := Z.m H
     clear H
     have BI := A9.o
     have BO := Aa.o
     have AH := bc0 A0
     have AI := bc1 A0
     have AJ := bc2 A0
     have Bc := qz A0.o 0
     have Bd := qz A0.o 1
     have Be := qz A0.o 2
     go_wp2_with (first | ((with_reducible refine gc (f := 56) rfl ?_); refine gA (some 12) _ #[.agg #[.int .i64 a0_0, .int .i64 a0_1, .slice A0_2 l0_2.length c0_2], .int .i64 a1, .int .i64 a2] ?_ Try.func56; (with_reducible refine (impl_onBoard.calls k a0_0 a0_1 _ _ l0_2 a1 a2 true _ ?side1 ?side2 A7.o).mono ?_); (case side1 => repeat (first | exact (Kd.C_below Ai.o HB.o) | (with_reducible refine Kd.C_alloc ?_ _) | (with_reducible refine Kd.C_drewN ?_ _) | (with_reducible refine Kd.C_drew ?_))); (case side2 => exact Am.o); rintro e C3 ⟨rfl, hb⟩; refine ⟨_, rfl, ?_⟩; replace A0 := kB A0 hb; replace A1 := kB A1 hb; replace HB := bB HB hb; (try clear hb); (try clear BH); (try clear hk); (try clear hi); have AK := bc0 A0; have AL := bc1 A0; have AM := bc2 A0; have Bf := qz A0.o 0; have Bg := qz A0.o 1; have Bh := qz A0.o 2; have p761 : 0 ≤ ((As) : Int) := ofD; have q761 : (As) < (l0_2.length : Int) := ofD; obtain ⟨BF, e761, Af, Ag⟩ := at_T71 Ai.o (As) p761 q761; cases e761; replace Af := (HB.o.cell (World.block_lt_of_cell? w _ Af)).trans Af; replace Ag := (HB.o.cell (World.block_lt_of_cell? w _ Ag)).trans Ag; replace p761 := eq_true p761; replace q761 := eq_true q761))
     go_meet
     case rel => exact ⟨_, ((((rd_T71 l0_2 (As)).f0) != 6)), (by first | rfl | (simp; done) | (simp only [← Ar] <;> (first | rfl | simp)) | (simp [*]; done)), H', ⟨by first | omega | exact Nat.le_refl _⟩, ⟨vK A0⟩, ⟨vK A1⟩, ⟨vB HB⟩⟩
    ·rw [if_neg c11] at H
     exact absurd H (by simp)
   ·rw [if_neg c10] at H
    exact absurd H (by simp)
  ·replace c8 := Bool.eq_false_iff.mpr c8
   subst c8
   have H1 : (impl_TurnGear.j0 k a1 a2 true a0_0 a0_1 l0_2) = some (r1, r2, r3, r4) := by rw [if_neg (show ¬ (false = true) by decide)] at H; exact H
   clear H
   have H := H1
   clear H1
   have H' := Z.m H
   clear H
   have BJ := A9.o
   have BP := Aa.o
   have AN := bc0 A0
   have AO := bc1 A0
   have AP := bc2 A0
   have Bi := qz A0.o 0
   have Bj := qz A0.o 1
   have Bk := qz A0.o 2
   go_wp2_with (first | ((with_reducible refine gc (f := 56) rfl ?_); refine gA (some 12) _ #[.agg #[.int .i64 a0_0, .int .i64 a0_1, .slice A0_2 l0_2.length c0_2], .int .i64 a1, .int .i64 a2] ?_ Try.func56; (with_reducible refine (impl_onBoard.calls k a0_0 a0_1 _ _ l0_2 a1 a2 false _ ?side1 ?side2 A7.o).mono ?_); (case side1 => repeat (first | exact (Kd.C_below Ai.o HB.o) | (with_reducible refine Kd.C_alloc ?_ _) | (with_reducible refine Kd.C_drewN ?_ _) | (with_reducible refine Kd.C_drew ?_))); (case side2 => exact Am.o); rintro e C4 ⟨rfl, hb⟩; refine ⟨_, rfl, ?_⟩; replace A0 := kB A0 hb; replace A1 := kB A1 hb; replace HB := bB HB hb; (try clear hb); (try clear BH); (try clear hk); (try clear hi)))
   go_meet
   case rel => exact ⟨_, (true), (by first | rfl | (simp; done) | (simp [*]; done)), H', ⟨by first | omega | exact Nat.le_refl _⟩, ⟨vK A0⟩, ⟨vK A1⟩, ⟨vB HB⟩⟩
 case rest =>
  clear BB
  obtain ⟨kq, Ao, rfl, HA, C2, A0, A1, HB⟩ := hcut
  cases kq with
  | zero => exact absurd HA.o (by simp [impl_TurnGear.j0])
  | succ kj3 =>
   have H := HA.o
   clear HA
   simp only [impl_TurnGear.j0] at H
   by_cases c19 : Ao = true
   ·subst c19
    have H1 : (some (0, 0, ([] : List (S71)), false)) = some (r1, r2, r3, r4) := by rw [if_pos rfl] at H; exact H
    clear H
    have H := H1
    clear H1
    simp only [Option.some.injEq, Prod.mk.injEq] at H
    obtain ⟨rfl, rfl, rfl, rfl⟩ := H
    have BK := Aa.o
    have BQ := A9.o
    have AQ := bc0 A1
    have AR := bc1 A1
    have AS := bc2 A1
    have Bl := qz A1.o 0
    have Bm := qz A1.o 1
    have Bn := qz A1.o 2
    go_wp2
    refine bodyPost_ret (results_ct rfl _ _ An 30 #[.int .i64 0, .int .i64 0, .slice none 0 0] (0, 0) _ rfl (by refine bK ?_; apply st3; refine bK ?_; exact A1.o) Try.underlying30 rfl (by kernel_rfl)) rfl ?_
    exact ⟨_, by first | rfl | (simp [eN, eS] <;> rfl) | (simp [*, eN, eS] <;> rfl), by first | exact Kd.R_nil _ _ _ _ _ | exact Kd.N_nil _ _ _ _ _ | exact Kd.V_nil _ _ _ _ _ | exact Kd.Q_nil _ _ _ _ _ | exact Kd.S_nil _ _ _ _ _, vB HB⟩
   ·replace c19 := Bool.eq_false_iff.mpr c19
    subst c19
    have H1 : ((impl_copyBoard.f a0_0 a0_1 l0_2).bind fun bt762 => ((impl_groupNumbers.f kj3 a0_0 a0_1 l0_2).bind fun Ak => ((impl_turnGroup.f kj3 bt762.1 bt762.2.1 bt762.2.2 Ak (wrap64 ((wrap64 (a1 * a0_1)) + a2))).bind fun Al => (some (bt762.1, bt762.2.1, Al, true))))) = some (r1, r2, r3, r4) := by rw [if_neg (show ¬ (false = true) by decide)] at H; exact H
    clear H
    have H := H1
    clear H1
    replace H := Option.bind_eq_some_iff.mp H
    obtain ⟨⟨A6, A8, A5⟩, Aw, H⟩ := H
    replace H : ((impl_groupNumbers.f kj3 a0_0 a0_1 l0_2).bind fun Ak => ((impl_turnGroup.f kj3 A6 A8 A5 Ak (wrap64 ((wrap64 (a1 * a0_1)) + a2))).bind fun Al => (some (A6, A8, Al, true)))) = some (r1, r2, r3, r4) := H
    have BV := Z.m Aw
    clear Aw
    replace H := Option.bind_eq_some_iff.mp H
    obtain ⟨Ak, Ax, H⟩ := H
    replace H : ((impl_turnGroup.f kj3 A6 A8 A5 Ak (wrap64 ((wrap64 (a1 * a0_1)) + a2))).bind fun Al => (some (A6, A8, Al, true))) = some (r1, r2, r3, r4) := H
    have BW := Z.m Ax
    clear Ax
    replace H := Option.bind_eq_some_iff.mp H
    obtain ⟨Al, Ay, H⟩ := H
    replace H : (some (A6, A8, Al, true)) = some (r1, r2, r3, r4) := H
    have BX := Z.m Ay
    clear Ay
    simp only [Option.some.injEq, Prod.mk.injEq] at H
    obtain ⟨rfl, rfl, rfl, rfl⟩ := H
    have BL := A9.o
    have BR := Aa.o
    have AT := bc0 A0
    have AU := bc1 A0
    have AV := bc2 A0
    have Bo := qz A0.o 0
    have Bp := qz A0.o 1
    have Bq := qz A0.o 2
    try go_wp2_with (first | ((with_reducible refine gc (f := 72) rfl ?_); refine gA (some 30) _ #[.agg #[.int .i64 a0_0, .int .i64 a0_1, .slice A0_2 l0_2.length c0_2]] ?_ Try.func72; (with_reducible refine (impl_copyBoard.calls a0_0 a0_1 _ _ l0_2 A6 A8 A5 _ ?side1 ?side2 BV.o).mono ?_); (case side1 => repeat (first | exact (Kd.C_below Ai.o HB.o) | (with_reducible refine Kd.C_alloc ?_ _) | (with_reducible refine Kd.C_drewN ?_ _) | (with_reducible refine Kd.C_drew ?_))); (case side2 => exact Am.o); rintro e C5 ⟨BZ, rfl, AG, hb⟩; refine ⟨_, rfl, ?_⟩; have A4 := Z.m (Kd.R_lower AG (below_size (vB HB))); replace A0 := kB A0 hb; replace A1 := kB A1 hb; replace HB := bB HB hb; (try clear hb); (try clear BH); (try clear hk); (try clear hi); (try clear AG)) | ((with_reducible refine gq (N := 8) rfl ?_); refine be (N := 8) (cs := #[.int .i64 0, .int .i64 0, .slice none 0 0]) (t := 30) ?_; intro A3 hg Av hbox hb; have A2 := Z.m (hbox); have AE := gW (w := w) HB hg; have AB := AE; have Ad := neL A0 hg; have Ap := neG A0 hg; have Ae := neL A1 hg; have Aq := neG A1 hg; replace A4 := Z.m (Kd.Rb (vR A4) hb); replace A0 := kB A0 hb; replace A1 := kB A1 hb; replace HB := bB HB hb; clear hb hbox hg; have BM := Ap.o; have BS := Ad.o; have BN := Aq.o; have BT := Ae.o; have AW := bc0 A2; have AX := bc1 A2; have AY := bc2 A2; have Br := qz A2.o 0; have Bs := qz A2.o 1; have Bt := qz A2.o 2; obtain ⟨Ab, Ac, BD⟩ := Kd.R_slice A4.o; subst BD))
    have n0_ : Z (Kd.R k71 71 (((Av.setCell ⟨A3, 0, none⟩ (.int .i64 A6)).setCell ⟨A3, 1, none⟩ (.int .i64 A8)).setCell ⟨A3, 2, none⟩ (.slice Ab A5.length Ac)) w.heap.size (fun _ => True) (.slice Ab A5.length Ac) A5) := ⟨by refine rK ?_; exact Kd.Rm (rf (rf (rf (Kd.Ry A4.o A2.o (by decide))))) (fun _ hk => trivial)⟩
    have n1_ : Z ((((Av.setCell ⟨A3, 0, none⟩ (.int .i64 A6)).setCell ⟨A3, 1, none⟩ (.int .i64 A8)).setCell ⟨A3, 2, none⟩ (.slice Ab A5.length Ac)).heap[Aj]? = some (.cells #[.int .i64 a0_0, .int .i64 a0_1, .slice A0_2 l0_2.length c0_2] 30 (0, 0))) := ⟨by refine bK ?_; (iterate 3 refine qF ?_ Ad); exact A0.o⟩
    have n2_ : Z ((((Av.setCell ⟨A3, 0, none⟩ (.int .i64 A6)).setCell ⟨A3, 1, none⟩ (.int .i64 A8)).setCell ⟨A3, 2, none⟩ (.slice Ab A5.length Ac)).heap[An]? = some (.cells #[.int .i64 0, .int .i64 0, .slice none 0 0] 30 (0, 0))) := ⟨by refine bK ?_; (iterate 3 refine qF ?_ Ae); exact A1.o⟩
    have n3_ : Z ((((Av.setCell ⟨A3, 0, none⟩ (.int .i64 A6)).setCell ⟨A3, 1, none⟩ (.int .i64 A8)).setCell ⟨A3, 2, none⟩ (.slice Ab A5.length Ac)).heap[A3]? = some (.cells #[.int .i64 A6, .int .i64 A8, .slice Ab A5.length Ac] 30 (0, 0))) := ⟨by refine bK ?_; apply st3; refine bK ?_; exact A2.o⟩
    have n4_ : Z (Below w.heap.size w (((Av.setCell ⟨A3, 0, none⟩ (.int .i64 A6)).setCell ⟨A3, 1, none⟩ (.int .i64 A8)).setCell ⟨A3, 2, none⟩ (.slice Ab A5.length Ac))) := ⟨vB HB⟩
    (try clear A4); (try clear A0); (try clear A1); (try clear A2); (try clear HB)
    generalize (((Av.setCell ⟨A3, 0, none⟩ (.int .i64 A6)).setCell ⟨A3, 1, none⟩ (.int .i64 A8)).setCell ⟨A3, 2, none⟩ (.slice Ab A5.length Ac)) = C1 at n0_ n1_ n2_ n3_ n4_ ⊢
    have A4 := n0_
    have A0 := n1_
    have A1 := n2_
    have A2 := n3_
    have HB := n4_
    clear n0_ n1_ n2_ n3_ n4_
    replace A4 := Z.m (Kd.R_drew A4.o)
    replace A0 := Z.m (blk_drew A0.o)
    replace A1 := Z.m (blk_drew A1.o)
    replace A2 := Z.m (blk_drew A2.o)
    replace HB := Z.m (qd HB.o)
    refine start_ (n := 10) (S := fun w' => w'.cell? ⟨A3, 0, none⟩ = some (.int .i64 A6) ∧ w'.cell? ⟨A3, 1, none⟩ = some (.int .i64 A8) ∧ w'.cell? ⟨A3, 2, none⟩ = some (.slice Ab A5.length Ac) ∧ w'.cell? ⟨Aj, 0, none⟩ = some (.int .i64 a0_0) ∧ w'.cell? ⟨Aj, 1, none⟩ = some (.int .i64 a0_1) ∧ w'.cell? ⟨Aj, 2, none⟩ = some (.slice A0_2 l0_2.length c0_2)) (ds := []) #[false, false, false, false, false, false, false, false, false, false] (by kernel_rfl) rfl rfl ⟨(ql A2.o 0).trans rfl, (ql A2.o 1).trans rfl, (ql A2.o 2).trans rfl, (ql A0.o 0).trans rfl, (ql A0.o 1).trans rfl, (ql A0.o 2).trans rfl⟩ (fun hHeld => ?_); refine with_tabW impl_TurnGear.tab4 impl_TurnGear.bits4 (fun HT_ HW_ => ?_)
    generalize C1.drew = C6 at A4 A0 A1 A2 HB hHeld ⊢
    refine pure_ (i := 3) (N := some 34) (v := ?_) (a' := ?_) #[false, false, false, true, false, false, false, false, false, false] rfl rfl (any_of HT_.o (by kernel_rfl)) (fun _ _ _ h => h) (Or.inl ⟨by rfl, ?_⟩) ?_ ?_
    rotate_left
    ·intro w'
     go_simp
     with_reducible rfl
    rotate_left
    ·simp only [Act.put, q1, q2, q3, i64_w, i32_w]
     rfl
    refine pure_ (i := 4) (N := some 35) (v := ?_) (a' := ?_) #[false, false, false, true, true, false, false, false, false, false] rfl rfl (any_of HT_.o (by kernel_rfl)) (fun _ _ _ h => h) (Or.inl ⟨by rfl, ?_⟩) ?_ ?_
    rotate_left
    ·intro w'
     go_simp
     with_reducible rfl
    rotate_left
    ·simp only [Act.put, q1, q2, q3, i64_w, i32_w]
     rfl
    refine pure_ (i := 7) (N := some 38) (v := ?_) (a' := ?_) #[false, false, false, true, true, false, false, true, false, false] rfl rfl (any_of HT_.o (by kernel_rfl)) (fun _ _ _ h => h) (Or.inl ⟨by rfl, ?_⟩) ?_ ?_
    rotate_left
    ·intro w'
     go_simp
     with_reducible rfl
    rotate_left
    ·simp only [Act.put, q1, q2, q3, i64_w, i32_w]
     rfl
    refine take_ (i := 0) (N := some 31) (v := ?_) (a' := ?_) #[true, false, false, true, true, false, false, true, false, false] rfl rfl (take_ofW HT_.o HW_.o (by kernel_rfl)) (fun _ _ _ h => h) (Or.inl ⟨by rfl, ?_⟩) hHeld ?_ ?_
    rotate_left
    ·rintro w' ⟨s0, s1, s2, s3, s4, s5⟩
     go_simp
     with_reducible rfl
    rotate_left
    ·simp only [Act.put, q1, q2, q3, i64_w, i32_w]
     rfl
    refine take_ (i := 1) (N := some 32) (v := ?_) (a' := ?_) #[true, true, false, true, true, false, false, true, false, false] rfl rfl (take_ofW HT_.o HW_.o (by kernel_rfl)) (fun _ _ _ h => h) (Or.inl ⟨by rfl, ?_⟩) hHeld ?_ ?_
    rotate_left
    ·rintro w' ⟨s0, s1, s2, s3, s4, s5⟩
     go_simp
     with_reducible rfl
    rotate_left
    ·simp only [Act.put, q1, q2, q3, i64_w, i32_w]
     rfl
    refine take_ (i := 5) (N := some 36) (v := ?_) (a' := ?_) #[true, true, false, true, true, true, false, true, false, false] rfl rfl (take_ofW HT_.o HW_.o (by kernel_rfl)) (fun _ _ _ h => h) (Or.inl ⟨by rfl, ?_⟩) hHeld ?_ ?_
    rotate_left
    ·rintro w' ⟨s0, s1, s2, s3, s4, s5⟩
     go_simp
     with_reducible rfl
    rotate_left
    ·simp only [Act.put, q1, q2, q3, i64_w, i32_w]
     rfl
    refine pure_ (i := 6) (N := some 37) (v := ?_) (a' := ?_) #[true, true, false, true, true, true, true, true, false, false] rfl rfl (any_of HT_.o (by kernel_rfl)) (fun _ _ _ h => h) (Or.inl ⟨by rfl, ?_⟩) ?_ ?_
    rotate_left
    ·intro w'
     go_simp
     with_reducible rfl
    rotate_left
    ·simp only [Act.put, q1, q2, q3, i64_w, i32_w]
     rfl
    refine pure_ (i := 8) (N := some 39) (v := ?_) (a' := ?_) #[true, true, false, true, true, true, true, true, true, false] rfl rfl (any_of HT_.o (by kernel_rfl)) (fun _ _ _ h => h) (Or.inl ⟨by rfl, ?_⟩) ?_ ?_
    rotate_left
    ·intro w'
     go_simp
     with_reducible rfl
    rotate_left
    ·simp only [Act.put, q1, q2, q3, i64_w, i32_w]
     rfl
    refine one_ (i := 2) (N := some 33) #[true, true, true, true, true, true, true, true, true, false] rfl rfl (one_of HT_.o (by kernel_rfl)) (by decide) (fun K hK => ?_)
    refine goes_ Try.func57 (by kernel_rfl) rfl #[.agg #[.int .i64 a0_0, .int .i64 a0_1, .slice A0_2 l0_2.length c0_2]] (by rfl) rfl rfl (by (try simp only [List.map_toArray, List.map_cons, List.map_nil]); first | done | rfl | (simp only [List.length_drop, List.length_take]; rfl)) ?_
    with_reducible refine (impl_groupNumbers.calls kj3 a0_0 a0_1 _ _ l0_2 Ak _ ?side1 ?side2 BW.o).mono ?_
    (case side1 => repeat (first | exact (Kd.C_below Ai.o HB.o) | (with_reducible refine Kd.C_alloc ?_ _) | (with_reducible refine Kd.C_drewN ?_ _) | (with_reducible refine Kd.C_drew ?_)))
    (case side2 => exact Am.o)
    rintro e C7 ⟨C0, rfl, AG, hb⟩
    refine ⟨_, rfl, ?_⟩
    have Ah := Z.m (Kd.R_lower AG (below_size (vB HB)))
    replace A4 := Z.m (Kd.Rb (vR A4) hb)
    replace A0 := kB A0 hb
    replace A1 := kB A1 hb
    replace A2 := kB A2 hb
    replace HB := bB HB hb
    (try clear hb); (try clear AG)
    obtain ⟨BA, BC, AF⟩ := Kd.R_slice Ah.o
    (first | subst AF | (injection AF with f1_ f2_ f3_; have f4_ := f1_.symm; have f5_ := f3_.symm; clear f1_ f2_ f3_; subst f4_; subst f5_))
    refine hK.out _ _ ⟨(ql A2.o 0).trans rfl, (ql A2.o 1).trans rfl, (ql A2.o 2).trans rfl, (ql A0.o 0).trans rfl, (ql A0.o 1).trans rfl, (ql A0.o 2).trans rfl⟩ (fun hHeld => ?_)
    clear hK K
    refine norm_ (a' := ?_) ?_ ?_
    rotate_left
    ·show Act.put _ (some 33) _ = _
     simp only [Act.put, q1, q2, q3, i64_w, i32_w]
     rfl
    refine one_ (i := 9) (N := some 40) #[true, true, true, true, true, true, true, true, true, true] rfl rfl (one_of HT_.o (by kernel_rfl)) (by decide) (fun K hK => ?_)
    refine goes_ Try.func73 (by kernel_rfl) rfl #[.agg #[.int .i64 A6, .int .i64 A8, .slice Ab A5.length Ac], .slice BA Ak.length BC, .int .i64 (wrap64 ((wrap64 (a1 * a0_1)) + a2))] (by rfl) rfl rfl (by (try simp only [List.map_toArray, List.map_cons, List.map_nil]); first | done | rfl | (simp only [List.length_drop, List.length_take]; rfl)) ?_
    with_reducible refine (impl_turnGroup.calls kj3 A6 A8 (fun k_ => some k_ = (.slice Ab A5.length Ac : Value).ownBlock) (.slice Ab A5.length Ac) A5 _ _ Ak (wrap64 ((wrap64 (a1 * a0_1)) + a2)) Al w _ ?side1 ?side2 ?side3 ?side4 BX.o).mono ?_
    (case side1 => repeat (first | (with_reducible first | exact HB.o | apply qa | apply qn | apply qd | refine qx ?_ Az.o | refine qx ?_ AA.o | refine qx ?_ AB.o) | exact HB.o))
    (case side2 => exact Kd.Rg rfl A4.o)
    (case side3 => exact Kd.Ck ((Kd.Ra Ah.o (Kd.Rt A4.o) (by decide))) (fun k_ hk_ hs_ => (hk_.2) hs_))
    (case side4 => exact (Kd.RrZ Ah.o).2.1)
    rintro e C8 ⟨rfl, BU, hb, hkp⟩
    refine ⟨_, rfl, ?_⟩
    replace A0 := Z.m (qk (vK A0) hkp (fun hs_ => (fun e_ => (Kd.R_ne A4.o A0.o (by decide)) e_) hs_))
    replace A1 := Z.m (qk (vK A1) hkp (fun hs_ => (fun e_ => (Kd.R_ne A4.o A1.o (by decide)) e_) hs_))
    replace A2 := Z.m (qk (vK A2) hkp (fun hs_ => (fun e_ => (Kd.R_ne A4.o A2.o (by decide)) e_) hs_))
    replace Ah := Z.m (Kd.Rm (ok' := fun k_ => True) (Kd.Rk ((Kd.Ra Ah.o (Kd.Rt A4.o) (by decide))) hkp (fun k_ hk_ hs_ => (hk_.2) hs_)) (fun k_ hk_ => trivial))
    replace A4 := Z.m (Kd.Re rfl BU (fun k_ e_ => A4.o.1 k_ e_))
    replace HB := Z.m (hb)
    (try clear hb); (try clear hkp); (try clear BU)
    refine hK.out _ _ ⟨(ql A2.o 0).trans rfl, (ql A2.o 1).trans rfl, (ql A2.o 2).trans rfl, (ql A0.o 0).trans rfl, (ql A0.o 1).trans rfl, (ql A0.o 2).trans rfl⟩ (fun hHeld => ?_)
    clear hK K
    refine norm_ (a' := ?_) ?_ ?_
    rotate_left
    ·show Act.put _ (some 40) _ = _
     simp only [Act.put, q1, q2, q3, i64_w, i32_w]
     rfl
    refine done_ (done_of HT_.o (by kernel_rfl)) ?_
    have AZ := bc0 A2
    have B0 := bc1 A2
    have B2 := bc2 A2
    have Bu := qz A2.o 0
    have Bv := qz A2.o 1
    have Bw := qz A2.o 2
    have B7 := bc0 A1
    have Ba := bc1 A1
    have Bb := bc2 A1
    have Bx := qz A1.o 0
    have By := qz A1.o 1
    have Bz := qz A1.o 2
    try go_wp2
    refine bodyPost_ret (results_ct rfl _ _ An 30 #[.int .i64 A6, .int .i64 A8, .slice Ab A5.length Ac] (0, 0) _ rfl (by refine bK ?_; apply st3; refine bK ?_; exact A1.o) Try.underlying30 rfl (by kernel_rfl)) rfl ?_
    exact ⟨_, by first | rfl | (simp [eN, eS] <;> rfl) | (simp [*, eN, eS] <;> rfl), by refine rK ?_; exact Kd.Rm (rf (rf (rf (Kd.Ry A4.o A1.o (by decide))))) (fun _ hk => trivial), vB HB⟩

end Go.Proofs.Ytlkiakpipcnijaa.PAll
