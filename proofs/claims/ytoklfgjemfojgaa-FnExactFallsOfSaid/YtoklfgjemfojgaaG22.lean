/- Began as a text that print.sh wrote (of the functions named below); turned and shortened by this session. -/
import Derived.Test.YtoklfgjemfojgaaG0
import Derived.Test.YtoklfgjemfojgaaG21
namespace Go.Proofs.Ytoklfgjemfojgaa.PAll
open Go.RowKit Go.Proofs.YtoklfgjemfojgaaW.PrintWords Go.Proofs.YtoklfgjemfojgaaW.PrintLast Go.Proofs.YtoklfgjemfojgaaW.PrintMore
attribute [local go_sem] max2_int min2_int max_two min_two max_three min_three max_four min_four   -- for this text's walks alone
set_option linter.unusedVariables false
set_option linter.unusedSimpArgs false

/-! ### laws_eqFallS: function 46 -/
def laws_eqFallS.l0 : Nat → List (S27) → List (S27) → Int → Option (Bool)
 | 0, _, _, _ => none
 | k + 1, x0, x1, x5 => if x5 < (x0.length : Int) then (if 0 ≤ x5 then (if x5 < (x1.length : Int) then ((laws_eqFall.f ((rd_T27 x0 x5).f0) ((rd_T27 x0 x5).f1) ((rd_T27 x0 x5).f2) ((rd_T27 x1 x5).f0) ((rd_T27 x1 x5).f1) ((rd_T27 x1 x5).f2)).bind fun t1072 => (if t1072 = true then (laws_eqFallS.l0 k x0 x1 (wrap64 (x5 + 1))) else (some false))) else (none)) else (none)) else (some true)
def laws_eqFallS.f (k : Nat) (l0 : List (S27)) (l1 : List (S27)) : Option (Bool) := if (l0.length : Int) = (l1.length : Int) then (laws_eqFallS.l0 k l0 l1 0) else (some false)
def laws_eqFallS.T6 : Bool × List (List Nat × List Nat) := (true, [([], []), ([], []), ([0, 1], [0, 1]), ([2], [2]), ([], []), ([], []), ([4, 5], [4, 5]), ([6], [6]), ([3, 7], [3, 7]), ([8], [8])])
def laws_eqFallS.B6 : List Nat := [0, 0, 3, 7, 0, 0, 48, 112, 255, 511]
theorem laws_eqFallS.tab6 : rtab .any (opsOf Try.f46 6) = laws_eqFallS.T6 := by kernel_rfl
theorem laws_eqFallS.bits6 : waitsOk laws_eqFallS.T6.2 laws_eqFallS.B6 = true := by kernel_rfl
set_option maxHeartbeats 8000000 in
set_option maxRecDepth 100000 in
theorem laws_eqFallS.calls (k : Nat) (A0 : Option Addr) (c0 : Nat) (l0 : List (S27)) (A1 : Option Addr) (c1 : Nat) (l1 : List (S27)) (r : Bool) (w : World) (hr0 : Kd.C k27 w A0 l0.length l0) (hc0 : l0.length ≤ c0) (hr1 : Kd.C k27 w A1 l1.length l1) (hc1 : l1.length ≤ c1) (h : laws_eqFallS.f k l0 l1 = some r) :
 Calls Try.prog 46 #[.slice A0 l0.length c0, .slice A1 l1.length c1] w fun e w' => e = .returned (.bool r) ∧ Below w.heap.size w w' := by
 have An := Try.underlying27
 have Aj := Z.m hr0
 have Ao := Z.m hc0
 clear hr0 hc0
 have Ak := Z.m hr1
 have Ap := Z.m hc1
 clear hr1 hc1
 have HB := Z.m (Below.refl w.heap.size w)
 have H : (if (l0.length : Int) = (l1.length : Int) then (laws_eqFallS.l0 k l0 l1 0) else (some false)) = some r := h
 clear h
 by_cases c3 : (l0.length : Int) = (l1.length : Int)
 ·rw [if_pos c3] at H
  have Ad := beq_iff_eq.mpr c3
  have Ae := bne_eq_false_iff_eq.mpr c3
  have Af : (l0.length == l1.length) = true := by first | simpa using c3 | (simp at c3 ⊢; omega)
  clear c3
  have H' := Z.m H
  clear H
  go_enter Try.func46, Try.ntmps46
  go_wp2
  go_loopg [5] k (fun kq v5 w' => ∃ (A2 : Int), v5 = .int .i64 A2 ∧ Z (laws_eqFallS.l0 kq l0 l1 A2 = some r) ∧ Z (kq ≤ k) ∧ Z (Below w.heap.size w w'))
  case atStart => exact ⟨(0), (by first | rfl | (simp; done) | (simp [*]; done)), H', ⟨Nat.le_refl _⟩, ⟨vB HB⟩⟩
  case round =>
   clear H'
   (try clear Ad); (try clear Ae); (try clear Af)
   obtain ⟨A2, rfl, HA, Ai, HB⟩ := hrel
   cases gk with
   | zero => exact absurd HA.o (by simp [laws_eqFallS.l0])
   | succ k1 =>
    have H := HA.o
    clear HA
    simp only [laws_eqFallS.l0] at H
    by_cases c4 : A2 < (l0.length : Int)
    ·rw [if_pos c4] at H
     have Ag := decide_eq_true c4
     clear c4
     by_cases c5 : 0 ≤ A2
     ·rw [if_pos c5] at H
      have Al := decide_eq_true c5
      clear c5
      by_cases c6 : A2 < (l1.length : Int)
      ·rw [if_pos c6] at H
       have Am := decide_eq_true c6
       clear c6
       replace H := Option.bind_eq_some_iff.mp H
       obtain ⟨Ac, Ah, H⟩ := H
       replace H : (if Ac = true then (laws_eqFallS.l0 k1 l0 l1 (wrap64 (A2 + 1))) else (some false)) = some r := H
       have A7 := Z.m Ah
       clear Ah
       by_cases c8 : Ac = true
       ·subst c8
        have H1 : (laws_eqFallS.l0 k1 l0 l1 (wrap64 (A2 + 1))) = some r := by rw [if_pos rfl] at H; exact H
        clear H
        have H := H1
        clear H1
        have H' := Z.m H
        clear H
        try go_wp2
        replace HB := Z.m (qd HB.o)
        have p1070 : 0 ≤ (A2 : Int) := ofD
        have q1070 : A2 < (l0.length : Int) := ofD
        obtain ⟨Aa, e1070, A3, A4, A5⟩ := at_T27 Aj.o A2 p1070 q1070
        have hw1070_2 := A5
        have hw1070_1 := A4
        have hw1070_0 := A3
        cases e1070
        replace A3 := (HB.o.cell (World.block_lt_of_cell? w _ A3)).trans A3
        replace A4 := (HB.o.cell (World.block_lt_of_cell? w _ A4)).trans A4
        replace A5 := (HB.o.cell (World.block_lt_of_cell? w _ A5)).trans A5
        replace p1070 := eq_true p1070
        replace q1070 := eq_true q1070
        have p1071 : 0 ≤ (A2 : Int) := ofD
        have q1071 : A2 < (l1.length : Int) := ofD
        obtain ⟨Ab, e1071, A6, A8, A9⟩ := at_T27 Ak.o A2 p1071 q1071
        have hw1071_2 := A9
        have hw1071_1 := A8
        have hw1071_0 := A6
        cases e1071
        replace A6 := (HB.o.cell (World.block_lt_of_cell? w _ A6)).trans A6
        replace A8 := (HB.o.cell (World.block_lt_of_cell? w _ A8)).trans A8
        replace A9 := (HB.o.cell (World.block_lt_of_cell? w _ A9)).trans A9
        replace p1071 := eq_true p1071
        replace q1071 := eq_true q1071
        refine start_ (n := 10) (S := fun w' => w'.cell? (Aa.add ((A2).toNat * 3)) = some (.int .i64 ((rd_T27 l0 A2).f0)) ∧ w'.cell? ⟨(Aa.add ((A2).toNat * 3)).block, (Aa.add ((A2).toNat * 3)).off + 1, none⟩ = some (.int .i64 ((rd_T27 l0 A2).f1)) ∧ w'.cell? ⟨(Aa.add ((A2).toNat * 3)).block, (Aa.add ((A2).toNat * 3)).off + 2, none⟩ = some (.int .i64 ((rd_T27 l0 A2).f2)) ∧ w'.cell? (Ab.add ((A2).toNat * 3)) = some (.int .i64 ((rd_T27 l1 A2).f0)) ∧ w'.cell? ⟨(Ab.add ((A2).toNat * 3)).block, (Ab.add ((A2).toNat * 3)).off + 1, none⟩ = some (.int .i64 ((rd_T27 l1 A2).f1)) ∧ w'.cell? ⟨(Ab.add ((A2).toNat * 3)).block, (Ab.add ((A2).toNat * 3)).off + 2, none⟩ = some (.int .i64 ((rd_T27 l1 A2).f2))) (ds := []) #[false, false, false, false, false, false, false, false, false, false] (by kernel_rfl) rfl rfl ⟨((HB.o.cell (World.block_lt_of_cell? w _ hw1070_0)).trans hw1070_0), ((HB.o.cell (World.block_lt_of_cell? w _ hw1070_1)).trans hw1070_1), ((HB.o.cell (World.block_lt_of_cell? w _ hw1070_2)).trans hw1070_2), ((HB.o.cell (World.block_lt_of_cell? w _ hw1071_0)).trans hw1071_0), ((HB.o.cell (World.block_lt_of_cell? w _ hw1071_1)).trans hw1071_1), ((HB.o.cell (World.block_lt_of_cell? w _ hw1071_2)).trans hw1071_2)⟩ (fun hHeld => ?_); refine with_tabW laws_eqFallS.tab6 laws_eqFallS.bits6 (fun HT_ HW_ => ?_)
        generalize wr.drew = w9 at HB A3 A4 A5 A6 A8 A9 hHeld ⊢
        refine pure_ (i := 0) (N := some 17) (v := ?_) (a' := ?_) #[true, false, false, false, false, false, false, false, false, false] rfl rfl (any_of HT_.o (by kernel_rfl)) (fun _ _ _ h => h) (Or.inl ⟨by rfl, ?_⟩) ?_ ?_
        rotate_left
        ·intro w'
         go_simp
         with_reducible rfl
        rotate_left
        ·simp only [Act.put, q1, q2, q3, i64_w, i32_w]
         rfl
        refine pure_ (i := 1) (N := some 18) (v := ?_) (a' := ?_) #[true, true, false, false, false, false, false, false, false, false] rfl rfl (any_of HT_.o (by kernel_rfl)) (fun _ _ _ h => h) (Or.inl ⟨by rfl, ?_⟩) ?_ ?_
        rotate_left
        ·intro w'
         go_simp
         with_reducible rfl
        rotate_left
        ·simp only [Act.put, q1, q2, q3, i64_w, i32_w]
         rfl
        refine pure_ (i := 2) (N := some 19) (v := ?_) (a' := ?_) #[true, true, true, false, false, false, false, false, false, false] rfl rfl (any_of HT_.o (by kernel_rfl)) (fun _ _ _ h => h) (Or.inl ⟨by rfl, ?_⟩) ?_ ?_
        rotate_left
        ·intro w'
         go_simp
         with_reducible rfl
        rotate_left
        ·simp only [Act.put, q1, q2, q3, i64_w, i32_w]
         rfl
        refine pure_ (i := 4) (N := some 21) (v := ?_) (a' := ?_) #[true, true, true, false, true, false, false, false, false, false] rfl rfl (any_of HT_.o (by kernel_rfl)) (fun _ _ _ h => h) (Or.inl ⟨by rfl, ?_⟩) ?_ ?_
        rotate_left
        ·intro w'
         go_simp
         with_reducible rfl
        rotate_left
        ·simp only [Act.put, q1, q2, q3, i64_w, i32_w]
         rfl
        refine pure_ (i := 5) (N := some 22) (v := ?_) (a' := ?_) #[true, true, true, false, true, true, false, false, false, false] rfl rfl (any_of HT_.o (by kernel_rfl)) (fun _ _ _ h => h) (Or.inl ⟨by rfl, ?_⟩) ?_ ?_
        rotate_left
        ·intro w'
         go_simp
         with_reducible rfl
        rotate_left
        ·simp only [Act.put, q1, q2, q3, i64_w, i32_w]
         rfl
        refine pure_ (i := 6) (N := some 23) (v := ?_) (a' := ?_) #[true, true, true, false, true, true, true, false, false, false] rfl rfl (any_of HT_.o (by kernel_rfl)) (fun _ _ _ h => h) (Or.inl ⟨by rfl, ?_⟩) ?_ ?_
        rotate_left
        ·intro w'
         go_simp
         with_reducible rfl
        rotate_left
        ·simp only [Act.put, q1, q2, q3, i64_w, i32_w]
         rfl
        refine take_ (i := 3) (N := some 20) (v := ?_) (a' := ?_) #[true, true, true, true, true, true, true, false, false, false] rfl rfl (take_ofW HT_.o HW_.o (by kernel_rfl)) (fun _ _ _ h => h) (Or.inl ⟨by rfl, ?_⟩) hHeld ?_ ?_
        rotate_left
        ·rintro w' ⟨s0, s1, s2, s3, s4, s5⟩
         go_simp
         with_reducible rfl
        rotate_left
        ·simp only [Act.put, q1, q2, q3, i64_w, i32_w]
         rfl
        refine take_ (i := 7) (N := some 24) (v := ?_) (a' := ?_) #[true, true, true, true, true, true, true, true, false, false] rfl rfl (take_ofW HT_.o HW_.o (by kernel_rfl)) (fun _ _ _ h => h) (Or.inl ⟨by rfl, ?_⟩) hHeld ?_ ?_
        rotate_left
        ·rintro w' ⟨s0, s1, s2, s3, s4, s5⟩
         go_simp
         with_reducible rfl
        rotate_left
        ·simp only [Act.put, q1, q2, q3, i64_w, i32_w]
         rfl
        refine one_ (i := 8) (N := some 25) #[true, true, true, true, true, true, true, true, true, false] rfl rfl (one_of HT_.o (by kernel_rfl)) (by decide) (fun K hK => ?_)
        refine goes_ Try.func17 (by kernel_rfl) rfl #[.agg #[.int .i64 ((rd_T27 l0 A2).f0), .int .i64 ((rd_T27 l0 A2).f1), .int .i64 ((rd_T27 l0 A2).f2)], .agg #[.int .i64 ((rd_T27 l1 A2).f0), .int .i64 ((rd_T27 l1 A2).f1), .int .i64 ((rd_T27 l1 A2).f2)]] (by rfl) rfl rfl (by (try simp only [List.map_toArray, List.map_cons, List.map_nil]); first | done | rfl | (simp only [List.length_drop, List.length_take]; rfl)) ?_
        with_reducible refine (laws_eqFall.calls ((rd_T27 l0 A2).f0) ((rd_T27 l0 A2).f1) ((rd_T27 l0 A2).f2) ((rd_T27 l1 A2).f0) ((rd_T27 l1 A2).f1) ((rd_T27 l1 A2).f2) true _ A7.o).mono ?_
        rintro e Aq ⟨rfl, hb⟩
        refine ⟨_, rfl, ?_⟩
        replace HB := bB HB hb
        (try clear hb)
        refine hK.out _ _ ⟨((HB.o.cell (World.block_lt_of_cell? w _ hw1070_0)).trans hw1070_0), ((HB.o.cell (World.block_lt_of_cell? w _ hw1070_1)).trans hw1070_1), ((HB.o.cell (World.block_lt_of_cell? w _ hw1070_2)).trans hw1070_2), ((HB.o.cell (World.block_lt_of_cell? w _ hw1071_0)).trans hw1071_0), ((HB.o.cell (World.block_lt_of_cell? w _ hw1071_1)).trans hw1071_1), ((HB.o.cell (World.block_lt_of_cell? w _ hw1071_2)).trans hw1071_2)⟩ (fun hHeld => ?_)
        clear hK K
        refine norm_ (a' := ?_) ?_ ?_
        rotate_left
        ·show Act.put _ (some 25) _ = _
         simp only [Act.put, q1, q2, q3, i64_w, i32_w]
         rfl
        refine pure_ (i := 9) (N := some 26) (v := ?_) (a' := ?_) #[true, true, true, true, true, true, true, true, true, true] rfl rfl (any_of HT_.o (by kernel_rfl)) (fun _ _ _ h => h) (Or.inl ⟨by rfl, ?_⟩) ?_ ?_
        rotate_left
        ·intro w'
         go_simp
         with_reducible rfl
        rotate_left
        ·simp only [Act.put, q1, q2, q3, i64_w, i32_w]
         rfl
        refine done_ (done_of HT_.o (by kernel_rfl)) ?_
        try go_wp2
        go_roundg k1
        case measure => have := Ai.o; omega
        case rel => exact ⟨(wrap64 (A2 + 1)), (by first | rfl | (simp; done) | (simp [*]; done)), H', ⟨by have := Ai.o; omega⟩, ⟨vB HB⟩⟩
       ·replace c8 := Bool.eq_false_iff.mpr c8
        subst c8
        have H1 : (some false) = some r := by rw [if_neg (show ¬ (false = true) by decide)] at H; exact H
        clear H
        have H := H1
        clear H1
        obtain rfl := Option.some.inj H
        try go_wp2
        replace HB := Z.m (qd HB.o)
        have p1070 : 0 ≤ (A2 : Int) := ofD
        have q1070 : A2 < (l0.length : Int) := ofD
        obtain ⟨Aa, e1070, A3, A4, A5⟩ := at_T27 Aj.o A2 p1070 q1070
        have hw1070_2 := A5
        have hw1070_1 := A4
        have hw1070_0 := A3
        cases e1070
        replace A3 := (HB.o.cell (World.block_lt_of_cell? w _ A3)).trans A3
        replace A4 := (HB.o.cell (World.block_lt_of_cell? w _ A4)).trans A4
        replace A5 := (HB.o.cell (World.block_lt_of_cell? w _ A5)).trans A5
        replace p1070 := eq_true p1070
        replace q1070 := eq_true q1070
        have p1071 : 0 ≤ (A2 : Int) := ofD
        have q1071 : A2 < (l1.length : Int) := ofD
        obtain ⟨Ab, e1071, A6, A8, A9⟩ := at_T27 Ak.o A2 p1071 q1071
        have hw1071_2 := A9
        have hw1071_1 := A8
        have hw1071_0 := A6
        cases e1071
        replace A6 := (HB.o.cell (World.block_lt_of_cell? w _ A6)).trans A6
        replace A8 := (HB.o.cell (World.block_lt_of_cell? w _ A8)).trans A8
        replace A9 := (HB.o.cell (World.block_lt_of_cell? w _ A9)).trans A9
        replace p1071 := eq_true p1071
        replace q1071 := eq_true q1071
        refine start_ (n := 10) (S := fun w' => w'.cell? (Aa.add ((A2).toNat * 3)) = some (.int .i64 ((rd_T27 l0 A2).f0)) ∧ w'.cell? ⟨(Aa.add ((A2).toNat * 3)).block, (Aa.add ((A2).toNat * 3)).off + 1, none⟩ = some (.int .i64 ((rd_T27 l0 A2).f1)) ∧ w'.cell? ⟨(Aa.add ((A2).toNat * 3)).block, (Aa.add ((A2).toNat * 3)).off + 2, none⟩ = some (.int .i64 ((rd_T27 l0 A2).f2)) ∧ w'.cell? (Ab.add ((A2).toNat * 3)) = some (.int .i64 ((rd_T27 l1 A2).f0)) ∧ w'.cell? ⟨(Ab.add ((A2).toNat * 3)).block, (Ab.add ((A2).toNat * 3)).off + 1, none⟩ = some (.int .i64 ((rd_T27 l1 A2).f1)) ∧ w'.cell? ⟨(Ab.add ((A2).toNat * 3)).block, (Ab.add ((A2).toNat * 3)).off + 2, none⟩ = some (.int .i64 ((rd_T27 l1 A2).f2))) (ds := []) #[false, false, false, false, false, false, false, false, false, false] (by kernel_rfl) rfl rfl ⟨((HB.o.cell (World.block_lt_of_cell? w _ hw1070_0)).trans hw1070_0), ((HB.o.cell (World.block_lt_of_cell? w _ hw1070_1)).trans hw1070_1), ((HB.o.cell (World.block_lt_of_cell? w _ hw1070_2)).trans hw1070_2), ((HB.o.cell (World.block_lt_of_cell? w _ hw1071_0)).trans hw1071_0), ((HB.o.cell (World.block_lt_of_cell? w _ hw1071_1)).trans hw1071_1), ((HB.o.cell (World.block_lt_of_cell? w _ hw1071_2)).trans hw1071_2)⟩ (fun hHeld => ?_); refine with_tabW laws_eqFallS.tab6 laws_eqFallS.bits6 (fun HT_ HW_ => ?_)
        generalize wr.drew = Ar at HB A3 A4 A5 A6 A8 A9 hHeld ⊢
        refine pure_ (i := 0) (N := some 17) (v := ?_) (a' := ?_) #[true, false, false, false, false, false, false, false, false, false] rfl rfl (any_of HT_.o (by kernel_rfl)) (fun _ _ _ h => h) (Or.inl ⟨by rfl, ?_⟩) ?_ ?_
        rotate_left
        ·intro w'
         go_simp
         with_reducible rfl
        rotate_left
        ·simp only [Act.put, q1, q2, q3, i64_w, i32_w]
         rfl
        refine pure_ (i := 1) (N := some 18) (v := ?_) (a' := ?_) #[true, true, false, false, false, false, false, false, false, false] rfl rfl (any_of HT_.o (by kernel_rfl)) (fun _ _ _ h => h) (Or.inl ⟨by rfl, ?_⟩) ?_ ?_
        rotate_left
        ·intro w'
         go_simp
         with_reducible rfl
        rotate_left
        ·simp only [Act.put, q1, q2, q3, i64_w, i32_w]
         rfl
        refine pure_ (i := 2) (N := some 19) (v := ?_) (a' := ?_) #[true, true, true, false, false, false, false, false, false, false] rfl rfl (any_of HT_.o (by kernel_rfl)) (fun _ _ _ h => h) (Or.inl ⟨by rfl, ?_⟩) ?_ ?_
        rotate_left
        ·intro w'
         go_simp
         with_reducible rfl
        rotate_left
        ·simp only [Act.put, q1, q2, q3, i64_w, i32_w]
         rfl
        refine pure_ (i := 4) (N := some 21) (v := ?_) (a' := ?_) #[true, true, true, false, true, false, false, false, false, false] rfl rfl (any_of HT_.o (by kernel_rfl)) (fun _ _ _ h => h) (Or.inl ⟨by rfl, ?_⟩) ?_ ?_
        rotate_left
        ·intro w'
         go_simp
         with_reducible rfl
        rotate_left
        ·simp only [Act.put, q1, q2, q3, i64_w, i32_w]
         rfl
        refine pure_ (i := 5) (N := some 22) (v := ?_) (a' := ?_) #[true, true, true, false, true, true, false, false, false, false] rfl rfl (any_of HT_.o (by kernel_rfl)) (fun _ _ _ h => h) (Or.inl ⟨by rfl, ?_⟩) ?_ ?_
        rotate_left
        ·intro w'
         go_simp
         with_reducible rfl
        rotate_left
        ·simp only [Act.put, q1, q2, q3, i64_w, i32_w]
         rfl
        refine pure_ (i := 6) (N := some 23) (v := ?_) (a' := ?_) #[true, true, true, false, true, true, true, false, false, false] rfl rfl (any_of HT_.o (by kernel_rfl)) (fun _ _ _ h => h) (Or.inl ⟨by rfl, ?_⟩) ?_ ?_
        rotate_left
        ·intro w'
         go_simp
         with_reducible rfl
        rotate_left
        ·simp only [Act.put, q1, q2, q3, i64_w, i32_w]
         rfl
        refine take_ (i := 3) (N := some 20) (v := ?_) (a' := ?_) #[true, true, true, true, true, true, true, false, false, false] rfl rfl (take_ofW HT_.o HW_.o (by kernel_rfl)) (fun _ _ _ h => h) (Or.inl ⟨by rfl, ?_⟩) hHeld ?_ ?_
        rotate_left
        ·rintro w' ⟨s0, s1, s2, s3, s4, s5⟩
         go_simp
         with_reducible rfl
        rotate_left
        ·simp only [Act.put, q1, q2, q3, i64_w, i32_w]
         rfl
        refine take_ (i := 7) (N := some 24) (v := ?_) (a' := ?_) #[true, true, true, true, true, true, true, true, false, false] rfl rfl (take_ofW HT_.o HW_.o (by kernel_rfl)) (fun _ _ _ h => h) (Or.inl ⟨by rfl, ?_⟩) hHeld ?_ ?_
        rotate_left
        ·rintro w' ⟨s0, s1, s2, s3, s4, s5⟩
         go_simp
         with_reducible rfl
        rotate_left
        ·simp only [Act.put, q1, q2, q3, i64_w, i32_w]
         rfl
        refine one_ (i := 8) (N := some 25) #[true, true, true, true, true, true, true, true, true, false] rfl rfl (one_of HT_.o (by kernel_rfl)) (by decide) (fun K hK => ?_)
        refine goes_ Try.func17 (by kernel_rfl) rfl #[.agg #[.int .i64 ((rd_T27 l0 A2).f0), .int .i64 ((rd_T27 l0 A2).f1), .int .i64 ((rd_T27 l0 A2).f2)], .agg #[.int .i64 ((rd_T27 l1 A2).f0), .int .i64 ((rd_T27 l1 A2).f1), .int .i64 ((rd_T27 l1 A2).f2)]] (by rfl) rfl rfl (by (try simp only [List.map_toArray, List.map_cons, List.map_nil]); first | done | rfl | (simp only [List.length_drop, List.length_take]; rfl)) ?_
        with_reducible refine (laws_eqFall.calls ((rd_T27 l0 A2).f0) ((rd_T27 l0 A2).f1) ((rd_T27 l0 A2).f2) ((rd_T27 l1 A2).f0) ((rd_T27 l1 A2).f1) ((rd_T27 l1 A2).f2) false _ A7.o).mono ?_
        rintro e As ⟨rfl, hb⟩
        refine ⟨_, rfl, ?_⟩
        replace HB := bB HB hb
        (try clear hb)
        refine hK.out _ _ ⟨((HB.o.cell (World.block_lt_of_cell? w _ hw1070_0)).trans hw1070_0), ((HB.o.cell (World.block_lt_of_cell? w _ hw1070_1)).trans hw1070_1), ((HB.o.cell (World.block_lt_of_cell? w _ hw1070_2)).trans hw1070_2), ((HB.o.cell (World.block_lt_of_cell? w _ hw1071_0)).trans hw1071_0), ((HB.o.cell (World.block_lt_of_cell? w _ hw1071_1)).trans hw1071_1), ((HB.o.cell (World.block_lt_of_cell? w _ hw1071_2)).trans hw1071_2)⟩ (fun hHeld => ?_)
        clear hK K
        refine norm_ (a' := ?_) ?_ ?_
        rotate_left
        ·show Act.put _ (some 25) _ = _
         simp only [Act.put, q1, q2, q3, i64_w, i32_w]
         rfl
        refine pure_ (i := 9) (N := some 26) (v := ?_) (a' := ?_) #[true, true, true, true, true, true, true, true, true, true] rfl rfl (any_of HT_.o (by kernel_rfl)) (fun _ _ _ h => h) (Or.inl ⟨by rfl, ?_⟩) ?_ ?_
        rotate_left
        ·intro w'
         go_simp
         with_reducible rfl
        rotate_left
        ·simp only [Act.put, q1, q2, q3, i64_w, i32_w]
         rfl
        refine done_ (done_of HT_.o (by kernel_rfl)) ?_
        try go_wp2
        go_ret
        exact ⟨by first | rfl | (simp [eN, eS] <;> rfl) | (simp [*, eN, eS] <;> rfl), vB HB⟩
      ·rw [if_neg c6] at H
       exact absurd H (by simp)
     ·rw [if_neg c5] at H
      exact absurd H (by simp)
    ·rw [if_neg c4] at H
     have Ag := decide_eq_false c4
     clear c4
     obtain rfl := Option.some.inj H
     go_wp2
     go_ret
     exact ⟨by first | rfl | (simp [eN, eS] <;> rfl) | (simp [*, eN, eS] <;> rfl), vB HB⟩
 ·rw [if_neg c3] at H
  have Ad := beq_eq_false_iff_ne.mpr c3
  have Ae := bne_iff_ne.mpr c3
  have Af : (l0.length == l1.length) = false := by first | simpa using c3 | (simp at c3 ⊢; omega)
  obtain rfl := Option.some.inj H
  go_enter Try.func46, Try.ntmps46
  go_wp2
  go_ret
  exact ⟨by first | rfl | (simp [eN, eS] <;> rfl) | (simp [*, eN, eS] <;> rfl), vB HB⟩

/-! ### laws_markFallS: function 47 -/
def laws_markFallS.l0 : Nat → List (S27) → Int → Int → Option (Int × (List (S27)))
 | 0, _, _, _ => none
 | k + 1, x0, x1, x5 => if x5 < (x0.length : Int) then (if 0 ≤ x5 then ((some (x0.set (x5 : Int).toNat (⟨x1, (rd_T27 x0 x5).f1, (rd_T27 x0 x5).f2⟩ : S27) : List (S27))).bind fun y1073 => ((some (y1073.set (x5 : Int).toNat (⟨(rd_T27 y1073 x5).f0, wrap64 (x1 + 1), (rd_T27 y1073 x5).f2⟩ : S27) : List (S27))).bind fun y1074 => (laws_markFallS.l0 k (y1074.set (x5 : Int).toNat (⟨(rd_T27 y1074 x5).f0, (rd_T27 y1074 x5).f1, wrap64 ((wrap64 (x1 + 1)) + 1)⟩ : S27)) (wrap64 ((wrap64 ((wrap64 (x1 + 1)) + 1)) + 1)) (wrap64 (x5 + 1))))) else (none)) else (some (x1, x0))
def laws_markFallS.f (k : Nat) (l0 : List (S27)) (a1 : Int) : Option (Int × (List (S27))) := laws_markFallS.l0 k l0 a1 0
set_option maxHeartbeats 8000000 in
set_option maxRecDepth 100000 in
theorem laws_markFallS.calls (k : Nat) (P0_ : Nat → Prop) (u9000_ : Value) (l0 : List (S27)) (a1 : Int) (r1 : Int) (r2 : List (S27)) (w0 w : World) (hB : Below w0.heap.size w0 w) (ho0 : Kd.R k27 27 w w0.heap.size P0_ u9000_ l0) (h : laws_markFallS.f k l0 a1 = some (r1, r2)) :
 Calls Try.prog 47 #[u9000_, .int .i64 a1] w fun e w' => e = .returned (.int .i64 r1) ∧ Kd.R k27 27 w' w0.heap.size (fun k_ => (P0_ k_ ∨ w.heap.size ≤ k_)) u9000_ r2 ∧ Below w0.heap.size w0 w' ∧ Kept w w' (fun k_ => P0_ k_) := by
 have Bo := Z.m (show Kd.R k27 27 w w0.heap.size (fun k_ => (P0_ k_ ∨ w.heap.size ≤ k_)) u9000_ l0 from Kd.Rm ho0 (fun k_ hk => (.inl hk)))
 have HK := Z.m (Kept.refl w (fun k_ => P0_ k_))
 have HW0 := Z.m hB.size
 have HB := Z.m hB
 clear hB
 have H : (laws_markFallS.l0 k l0 a1 0) = some (r1, r2) := h
 clear h
 have H' := Z.m H
 clear H
 go_enter Try.func47, Try.ntmps47
 go_wp2
 go_loopg [1, 5] k (fun kq v1 v5 w' => ∃ (A1 : List (S27)) (A3 : Int) (A0 : Int), v1 = .int .i64 A3 ∧ v5 = .int .i64 A0 ∧ Z (laws_markFallS.l0 kq A1 A3 A0 = some (r1, r2)) ∧ Z (kq ≤ k) ∧ Z (Kd.R k27 27 w' w0.heap.size (fun k_ => (P0_ k_ ∨ w.heap.size ≤ k_)) u9000_ A1) ∧ Z (Kept w w' (fun k_ => P0_ k_)) ∧ Z (Below w0.heap.size w0 w'))
 case atStart => exact ⟨(l0), (a1), (0), (by first | rfl | (simp; done) | (simp [*]; done)), (by first | rfl | (simp; done) | (simp [*]; done)), H', ⟨Nat.le_refl _⟩, ⟨vR Bo⟩, ⟨vT HK⟩, ⟨vB HB⟩⟩
 case round =>
  clear H'
  obtain ⟨A1, A3, A0, rfl, rfl, HA, AR, A4, HK, HB⟩ := hrel
  cases gk with
  | zero => exact absurd HA.o (by simp [laws_markFallS.l0])
  | succ k1 =>
   have H := HA.o
   clear HA
   simp only [laws_markFallS.l0] at H
   by_cases c3 : A0 < (A1.length : Int)
   ·rw [if_pos c3] at H
    have AK := decide_eq_true c3
    clear c3
    by_cases c4 : 0 ≤ A0
    ·rw [if_pos c4] at H
     have Bp := decide_eq_true c4
     clear c4
     obtain ⟨A5, A7⟩ : ∃ y_ : List (S27), y_ = (A1.set (A0 : Int).toNat (⟨A3, (rd_T27 A1 A0).f1, (rd_T27 A1 A0).f2⟩ : S27)) := ⟨_, rfl⟩
     replace H : ((some (A5.set (A0 : Int).toNat (⟨(rd_T27 A5 A0).f0, wrap64 (A3 + 1), (rd_T27 A5 A0).f2⟩ : S27) : List (S27))).bind fun A2 => (laws_markFallS.l0 k1 (A2.set (A0 : Int).toNat (⟨(rd_T27 A2 A0).f0, (rd_T27 A2 A0).f1, wrap64 ((wrap64 (A3 + 1)) + 1)⟩ : S27)) (wrap64 ((wrap64 ((wrap64 (A3 + 1)) + 1)) + 1)) (wrap64 (A0 + 1)))) = some (r1, r2) := by first | (rw [A7]; with_reducible exact H) | (have H2_ := (Option.bind_some _ _).symm.trans H; rw [A7]; with_reducible exact H2_) | (have H2_ := (Option.bind_some _ _).symm.trans H; with_reducible exact H2_) | with_reducible exact H | (rw [A7]; exact H) | exact H
     have Ar := Z.m A7
     clear A7
     obtain ⟨A2, A8⟩ : ∃ y_ : List (S27), y_ = (A5.set (A0 : Int).toNat (⟨(rd_T27 A5 A0).f0, wrap64 (A3 + 1), (rd_T27 A5 A0).f2⟩ : S27)) := ⟨_, rfl⟩
     replace H : (laws_markFallS.l0 k1 (A2.set (A0 : Int).toNat (⟨(rd_T27 A2 A0).f0, (rd_T27 A2 A0).f1, wrap64 ((wrap64 (A3 + 1)) + 1)⟩ : S27)) (wrap64 ((wrap64 ((wrap64 (A3 + 1)) + 1)) + 1)) (wrap64 (A0 + 1))) = some (r1, r2) := by first | (rw [A8]; with_reducible exact H) | (have H2_ := (Option.bind_some _ _).symm.trans H; rw [A8]; with_reducible exact H2_) | (have H2_ := (Option.bind_some _ _).symm.trans H; with_reducible exact H2_) | with_reducible exact H | (rw [A8]; exact H) | exact H
     have As := Z.m A8
     clear A8
     obtain ⟨Ae, A9⟩ : ∃ y_ : List (S27), y_ = (A2.set (A0 : Int).toNat (⟨(rd_T27 A2 A0).f0, (rd_T27 A2 A0).f1, wrap64 ((wrap64 (A3 + 1)) + 1)⟩ : S27)) := ⟨_, rfl⟩
     replace H : (laws_markFallS.l0 k1 Ae (wrap64 ((wrap64 ((wrap64 (A3 + 1)) + 1)) + 1)) (wrap64 (A0 + 1))) = some (r1, r2) := by first | (rw [A9]; with_reducible exact H) | (have H2_ := (Option.bind_some _ _).symm.trans H; rw [A9]; with_reducible exact H2_) | (have H2_ := (Option.bind_some _ _).symm.trans H; with_reducible exact H2_) | with_reducible exact H | (rw [A9]; exact H) | exact H
     have At := Z.m A9
     clear A9
     have H' := Z.m H
     clear H
     obtain ⟨Bu, Az, Bt⟩ := Kd.R_slice A4.o
     subst Bt
     have p5 : 0 ≤ (A0 : Int) := ofD
     have q5 : (A0 : Int) < ((A1.length : Int) : Int) := ofD
     obtain ⟨A6, BA, AU, AV, gl5, cl5, AQ⟩ := Kd.R_form A4.o (by omega)
     (first | cases AU | (injection AU with ea_ en_ ec_; (first | subst ea_ | (injection ea_ with ea_; subst ea_)); subst ec_; clear en_))
     have AI := Z.m AV
     have Bv := Z.m AQ
     clear AV gl5 AQ
     have AS := Z.m (show (P0_ A6 ∨ w.heap.size ≤ A6) from (A4.o.1 _ rfl))
     obtain ⟨Bw, AM, AW, Af, Ai⟩ := Kd.R_elem A4.o z27 (A0 : Int) p5 q5
     obtain rfl := k27_openM AW
     have Be : wr.cell? ⟨A6, (A0 : Int).toNat * 3, none⟩ = some (.int .i64 ((rd_T27 A1 A0).f0)) := Af 0 _ rfl
     have Bf : wr.cell? ⟨A6, (A0 : Int).toNat * 3 + 1, none⟩ = some (.int .i64 ((rd_T27 A1 A0).f1)) := Af 1 _ rfl
     have Bg : wr.cell? ⟨A6, (A0 : Int).toNat * 3 + 2, none⟩ = some (.int .i64 ((rd_T27 A1 A0).f2)) := Af 2 _ rfl
     have B0 : wr.frozen? ⟨A6, (A0 : Int).toNat * 3, none⟩ = false := Ai 0
     have B2 : wr.frozen? ⟨A6, (A0 : Int).toNat * 3 + 1, none⟩ = false := Ai 1
     have B3 : wr.frozen? ⟨A6, (A0 : Int).toNat * 3 + 2, none⟩ = false := Ai 2
     (try clear AM); (try clear Af); (try clear Ai); (try clear AW)
     replace p5 := eq_true p5
     replace q5 := eq_true q5
     have AT := Z.m (show Kd.R k27 27 wr w0.heap.size (fun k_ => (P0_ k_ ∨ w.heap.size ≤ k_)) (.slice (some ⟨A6, 0, none⟩) A1.length Az) A1 from (vR A4))
     obtain ⟨Bz, AE, AZ, Au, AG⟩ := Kd.R_elem AT.o z27 (A0 : Int) (ofD) (by have h_ : (A0 : Int) < ((A1.length : Int) : Int) := ofD; first | exact h_ | (have e_ := (Kd.RrZ A4.o).1; omega) | simpa using h_)
     obtain rfl := k27_openM AZ
     have AJ := Kd.R_seg AT.o (A0 : Int) (ofD) (by have h_ : (A0 : Int) < ((A1.length : Int) : Int) := ofD; first | exact h_ | (have e_ := (Kd.RrZ A4.o).1; omega) | simpa using h_) (seg := [.int .i64 A3]) (j := 0) AE Au (show 1 ≤ 3 from by decide) (x' := (⟨A3, (rd_T27 A1 A0).f1, (rd_T27 A1 A0).f2⟩ : S27)) (k27_mkM _ _ _ (⟨A3, (rd_T27 A1 A0).f1, (rd_T27 A1 A0).f2⟩ : S27) ) (fun _ hk => hk)
     have AH := Au 0 _ rfl
     (try simp only [show (k27).sz = 3 from rfl, Nat.mul_one, Nat.add_zero] at AH)
     have AF := AG 0
     (try simp only [show (k27).sz = 3 from rfl, Nat.mul_one, Nat.add_zero] at AF)
     (try clear AE); (try clear Au); (try clear AG); (try clear AZ)
     go_wp2_with (first | ((with_reducible refine gt (t := 3) (p := 16) rfl ?_); refine store_event (t := 3) (p := 16) (v := ?vo_w10) (w1 := (wr.setCell ⟨A6, (A0 : Int).toNat * 3, none⟩ (.int .i64 A3))) ?hg ?ho ?hn ?hr ?_; (case ho => rfl); (case hg => rfl); (case hn => rfl); (case hr => first | (go_simp; done) | (go_simp; rfl)); intro Aa hw; have hg : wr.grownBy Aa (some A6) := (by rw [hw]; exact AJ.2); have hp_ : Kd.R k27 27 Aa w0.heap.size (fun k_ => (P0_ k_ ∨ w.heap.size ≤ k_)) (.slice (some ⟨A6, 0, none⟩) A1.length Az) A5 := (by rw [hw, Ar.o]; exact AJ.1); clear AJ; replace HB := Z.m ((by rw [hw]; exact qx (HB.o) AI.o : Below w0.heap.size w0 Aa)); replace HK := Z.m (Kept.of_grown (S := (fun k_ => P0_ k_)) hg (vT HK) (fun k_ e_ => (A4.o.1 k_ e_))); replace A4 := Z.m (hp_); clear hg hw hp_; have p6 : 0 ≤ (A0 : Int) := ofD; have q6 : (A0 : Int) < ((A1.length : Int) : Int) := ofD; obtain ⟨Bx, AN, AX, Ag, Aj⟩ := Kd.R_elem A4.o z27 (A0 : Int) p6 q6; obtain rfl := k27_openM AX; have Bh : Aa.cell? ⟨A6, (A0 : Int).toNat * 3, none⟩ = some (.int .i64 ((rd_T27 A5 A0).f0)) := Ag 0 _ rfl; have Bi : Aa.cell? ⟨A6, (A0 : Int).toNat * 3 + 1, none⟩ = some (.int .i64 ((rd_T27 A5 A0).f1)) := Ag 1 _ rfl; have Bj : Aa.cell? ⟨A6, (A0 : Int).toNat * 3 + 2, none⟩ = some (.int .i64 ((rd_T27 A5 A0).f2)) := Ag 2 _ rfl; have B7 : Aa.frozen? ⟨A6, (A0 : Int).toNat * 3, none⟩ = false := Aj 0; have B8 : Aa.frozen? ⟨A6, (A0 : Int).toNat * 3 + 1, none⟩ = false := Aj 1; have Ba : Aa.frozen? ⟨A6, (A0 : Int).toNat * 3 + 2, none⟩ = false := Aj 2; (try clear AN); (try clear Ag); (try clear Aj); (try clear AX); replace p6 := eq_true p6; replace q6 := eq_true q6; have AA := Z.m (show Kd.R k27 27 Aa w0.heap.size (fun k_ => (P0_ k_ ∨ w.heap.size ≤ k_)) (.slice (some ⟨A6, 0, none⟩) A1.length Az) A5 from (vR A4)); obtain ⟨Bq, Al, AC, Ac, An⟩ := Kd.R_elem AA.o z27 (A0 : Int) (ofD) (by have h_ : (A0 : Int) < ((A1.length : Int) : Int) := ofD; first | exact h_ | (have e_ := (Kd.RrZ A4.o).1; omega) | simpa using h_); obtain rfl := k27_openM AC; have Ap := Kd.R_seg AA.o (A0 : Int) (ofD) (by have h_ : (A0 : Int) < ((A1.length : Int) : Int) := ofD; first | exact h_ | (have e_ := (Kd.RrZ A4.o).1; omega) | simpa using h_) (seg := [.int .i64 (wrap64 (A3 + 1))]) (j := 1) Al Ac (show 2 ≤ 3 from by decide) (x' := (⟨(rd_T27 A5 A0).f0, wrap64 (A3 + 1), (rd_T27 A5 A0).f2⟩ : S27)) (k27_mkM _ _ _ (⟨(rd_T27 A5 A0).f0, wrap64 (A3 + 1), (rd_T27 A5 A0).f2⟩ : S27) ) (fun _ hk => hk); have Ax := Ac 1 _ rfl; (try simp only [show (k27).sz = 3 from rfl, Nat.mul_one, Nat.add_zero] at Ax); have Av := An 1; (try simp only [show (k27).sz = 3 from rfl, Nat.mul_one, Nat.add_zero] at Av); (try clear Al); (try clear Ac); (try clear An); (try clear AC)) | ((with_reducible refine gt (t := 3) (p := 23) rfl ?_); refine store_event (t := 3) (p := 23) (v := ?vo_w12) (w1 := (Aa.setCell ⟨A6, (A0 : Int).toNat * 3 + 1, none⟩ (.int .i64 (wrap64 (A3 + 1))))) ?hg ?ho ?hn ?hr ?_; (case ho => rfl); (case hg => rfl); (case hn => rfl); (case hr => first | (go_simp; done) | (go_simp; rfl)); intro Ab hw; have hg : Aa.grownBy Ab (some A6) := (by rw [hw]; exact Ap.2); have hp_ : Kd.R k27 27 Ab w0.heap.size (fun k_ => (P0_ k_ ∨ w.heap.size ≤ k_)) (.slice (some ⟨A6, 0, none⟩) A1.length Az) A2 := (by rw [hw, As.o]; exact Ap.1); clear Ap; replace HB := Z.m ((by rw [hw]; exact qx (HB.o) AI.o : Below w0.heap.size w0 Ab)); replace HK := Z.m (Kept.of_grown (S := (fun k_ => P0_ k_)) hg (vT HK) (fun k_ e_ => (A4.o.1 k_ e_))); replace A4 := Z.m (hp_); clear hg hw hp_; have p7 : 0 ≤ (A0 : Int) := ofD; have q7 : (A0 : Int) < ((A1.length : Int) : Int) := ofD; obtain ⟨By, AO, AY, Ah, Ak⟩ := Kd.R_elem A4.o z27 (A0 : Int) p7 q7; obtain rfl := k27_openM AY; have Bk : Ab.cell? ⟨A6, (A0 : Int).toNat * 3, none⟩ = some (.int .i64 ((rd_T27 A2 A0).f0)) := Ah 0 _ rfl; have Bl : Ab.cell? ⟨A6, (A0 : Int).toNat * 3 + 1, none⟩ = some (.int .i64 ((rd_T27 A2 A0).f1)) := Ah 1 _ rfl; have Bm : Ab.cell? ⟨A6, (A0 : Int).toNat * 3 + 2, none⟩ = some (.int .i64 ((rd_T27 A2 A0).f2)) := Ah 2 _ rfl; have Bb : Ab.frozen? ⟨A6, (A0 : Int).toNat * 3, none⟩ = false := Ak 0; have Bc : Ab.frozen? ⟨A6, (A0 : Int).toNat * 3 + 1, none⟩ = false := Ak 1; have Bd : Ab.frozen? ⟨A6, (A0 : Int).toNat * 3 + 2, none⟩ = false := Ak 2; (try clear AO); (try clear Ah); (try clear Ak); (try clear AY); replace p7 := eq_true p7; replace q7 := eq_true q7; have AB := Z.m (show Kd.R k27 27 Ab w0.heap.size (fun k_ => (P0_ k_ ∨ w.heap.size ≤ k_)) (.slice (some ⟨A6, 0, none⟩) A1.length Az) A2 from (vR A4)); obtain ⟨Br, Am, AD, Ad, Ao⟩ := Kd.R_elem AB.o z27 (A0 : Int) (ofD) (by have h_ : (A0 : Int) < ((A1.length : Int) : Int) := ofD; first | exact h_ | (have e_ := (Kd.RrZ A4.o).1; omega) | simpa using h_); obtain rfl := k27_openM AD; have Aq := Kd.R_seg AB.o (A0 : Int) (ofD) (by have h_ : (A0 : Int) < ((A1.length : Int) : Int) := ofD; first | exact h_ | (have e_ := (Kd.RrZ A4.o).1; omega) | simpa using h_) (seg := [.int .i64 (wrap64 ((wrap64 (A3 + 1)) + 1))]) (j := 2) Am Ad (show 3 ≤ 3 from by decide) (x' := (⟨(rd_T27 A2 A0).f0, (rd_T27 A2 A0).f1, wrap64 ((wrap64 (A3 + 1)) + 1)⟩ : S27)) (k27_mkM _ _ _ (⟨(rd_T27 A2 A0).f0, (rd_T27 A2 A0).f1, wrap64 ((wrap64 (A3 + 1)) + 1)⟩ : S27) ) (fun _ hk => hk); have Ay := Ad 2 _ rfl; (try simp only [show (k27).sz = 3 from rfl, Nat.mul_one, Nat.add_zero] at Ay); have Aw := Ao 2; (try simp only [show (k27).sz = 3 from rfl, Nat.mul_one, Nat.add_zero] at Aw); (try clear Am); (try clear Ad); (try clear Ao); (try clear AD)) | ((with_reducible refine gt (t := 3) (p := 30) rfl ?_); refine store_event (t := 3) (p := 30) (v := ?vo_w14) (w1 := (Ab.setCell ⟨A6, (A0 : Int).toNat * 3 + 2, none⟩ (.int .i64 (wrap64 ((wrap64 (A3 + 1)) + 1))))) ?hg ?ho ?hn ?hr ?_; (case ho => rfl); (case hg => rfl); (case hn => rfl); (case hr => first | (go_simp; done) | (go_simp; rfl)); intro AP hw; have hg : Ab.grownBy AP (some A6) := (by rw [hw]; exact Aq.2); have hp_ : Kd.R k27 27 AP w0.heap.size (fun k_ => (P0_ k_ ∨ w.heap.size ≤ k_)) (.slice (some ⟨A6, 0, none⟩) A1.length Az) Ae := (by rw [hw, At.o]; exact Aq.1); clear Aq; replace HB := Z.m ((by rw [hw]; exact qx (HB.o) AI.o : Below w0.heap.size w0 AP)); replace HK := Z.m (Kept.of_grown (S := (fun k_ => P0_ k_)) hg (vT HK) (fun k_ e_ => (A4.o.1 k_ e_))); replace A4 := Z.m (hp_); clear hg hw hp_))
     go_roundg k1
     case measure => have := AR.o; omega
     case rel => exact ⟨(Ae), (wrap64 ((wrap64 ((wrap64 (A3 + 1)) + 1)) + 1)), (wrap64 (A0 + 1)), (by first | rfl | (simp; done) | (simp [*]; done)), (by first | rfl | (simp; done) | (simp [*]; done)), H', ⟨by have := AR.o; omega⟩, ⟨vR A4⟩, ⟨vT HK⟩, ⟨vB HB⟩⟩
    ·rw [if_neg c4] at H
     exact absurd H (by simp)
   ·rw [if_neg c3] at H
    have AK := decide_eq_false c3
    clear c3
    simp only [Option.some.injEq, Prod.mk.injEq] at H
    obtain ⟨rfl, rfl⟩ := H
    obtain ⟨Bn, Bs, AL⟩ := Kd.R_slice A4.o
    subst AL
    go_wp2
    go_ret
    exact ⟨by first | rfl | (simp [eN, eS] <;> rfl) | (simp [*, eN, eS] <;> rfl), vR A4, vB HB, vT HK⟩

/-! ### laws_heldFallS: function 48 -/
def laws_heldFallS.l0 : Nat → List (S27) → Int → Int → Option (Int)
 | 0, _, _, _ => none
 | k + 1, x0, x1, x5 => if x5 < (x0.length : Int) then (if 0 ≤ x5 then (if ((rd_T27 x0 x5).f0) = x1 then (if ((rd_T27 x0 x5).f1) = (wrap64 (x1 + 1)) then (if ((rd_T27 x0 x5).f2) = (wrap64 ((wrap64 (x1 + 1)) + 1)) then (laws_heldFallS.l0 k x0 (wrap64 ((wrap64 ((wrap64 (x1 + 1)) + 1)) + 1)) (wrap64 (x5 + 1))) else (some (-1))) else (some (-1))) else (some (-1))) else (none)) else (some x1)
def laws_heldFallS.f (k : Nat) (l0 : List (S27)) (a1 : Int) : Option (Int) := laws_heldFallS.l0 k l0 a1 0
set_option maxHeartbeats 8000000 in
set_option maxRecDepth 100000 in
theorem laws_heldFallS.calls (k : Nat) (A0 : Option Addr) (c0 : Nat) (l0 : List (S27)) (a1 : Int) (r : Int) (w : World) (hr0 : Kd.C k27 w A0 l0.length l0) (hc0 : l0.length ≤ c0) (h : laws_heldFallS.f k l0 a1 = some r) :
 Calls Try.prog 48 #[.slice A0 l0.length c0, .int .i64 a1] w fun e w' => e = .returned (.int .i64 r) ∧ Drawn0 w w' := by
 have Af := Z.m hr0
 have Ap := Z.m hc0
 clear hr0 hc0
 have H : (laws_heldFallS.l0 k l0 a1 0) = some r := h
 clear h
 have H' := Z.m H
 clear H
 go_enter Try.func48, Try.ntmps48
 go_wp2
 go_loopg [1, 5] k (fun kq v1 v5 w' => ∃ (Ab : Int) (A1 : Int), v1 = .int .i64 Ab ∧ v5 = .int .i64 A1 ∧ Z (laws_heldFallS.l0 kq l0 Ab A1 = some r) ∧ Z (kq ≤ k) ∧ Drawn0 w w')
 case atStart => exact ⟨(a1), (0), (by first | rfl | (simp; done) | (simp [*]; done)), (by first | rfl | (simp; done) | (simp [*]; done)), H', ⟨Nat.le_refl _⟩, by repeat (first | exact Drawn0.refl _ | apply Drawn0.step)⟩
 case round =>
  clear H'
  obtain ⟨Ab, A1, rfl, rfl, HA, An, ⟨m1, rfl⟩⟩ := hrel
  cases gk with
  | zero => exact absurd HA.o (by simp [laws_heldFallS.l0])
  | succ k1 =>
   have H := HA.o
   clear HA
   simp only [laws_heldFallS.l0] at H
   by_cases c3 : A1 < (l0.length : Int)
   ·rw [if_pos c3] at H
    have Ag := decide_eq_true c3
    clear c3
    by_cases c4 : 0 ≤ A1
    ·rw [if_pos c4] at H
     have Ao := decide_eq_true c4
     clear c4
     by_cases c5 : ((rd_T27 l0 A1).f0) = Ab
     ·rw [if_pos c5] at H
      have Ah := beq_iff_eq.mpr c5
      have Ai := bne_eq_false_iff_eq.mpr c5
      clear c5
      by_cases c6 : ((rd_T27 l0 A1).f1) = (wrap64 (Ab + 1))
      ·rw [if_pos c6] at H
       have Aj := beq_iff_eq.mpr c6
       have Ak := bne_eq_false_iff_eq.mpr c6
       clear c6
       by_cases c7 : ((rd_T27 l0 A1).f2) = (wrap64 ((wrap64 (Ab + 1)) + 1))
       ·rw [if_pos c7] at H
        have Al := beq_iff_eq.mpr c7
        have Am := bne_eq_false_iff_eq.mpr c7
        clear c7
        have H' := Z.m H
        clear H
        have p1076 : 0 ≤ (A1 : Int) := ofD
        have q1076 : A1 < (l0.length : Int) := ofD
        obtain ⟨A2, e1076, A4, A5, A6⟩ := at_T27 Af.o A1 p1076 q1076
        cases e1076
        replace p1076 := eq_true p1076
        replace q1076 := eq_true q1076
        have p1077 : 0 ≤ (A1 : Int) := ofD
        have q1077 : A1 < (l0.length : Int) := ofD
        obtain ⟨A3, e1077, A7, A8, A9⟩ := at_T27 Af.o A1 p1077 q1077
        obtain rfl : A2 = A3 := (by injection e1077)
        replace p1077 := eq_true p1077
        replace q1077 := eq_true q1077
        have p1078 : 0 ≤ (A1 : Int) := ofD
        have q1078 : A1 < (l0.length : Int) := ofD
        obtain ⟨Aa, e1078, Ac, Ad, Ae⟩ := at_T27 Af.o A1 p1078 q1078
        obtain rfl : A2 = Aa := (by injection e1078)
        replace p1078 := eq_true p1078
        replace q1078 := eq_true q1078
        go_wp2
        go_roundg k1
        case measure => have := An.o; omega
        case rel => exact ⟨(wrap64 ((wrap64 ((wrap64 (Ab + 1)) + 1)) + 1)), (wrap64 (A1 + 1)), (by first | rfl | (simp; done) | (simp [*]; done)), (by first | rfl | (simp; done) | (simp [*]; done)), H', ⟨by have := An.o; omega⟩, by repeat (first | exact Drawn0.refl _ | apply Drawn0.step)⟩
       ·rw [if_neg c7] at H
        have Al := beq_eq_false_iff_ne.mpr c7
        have Am := bne_iff_ne.mpr c7
        obtain rfl := Option.some.inj H
        have p1076 : 0 ≤ (A1 : Int) := ofD
        have q1076 : A1 < (l0.length : Int) := ofD
        obtain ⟨A2, e1076, A4, A5, A6⟩ := at_T27 Af.o A1 p1076 q1076
        cases e1076
        replace p1076 := eq_true p1076
        replace q1076 := eq_true q1076
        have p1077 : 0 ≤ (A1 : Int) := ofD
        have q1077 : A1 < (l0.length : Int) := ofD
        obtain ⟨A3, e1077, A7, A8, A9⟩ := at_T27 Af.o A1 p1077 q1077
        obtain rfl : A2 = A3 := (by injection e1077)
        replace p1077 := eq_true p1077
        replace q1077 := eq_true q1077
        have p1078 : 0 ≤ (A1 : Int) := ofD
        have q1078 : A1 < (l0.length : Int) := ofD
        obtain ⟨Aa, e1078, Ac, Ad, Ae⟩ := at_T27 Af.o A1 p1078 q1078
        obtain rfl : A2 = Aa := (by injection e1078)
        replace p1078 := eq_true p1078
        replace q1078 := eq_true q1078
        go_wp2
        go_ret
        exact ⟨by first | rfl | (simp; done) | (simp [*]; done), by repeat (first | exact Drawn0.refl _ | apply Drawn0.step)⟩
      ·rw [if_neg c6] at H
       have Aj := beq_eq_false_iff_ne.mpr c6
       have Ak := bne_iff_ne.mpr c6
       obtain rfl := Option.some.inj H
       have p1076 : 0 ≤ (A1 : Int) := ofD
       have q1076 : A1 < (l0.length : Int) := ofD
       obtain ⟨A2, e1076, A4, A5, A6⟩ := at_T27 Af.o A1 p1076 q1076
       cases e1076
       replace p1076 := eq_true p1076
       replace q1076 := eq_true q1076
       have p1077 : 0 ≤ (A1 : Int) := ofD
       have q1077 : A1 < (l0.length : Int) := ofD
       obtain ⟨A3, e1077, A7, A8, A9⟩ := at_T27 Af.o A1 p1077 q1077
       obtain rfl : A2 = A3 := (by injection e1077)
       replace p1077 := eq_true p1077
       replace q1077 := eq_true q1077
       go_wp2
       go_ret
       exact ⟨by first | rfl | (simp; done) | (simp [*]; done), by repeat (first | exact Drawn0.refl _ | apply Drawn0.step)⟩
     ·rw [if_neg c5] at H
      have Ah := beq_eq_false_iff_ne.mpr c5
      have Ai := bne_iff_ne.mpr c5
      obtain rfl := Option.some.inj H
      have p1076 : 0 ≤ (A1 : Int) := ofD
      have q1076 : A1 < (l0.length : Int) := ofD
      obtain ⟨A2, e1076, A4, A5, A6⟩ := at_T27 Af.o A1 p1076 q1076
      cases e1076
      replace p1076 := eq_true p1076
      replace q1076 := eq_true q1076
      go_wp2
      go_ret
      exact ⟨by first | rfl | (simp; done) | (simp [*]; done), by repeat (first | exact Drawn0.refl _ | apply Drawn0.step)⟩
    ·rw [if_neg c4] at H
     exact absurd H (by simp)
   ·rw [if_neg c3] at H
    have Ag := decide_eq_false c3
    clear c3
    obtain rfl := Option.some.inj H
    go_wp2
    go_ret
    exact ⟨by first | rfl | (simp; done) | (simp [*]; done), by repeat (first | exact Drawn0.refl _ | apply Drawn0.step)⟩

end Go.Proofs.Ytoklfgjemfojgaa.PAll
