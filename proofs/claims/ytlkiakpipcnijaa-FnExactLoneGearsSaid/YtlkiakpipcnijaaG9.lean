/- Began as a text that print.sh wrote (of the functions named below); turned and shortened by this session. -/
import Derived.Test.YtlkiakpipcnijaaG0
import Derived.Test.YtlkiakpipcnijaaG6
import Derived.Test.YtlkiakpipcnijaaG7
import Derived.Test.YtlkiakpipcnijaaG8
namespace Go.Proofs.Ytlkiakpipcnijaa.PAll
open Go.RowKit Go.Proofs.YtlkiakpipcnijaaW.PrintWords Go.Proofs.YtlkiakpipcnijaaW.PrintLast Go.Proofs.YtlkiakpipcnijaaW.PrintMore
attribute [local go_sem] max2_int min2_int max_two min_two max_three min_three max_four min_four   -- for this text's walks alone
set_option linter.unusedVariables false
set_option linter.unusedSimpArgs false

/-! ### spec_LoneGears: function 39 -/
def spec_LoneGears.l0 : Nat → List Int → List (List Int) → List Int → List (S71) → Int → Int → Option (List Int × Bool)
 | 0, _, _, _, _, _, _ => none
 | k + 1, x4, x5, x6, x17, x18, x19 => if x19 < x18 then (if 0 ≤ x19 then (if x19 < (x17.length : Int) then (if ((rd_T71 x17 x19).f0) = 6 then (if x19 < (x4.length : Int) then (if 0 ≤ (rd x4 x19) then (if (rd x4 x19) < (x5.length : Int) then (if 0 < ((rd_L3 x5 (rd x4 x19)).length : Int) then (if 1 < ((rd_L3 x5 (rd x4 x19)).length : Int) then (if (wrap64 ((rd (rd_L3 x5 (rd x4 x19)) 0) + (rd (rd_L3 x5 (rd x4 x19)) 1))) = 1 then (if x6.length < 17592186044416 then (spec_LoneGears.l0 k x4 x5 (x6 ++ [x19]) x17 x18 (wrap64 (x19 + 1))) else (none)) else (spec_LoneGears.l0 k x4 x5 x6 x17 x18 (wrap64 (x19 + 1)))) else (none)) else (none)) else (none)) else (none)) else (none)) else (spec_LoneGears.l0 k x4 x5 x6 x17 x18 (wrap64 (x19 + 1)))) else (none)) else (none)) else (some (x6, true))
def spec_LoneGears.f (k : Nat) (a0_0 : Int) (a0_1 : Int) (l0_2 : List (S71)) : Option (List Int × Bool) := (spec_boGood.f k a0_0 a0_1 l0_2).bind fun t211 => (if t211 = true then ((spec_ggGroups.f k a0_0 a0_1 l0_2).bind fun t212 => ((spec_ggGears.f k a0_0 a0_1 l0_2).bind fun t215 => (spec_LoneGears.l0 k t212 t215 ([] : List Int) l0_2 (l0_2.length : Int) 0))) else (some (([] : List Int), false)))
def spec_LoneGears.T8 : Bool × List (List Nat × List Nat) := (true, [([], []), ([0], [0]), ([1], [1]), ([2], [2]), ([3], [3]), ([3], [3]), ([3], [3]), ([5, 6, 3], [3, 5, 6]), ([7, 3], [3, 7]), ([4, 8, 3], [3, 4, 8]), ([9, 3], [3, 9]), ([10, 3], [3, 10]), ([11, 3], [3, 11]), ([3], [3]), ([3], [3]), ([3], [3]), ([14, 15, 3], [3, 14, 15]), ([16, 3], [3, 16]), ([13, 17, 3], [3, 13, 17]), ([18, 3], [3, 18]), ([19, 3], [3, 19]), ([20, 3], [3, 20]), ([12, 21, 3], [3, 12, 21]), ([22, 3], [3, 22]), ([3, 23], [3, 23])])
def spec_LoneGears.B8 : List Nat := [0, 1, 3, 7, 15, 15, 15, 111, 239, 511, 1023, 2047, 4095, 15, 15, 15, 49167, 114703, 253967, 516111, 1040399, 2088975, 4194303, 8388607, 16777215]
theorem spec_LoneGears.tab8 : rtab .any (opsOf Try.f39 8) = spec_LoneGears.T8 := by kernel_rfl
theorem spec_LoneGears.bits8 : waitsOk spec_LoneGears.T8.2 spec_LoneGears.B8 = true := by kernel_rfl
set_option maxHeartbeats 60000000 in
set_option maxRecDepth 100000 in
theorem spec_LoneGears.calls (k : Nat) (a0_0 : Int) (a0_1 : Int) (A0_2 : Option Addr) (c0_2 : Nat) (l0_2 : List (S71)) (r1 : List Int) (r2 : Bool) (w : World) (hr0_2 : Kd.C k71 w A0_2 l0_2.length l0_2) (hc0_2 : l0_2.length ≤ c0_2) (h : spec_LoneGears.f k a0_0 a0_1 l0_2 = some (r1, r2)) :
 Calls Try.prog 39 #[.agg #[.int .i64 a0_0, .int .i64 a0_1, .slice A0_2 l0_2.length c0_2]] w fun e w' => ∃ v0_ : Value, e = .returned (.tuple #[v0_, .bool r2]) ∧ Kd.R (Kd.int .i64) 3 w' w.heap.size (fun _ => True) v0_ r1 ∧ Below w.heap.size w w' := by
 have Ce := Try.underlying30
 have Cf := Try.underlying71
 have Av := Z.m hr0_2
 have AC := Z.m hc0_2
 clear hr0_2 hc0_2
 have HB := Z.m (Below.refl w.heap.size w)
 have H : ((spec_boGood.f k a0_0 a0_1 l0_2).bind fun AQ => (if AQ = true then ((spec_ggGroups.f k a0_0 a0_1 l0_2).bind fun A6 => ((spec_ggGears.f k a0_0 a0_1 l0_2).bind fun A8 => (spec_LoneGears.l0 k A6 A8 ([] : List Int) l0_2 (l0_2.length : Int) 0))) else (some (([] : List Int), false)))) = some (r1, r2) := h
 clear h
 replace H := Option.bind_eq_some_iff.mp H
 obtain ⟨AQ, BO, H⟩ := H
 replace H : (if AQ = true then ((spec_ggGroups.f k a0_0 a0_1 l0_2).bind fun A6 => ((spec_ggGears.f k a0_0 a0_1 l0_2).bind fun A8 => (spec_LoneGears.l0 k A6 A8 ([] : List Int) l0_2 (l0_2.length : Int) 0))) else (some (([] : List Int), false))) = some (r1, r2) := H
 have A2 := Z.m BO
 clear BO
 by_cases c3 : AQ = true
 ·subst c3
  have H1 : ((spec_ggGroups.f k a0_0 a0_1 l0_2).bind fun A6 => ((spec_ggGears.f k a0_0 a0_1 l0_2).bind fun A8 => (spec_LoneGears.l0 k A6 A8 ([] : List Int) l0_2 (l0_2.length : Int) 0))) = some (r1, r2) := by rw [if_pos rfl] at H; exact H
  clear H
  have H := H1
  clear H1
  replace H := Option.bind_eq_some_iff.mp H
  obtain ⟨A6, BP, H⟩ := H
  replace H : ((spec_ggGears.f k a0_0 a0_1 l0_2).bind fun A8 => (spec_LoneGears.l0 k A6 A8 ([] : List Int) l0_2 (l0_2.length : Int) 0)) = some (r1, r2) := H
  have A4 := Z.m BP
  clear BP
  replace H := Option.bind_eq_some_iff.mp H
  obtain ⟨A8, BQ, H⟩ := H
  replace H : (spec_LoneGears.l0 k A6 A8 ([] : List Int) l0_2 (l0_2.length : Int) 0) = some (r1, r2) := H
  have A5 := Z.m BQ
  clear BQ
  have H' := Z.m H
  clear H
  go_enter Try.func39, Try.ntmps39
  try go_wp2_with (first | ((with_reducible refine gq (N := 1) rfl ?_); refine be (N := 1) (cs := #[.int .i64 a0_0, .int .i64 a0_1, .slice A0_2 l0_2.length c0_2]) (t := 30) ?_; intro Ap hg w6 hbox hb; have A1 := Z.m (hbox); have AE := gW (w := w) HB hg; have Bc := AE; replace HB := bB HB hb; clear hb hbox hg; have AV := bc0 A1; have AW := bc1 A1; have AX := bc2 A1; have AY := qz A1.o 0; have AZ := qz A1.o 1; have B0 := qz A1.o 2) | ((with_reducible refine gc (f := 59) rfl ?_); refine gA (some 10) _ #[.agg #[.int .i64 a0_0, .int .i64 a0_1, .slice A0_2 l0_2.length c0_2]] ?_ Try.func59; (with_reducible refine (spec_boGood.calls k a0_0 a0_1 _ _ l0_2 true _ ?side1 ?side2 A2.o).mono ?_); (case side1 => repeat (first | exact (Kd.C_below Av.o HB.o) | (with_reducible refine Kd.C_alloc ?_ _) | (with_reducible refine Kd.C_drewN ?_ _) | (with_reducible refine Kd.C_drew ?_))); (case side2 => exact AC.o); rintro e w8 ⟨rfl, hb⟩; refine ⟨_, rfl, ?_⟩; replace A1 := kB A1 hb; replace HB := bB HB hb; (try clear hb); (try clear Cd); (try clear hk); (try clear hi)))
  replace A1 := Z.m (blk_drew A1.o)
  replace HB := Z.m (qd HB.o)
  refine start_ (n := 6) (S := fun w' => w'.cell? ⟨Ap, 0, none⟩ = some (.int .i64 a0_0) ∧ w'.cell? ⟨Ap, 1, none⟩ = some (.int .i64 a0_1) ∧ w'.cell? ⟨Ap, 2, none⟩ = some (.slice A0_2 l0_2.length c0_2)) (ds := []) #[false, false, false, false, false, false] (by kernel_rfl) rfl rfl ⟨(ql A1.o 0).trans rfl, (ql A1.o 1).trans rfl, (ql A1.o 2).trans rfl⟩ (fun hHeld => ?_)
  generalize w8.drew = w9 at A1 HB hHeld ⊢
  refine take_ (i := 0) (N := some 12) (v := ?_) (a' := ?_) #[true, false, false, false, false, false] rfl rfl (by kernel_rfl) (fun _ _ _ h => h) (Or.inl ⟨by rfl, ?_⟩) hHeld ?_ ?_
  rotate_left
  ·rintro w' ⟨s0, s1, s2⟩
   go_simp
   with_reducible rfl
  rotate_left
  ·simp only [Act.put, q1, q2, q3, i64_w, i32_w]
   rfl
  refine take_ (i := 2) (N := some 14) (v := ?_) (a' := ?_) #[true, false, true, false, false, false] rfl rfl (by kernel_rfl) (fun _ _ _ h => h) (Or.inl ⟨by rfl, ?_⟩) hHeld ?_ ?_
  rotate_left
  ·rintro w' ⟨s0, s1, s2⟩
   go_simp
   with_reducible rfl
  rotate_left
  ·simp only [Act.put, q1, q2, q3, i64_w, i32_w]
   rfl
  refine one_ (i := 1) (N := some 13) #[true, true, true, false, false, false] rfl rfl (by kernel_rfl) (by decide) (fun K hK => ?_)
  refine goes_ Try.func54 (by kernel_rfl) rfl #[.agg #[.int .i64 a0_0, .int .i64 a0_1, .slice A0_2 l0_2.length c0_2]] (by rfl) rfl rfl (by (try simp only [List.map_toArray, List.map_cons, List.map_nil]); first | done | rfl | (simp only [List.length_drop, List.length_take]; rfl)) ?_
  with_reducible refine (spec_ggGroups.calls k a0_0 a0_1 _ _ l0_2 A6 _ ?side1 ?side2 A4.o).mono ?_
  (case side1 => repeat (first | exact (Kd.C_below Av.o HB.o) | (with_reducible refine Kd.C_alloc ?_ _) | (with_reducible refine Kd.C_drewN ?_ _) | (with_reducible refine Kd.C_drew ?_)))
  (case side2 => exact AC.o)
  rintro e Cl ⟨Au, rfl, Bu, hb⟩
  refine ⟨_, rfl, ?_⟩
  have AD := Z.m (Kd.R_lower Bu (below_size (vB HB)))
  replace A1 := kB A1 hb
  replace HB := bB HB hb
  (try clear hb); (try clear Bu)
  refine hK.out _ _ ⟨(ql A1.o 0).trans rfl, (ql A1.o 1).trans rfl, (ql A1.o 2).trans rfl⟩ (fun hHeld => ?_)
  clear hK K
  refine norm_ (a' := ?_) ?_ ?_
  rotate_left
  ·show Act.put _ (some 13) _ = _
   simp only [Act.put, q1, q2, q3, i64_w, i32_w]
   rfl
  refine one_ (i := 3) (N := some 15) #[true, true, true, true, false, false] rfl rfl (by kernel_rfl) (by decide) (fun K hK => ?_)
  refine goes_ Try.func68 (by kernel_rfl) rfl #[.agg #[.int .i64 a0_0, .int .i64 a0_1, .slice A0_2 l0_2.length c0_2]] (by rfl) rfl rfl (by (try simp only [List.map_toArray, List.map_cons, List.map_nil]); first | done | rfl | (simp only [List.length_drop, List.length_take]; rfl)) ?_
  with_reducible refine (spec_ggGears.calls k a0_0 a0_1 _ _ l0_2 A8 _ ?side1 ?side2 A5.o).mono ?_
  (case side1 => repeat (first | exact (Kd.C_below Av.o HB.o) | (with_reducible refine Kd.C_alloc ?_ _) | (with_reducible refine Kd.C_drewN ?_ _) | (with_reducible refine Kd.C_drew ?_)))
  (case side2 => exact AC.o)
  rintro e Cm ⟨AR, rfl, Bu, hb⟩
  refine ⟨_, rfl, ?_⟩
  have Bd := Z.m (Kd.S_lower (Kd.S_new' Bu (Kd.R_lt (vR AD))) (below_size (vB HB)))
  replace AD := Z.m (Kd.Rb (vR AD) hb)
  replace A1 := kB A1 hb
  replace HB := bB HB hb
  (try clear hb); (try clear Bu)
  refine hK.out _ _ ⟨(ql A1.o 0).trans rfl, (ql A1.o 1).trans rfl, (ql A1.o 2).trans rfl⟩ (fun hHeld => ?_)
  clear hK K
  refine norm_ (a' := ?_) ?_ ?_
  rotate_left
  ·show Act.put _ (some 15) _ = _
   simp only [Act.put, q1, q2, q3, i64_w, i32_w]
   rfl
  refine pure_ (i := 4) (N := some 4) (v := ?_) (a' := ?_) #[true, true, true, true, true, false] rfl rfl (by kernel_rfl) (fun _ _ _ h => h) (Or.inl ⟨by rfl, ?_⟩) ?_ ?_
  rotate_left
  ·intro w'
   go_simp
   with_reducible rfl
  rotate_left
  ·simp only [Act.put, q1, q2, q3, i64_w, i32_w]
   rfl
  refine pure_ (i := 5) (N := some 5) (v := ?_) (a' := ?_) #[true, true, true, true, true, true] rfl rfl (by kernel_rfl) (fun _ _ _ h => h) (Or.inl ⟨by rfl, ?_⟩) ?_ ?_
  rotate_left
  ·intro w'
   go_simp
   with_reducible rfl
  rotate_left
  ·simp only [Act.put, q1, q2, q3, i64_w, i32_w]
   rfl
  refine done_ (by kernel_rfl) ?_
  have AK := bc0 A1
  have AL := bc1 A1
  have AM := bc2 A1
  have AN := qz A1.o 0
  have AO := qz A1.o 1
  have AP := qz A1.o 2
  try go_wp2
  go_loopg [6, 19] k (fun kq v6 v19 w' => ∃ (Ay : List Int) (A0 : Int), v19 = .int .i64 A0 ∧ Z (spec_LoneGears.l0 kq A6 A8 Ay l0_2 (l0_2.length : Int) A0 = some (r1, r2)) ∧ Z (kq ≤ k) ∧ Z (Kd.R (Kd.int .i64) 3 w' w.heap.size (fun k_ => some k_ ≠ (v6 : Value).ownBlock) Au A6) ∧ Z (Kd.S (Kd.slice 3 (Kd.int .i64)) 38 w' w.heap.size (fun k_ => some k_ ≠ (Au : Value).ownBlock ∧ some k_ ≠ (v6 : Value).ownBlock) AR A8) ∧ Z (Kd.R (Kd.int .i64) 3 w' w.heap.size (fun k_ => some k_ ≠ (Au : Value).ownBlock) v6 Ay) ∧ Z (w'.heap[Ap]? = some (.cells #[.int .i64 a0_0, .int .i64 a0_1, (.slice A0_2 l0_2.length c0_2)] 30 (0, 0))) ∧ Z (Below w.heap.size w w'))
  case atStart => exact ⟨(([] : List Int)), (0), (by first | rfl | (simp; done) | (simp [*]; done)), H', ⟨Nat.le_refl _⟩, ⟨by refine rK ?_; exact Kd.Rm AD.o (fun _ hk => (by simp [Value.ownBlock]))⟩, ⟨by (with_reducible repeat (first | apply Kd.S_alloc | apply Kd.S_drewN | apply Kd.S_drew)); exact Kd.S_mono Bd.o (fun _ hk => ⟨hk.2, (by simp [Value.ownBlock])⟩)⟩, ⟨by first | exact Kd.R_nil _ _ _ _ _ | exact Kd.N_nil _ _ _ _ _ | exact Kd.V_nil _ _ _ _ _ | exact Kd.Q_nil _ _ _ _ _ | exact Kd.S_nil _ _ _ _ _⟩, ⟨vK A1⟩, ⟨vB HB⟩⟩
  case round =>
   clear H'
   (try clear c3)
   (try clear AK); (try clear AL); (try clear AM); (try clear AV); (try clear AW); (try clear AX); (try clear AN); (try clear AO)
   (try clear AP); (try clear AY); (try clear AZ); (try clear B0)
   obtain ⟨Ay, A0, rfl, HA, Bb, Aa, A9, Ab, A1, HB⟩ := hrel
   cases gk with
   | zero => exact absurd HA.o (by simp [spec_LoneGears.l0])
   | succ k1 =>
    have H := HA.o
    clear HA
    simp only [spec_LoneGears.l0] at H
    by_cases c13 : A0 < (l0_2.length : Int)
    ·rw [if_pos c13] at H
     have Bi := decide_eq_true c13
     clear c13
     by_cases c14 : 0 ≤ A0
     ·rw [if_pos c14] at H
      have BR := decide_eq_true c14
      clear c14
      by_cases c15 : A0 < (l0_2.length : Int)
      ·rw [if_pos c15] at H
       have BS := decide_eq_true c15
       clear c15
       by_cases c16 : ((rd_T71 l0_2 A0).f0) = 6
       ·rw [if_pos c16] at H
        have Bj := beq_iff_eq.mpr c16
        have Bk := bne_eq_false_iff_eq.mpr c16
        clear c16
        by_cases c17 : A0 < (A6.length : Int)
        ·rw [if_pos c17] at H
         have BT := decide_eq_true c17
         clear c17
         by_cases c18 : 0 ≤ (rd A6 A0)
         ·rw [if_pos c18] at H
          have BU := decide_eq_true c18
          clear c18
          by_cases c19 : (rd A6 A0) < (A8.length : Int)
          ·rw [if_pos c19] at H
           have BV := decide_eq_true c19
           clear c19
           by_cases c20 : 0 < ((rd_L3 A8 (rd A6 A0)).length : Int)
           ·rw [if_pos c20] at H
            have BW := decide_eq_true c20
            have BX : decide (0 < (rd_L3 A8 (rd A6 A0)).length) = true := decide_eq_true (by omega)
            clear c20
            by_cases c21 : 1 < ((rd_L3 A8 (rd A6 A0)).length : Int)
            ·rw [if_pos c21] at H
             have BY := decide_eq_true c21
             have BZ : decide (1 < (rd_L3 A8 (rd A6 A0)).length) = true := decide_eq_true (by omega)
             clear c21
             by_cases c22 : (wrap64 ((rd (rd_L3 A8 (rd A6 A0)) 0) + (rd (rd_L3 A8 (rd A6 A0)) 1))) = 1
             ·rw [if_pos c22] at H
              have Bl := beq_iff_eq.mpr c22
              have Bm := bne_eq_false_iff_eq.mpr c22
              clear c22
              by_cases c23 : Ay.length < 17592186044416
              ·rw [if_pos c23] at H
               have Bf := Z.m c23
               clear c23
               obtain ⟨Bv, AB⟩ : ∃ y_ : List Int, y_ = (Ay ++ [A0]) := ⟨_, rfl⟩
               replace H : (spec_LoneGears.l0 k1 A6 A8 Bv l0_2 (l0_2.length : Int) (wrap64 (A0 + 1))) = some (r1, r2) := by first | (rw [AB]; with_reducible exact H) | (have H2_ := (Option.bind_some _ _).symm.trans H; rw [AB]; with_reducible exact H2_) | (have H2_ := (Option.bind_some _ _).symm.trans H; with_reducible exact H2_) | with_reducible exact H | (rw [AB]; exact H) | exact H
               have Bg := Z.m AB
               clear AB
               have H' := Z.m H
               clear H
               have p218 : 0 ≤ (A0 : Int) := ofD
               have q218 : A0 < (l0_2.length : Int) := ofD
               obtain ⟨Az, e218, Ad, Ae⟩ := at_T71 Av.o A0 p218 q218
               cases e218
               replace Ad := (HB.o.cell (World.block_lt_of_cell? w _ Ad)).trans Ad
               replace Ae := (HB.o.cell (World.block_lt_of_cell? w _ Ae)).trans Ae
               replace p218 := eq_true p218
               replace q218 := eq_true q218
               try go_wp2_with (first | ((with_reducible refine gq (N := 8) rfl ?_); refine be (N := 8) (cs := #[.int .i64 0, .int .i64 0]) (t := 71) ?_; intro A3 hg B2 hbox hb; have A7 := Z.m (hbox); have AA := gW (w := w) HB hg; have AS := AA; have Ac := neL A1 hg; have Aj := neG A1 hg; replace Aa := Z.m (Kd.Rb (vR Aa) hb); replace A9 := Z.m (Kd.S_below (vS A9) hb); replace Ab := Z.m (Kd.Rb (vR Ab) hb); replace A1 := kB A1 hb; replace HB := bB HB hb; clear hb hbox hg; have C0 := Aj.o; have C3 := Ac.o; have Bw := bc0 A7; have Bx := bc1 A7; have BF := qz A7.o 0; have BG := qz A7.o 1))
               have n0_ : Z (Kd.R (Kd.int .i64) 3 ((B2.setCell ⟨A3, 0, none⟩ (.int .i64 ((rd_T71 l0_2 A0).f0))).setCell ⟨A3, 1, none⟩ (.int .i64 ((rd_T71 l0_2 A0).f1))) w.heap.size (fun k_ => some k_ ≠ (u6 : Value).ownBlock) Au A6) := ⟨by refine rK ?_; exact Kd.Rm (rf (rf (Kd.Ry Aa.o A7.o (by decide)))) (fun _ hk => hk.1)⟩
               have n1_ : Z (Kd.S (Kd.slice 3 (Kd.int .i64)) 38 ((B2.setCell ⟨A3, 0, none⟩ (.int .i64 ((rd_T71 l0_2 A0).f0))).setCell ⟨A3, 1, none⟩ (.int .i64 ((rd_T71 l0_2 A0).f1))) w.heap.size (fun k_ => some k_ ≠ (Au : Value).ownBlock ∧ some k_ ≠ (u6 : Value).ownBlock) AR A8) := ⟨by (with_reducible repeat (first | apply Kd.S_alloc | apply Kd.S_drewN | apply Kd.S_drew)); exact Kd.S_mono (Kd.S_far (p := ⟨A3, 1, none⟩) (Kd.S_far (p := ⟨A3, 0, none⟩) (Kd.S_types A9.o A7.o (by decide)) (fun _ hk => hk.2) (.int .i64 ((rd_T71 l0_2 A0).f0))) (fun _ hk => hk.2) (.int .i64 ((rd_T71 l0_2 A0).f1))) (fun _ hk => ⟨hk.1.1, hk.1.2⟩)⟩
               have n2_ : Z (Kd.R (Kd.int .i64) 3 ((B2.setCell ⟨A3, 0, none⟩ (.int .i64 ((rd_T71 l0_2 A0).f0))).setCell ⟨A3, 1, none⟩ (.int .i64 ((rd_T71 l0_2 A0).f1))) w.heap.size (fun k_ => some k_ ≠ (Au : Value).ownBlock) u6 Ay) := ⟨by refine rK ?_; exact Kd.Rm (rf (rf (Kd.Ry Ab.o A7.o (by decide)))) (fun _ hk => hk.1)⟩
               have n3_ : Z (((B2.setCell ⟨A3, 0, none⟩ (.int .i64 ((rd_T71 l0_2 A0).f0))).setCell ⟨A3, 1, none⟩ (.int .i64 ((rd_T71 l0_2 A0).f1))).heap[Ap]? = some (.cells #[.int .i64 a0_0, .int .i64 a0_1, .slice (some Az) l0_2.length c0_2] 30 (0, 0))) := ⟨by refine bK ?_; (iterate 2 refine qF ?_ Ac); exact A1.o⟩
               have n4_ : Z (((B2.setCell ⟨A3, 0, none⟩ (.int .i64 ((rd_T71 l0_2 A0).f0))).setCell ⟨A3, 1, none⟩ (.int .i64 ((rd_T71 l0_2 A0).f1))).heap[A3]? = some (.cells #[.int .i64 ((rd_T71 l0_2 A0).f0), .int .i64 ((rd_T71 l0_2 A0).f1)] 71 (0, 0))) := ⟨by refine bK ?_; refine qp (cs := #[iV ((rd_T71 l0_2 A0).f0), iV 0]) ?_ 1 _ rfl; refine bK ?_; refine qp (cs := #[iV 0, iV 0]) ?_ 0 _ rfl; refine bK ?_; exact A7.o⟩
               have n5_ : Z (Below w.heap.size w ((B2.setCell ⟨A3, 0, none⟩ (.int .i64 ((rd_T71 l0_2 A0).f0))).setCell ⟨A3, 1, none⟩ (.int .i64 ((rd_T71 l0_2 A0).f1)))) := ⟨vB HB⟩
               (try clear Aa); (try clear A9); (try clear Ab); (try clear A1); (try clear A7); (try clear HB)
               generalize ((B2.setCell ⟨A3, 0, none⟩ (.int .i64 ((rd_T71 l0_2 A0).f0))).setCell ⟨A3, 1, none⟩ (.int .i64 ((rd_T71 l0_2 A0).f1))) = Ch at n0_ n1_ n2_ n3_ n4_ n5_ ⊢
               have Aa := n0_
               have A9 := n1_
               have Ab := n2_
               have A1 := n3_
               have A7 := n4_
               have HB := n5_
               clear n0_ n1_ n2_ n3_ n4_ n5_
               replace Aa := Z.m (Kd.R_drew Aa.o)
               replace A9 := Z.m (Kd.S_drew A9.o)
               replace Ab := Z.m (Kd.R_drew Ab.o)
               replace A1 := Z.m (blk_drew A1.o)
               replace A7 := Z.m (blk_drew A7.o)
               replace HB := Z.m (qd HB.o)
               obtain ⟨C6, AJ, Bq⟩ := Kd.R_slice Aa.o
               (first | subst Bq | (injection Bq with f1_ f2_ f3_; have f4_ := f1_.symm; have f5_ := f3_.symm; clear f1_ f2_ f3_; subst f4_; subst f5_))
               have p220 : 0 ≤ (A0 : Int) := ofD
               have q220 : A0 < (A6.length : Int) := ofD
               obtain ⟨Am, e220, As⟩ := Kd.at_int (Kd.RrZ Aa.o).2.2 A0 p220 q220
               cases e220
               replace p220 := eq_true p220
               replace q220 := eq_true q220
               obtain ⟨C7, Bp, Br⟩ := Kd.S_slice A9.o
               (first | subst Br | (injection Br with f1_ f2_ f3_; have f4_ := f1_.symm; have f5_ := f3_.symm; clear f1_ f2_ f3_; subst f4_; subst f5_))
               have p221 : 0 ≤ ((rd A6 A0) : Int) := ofD
               have q221 : (rd A6 A0) < (A8.length : Int) := ofD
               obtain ⟨Ao, AT, c221_0, e221, Af, Aq, hi221_0⟩ := at_L3 (Kd.S_reads' A9.o).2.2 (rd A6 A0) p221 q221
               cases e221
               obtain ⟨Bn, hce221, hMe221, Aw⟩ := Kd.S_get A9.o [] (rd A6 A0) p221 (by first | exact q221 | exact ofD | (have e_ := (Kd.S_reads' A9.o).1; omega))
               obtain ⟨ve221_0, rfl, ge221_0⟩ := hMe221
               have hv221_0 := Aw 0 _ rfl
               rw [Nat.add_zero, show ((Kd.slice 3 (Kd.int .i64))).sz = 1 from rfl, Nat.mul_one] at hv221_0
               replace hv221_0 := Option.some.inj (hv221_0.symm.trans Af)
               rw [hv221_0] at ge221_0
               have HL221_0 := Z.m (show Kd.R (Kd.int .i64) 3 _ _ _ _ (rd_L3 A8 (rd A6 A0)) from ge221_0)
               clear hv221_0 ge221_0
               clear Aw hce221
               have Ak := Z.m hi221_0
               have AH := Z.m Aq
               clear hi221_0 Aq
               replace p221 := eq_true p221
               replace q221 := eq_true q221
               have p222 : 0 ≤ (0 : Int) := (by omega)
               have q222 : 0 < ((rd_L3 A8 (rd A6 A0)).length : Int) := ofD
               obtain ⟨An, e222, Ag⟩ := Kd.at_int (by repeat (first | (with_reducible exact Ak.o) | (with_reducible refine Kd.C_alloc ?_ _) | (with_reducible refine Kd.C_drewN ?_ _) | (with_reducible refine Kd.C_drew ?_) | exact Ak.o)) 0 p222 q222
               cases e222
               have qi222 : (0 < (rd_L3 A8 (rd A6 A0)).length) = True := eq_true (by omega)
               (try rw [show ((0 : Int)).toNat = 0 from rfl] at Ag)
               (try rw [Addr.add_zero'] at Ag)
               replace p222 := eq_true p222
               replace q222 := eq_true q222
               have p223 : 0 ≤ (A0 : Int) := ofD
               have q223 : A0 < (A6.length : Int) := ofD
               obtain ⟨AF, e223, At⟩ := Kd.at_int (Kd.RrZ Aa.o).2.2 A0 p223 q223
               obtain rfl : Am = AF := (by injection e223)
               replace p223 := eq_true p223
               replace q223 := eq_true q223
               have p224 : 0 ≤ ((rd A6 A0) : Int) := ofD
               have q224 : (rd A6 A0) < (A8.length : Int) := ofD
               obtain ⟨AG, AU, c224_0, e224, Ah, Ar, hi224_0⟩ := at_L3 (Kd.S_reads' A9.o).2.2 (rd A6 A0) p224 q224
               obtain rfl : Ao = AG := (by injection e224)
               obtain ⟨Bo, hce224, hMe224, Ax⟩ := Kd.S_get A9.o [] (rd A6 A0) p224 (by first | exact q224 | exact ofD | (have e_ := (Kd.S_reads' A9.o).1; omega))
               obtain ⟨ve224_0, rfl, ge224_0⟩ := hMe224
               have hv224_0 := Ax 0 _ rfl
               rw [Nat.add_zero, show ((Kd.slice 3 (Kd.int .i64))).sz = 1 from rfl, Nat.mul_one] at hv224_0
               replace hv224_0 := Option.some.inj (hv224_0.symm.trans Ah)
               rw [hv224_0] at ge224_0
               have HL224_0 := Z.m (show Kd.R (Kd.int .i64) 3 _ _ _ _ (rd_L3 A8 (rd A6 A0)) from ge224_0)
               clear hv224_0 ge224_0
               clear Ax hce224
               have Al := Z.m hi224_0
               have AI := Z.m Ar
               clear hi224_0 Ar
               replace p224 := eq_true p224
               replace q224 := eq_true q224
               have ea_ := Option.some.inj (Af.symm.trans Ah)
               injection ea_ with ea_ en_ ec_
               subst ea_
               subst ec_
               clear en_
               have p225 : 0 ≤ (1 : Int) := (by omega)
               have q225 : 1 < ((rd_L3 A8 (rd A6 A0)).length : Int) := ofD
               obtain ⟨Bh, e225, Ai⟩ := Kd.at_int (by repeat (first | (with_reducible exact Al.o) | (with_reducible refine Kd.C_alloc ?_ _) | (with_reducible refine Kd.C_drewN ?_ _) | (with_reducible refine Kd.C_drew ?_) | exact Al.o)) 1 p225 q225
               cases e225
               (try simp only [show (1 : Int).toNat = 1 from rfl, Nat.reduceMul, Nat.reduceEqDiff, Go.Addr.add, ↓reduceIte] at Ai)
               have qi225 : (1 < (rd_L3 A8 (rd A6 A0)).length) = True := eq_true (by omega)
               (try rw [show ((1 : Int)).toNat = 1 from rfl] at Ai)
               replace p225 := eq_true p225
               replace q225 := eq_true q225
               refine start_ (n := 25) (S := fun w' => w'.cell? ⟨A3, 0, none⟩ = some (.int .i64 ((rd_T71 l0_2 A0).f0)) ∧ w'.cell? ⟨A3, 1, none⟩ = some (.int .i64 ((rd_T71 l0_2 A0).f1)) ∧ w'.cell? (Am.add (A0).toNat) = some (.int .i64 (rd A6 A0)) ∧ w'.cell? (Ao.add ((rd A6 A0)).toNat) = some (.slice (some An) (rd_L3 A8 (rd A6 A0)).length c221_0) ∧ w'.cell? An = some (.int .i64 (rd (rd_L3 A8 (rd A6 A0)) 0)) ∧ w'.cell? (Am.add (A0).toNat) = some (.int .i64 (rd A6 A0)) ∧ w'.cell? (Ao.add ((rd A6 A0)).toNat) = some (.slice (some An) (rd_L3 A8 (rd A6 A0)).length c221_0) ∧ w'.cell? ⟨An.block, An.off + 1, none⟩ = some (.int .i64 (rd (rd_L3 A8 (rd A6 A0)) 1))) (ds := []) #[false, false, false, false, false, false, false, false, false, false, false, false, false, false, false, false, false, false, false, false, false, false, false, false, false] (by kernel_rfl) rfl rfl ⟨(ql A7.o 0).trans rfl, (ql A7.o 1).trans rfl, As, Af, Ag, At, Ah, Ai⟩ (fun hHeld => ?_); refine with_tabW spec_LoneGears.tab8 spec_LoneGears.bits8 (fun HT_ HW_ => ?_)
               generalize Ch.drew = Cn at Aa A9 Ab A1 A7 HB HL221_0 HL224_0 Ak Al As Af Ag At Ah Ai hHeld ⊢
               refine pure_ (i := 0) (N := some 24) (v := ?_) (a' := ?_) #[true, false, false, false, false, false, false, false, false, false, false, false, false, false, false, false, false, false, false, false, false, false, false, false, false] rfl rfl (any_of HT_.o (by kernel_rfl)) (fun _ _ _ h => h) (Or.inl ⟨by rfl, ?_⟩) ?_ ?_
               rotate_left
               ·intro w'
                go_simp
                with_reducible rfl
               rotate_left
               ·simp only [Act.put, q1, q2, q3, i64_w, i32_w]
                rfl
               refine take_ (i := 1) (N := some 25) (v := ?_) (a' := ?_) #[true, true, false, false, false, false, false, false, false, false, false, false, false, false, false, false, false, false, false, false, false, false, false, false, false] rfl rfl (take_ofW HT_.o HW_.o (by kernel_rfl)) (fun _ _ _ h => h) (Or.inl ⟨by rfl, ?_⟩) hHeld ?_ ?_
               rotate_left
               ·rintro w' ⟨s0, s1, s2, s3, s4, s5, s6, s7⟩
                go_simp
                with_reducible rfl
               rotate_left
               ·simp only [Act.put, q1, q2, q3, i64_w, i32_w]
                rfl
               refine pure_ (i := 2) (N := some 26) (v := ?_) (a' := ?_) #[true, true, true, false, false, false, false, false, false, false, false, false, false, false, false, false, false, false, false, false, false, false, false, false, false] rfl rfl (any_of HT_.o (by kernel_rfl)) (fun _ _ _ h => h) (Or.inl ⟨by rfl, ?_⟩) ?_ ?_
               rotate_left
               ·intro w'
                go_simp
                with_reducible rfl
               rotate_left
               ·simp only [Act.put, q1, q2, q3, i64_w, i32_w]
                rfl
               refine pure_ (i := 3) (N := some 27) (v := ?_) (a' := ?_) #[true, true, true, true, false, false, false, false, false, false, false, false, false, false, false, false, false, false, false, false, false, false, false, false, false] rfl rfl (any_of HT_.o (by kernel_rfl)) (fun _ _ _ h => h) (Or.inl ⟨by rfl, ?_⟩) ?_ ?_
               rotate_left
               ·intro w'
                go_simp
                with_reducible rfl
               rotate_left
               ·simp only [Act.put, q1, q2, q3, i64_w, i32_w]
                rfl
               refine pure_ (i := 4) (N := some 28) (v := ?_) (a' := ?_) #[true, true, true, true, true, false, false, false, false, false, false, false, false, false, false, false, false, false, false, false, false, false, false, false, false] rfl rfl (any_of HT_.o (by kernel_rfl)) (fun _ _ _ h => h) (Or.inl ⟨by rfl, ?_⟩) ?_ ?_
               rotate_left
               ·intro w'
                go_simp
                with_reducible rfl
               rotate_left
               ·simp only [Act.put, q1, q2, q3, i64_w, i32_w]
                rfl
               refine pure_ (i := 5) (N := some 29) (v := ?_) (a' := ?_) #[true, true, true, true, true, true, false, false, false, false, false, false, false, false, false, false, false, false, false, false, false, false, false, false, false] rfl rfl (any_of HT_.o (by kernel_rfl)) (fun _ _ _ h => h) (Or.inl ⟨by rfl, ?_⟩) ?_ ?_
               rotate_left
               ·intro w'
                go_simp
                with_reducible rfl
               rotate_left
               ·simp only [Act.put, q1, q2, q3, i64_w, i32_w]
                rfl
               refine pure_ (i := 6) (N := some 30) (v := ?_) (a' := ?_) #[true, true, true, true, true, true, true, false, false, false, false, false, false, false, false, false, false, false, false, false, false, false, false, false, false] rfl rfl (any_of HT_.o (by kernel_rfl)) (fun _ _ _ h => h) (Or.inl ⟨by rfl, ?_⟩) ?_ ?_
               rotate_left
               ·intro w'
                go_simp
                with_reducible rfl
               rotate_left
               ·simp only [Act.put, q1, q2, q3, i64_w, i32_w]
                rfl
               refine pure_ (i := 7) (N := some 31) (v := ?_) (a' := ?_) #[true, true, true, true, true, true, true, true, false, false, false, false, false, false, false, false, false, false, false, false, false, false, false, false, false] rfl rfl (any_of HT_.o (by kernel_rfl)) (fun _ _ _ h => h) (Or.inl ⟨by rfl, ?_⟩) ?_ ?_
               rotate_left
               ·intro w'
                go_simp
                with_reducible rfl
               rotate_left
               ·simp only [Act.put, q1, q2, q3, i64_w, i32_w]
                rfl
               refine pure_ (i := 13) (N := some 37) (v := ?_) (a' := ?_) #[true, true, true, true, true, true, true, true, false, false, false, false, false, true, false, false, false, false, false, false, false, false, false, false, false] rfl rfl (any_of HT_.o (by kernel_rfl)) (fun _ _ _ h => h) (Or.inl ⟨by rfl, ?_⟩) ?_ ?_
               rotate_left
               ·intro w'
                go_simp
                with_reducible rfl
               rotate_left
               ·simp only [Act.put, q1, q2, q3, i64_w, i32_w]
                rfl
               refine pure_ (i := 14) (N := some 38) (v := ?_) (a' := ?_) #[true, true, true, true, true, true, true, true, false, false, false, false, false, true, true, false, false, false, false, false, false, false, false, false, false] rfl rfl (any_of HT_.o (by kernel_rfl)) (fun _ _ _ h => h) (Or.inl ⟨by rfl, ?_⟩) ?_ ?_
               rotate_left
               ·intro w'
                go_simp
                with_reducible rfl
               rotate_left
               ·simp only [Act.put, q1, q2, q3, i64_w, i32_w]
                rfl
               refine pure_ (i := 15) (N := some 39) (v := ?_) (a' := ?_) #[true, true, true, true, true, true, true, true, false, false, false, false, false, true, true, true, false, false, false, false, false, false, false, false, false] rfl rfl (any_of HT_.o (by kernel_rfl)) (fun _ _ _ h => h) (Or.inl ⟨by rfl, ?_⟩) ?_ ?_
               rotate_left
               ·intro w'
                go_simp
                with_reducible rfl
               rotate_left
               ·simp only [Act.put, q1, q2, q3, i64_w, i32_w]
                rfl
               refine pure_ (i := 16) (N := some 40) (v := ?_) (a' := ?_) #[true, true, true, true, true, true, true, true, false, false, false, false, false, true, true, true, true, false, false, false, false, false, false, false, false] rfl rfl (any_of HT_.o (by kernel_rfl)) (fun _ _ _ h => h) (Or.inl ⟨by rfl, ?_⟩) ?_ ?_
               rotate_left
               ·intro w'
                go_simp
                with_reducible rfl
               rotate_left
               ·simp only [Act.put, q1, q2, q3, i64_w, i32_w]
                rfl
               refine take_ (i := 8) (N := some 32) (v := ?_) (a' := ?_) #[true, true, true, true, true, true, true, true, true, false, false, false, false, true, true, true, true, false, false, false, false, false, false, false, false] rfl rfl (take_ofW HT_.o HW_.o (by kernel_rfl)) (fun _ _ _ h => h) (Or.inl ⟨by rfl, ?_⟩) hHeld ?_ ?_
               rotate_left
               ·rintro w' ⟨s0, s1, s2, s3, s4, s5, s6, s7⟩
                go_simp
                with_reducible rfl
               rotate_left
               ·simp only [Act.put, q1, q2, q3, i64_w, i32_w]
                rfl
               refine pure_ (i := 9) (N := some 33) (v := ?_) (a' := ?_) #[true, true, true, true, true, true, true, true, true, true, false, false, false, true, true, true, true, false, false, false, false, false, false, false, false] rfl rfl (any_of HT_.o (by kernel_rfl)) (fun _ _ _ h => h) (Or.inl ⟨by rfl, ?_⟩) ?_ ?_
               rotate_left
               ·intro w'
                go_simp
                with_reducible rfl
               rotate_left
               ·simp only [Act.put, q1, q2, q3, i64_w, i32_w]
                rfl
               refine take_ (i := 10) (N := some 34) (v := ?_) (a' := ?_) #[true, true, true, true, true, true, true, true, true, true, true, false, false, true, true, true, true, false, false, false, false, false, false, false, false] rfl rfl (take_ofW HT_.o HW_.o (by kernel_rfl)) (fun _ _ _ h => h) (Or.inl ⟨by rfl, ?_⟩) hHeld ?_ ?_
               rotate_left
               ·rintro w' ⟨s0, s1, s2, s3, s4, s5, s6, s7⟩
                go_simp
                with_reducible rfl
               rotate_left
               ·simp only [Act.put, q1, q2, q3, i64_w, i32_w]
                rfl
               refine pure_ (i := 11) (N := some 35) (v := ?_) (a' := ?_) #[true, true, true, true, true, true, true, true, true, true, true, true, false, true, true, true, true, false, false, false, false, false, false, false, false] rfl rfl (any_of HT_.o (by kernel_rfl)) (fun _ _ _ h => h) (Or.inl ⟨by rfl, ?_⟩) ?_ ?_
               rotate_left
               ·intro w'
                go_simp
                with_reducible rfl
               rotate_left
               ·simp only [Act.put, q1, q2, q3, i64_w, i32_w]
                rfl
               refine take_ (i := 12) (N := some 36) (v := ?_) (a' := ?_) #[true, true, true, true, true, true, true, true, true, true, true, true, true, true, true, true, true, false, false, false, false, false, false, false, false] rfl rfl (take_ofW HT_.o HW_.o (by kernel_rfl)) (fun _ _ _ h => h) (Or.inl ⟨by rfl, ?_⟩) hHeld ?_ ?_
               rotate_left
               ·rintro w' ⟨s0, s1, s2, s3, s4, s5, s6, s7⟩
                go_simp
                with_reducible rfl
               rotate_left
               ·simp only [Act.put, q1, q2, q3, i64_w, i32_w]
                rfl
               refine take_ (i := 17) (N := some 41) (v := ?_) (a' := ?_) #[true, true, true, true, true, true, true, true, true, true, true, true, true, true, true, true, true, true, false, false, false, false, false, false, false] rfl rfl (take_ofW HT_.o HW_.o (by kernel_rfl)) (fun _ _ _ h => h) (Or.inl ⟨by rfl, ?_⟩) hHeld ?_ ?_
               rotate_left
               ·rintro w' ⟨s0, s1, s2, s3, s4, s5, s6, s7⟩
                go_simp
                with_reducible rfl
               rotate_left
               ·simp only [Act.put, q1, q2, q3, i64_w, i32_w]
                rfl
               refine pure_ (i := 18) (N := some 42) (v := ?_) (a' := ?_) #[true, true, true, true, true, true, true, true, true, true, true, true, true, true, true, true, true, true, true, false, false, false, false, false, false] rfl rfl (any_of HT_.o (by kernel_rfl)) (fun _ _ _ h => h) (Or.inl ⟨by rfl, ?_⟩) ?_ ?_
               rotate_left
               ·intro w'
                go_simp
                with_reducible rfl
               rotate_left
               ·simp only [Act.put, q1, q2, q3, i64_w, i32_w]
                rfl
               refine take_ (i := 19) (N := some 43) (v := ?_) (a' := ?_) #[true, true, true, true, true, true, true, true, true, true, true, true, true, true, true, true, true, true, true, true, false, false, false, false, false] rfl rfl (take_ofW HT_.o HW_.o (by kernel_rfl)) (fun _ _ _ h => h) (Or.inl ⟨by rfl, ?_⟩) hHeld ?_ ?_
               rotate_left
               ·rintro w' ⟨s0, s1, s2, s3, s4, s5, s6, s7⟩
                go_simp
                with_reducible rfl
               rotate_left
               ·simp only [Act.put, q1, q2, q3, i64_w, i32_w]
                rfl
               refine pure_ (i := 20) (N := some 44) (v := ?_) (a' := ?_) #[true, true, true, true, true, true, true, true, true, true, true, true, true, true, true, true, true, true, true, true, true, false, false, false, false] rfl rfl (any_of HT_.o (by kernel_rfl)) (fun _ _ _ h => h) (Or.inl ⟨by rfl, ?_⟩) ?_ ?_
               rotate_left
               ·intro w'
                go_simp
                with_reducible rfl
               rotate_left
               ·simp only [Act.put, q1, q2, q3, i64_w, i32_w]
                rfl
               refine take_ (i := 21) (N := some 45) (v := ?_) (a' := ?_) #[true, true, true, true, true, true, true, true, true, true, true, true, true, true, true, true, true, true, true, true, true, true, false, false, false] rfl rfl (take_ofW HT_.o HW_.o (by kernel_rfl)) (fun _ _ _ h => h) (Or.inl ⟨by rfl, ?_⟩) hHeld ?_ ?_
               rotate_left
               ·rintro w' ⟨s0, s1, s2, s3, s4, s5, s6, s7⟩
                go_simp
                with_reducible rfl
               rotate_left
               ·simp only [Act.put, q1, q2, q3, i64_w, i32_w]
                rfl
               refine pure_ (i := 22) (N := some 46) (v := ?_) (a' := ?_) #[true, true, true, true, true, true, true, true, true, true, true, true, true, true, true, true, true, true, true, true, true, true, true, false, false] rfl rfl (any_of HT_.o (by kernel_rfl)) (fun _ _ _ h => h) (Or.inl ⟨by rfl, ?_⟩) ?_ ?_
               rotate_left
               ·intro w'
                go_simp
                with_reducible rfl
               rotate_left
               ·simp only [Act.put, q1, q2, q3, i64_w, i32_w]
                rfl
               refine pure_ (i := 23) (N := some 47) (v := ?_) (a' := ?_) #[true, true, true, true, true, true, true, true, true, true, true, true, true, true, true, true, true, true, true, true, true, true, true, true, false] rfl rfl (any_of HT_.o (by kernel_rfl)) (fun _ _ _ h => h) (Or.inl ⟨by rfl, ?_⟩) ?_ ?_
               rotate_left
               ·intro w'
                go_simp
                with_reducible rfl
               rotate_left
               ·simp only [Act.put, q1, q2, q3, i64_w, i32_w]
                rfl
               refine pure_ (i := 24) (N := some 48) (v := ?_) (a' := ?_) #[true, true, true, true, true, true, true, true, true, true, true, true, true, true, true, true, true, true, true, true, true, true, true, true, true] rfl rfl (any_of HT_.o (by kernel_rfl)) (fun _ _ _ h => h) (Or.inl ⟨by rfl, ?_⟩) ?_ ?_
               rotate_left
               ·intro w'
                go_simp
                with_reducible rfl
               rotate_left
               ·simp only [Act.put, q1, q2, q3, i64_w, i32_w]
                rfl
               refine done_ (done_of HT_.o (by kernel_rfl)) ?_
               try go_wp2_with (first | ((with_reducible refine gu (b := .append) (xs := #[.tmp 49, .tmp 51]) rfl ?_); at_builtin; refine Kd.R_append (Kd.int .i64) (w0 := w) w.heap.size rfl (.tmp 49) (.tmp 51) 38 3 (.int .i64 0) 8 rfl Try.underlying38 info3 rfl (by decide) (by omega) u6 Ay A0 [.int .i64 A0] (fun k_ => some k_ ≠ (.slice (some Am) A6.length AJ : Value).ownBlock) (fun _ => False) rfl rfl ?aP (fun _ hk => hk.elim) ?aF ?aO ?aB ?aS ?aL ?_; (case aP => exact rfl); (case aB => exact (vB HB)); (case aF => exact (fun k_ hk => Kd.fresh' (Kd.R_lt (vR Aa)) k_ hk)); (case aO => exact (vR Ab)); (case aS => exact (below_size (vB HB))); (case aL => have := Bf.o; omega); intro Cg Co ho hb hg hat; rw [← Bg.o] at ho; have Be := Z.m (ho); replace Aa := Z.m (Kd.R_after (ok := (fun _ => True)) (by refine rK ?_; exact Kd.Rm Aa.o (fun _ hk => ⟨trivial, hk⟩)) hg hat); replace A9 := Z.m (Kd.S_after (ok := (fun k_ => some k_ ≠ (.slice (some Am) A6.length AJ : Value).ownBlock)) (vS A9) hg hat); replace A1 := Z.m (qg (g := Ap) (o := .cells #[.int .i64 a0_0, .int .i64 a0_1, .slice (some Az) l0_2.length c0_2] 30 (0, 0)) (vK A1) hg (Kd.R_ne Ab.o A1.o (by decide))); replace A7 := Z.m (qg (g := A3) (o := .cells #[.int .i64 ((rd_T71 l0_2 A0).f0), .int .i64 ((rd_T71 l0_2 A0).f1)] 71 (0, 0)) (vK A7) hg (Kd.R_ne Ab.o A7.o (by decide))); replace HL221_0 := Z.m (Kd.R_after (ok := (fun k_ => some k_ ≠ (.slice (some Am) A6.length AJ : Value).ownBlock ∧ some k_ ≠ (.slice (some Ao) A8.length Bp : Value).ownBlock)) (by refine rK ?_; exact Kd.Rm HL221_0.o (fun _ hk => ⟨⟨hk.1.1, hk.2⟩, hk.1.2⟩)) hg hat); replace HL224_0 := Z.m (Kd.R_after (ok := (fun k_ => some k_ ≠ (.slice (some Am) A6.length AJ : Value).ownBlock ∧ some k_ ≠ (.slice (some Ao) A8.length Bp : Value).ownBlock)) (by refine rK ?_; exact Kd.Rm HL224_0.o (fun _ hk => ⟨⟨hk.1.1, hk.2⟩, hk.1.2⟩)) hg hat); replace HB := Z.m (hb); clear Ab; clear ho hb hg hat))
               go_roundg k1
               case measure => have := Bb.o; omega
               case rel => exact ⟨(Bv), (wrap64 (A0 + 1)), (by first | rfl | (simp; done) | (simp [*]; done)), H', ⟨by have := Bb.o; omega⟩, ⟨by refine rK ?_; exact Kd.Rm Aa.o (fun _ hk => hk.2)⟩, ⟨vS A9⟩, ⟨vR Be⟩, ⟨vK A1⟩, ⟨vB HB⟩⟩
              ·rw [if_neg c23] at H
               exact absurd H (by simp)
             ·rw [if_neg c22] at H
              have Bl := beq_eq_false_iff_ne.mpr c22
              have Bm := bne_iff_ne.mpr c22
              have H' := Z.m H
              clear H
              have p218 : 0 ≤ (A0 : Int) := ofD
              have q218 : A0 < (l0_2.length : Int) := ofD
              obtain ⟨Az, e218, Ad, Ae⟩ := at_T71 Av.o A0 p218 q218
              cases e218
              replace Ad := (HB.o.cell (World.block_lt_of_cell? w _ Ad)).trans Ad
              replace Ae := (HB.o.cell (World.block_lt_of_cell? w _ Ae)).trans Ae
              replace p218 := eq_true p218
              replace q218 := eq_true q218
              try go_wp2_with (first | ((with_reducible refine gq (N := 8) rfl ?_); refine be (N := 8) (cs := #[.int .i64 0, .int .i64 0]) (t := 71) ?_; intro A3 hg B7 hbox hb; have A7 := Z.m (hbox); have AA := gW (w := w) HB hg; have AS := AA; have Ac := neL A1 hg; have Aj := neG A1 hg; replace Aa := Z.m (Kd.Rb (vR Aa) hb); replace A9 := Z.m (Kd.S_below (vS A9) hb); replace Ab := Z.m (Kd.Rb (vR Ab) hb); replace A1 := kB A1 hb; replace HB := bB HB hb; clear hb hbox hg; have C1 := Aj.o; have C4 := Ac.o; have By := bc0 A7; have Bz := bc1 A7; have BH := qz A7.o 0; have BI := qz A7.o 1))
              have n0_ : Z (Kd.R (Kd.int .i64) 3 ((B7.setCell ⟨A3, 0, none⟩ (.int .i64 ((rd_T71 l0_2 A0).f0))).setCell ⟨A3, 1, none⟩ (.int .i64 ((rd_T71 l0_2 A0).f1))) w.heap.size (fun k_ => some k_ ≠ (u6 : Value).ownBlock) Au A6) := ⟨by refine rK ?_; exact Kd.Rm (rf (rf (Kd.Ry Aa.o A7.o (by decide)))) (fun _ hk => hk.1)⟩
              have n1_ : Z (Kd.S (Kd.slice 3 (Kd.int .i64)) 38 ((B7.setCell ⟨A3, 0, none⟩ (.int .i64 ((rd_T71 l0_2 A0).f0))).setCell ⟨A3, 1, none⟩ (.int .i64 ((rd_T71 l0_2 A0).f1))) w.heap.size (fun k_ => some k_ ≠ (Au : Value).ownBlock ∧ some k_ ≠ (u6 : Value).ownBlock) AR A8) := ⟨by (with_reducible repeat (first | apply Kd.S_alloc | apply Kd.S_drewN | apply Kd.S_drew)); exact Kd.S_mono (Kd.S_far (p := ⟨A3, 1, none⟩) (Kd.S_far (p := ⟨A3, 0, none⟩) (Kd.S_types A9.o A7.o (by decide)) (fun _ hk => hk.2) (.int .i64 ((rd_T71 l0_2 A0).f0))) (fun _ hk => hk.2) (.int .i64 ((rd_T71 l0_2 A0).f1))) (fun _ hk => ⟨hk.1.1, hk.1.2⟩)⟩
              have n2_ : Z (Kd.R (Kd.int .i64) 3 ((B7.setCell ⟨A3, 0, none⟩ (.int .i64 ((rd_T71 l0_2 A0).f0))).setCell ⟨A3, 1, none⟩ (.int .i64 ((rd_T71 l0_2 A0).f1))) w.heap.size (fun k_ => some k_ ≠ (Au : Value).ownBlock) u6 Ay) := ⟨by refine rK ?_; exact Kd.Rm (rf (rf (Kd.Ry Ab.o A7.o (by decide)))) (fun _ hk => hk.1)⟩
              have n3_ : Z (((B7.setCell ⟨A3, 0, none⟩ (.int .i64 ((rd_T71 l0_2 A0).f0))).setCell ⟨A3, 1, none⟩ (.int .i64 ((rd_T71 l0_2 A0).f1))).heap[Ap]? = some (.cells #[.int .i64 a0_0, .int .i64 a0_1, .slice (some Az) l0_2.length c0_2] 30 (0, 0))) := ⟨by refine bK ?_; (iterate 2 refine qF ?_ Ac); exact A1.o⟩
              have n4_ : Z (((B7.setCell ⟨A3, 0, none⟩ (.int .i64 ((rd_T71 l0_2 A0).f0))).setCell ⟨A3, 1, none⟩ (.int .i64 ((rd_T71 l0_2 A0).f1))).heap[A3]? = some (.cells #[.int .i64 ((rd_T71 l0_2 A0).f0), .int .i64 ((rd_T71 l0_2 A0).f1)] 71 (0, 0))) := ⟨by refine bK ?_; refine qp (cs := #[iV ((rd_T71 l0_2 A0).f0), iV 0]) ?_ 1 _ rfl; refine bK ?_; refine qp (cs := #[iV 0, iV 0]) ?_ 0 _ rfl; refine bK ?_; exact A7.o⟩
              have n5_ : Z (Below w.heap.size w ((B7.setCell ⟨A3, 0, none⟩ (.int .i64 ((rd_T71 l0_2 A0).f0))).setCell ⟨A3, 1, none⟩ (.int .i64 ((rd_T71 l0_2 A0).f1)))) := ⟨vB HB⟩
              (try clear Aa); (try clear A9); (try clear Ab); (try clear A1); (try clear A7); (try clear HB)
              generalize ((B7.setCell ⟨A3, 0, none⟩ (.int .i64 ((rd_T71 l0_2 A0).f0))).setCell ⟨A3, 1, none⟩ (.int .i64 ((rd_T71 l0_2 A0).f1))) = Ci at n0_ n1_ n2_ n3_ n4_ n5_ ⊢
              have Aa := n0_
              have A9 := n1_
              have Ab := n2_
              have A1 := n3_
              have A7 := n4_
              have HB := n5_
              clear n0_ n1_ n2_ n3_ n4_ n5_
              replace Aa := Z.m (Kd.R_drew Aa.o)
              replace A9 := Z.m (Kd.S_drew A9.o)
              replace Ab := Z.m (Kd.R_drew Ab.o)
              replace A1 := Z.m (blk_drew A1.o)
              replace A7 := Z.m (blk_drew A7.o)
              replace HB := Z.m (qd HB.o)
              obtain ⟨C8, Ca, Bs⟩ := Kd.R_slice Aa.o
              (first | subst Bs | (injection Bs with f1_ f2_ f3_; have f4_ := f1_.symm; have f5_ := f3_.symm; clear f1_ f2_ f3_; subst f4_; subst f5_))
              have p220 : 0 ≤ (A0 : Int) := ofD
              have q220 : A0 < (A6.length : Int) := ofD
              obtain ⟨Am, e220, As⟩ := Kd.at_int (Kd.RrZ Aa.o).2.2 A0 p220 q220
              cases e220
              replace p220 := eq_true p220
              replace q220 := eq_true q220
              obtain ⟨C9, Cb, Bt⟩ := Kd.S_slice A9.o
              (first | subst Bt | (injection Bt with f1_ f2_ f3_; have f4_ := f1_.symm; have f5_ := f3_.symm; clear f1_ f2_ f3_; subst f4_; subst f5_))
              have p221 : 0 ≤ ((rd A6 A0) : Int) := ofD
              have q221 : (rd A6 A0) < (A8.length : Int) := ofD
              obtain ⟨Ao, AT, c221_0, e221, Af, Aq, hi221_0⟩ := at_L3 (Kd.S_reads' A9.o).2.2 (rd A6 A0) p221 q221
              cases e221
              obtain ⟨Bn, hce221, hMe221, Aw⟩ := Kd.S_get A9.o [] (rd A6 A0) p221 (by first | exact q221 | exact ofD | (have e_ := (Kd.S_reads' A9.o).1; omega))
              obtain ⟨ve221_0, rfl, ge221_0⟩ := hMe221
              have hv221_0 := Aw 0 _ rfl
              rw [Nat.add_zero, show ((Kd.slice 3 (Kd.int .i64))).sz = 1 from rfl, Nat.mul_one] at hv221_0
              replace hv221_0 := Option.some.inj (hv221_0.symm.trans Af)
              rw [hv221_0] at ge221_0
              have HL221_0 := Z.m (show Kd.R (Kd.int .i64) 3 _ _ _ _ (rd_L3 A8 (rd A6 A0)) from ge221_0)
              clear hv221_0 ge221_0
              clear Aw hce221
              have Ak := Z.m hi221_0
              have AH := Z.m Aq
              clear hi221_0 Aq
              replace p221 := eq_true p221
              replace q221 := eq_true q221
              have p222 : 0 ≤ (0 : Int) := (by omega)
              have q222 : 0 < ((rd_L3 A8 (rd A6 A0)).length : Int) := ofD
              obtain ⟨An, e222, Ag⟩ := Kd.at_int (by repeat (first | (with_reducible exact Ak.o) | (with_reducible refine Kd.C_alloc ?_ _) | (with_reducible refine Kd.C_drewN ?_ _) | (with_reducible refine Kd.C_drew ?_) | exact Ak.o)) 0 p222 q222
              cases e222
              have qi222 : (0 < (rd_L3 A8 (rd A6 A0)).length) = True := eq_true (by omega)
              (try rw [show ((0 : Int)).toNat = 0 from rfl] at Ag)
              (try rw [Addr.add_zero'] at Ag)
              replace p222 := eq_true p222
              replace q222 := eq_true q222
              have p223 : 0 ≤ (A0 : Int) := ofD
              have q223 : A0 < (A6.length : Int) := ofD
              obtain ⟨AF, e223, At⟩ := Kd.at_int (Kd.RrZ Aa.o).2.2 A0 p223 q223
              obtain rfl : Am = AF := (by injection e223)
              replace p223 := eq_true p223
              replace q223 := eq_true q223
              have p224 : 0 ≤ ((rd A6 A0) : Int) := ofD
              have q224 : (rd A6 A0) < (A8.length : Int) := ofD
              obtain ⟨AG, AU, c224_0, e224, Ah, Ar, hi224_0⟩ := at_L3 (Kd.S_reads' A9.o).2.2 (rd A6 A0) p224 q224
              obtain rfl : Ao = AG := (by injection e224)
              obtain ⟨Bo, hce224, hMe224, Ax⟩ := Kd.S_get A9.o [] (rd A6 A0) p224 (by first | exact q224 | exact ofD | (have e_ := (Kd.S_reads' A9.o).1; omega))
              obtain ⟨ve224_0, rfl, ge224_0⟩ := hMe224
              have hv224_0 := Ax 0 _ rfl
              rw [Nat.add_zero, show ((Kd.slice 3 (Kd.int .i64))).sz = 1 from rfl, Nat.mul_one] at hv224_0
              replace hv224_0 := Option.some.inj (hv224_0.symm.trans Ah)
              rw [hv224_0] at ge224_0
              have HL224_0 := Z.m (show Kd.R (Kd.int .i64) 3 _ _ _ _ (rd_L3 A8 (rd A6 A0)) from ge224_0)
              clear hv224_0 ge224_0
              clear Ax hce224
              have Al := Z.m hi224_0
              have AI := Z.m Ar
              clear hi224_0 Ar
              replace p224 := eq_true p224
              replace q224 := eq_true q224
              have ea_ := Option.some.inj (Af.symm.trans Ah)
              injection ea_ with ea_ en_ ec_
              subst ea_
              subst ec_
              clear en_
              have p225 : 0 ≤ (1 : Int) := (by omega)
              have q225 : 1 < ((rd_L3 A8 (rd A6 A0)).length : Int) := ofD
              obtain ⟨Bh, e225, Ai⟩ := Kd.at_int (by repeat (first | (with_reducible exact Al.o) | (with_reducible refine Kd.C_alloc ?_ _) | (with_reducible refine Kd.C_drewN ?_ _) | (with_reducible refine Kd.C_drew ?_) | exact Al.o)) 1 p225 q225
              cases e225
              (try simp only [show (1 : Int).toNat = 1 from rfl, Nat.reduceMul, Nat.reduceEqDiff, Go.Addr.add, ↓reduceIte] at Ai)
              have qi225 : (1 < (rd_L3 A8 (rd A6 A0)).length) = True := eq_true (by omega)
              (try rw [show ((1 : Int)).toNat = 1 from rfl] at Ai)
              replace p225 := eq_true p225
              replace q225 := eq_true q225
              refine start_ (n := 25) (S := fun w' => w'.cell? ⟨A3, 0, none⟩ = some (.int .i64 ((rd_T71 l0_2 A0).f0)) ∧ w'.cell? ⟨A3, 1, none⟩ = some (.int .i64 ((rd_T71 l0_2 A0).f1)) ∧ w'.cell? (Am.add (A0).toNat) = some (.int .i64 (rd A6 A0)) ∧ w'.cell? (Ao.add ((rd A6 A0)).toNat) = some (.slice (some An) (rd_L3 A8 (rd A6 A0)).length c221_0) ∧ w'.cell? An = some (.int .i64 (rd (rd_L3 A8 (rd A6 A0)) 0)) ∧ w'.cell? (Am.add (A0).toNat) = some (.int .i64 (rd A6 A0)) ∧ w'.cell? (Ao.add ((rd A6 A0)).toNat) = some (.slice (some An) (rd_L3 A8 (rd A6 A0)).length c221_0) ∧ w'.cell? ⟨An.block, An.off + 1, none⟩ = some (.int .i64 (rd (rd_L3 A8 (rd A6 A0)) 1))) (ds := []) #[false, false, false, false, false, false, false, false, false, false, false, false, false, false, false, false, false, false, false, false, false, false, false, false, false] (by kernel_rfl) rfl rfl ⟨(ql A7.o 0).trans rfl, (ql A7.o 1).trans rfl, As, Af, Ag, At, Ah, Ai⟩ (fun hHeld => ?_); refine with_tabW spec_LoneGears.tab8 spec_LoneGears.bits8 (fun HT_ HW_ => ?_)
              generalize Ci.drew = Cp at Aa A9 Ab A1 A7 HB HL221_0 HL224_0 Ak Al As Af Ag At Ah Ai hHeld ⊢
              refine pure_ (i := 0) (N := some 24) (v := ?_) (a' := ?_) #[true, false, false, false, false, false, false, false, false, false, false, false, false, false, false, false, false, false, false, false, false, false, false, false, false] rfl rfl (any_of HT_.o (by kernel_rfl)) (fun _ _ _ h => h) (Or.inl ⟨by rfl, ?_⟩) ?_ ?_
              rotate_left
              ·intro w'
               go_simp
               with_reducible rfl
              rotate_left
              ·simp only [Act.put, q1, q2, q3, i64_w, i32_w]
               rfl
              refine take_ (i := 1) (N := some 25) (v := ?_) (a' := ?_) #[true, true, false, false, false, false, false, false, false, false, false, false, false, false, false, false, false, false, false, false, false, false, false, false, false] rfl rfl (take_ofW HT_.o HW_.o (by kernel_rfl)) (fun _ _ _ h => h) (Or.inl ⟨by rfl, ?_⟩) hHeld ?_ ?_
              rotate_left
              ·rintro w' ⟨s0, s1, s2, s3, s4, s5, s6, s7⟩
               go_simp
               with_reducible rfl
              rotate_left
              ·simp only [Act.put, q1, q2, q3, i64_w, i32_w]
               rfl
              refine pure_ (i := 2) (N := some 26) (v := ?_) (a' := ?_) #[true, true, true, false, false, false, false, false, false, false, false, false, false, false, false, false, false, false, false, false, false, false, false, false, false] rfl rfl (any_of HT_.o (by kernel_rfl)) (fun _ _ _ h => h) (Or.inl ⟨by rfl, ?_⟩) ?_ ?_
              rotate_left
              ·intro w'
               go_simp
               with_reducible rfl
              rotate_left
              ·simp only [Act.put, q1, q2, q3, i64_w, i32_w]
               rfl
              refine pure_ (i := 3) (N := some 27) (v := ?_) (a' := ?_) #[true, true, true, true, false, false, false, false, false, false, false, false, false, false, false, false, false, false, false, false, false, false, false, false, false] rfl rfl (any_of HT_.o (by kernel_rfl)) (fun _ _ _ h => h) (Or.inl ⟨by rfl, ?_⟩) ?_ ?_
              rotate_left
              ·intro w'
               go_simp
               with_reducible rfl
              rotate_left
              ·simp only [Act.put, q1, q2, q3, i64_w, i32_w]
               rfl
              refine pure_ (i := 4) (N := some 28) (v := ?_) (a' := ?_) #[true, true, true, true, true, false, false, false, false, false, false, false, false, false, false, false, false, false, false, false, false, false, false, false, false] rfl rfl (any_of HT_.o (by kernel_rfl)) (fun _ _ _ h => h) (Or.inl ⟨by rfl, ?_⟩) ?_ ?_
              rotate_left
              ·intro w'
               go_simp
               with_reducible rfl
              rotate_left
              ·simp only [Act.put, q1, q2, q3, i64_w, i32_w]
               rfl
              refine pure_ (i := 5) (N := some 29) (v := ?_) (a' := ?_) #[true, true, true, true, true, true, false, false, false, false, false, false, false, false, false, false, false, false, false, false, false, false, false, false, false] rfl rfl (any_of HT_.o (by kernel_rfl)) (fun _ _ _ h => h) (Or.inl ⟨by rfl, ?_⟩) ?_ ?_
              rotate_left
              ·intro w'
               go_simp
               with_reducible rfl
              rotate_left
              ·simp only [Act.put, q1, q2, q3, i64_w, i32_w]
               rfl
              refine pure_ (i := 6) (N := some 30) (v := ?_) (a' := ?_) #[true, true, true, true, true, true, true, false, false, false, false, false, false, false, false, false, false, false, false, false, false, false, false, false, false] rfl rfl (any_of HT_.o (by kernel_rfl)) (fun _ _ _ h => h) (Or.inl ⟨by rfl, ?_⟩) ?_ ?_
              rotate_left
              ·intro w'
               go_simp
               with_reducible rfl
              rotate_left
              ·simp only [Act.put, q1, q2, q3, i64_w, i32_w]
               rfl
              refine pure_ (i := 7) (N := some 31) (v := ?_) (a' := ?_) #[true, true, true, true, true, true, true, true, false, false, false, false, false, false, false, false, false, false, false, false, false, false, false, false, false] rfl rfl (any_of HT_.o (by kernel_rfl)) (fun _ _ _ h => h) (Or.inl ⟨by rfl, ?_⟩) ?_ ?_
              rotate_left
              ·intro w'
               go_simp
               with_reducible rfl
              rotate_left
              ·simp only [Act.put, q1, q2, q3, i64_w, i32_w]
               rfl
              refine pure_ (i := 13) (N := some 37) (v := ?_) (a' := ?_) #[true, true, true, true, true, true, true, true, false, false, false, false, false, true, false, false, false, false, false, false, false, false, false, false, false] rfl rfl (any_of HT_.o (by kernel_rfl)) (fun _ _ _ h => h) (Or.inl ⟨by rfl, ?_⟩) ?_ ?_
              rotate_left
              ·intro w'
               go_simp
               with_reducible rfl
              rotate_left
              ·simp only [Act.put, q1, q2, q3, i64_w, i32_w]
               rfl
              refine pure_ (i := 14) (N := some 38) (v := ?_) (a' := ?_) #[true, true, true, true, true, true, true, true, false, false, false, false, false, true, true, false, false, false, false, false, false, false, false, false, false] rfl rfl (any_of HT_.o (by kernel_rfl)) (fun _ _ _ h => h) (Or.inl ⟨by rfl, ?_⟩) ?_ ?_
              rotate_left
              ·intro w'
               go_simp
               with_reducible rfl
              rotate_left
              ·simp only [Act.put, q1, q2, q3, i64_w, i32_w]
               rfl
              refine pure_ (i := 15) (N := some 39) (v := ?_) (a' := ?_) #[true, true, true, true, true, true, true, true, false, false, false, false, false, true, true, true, false, false, false, false, false, false, false, false, false] rfl rfl (any_of HT_.o (by kernel_rfl)) (fun _ _ _ h => h) (Or.inl ⟨by rfl, ?_⟩) ?_ ?_
              rotate_left
              ·intro w'
               go_simp
               with_reducible rfl
              rotate_left
              ·simp only [Act.put, q1, q2, q3, i64_w, i32_w]
               rfl
              refine pure_ (i := 16) (N := some 40) (v := ?_) (a' := ?_) #[true, true, true, true, true, true, true, true, false, false, false, false, false, true, true, true, true, false, false, false, false, false, false, false, false] rfl rfl (any_of HT_.o (by kernel_rfl)) (fun _ _ _ h => h) (Or.inl ⟨by rfl, ?_⟩) ?_ ?_
              rotate_left
              ·intro w'
               go_simp
               with_reducible rfl
              rotate_left
              ·simp only [Act.put, q1, q2, q3, i64_w, i32_w]
               rfl
              refine take_ (i := 8) (N := some 32) (v := ?_) (a' := ?_) #[true, true, true, true, true, true, true, true, true, false, false, false, false, true, true, true, true, false, false, false, false, false, false, false, false] rfl rfl (take_ofW HT_.o HW_.o (by kernel_rfl)) (fun _ _ _ h => h) (Or.inl ⟨by rfl, ?_⟩) hHeld ?_ ?_
              rotate_left
              ·rintro w' ⟨s0, s1, s2, s3, s4, s5, s6, s7⟩
               go_simp
               with_reducible rfl
              rotate_left
              ·simp only [Act.put, q1, q2, q3, i64_w, i32_w]
               rfl
              refine pure_ (i := 9) (N := some 33) (v := ?_) (a' := ?_) #[true, true, true, true, true, true, true, true, true, true, false, false, false, true, true, true, true, false, false, false, false, false, false, false, false] rfl rfl (any_of HT_.o (by kernel_rfl)) (fun _ _ _ h => h) (Or.inl ⟨by rfl, ?_⟩) ?_ ?_
              rotate_left
              ·intro w'
               go_simp
               with_reducible rfl
              rotate_left
              ·simp only [Act.put, q1, q2, q3, i64_w, i32_w]
               rfl
              refine take_ (i := 10) (N := some 34) (v := ?_) (a' := ?_) #[true, true, true, true, true, true, true, true, true, true, true, false, false, true, true, true, true, false, false, false, false, false, false, false, false] rfl rfl (take_ofW HT_.o HW_.o (by kernel_rfl)) (fun _ _ _ h => h) (Or.inl ⟨by rfl, ?_⟩) hHeld ?_ ?_
              rotate_left
              ·rintro w' ⟨s0, s1, s2, s3, s4, s5, s6, s7⟩
               go_simp
               with_reducible rfl
              rotate_left
              ·simp only [Act.put, q1, q2, q3, i64_w, i32_w]
               rfl
              refine pure_ (i := 11) (N := some 35) (v := ?_) (a' := ?_) #[true, true, true, true, true, true, true, true, true, true, true, true, false, true, true, true, true, false, false, false, false, false, false, false, false] rfl rfl (any_of HT_.o (by kernel_rfl)) (fun _ _ _ h => h) (Or.inl ⟨by rfl, ?_⟩) ?_ ?_
              rotate_left
              ·intro w'
               go_simp
               with_reducible rfl
              rotate_left
              ·simp only [Act.put, q1, q2, q3, i64_w, i32_w]
               rfl
              refine take_ (i := 12) (N := some 36) (v := ?_) (a' := ?_) #[true, true, true, true, true, true, true, true, true, true, true, true, true, true, true, true, true, false, false, false, false, false, false, false, false] rfl rfl (take_ofW HT_.o HW_.o (by kernel_rfl)) (fun _ _ _ h => h) (Or.inl ⟨by rfl, ?_⟩) hHeld ?_ ?_
              rotate_left
              ·rintro w' ⟨s0, s1, s2, s3, s4, s5, s6, s7⟩
               go_simp
               with_reducible rfl
              rotate_left
              ·simp only [Act.put, q1, q2, q3, i64_w, i32_w]
               rfl
              refine take_ (i := 17) (N := some 41) (v := ?_) (a' := ?_) #[true, true, true, true, true, true, true, true, true, true, true, true, true, true, true, true, true, true, false, false, false, false, false, false, false] rfl rfl (take_ofW HT_.o HW_.o (by kernel_rfl)) (fun _ _ _ h => h) (Or.inl ⟨by rfl, ?_⟩) hHeld ?_ ?_
              rotate_left
              ·rintro w' ⟨s0, s1, s2, s3, s4, s5, s6, s7⟩
               go_simp
               with_reducible rfl
              rotate_left
              ·simp only [Act.put, q1, q2, q3, i64_w, i32_w]
               rfl
              refine pure_ (i := 18) (N := some 42) (v := ?_) (a' := ?_) #[true, true, true, true, true, true, true, true, true, true, true, true, true, true, true, true, true, true, true, false, false, false, false, false, false] rfl rfl (any_of HT_.o (by kernel_rfl)) (fun _ _ _ h => h) (Or.inl ⟨by rfl, ?_⟩) ?_ ?_
              rotate_left
              ·intro w'
               go_simp
               with_reducible rfl
              rotate_left
              ·simp only [Act.put, q1, q2, q3, i64_w, i32_w]
               rfl
              refine take_ (i := 19) (N := some 43) (v := ?_) (a' := ?_) #[true, true, true, true, true, true, true, true, true, true, true, true, true, true, true, true, true, true, true, true, false, false, false, false, false] rfl rfl (take_ofW HT_.o HW_.o (by kernel_rfl)) (fun _ _ _ h => h) (Or.inl ⟨by rfl, ?_⟩) hHeld ?_ ?_
              rotate_left
              ·rintro w' ⟨s0, s1, s2, s3, s4, s5, s6, s7⟩
               go_simp
               with_reducible rfl
              rotate_left
              ·simp only [Act.put, q1, q2, q3, i64_w, i32_w]
               rfl
              refine pure_ (i := 20) (N := some 44) (v := ?_) (a' := ?_) #[true, true, true, true, true, true, true, true, true, true, true, true, true, true, true, true, true, true, true, true, true, false, false, false, false] rfl rfl (any_of HT_.o (by kernel_rfl)) (fun _ _ _ h => h) (Or.inl ⟨by rfl, ?_⟩) ?_ ?_
              rotate_left
              ·intro w'
               go_simp
               with_reducible rfl
              rotate_left
              ·simp only [Act.put, q1, q2, q3, i64_w, i32_w]
               rfl
              refine take_ (i := 21) (N := some 45) (v := ?_) (a' := ?_) #[true, true, true, true, true, true, true, true, true, true, true, true, true, true, true, true, true, true, true, true, true, true, false, false, false] rfl rfl (take_ofW HT_.o HW_.o (by kernel_rfl)) (fun _ _ _ h => h) (Or.inl ⟨by rfl, ?_⟩) hHeld ?_ ?_
              rotate_left
              ·rintro w' ⟨s0, s1, s2, s3, s4, s5, s6, s7⟩
               go_simp
               with_reducible rfl
              rotate_left
              ·simp only [Act.put, q1, q2, q3, i64_w, i32_w]
               rfl
              refine pure_ (i := 22) (N := some 46) (v := ?_) (a' := ?_) #[true, true, true, true, true, true, true, true, true, true, true, true, true, true, true, true, true, true, true, true, true, true, true, false, false] rfl rfl (any_of HT_.o (by kernel_rfl)) (fun _ _ _ h => h) (Or.inl ⟨by rfl, ?_⟩) ?_ ?_
              rotate_left
              ·intro w'
               go_simp
               with_reducible rfl
              rotate_left
              ·simp only [Act.put, q1, q2, q3, i64_w, i32_w]
               rfl
              refine pure_ (i := 23) (N := some 47) (v := ?_) (a' := ?_) #[true, true, true, true, true, true, true, true, true, true, true, true, true, true, true, true, true, true, true, true, true, true, true, true, false] rfl rfl (any_of HT_.o (by kernel_rfl)) (fun _ _ _ h => h) (Or.inl ⟨by rfl, ?_⟩) ?_ ?_
              rotate_left
              ·intro w'
               go_simp
               with_reducible rfl
              rotate_left
              ·simp only [Act.put, q1, q2, q3, i64_w, i32_w]
               rfl
              refine pure_ (i := 24) (N := some 48) (v := ?_) (a' := ?_) #[true, true, true, true, true, true, true, true, true, true, true, true, true, true, true, true, true, true, true, true, true, true, true, true, true] rfl rfl (any_of HT_.o (by kernel_rfl)) (fun _ _ _ h => h) (Or.inl ⟨by rfl, ?_⟩) ?_ ?_
              rotate_left
              ·intro w'
               go_simp
               with_reducible rfl
              rotate_left
              ·simp only [Act.put, q1, q2, q3, i64_w, i32_w]
               rfl
              refine done_ (done_of HT_.o (by kernel_rfl)) ?_
              try go_wp2
              go_roundg k1
              case measure => have := Bb.o; omega
              case rel => exact ⟨(Ay), (wrap64 (A0 + 1)), (by first | rfl | (simp; done) | (simp [*]; done)), H', ⟨by have := Bb.o; omega⟩, ⟨vR Aa⟩, ⟨vS A9⟩, ⟨vR Ab⟩, ⟨vK A1⟩, ⟨vB HB⟩⟩
            ·rw [if_neg c21] at H
             exact absurd H (by simp)
           ·rw [if_neg c20] at H
            exact absurd H (by simp)
          ·rw [if_neg c19] at H
           exact absurd H (by simp)
         ·rw [if_neg c18] at H
          exact absurd H (by simp)
        ·rw [if_neg c17] at H
         exact absurd H (by simp)
       ·rw [if_neg c16] at H
        have Bj := beq_eq_false_iff_ne.mpr c16
        have Bk := bne_iff_ne.mpr c16
        have H' := Z.m H
        clear H
        have p218 : 0 ≤ (A0 : Int) := ofD
        have q218 : A0 < (l0_2.length : Int) := ofD
        obtain ⟨Az, e218, Ad, Ae⟩ := at_T71 Av.o A0 p218 q218
        cases e218
        replace Ad := (HB.o.cell (World.block_lt_of_cell? w _ Ad)).trans Ad
        replace Ae := (HB.o.cell (World.block_lt_of_cell? w _ Ae)).trans Ae
        replace p218 := eq_true p218
        replace q218 := eq_true q218
        try go_wp2_with (first | ((with_reducible refine gq (N := 8) rfl ?_); refine be (N := 8) (cs := #[.int .i64 0, .int .i64 0]) (t := 71) ?_; intro A3 hg Ba hbox hb; have A7 := Z.m (hbox); have AA := gW (w := w) HB hg; have AS := AA; have Ac := neL A1 hg; have Aj := neG A1 hg; replace Aa := Z.m (Kd.Rb (vR Aa) hb); replace A9 := Z.m (Kd.S_below (vS A9) hb); replace Ab := Z.m (Kd.Rb (vR Ab) hb); replace A1 := kB A1 hb; replace HB := bB HB hb; clear hb hbox hg; have C2 := Aj.o; have C5 := Ac.o; have BA := bc0 A7; have BB := bc1 A7; have BJ := qz A7.o 0; have BK := qz A7.o 1))
        have n0_ : Z (Kd.R (Kd.int .i64) 3 ((Ba.setCell ⟨A3, 0, none⟩ (.int .i64 ((rd_T71 l0_2 A0).f0))).setCell ⟨A3, 1, none⟩ (.int .i64 ((rd_T71 l0_2 A0).f1))) w.heap.size (fun k_ => some k_ ≠ (u6 : Value).ownBlock) Au A6) := ⟨by refine rK ?_; exact Kd.Rm (rf (rf (Kd.Ry Aa.o A7.o (by decide)))) (fun _ hk => hk.1)⟩
        have n1_ : Z (Kd.S (Kd.slice 3 (Kd.int .i64)) 38 ((Ba.setCell ⟨A3, 0, none⟩ (.int .i64 ((rd_T71 l0_2 A0).f0))).setCell ⟨A3, 1, none⟩ (.int .i64 ((rd_T71 l0_2 A0).f1))) w.heap.size (fun k_ => some k_ ≠ (Au : Value).ownBlock ∧ some k_ ≠ (u6 : Value).ownBlock) AR A8) := ⟨by (with_reducible repeat (first | apply Kd.S_alloc | apply Kd.S_drewN | apply Kd.S_drew)); exact Kd.S_mono (Kd.S_far (p := ⟨A3, 1, none⟩) (Kd.S_far (p := ⟨A3, 0, none⟩) (Kd.S_types A9.o A7.o (by decide)) (fun _ hk => hk.2) (.int .i64 ((rd_T71 l0_2 A0).f0))) (fun _ hk => hk.2) (.int .i64 ((rd_T71 l0_2 A0).f1))) (fun _ hk => ⟨hk.1.1, hk.1.2⟩)⟩
        have n2_ : Z (Kd.R (Kd.int .i64) 3 ((Ba.setCell ⟨A3, 0, none⟩ (.int .i64 ((rd_T71 l0_2 A0).f0))).setCell ⟨A3, 1, none⟩ (.int .i64 ((rd_T71 l0_2 A0).f1))) w.heap.size (fun k_ => some k_ ≠ (Au : Value).ownBlock) u6 Ay) := ⟨by refine rK ?_; exact Kd.Rm (rf (rf (Kd.Ry Ab.o A7.o (by decide)))) (fun _ hk => hk.1)⟩
        have n3_ : Z (((Ba.setCell ⟨A3, 0, none⟩ (.int .i64 ((rd_T71 l0_2 A0).f0))).setCell ⟨A3, 1, none⟩ (.int .i64 ((rd_T71 l0_2 A0).f1))).heap[Ap]? = some (.cells #[.int .i64 a0_0, .int .i64 a0_1, .slice (some Az) l0_2.length c0_2] 30 (0, 0))) := ⟨by refine bK ?_; (iterate 2 refine qF ?_ Ac); exact A1.o⟩
        have n4_ : Z (((Ba.setCell ⟨A3, 0, none⟩ (.int .i64 ((rd_T71 l0_2 A0).f0))).setCell ⟨A3, 1, none⟩ (.int .i64 ((rd_T71 l0_2 A0).f1))).heap[A3]? = some (.cells #[.int .i64 ((rd_T71 l0_2 A0).f0), .int .i64 ((rd_T71 l0_2 A0).f1)] 71 (0, 0))) := ⟨by refine bK ?_; refine qp (cs := #[iV ((rd_T71 l0_2 A0).f0), iV 0]) ?_ 1 _ rfl; refine bK ?_; refine qp (cs := #[iV 0, iV 0]) ?_ 0 _ rfl; refine bK ?_; exact A7.o⟩
        have n5_ : Z (Below w.heap.size w ((Ba.setCell ⟨A3, 0, none⟩ (.int .i64 ((rd_T71 l0_2 A0).f0))).setCell ⟨A3, 1, none⟩ (.int .i64 ((rd_T71 l0_2 A0).f1)))) := ⟨vB HB⟩
        (try clear Aa); (try clear A9); (try clear Ab); (try clear A1); (try clear A7); (try clear HB)
        generalize ((Ba.setCell ⟨A3, 0, none⟩ (.int .i64 ((rd_T71 l0_2 A0).f0))).setCell ⟨A3, 1, none⟩ (.int .i64 ((rd_T71 l0_2 A0).f1))) = Cj at n0_ n1_ n2_ n3_ n4_ n5_ ⊢
        have Aa := n0_
        have A9 := n1_
        have Ab := n2_
        have A1 := n3_
        have A7 := n4_
        have HB := n5_
        clear n0_ n1_ n2_ n3_ n4_ n5_
        replace Aa := Z.m (Kd.R_drew Aa.o)
        replace A9 := Z.m (Kd.S_drew A9.o)
        replace Ab := Z.m (Kd.R_drew Ab.o)
        replace A1 := Z.m (blk_drew A1.o)
        replace A7 := Z.m (blk_drew A7.o)
        replace HB := Z.m (qd HB.o)
        refine start_ (n := 25) (S := fun w' => w'.cell? ⟨A3, 0, none⟩ = some (.int .i64 ((rd_T71 l0_2 A0).f0)) ∧ w'.cell? ⟨A3, 1, none⟩ = some (.int .i64 ((rd_T71 l0_2 A0).f1))) (ds := []) #[false, false, false, false, false, false, false, false, false, false, false, false, false, false, false, false, false, false, false, false, false, false, false, false, false] (by kernel_rfl) rfl rfl ⟨(ql A7.o 0).trans rfl, (ql A7.o 1).trans rfl⟩ (fun hHeld => ?_); refine with_tabW spec_LoneGears.tab8 spec_LoneGears.bits8 (fun HT_ HW_ => ?_)
        generalize Cj.drew = Cq at Aa A9 Ab A1 A7 HB hHeld ⊢
        refine pure_ (i := 0) (N := some 24) (v := ?_) (a' := ?_) #[true, false, false, false, false, false, false, false, false, false, false, false, false, false, false, false, false, false, false, false, false, false, false, false, false] rfl rfl (any_of HT_.o (by kernel_rfl)) (fun _ _ _ h => h) (Or.inl ⟨by rfl, ?_⟩) ?_ ?_
        rotate_left
        ·intro w'
         go_simp
         with_reducible rfl
        rotate_left
        ·simp only [Act.put, q1, q2, q3, i64_w, i32_w]
         rfl
        refine take_ (i := 1) (N := some 25) (v := ?_) (a' := ?_) #[true, true, false, false, false, false, false, false, false, false, false, false, false, false, false, false, false, false, false, false, false, false, false, false, false] rfl rfl (take_ofW HT_.o HW_.o (by kernel_rfl)) (fun _ _ _ h => h) (Or.inl ⟨by rfl, ?_⟩) hHeld ?_ ?_
        rotate_left
        ·rintro w' ⟨s0, s1⟩
         go_simp
         with_reducible rfl
        rotate_left
        ·simp only [Act.put, q1, q2, q3, i64_w, i32_w]
         rfl
        refine pure_ (i := 2) (N := some 26) (v := ?_) (a' := ?_) #[true, true, true, false, false, false, false, false, false, false, false, false, false, false, false, false, false, false, false, false, false, false, false, false, false] rfl rfl (any_of HT_.o (by kernel_rfl)) (fun _ _ _ h => h) (Or.inl ⟨by rfl, ?_⟩) ?_ ?_
        rotate_left
        ·intro w'
         go_simp
         with_reducible rfl
        rotate_left
        ·simp only [Act.put, q1, q2, q3, i64_w, i32_w]
         rfl
        refine pure_ (i := 3) (N := some 27) (v := ?_) (a' := ?_) #[true, true, true, true, false, false, false, false, false, false, false, false, false, false, false, false, false, false, false, false, false, false, false, false, false] rfl rfl (any_of HT_.o (by kernel_rfl)) (fun _ _ _ h => h) (Or.inl ⟨by rfl, ?_⟩) ?_ ?_
        rotate_left
        ·intro w'
         go_simp
         with_reducible rfl
        rotate_left
        ·simp only [Act.put, q1, q2, q3, i64_w, i32_w]
         rfl
        refine pure_ (i := 4) (N := some 28) (v := undef) (a' := ?_) #[true, true, true, true, true, false, false, false, false, false, false, false, false, false, false, false, false, false, false, false, false, false, false, false, false] rfl rfl (any_of HT_.o (by kernel_rfl)) (fun _ _ _ h => h) (Or.inr ⟨by rfl, rfl⟩) ?_ ?_
        rotate_left
        ·simp only [Act.put, q1, q2, q3, i64_w, i32_w]
         rfl
        refine pure_ (i := 5) (N := some 29) (v := undef) (a' := ?_) #[true, true, true, true, true, true, false, false, false, false, false, false, false, false, false, false, false, false, false, false, false, false, false, false, false] rfl rfl (any_of HT_.o (by kernel_rfl)) (fun _ _ _ h => h) (Or.inr ⟨by rfl, rfl⟩) ?_ ?_
        rotate_left
        ·simp only [Act.put, q1, q2, q3, i64_w, i32_w]
         rfl
        refine pure_ (i := 6) (N := some 30) (v := undef) (a' := ?_) #[true, true, true, true, true, true, true, false, false, false, false, false, false, false, false, false, false, false, false, false, false, false, false, false, false] rfl rfl (any_of HT_.o (by kernel_rfl)) (fun _ _ _ h => h) (Or.inr ⟨by rfl, rfl⟩) ?_ ?_
        rotate_left
        ·simp only [Act.put, q1, q2, q3, i64_w, i32_w]
         rfl
        refine pure_ (i := 7) (N := some 31) (v := undef) (a' := ?_) #[true, true, true, true, true, true, true, true, false, false, false, false, false, false, false, false, false, false, false, false, false, false, false, false, false] rfl rfl (any_of HT_.o (by kernel_rfl)) (fun _ _ _ h => h) (Or.inr ⟨by rfl, rfl⟩) ?_ ?_
        rotate_left
        ·simp only [Act.put, q1, q2, q3, i64_w, i32_w]
         rfl
        refine pure_ (i := 8) (N := some 32) (v := undef) (a' := ?_) #[true, true, true, true, true, true, true, true, true, false, false, false, false, false, false, false, false, false, false, false, false, false, false, false, false] rfl rfl (any_of HT_.o (by kernel_rfl)) (fun _ _ _ h => h) (Or.inr ⟨by rfl, rfl⟩) ?_ ?_
        rotate_left
        ·simp only [Act.put, q1, q2, q3, i64_w, i32_w]
         rfl
        refine pure_ (i := 9) (N := some 33) (v := undef) (a' := ?_) #[true, true, true, true, true, true, true, true, true, true, false, false, false, false, false, false, false, false, false, false, false, false, false, false, false] rfl rfl (any_of HT_.o (by kernel_rfl)) (fun _ _ _ h => h) (Or.inr ⟨by rfl, rfl⟩) ?_ ?_
        rotate_left
        ·simp only [Act.put, q1, q2, q3, i64_w, i32_w]
         rfl
        refine pure_ (i := 10) (N := some 34) (v := undef) (a' := ?_) #[true, true, true, true, true, true, true, true, true, true, true, false, false, false, false, false, false, false, false, false, false, false, false, false, false] rfl rfl (any_of HT_.o (by kernel_rfl)) (fun _ _ _ h => h) (Or.inr ⟨by rfl, rfl⟩) ?_ ?_
        rotate_left
        ·simp only [Act.put, q1, q2, q3, i64_w, i32_w]
         rfl
        refine pure_ (i := 11) (N := some 35) (v := undef) (a' := ?_) #[true, true, true, true, true, true, true, true, true, true, true, true, false, false, false, false, false, false, false, false, false, false, false, false, false] rfl rfl (any_of HT_.o (by kernel_rfl)) (fun _ _ _ h => h) (Or.inr ⟨by rfl, rfl⟩) ?_ ?_
        rotate_left
        ·simp only [Act.put, q1, q2, q3, i64_w, i32_w]
         rfl
        refine pure_ (i := 12) (N := some 36) (v := undef) (a' := ?_) #[true, true, true, true, true, true, true, true, true, true, true, true, true, false, false, false, false, false, false, false, false, false, false, false, false] rfl rfl (any_of HT_.o (by kernel_rfl)) (fun _ _ _ h => h) (Or.inr ⟨by rfl, rfl⟩) ?_ ?_
        rotate_left
        ·simp only [Act.put, q1, q2, q3, i64_w, i32_w]
         rfl
        refine pure_ (i := 13) (N := some 37) (v := undef) (a' := ?_) #[true, true, true, true, true, true, true, true, true, true, true, true, true, true, false, false, false, false, false, false, false, false, false, false, false] rfl rfl (any_of HT_.o (by kernel_rfl)) (fun _ _ _ h => h) (Or.inr ⟨by rfl, rfl⟩) ?_ ?_
        rotate_left
        ·simp only [Act.put, q1, q2, q3, i64_w, i32_w]
         rfl
        refine pure_ (i := 14) (N := some 38) (v := undef) (a' := ?_) #[true, true, true, true, true, true, true, true, true, true, true, true, true, true, true, false, false, false, false, false, false, false, false, false, false] rfl rfl (any_of HT_.o (by kernel_rfl)) (fun _ _ _ h => h) (Or.inr ⟨by rfl, rfl⟩) ?_ ?_
        rotate_left
        ·simp only [Act.put, q1, q2, q3, i64_w, i32_w]
         rfl
        refine pure_ (i := 15) (N := some 39) (v := undef) (a' := ?_) #[true, true, true, true, true, true, true, true, true, true, true, true, true, true, true, true, false, false, false, false, false, false, false, false, false] rfl rfl (any_of HT_.o (by kernel_rfl)) (fun _ _ _ h => h) (Or.inr ⟨by rfl, rfl⟩) ?_ ?_
        rotate_left
        ·simp only [Act.put, q1, q2, q3, i64_w, i32_w]
         rfl
        refine pure_ (i := 16) (N := some 40) (v := undef) (a' := ?_) #[true, true, true, true, true, true, true, true, true, true, true, true, true, true, true, true, true, false, false, false, false, false, false, false, false] rfl rfl (any_of HT_.o (by kernel_rfl)) (fun _ _ _ h => h) (Or.inr ⟨by rfl, rfl⟩) ?_ ?_
        rotate_left
        ·simp only [Act.put, q1, q2, q3, i64_w, i32_w]
         rfl
        refine pure_ (i := 17) (N := some 41) (v := undef) (a' := ?_) #[true, true, true, true, true, true, true, true, true, true, true, true, true, true, true, true, true, true, false, false, false, false, false, false, false] rfl rfl (any_of HT_.o (by kernel_rfl)) (fun _ _ _ h => h) (Or.inr ⟨by rfl, rfl⟩) ?_ ?_
        rotate_left
        ·simp only [Act.put, q1, q2, q3, i64_w, i32_w]
         rfl
        refine pure_ (i := 18) (N := some 42) (v := undef) (a' := ?_) #[true, true, true, true, true, true, true, true, true, true, true, true, true, true, true, true, true, true, true, false, false, false, false, false, false] rfl rfl (any_of HT_.o (by kernel_rfl)) (fun _ _ _ h => h) (Or.inr ⟨by rfl, rfl⟩) ?_ ?_
        rotate_left
        ·simp only [Act.put, q1, q2, q3, i64_w, i32_w]
         rfl
        refine pure_ (i := 19) (N := some 43) (v := undef) (a' := ?_) #[true, true, true, true, true, true, true, true, true, true, true, true, true, true, true, true, true, true, true, true, false, false, false, false, false] rfl rfl (any_of HT_.o (by kernel_rfl)) (fun _ _ _ h => h) (Or.inr ⟨by rfl, rfl⟩) ?_ ?_
        rotate_left
        ·simp only [Act.put, q1, q2, q3, i64_w, i32_w]
         rfl
        refine pure_ (i := 20) (N := some 44) (v := undef) (a' := ?_) #[true, true, true, true, true, true, true, true, true, true, true, true, true, true, true, true, true, true, true, true, true, false, false, false, false] rfl rfl (any_of HT_.o (by kernel_rfl)) (fun _ _ _ h => h) (Or.inr ⟨by rfl, rfl⟩) ?_ ?_
        rotate_left
        ·simp only [Act.put, q1, q2, q3, i64_w, i32_w]
         rfl
        refine pure_ (i := 21) (N := some 45) (v := undef) (a' := ?_) #[true, true, true, true, true, true, true, true, true, true, true, true, true, true, true, true, true, true, true, true, true, true, false, false, false] rfl rfl (any_of HT_.o (by kernel_rfl)) (fun _ _ _ h => h) (Or.inr ⟨by rfl, rfl⟩) ?_ ?_
        rotate_left
        ·simp only [Act.put, q1, q2, q3, i64_w, i32_w]
         rfl
        refine pure_ (i := 22) (N := some 46) (v := undef) (a' := ?_) #[true, true, true, true, true, true, true, true, true, true, true, true, true, true, true, true, true, true, true, true, true, true, true, false, false] rfl rfl (any_of HT_.o (by kernel_rfl)) (fun _ _ _ h => h) (Or.inr ⟨by rfl, rfl⟩) ?_ ?_
        rotate_left
        ·simp only [Act.put, q1, q2, q3, i64_w, i32_w]
         rfl
        refine pure_ (i := 23) (N := some 47) (v := undef) (a' := ?_) #[true, true, true, true, true, true, true, true, true, true, true, true, true, true, true, true, true, true, true, true, true, true, true, true, false] rfl rfl (any_of HT_.o (by kernel_rfl)) (fun _ _ _ h => h) (Or.inr ⟨by rfl, rfl⟩) ?_ ?_
        rotate_left
        ·simp only [Act.put, q1, q2, q3, i64_w, i32_w]
         rfl
        refine pure_ (i := 24) (N := some 48) (v := ?_) (a' := ?_) #[true, true, true, true, true, true, true, true, true, true, true, true, true, true, true, true, true, true, true, true, true, true, true, true, true] rfl rfl (any_of HT_.o (by kernel_rfl)) (fun _ _ _ h => h) (Or.inl ⟨by rfl, ?_⟩) ?_ ?_
        rotate_left
        ·intro w'
         go_simp
         with_reducible rfl
        rotate_left
        ·simp only [Act.put, q1, q2, q3, i64_w, i32_w]
         rfl
        refine done_ (done_of HT_.o (by kernel_rfl)) ?_
        try go_wp2
        go_roundg k1
        case measure => have := Bb.o; omega
        case rel => exact ⟨(Ay), (wrap64 (A0 + 1)), (by first | rfl | (simp; done) | (simp [*]; done)), H', ⟨by have := Bb.o; omega⟩, ⟨vR Aa⟩, ⟨vS A9⟩, ⟨vR Ab⟩, ⟨vK A1⟩, ⟨vB HB⟩⟩
      ·rw [if_neg c15] at H
       exact absurd H (by simp)
     ·rw [if_neg c14] at H
      exact absurd H (by simp)
    ·rw [if_neg c13] at H
     have Bi := decide_eq_false c13
     clear c13
     simp only [Option.some.injEq, Prod.mk.injEq] at H
     obtain ⟨rfl, rfl⟩ := H
     go_wp2
     go_ret2
     exact ⟨_, by first | rfl | (simp [eN, eS] <;> rfl) | (simp [*, eN, eS] <;> rfl), by refine rK ?_; exact Kd.Rm Ab.o (fun _ hk => trivial), vB HB⟩
 ·replace c3 := Bool.eq_false_iff.mpr c3
  subst c3
  have H1 : (some (([] : List Int), false)) = some (r1, r2) := by rw [if_neg (show ¬ (false = true) by decide)] at H; exact H
  clear H
  have H := H1
  clear H1
  simp only [Option.some.injEq, Prod.mk.injEq] at H
  obtain ⟨rfl, rfl⟩ := H
  go_enter Try.func39, Try.ntmps39
  go_wp2_with (first | ((with_reducible refine gq (N := 1) rfl ?_); refine be (N := 1) (cs := #[.int .i64 a0_0, .int .i64 a0_1, .slice A0_2 l0_2.length c0_2]) (t := 30) ?_; intro Ap hg Cr hbox hb; have A1 := Z.m (hbox); have AE := gW (w := w) HB hg; have Bc := AE; replace HB := bB HB hb; clear hb hbox hg; have BC := bc0 A1; have BD := bc1 A1; have BE := bc2 A1; have BL := qz A1.o 0; have BM := qz A1.o 1; have BN := qz A1.o 2) | ((with_reducible refine gc (f := 59) rfl ?_); refine gA (some 10) _ #[.agg #[.int .i64 a0_0, .int .i64 a0_1, .slice A0_2 l0_2.length c0_2]] ?_ Try.func59; (with_reducible refine (spec_boGood.calls k a0_0 a0_1 _ _ l0_2 false _ ?side1 ?side2 A2.o).mono ?_); (case side1 => repeat (first | exact (Kd.C_below Av.o HB.o) | (with_reducible refine Kd.C_alloc ?_ _) | (with_reducible refine Kd.C_drewN ?_ _) | (with_reducible refine Kd.C_drew ?_))); (case side2 => exact AC.o); rintro e Cs ⟨rfl, hb⟩; refine ⟨_, rfl, ?_⟩; replace A1 := kB A1 hb; replace HB := bB HB hb; (try clear hb); (try clear Cd); (try clear hk); (try clear hi)))
  go_ret2
  exact ⟨_, by first | rfl | (simp [eN, eS] <;> rfl) | (simp [*, eN, eS] <;> rfl), by first | exact Kd.R_nil _ _ _ _ _ | exact Kd.N_nil _ _ _ _ _ | exact Kd.V_nil _ _ _ _ _ | exact Kd.Q_nil _ _ _ _ _ | exact Kd.S_nil _ _ _ _ _, vB HB⟩

end Go.Proofs.Ytlkiakpipcnijaa.PAll
