/- Began as a text that print.sh wrote (of the functions named below); turned and shortened by this session. -/
import Derived.Test.YtoklfgjemfojgaaG0
namespace Go.Proofs.Ytoklfgjemfojgaa.PAll
open Go.RowKit Go.Proofs.YtoklfgjemfojgaaW.PrintWords Go.Proofs.YtoklfgjemfojgaaW.PrintLast Go.Proofs.YtoklfgjemfojgaaW.PrintMore
attribute [local go_sem] max2_int min2_int max_two min_two max_three min_three max_four min_four   -- for this text's walks alone
set_option linter.unusedVariables false
set_option linter.unusedSimpArgs false

/-! ### impl_turnGroup: function 74 -/
def impl_turnGroup.l0 : Nat → List Int → Int → Int → Int → Int → Int → List (S89) → Option ((List (S89)))
 | 0, _, _, _, _, _, _, _ => none
 | k + 1, x1, x2, x9, x10, x264000, x264001, x264002 => if x10 < x9 then (if 0 ≤ x10 then (if x10 < (x264002.length : Int) then (if ((rd_T89 x264002 x10).f0) = 6 then (if x10 < (x1.length : Int) then (if 0 ≤ x2 then (if x2 < (x1.length : Int) then (if (rd x1 x10) = (rd x1 x2) then (impl_turnGroup.l0 k x1 x2 x9 (wrap64 (x10 + 1)) x264000 x264001 (x264002.set (x10 : Int).toNat (⟨(rd_T89 x264002 x10).f0, wrap64 (1 - ((rd_T89 x264002 x10).f1))⟩ : S89))) else (impl_turnGroup.l0 k x1 x2 x9 (wrap64 (x10 + 1)) x264000 x264001 x264002)) else (none)) else (none)) else (none)) else (impl_turnGroup.l0 k x1 x2 x9 (wrap64 (x10 + 1)) x264000 x264001 x264002)) else (none)) else (none)) else (some x264002)
def impl_turnGroup.f (k : Nat) (a0_0 : Int) (a0_1 : Int) (l0_2 : List (S89)) (l1 : List Int) (a2 : Int) : Option ((List (S89))) := impl_turnGroup.l0 k l1 a2 (l0_2.length : Int) 0 a0_0 a0_1 l0_2
def impl_turnGroup.T4 : Bool × List (List Nat × List Nat) := (true, [([], []), ([0], [0]), ([], []), ([1, 2], [1, 2]), ([3], [3]), ([4], [4]), ([5], [5]), ([6], [6]), ([7], [7]), ([7], [7]), ([8, 9, 7], [7, 8, 9]), ([10, 7], [7, 10]), ([7], [7]), ([7], [7]), ([12, 13, 7], [7, 12, 13]), ([14, 7], [7, 14]), ([11, 15, 7], [7, 11, 15]), ([7, 16], [7, 16])])
def impl_turnGroup.B4 : List Nat := [0, 1, 0, 7, 15, 31, 63, 127, 255, 255, 1023, 2047, 255, 255, 12543, 28927, 65535, 131071]
theorem impl_turnGroup.tab4 : rtab .any (opsOf Try.f74 4) = impl_turnGroup.T4 := by kernel_rfl
theorem impl_turnGroup.bits4 : waitsOk impl_turnGroup.T4.2 impl_turnGroup.B4 = true := by kernel_rfl
def impl_turnGroup.T5 : Bool × List (List Nat × List Nat) := (true, [([], []), ([0], [0]), ([], []), ([], []), ([3], [3]), ([], []), ([4, 5], [4, 5]), ([6], [6]), ([7], [7]), ([8], [8]), ([1, 2, 0, 1, 2, 3, 4, 5, 6, 7, 8, 9], [1, 2]), ([10, 0, 1, 2, 3, 4, 5, 6, 7, 8, 9], [10]), ([11, 9, 0, 1, 2, 3, 4, 5, 6, 7, 8, 9], [9, 11])])
def impl_turnGroup.B5 : List Nat := [0, 1, 0, 0, 8, 0, 56, 120, 248, 504, 1023, 2047, 4095]
theorem impl_turnGroup.tab5 : rtab .any (opsOf Try.f74 5) = impl_turnGroup.T5 := by kernel_rfl
theorem impl_turnGroup.bits5 : waitsOk impl_turnGroup.T5.2 impl_turnGroup.B5 = true := by kernel_rfl
set_option maxHeartbeats 8000000 in
set_option maxRecDepth 100000 in
theorem impl_turnGroup.calls (k : Nat) (a0_0 : Int) (a0_1 : Int) (P0_2_ : Nat → Prop) (u9000_ : Value) (l0_2 : List (S89)) (A1 : Option Addr) (c1 : Nat) (l1 : List Int) (a2 : Int) (r : List (S89)) (w0 w : World) (hB : Below w0.heap.size w0 w) (ho0_2 : Kd.R k89 89 w w0.heap.size P0_2_ u9000_ l0_2) (hr1 : ∀ W_, Kept w W_ (fun k_ => P0_2_ k_) → Kd.C (Kd.int .i64) W_ A1 l1.length l1) (hc1 : l1.length ≤ c1) (h : impl_turnGroup.f k a0_0 a0_1 l0_2 l1 a2 = some r) :
 Calls Try.prog 74 #[.agg #[.int .i64 a0_0, .int .i64 a0_1, u9000_], .slice A1 l1.length c1, .int .i64 a2] w fun e w' => e = .returned (.tuple #[]) ∧ Kd.R k89 89 w' w0.heap.size (fun k_ => (P0_2_ k_ ∨ w.heap.size ≤ k_)) u9000_ r ∧ Below w0.heap.size w0 w' ∧ Kept w w' (fun k_ => P0_2_ k_) := by
 have Bc := Try.underlying32
 have Ah := Z.m (show Kd.R k89 89 w w0.heap.size (fun k_ => (P0_2_ k_ ∨ w.heap.size ≤ k_)) u9000_ l0_2 from Kd.Rm ho0_2 (fun k_ hk => (.inl hk)))
 have Al := Z.m hr1
 have Be := Z.m hc1
 clear hr1 hc1
 have HK := Z.m (Kept.refl w (fun k_ => P0_2_ k_))
 have HW0 := Z.m hB.size
 have HB := Z.m hB
 clear hB
 have H : (impl_turnGroup.l0 k l1 a2 (l0_2.length : Int) 0 a0_0 a0_1 l0_2) = some r := h
 clear h
 have H' := Z.m H
 clear H
 obtain ⟨AS, Aq, Bb⟩ := Kd.R_slice Ah.o
 subst Bb
 go_enter Try.func74, Try.ntmps74
 go_wp2_with (first | ((with_reducible refine gq (N := 3) rfl ?_); refine be (N := 3) (cs := #[.int .i64 a0_0, .int .i64 a0_1, .slice AS l0_2.length Aq]) (t := 32) ?_; intro A9 hg w5 hbox hb; have A5 := Z.m (hbox); have AC := Z.m ((by rw [hg]; exact (by first | exact HK.o.1 | exact (show Kept w _ (fun k_ => P0_2_ k_) from vT HK).1) : w.heap.size ≤ A9)); have AU := gW (w := w0) HB hg; replace Ah := Z.m (Kd.Rb (vR Ah) hb); replace HK := Z.m (Kept.below (S := (fun k_ => P0_2_ k_)) (vT HK) hb); replace HB := bB HB hb; clear hb hbox hg; have Ar := bc0 A5; have As := bc1 A5; have At := bc2 A5; have Aw := qz A5.o 0; have Ax := qz A5.o 1; have Ay := qz A5.o 2))
 go_loopg [10] k (fun kq v10 w' => ∃ (A2 : Int) (A0 : List (S89)), v10 = .int .i64 A2 ∧ Z (impl_turnGroup.l0 kq l1 a2 (l0_2.length : Int) A2 a0_0 a0_1 A0 = some r) ∧ Z (kq ≤ k) ∧ Z (Kd.R k89 89 w' w0.heap.size (fun k_ => (P0_2_ k_ ∨ w.heap.size ≤ k_)) (.slice AS l0_2.length Aq) A0) ∧ Z (w'.heap[A9]? = some (.cells #[.int .i64 a0_0, .int .i64 a0_1, (.slice AS l0_2.length Aq)] 32 (0, 0))) ∧ Z (Kept w w' (fun k_ => P0_2_ k_)) ∧ Z (Below w0.heap.size w0 w'))
 case atStart => exact ⟨(0), (l0_2), (by first | rfl | (simp; done) | (simp [*]; done)), H', ⟨Nat.le_refl _⟩, ⟨vR Ah⟩, ⟨vK A5⟩, ⟨vT HK⟩, ⟨vB HB⟩⟩
 case round =>
  clear H'
  (try clear Ar); (try clear As); (try clear At); (try clear Aw); (try clear Ax); (try clear Ay)
  obtain ⟨A2, A0, rfl, HA, AB, A3, A5, HK, HB⟩ := hrel
  have A4 := (Kd.RrZ A3.o).1
  rw [A4] at A3
  (try simp only [A4])
  (try simp only [A4] at A5)
  cases gk with
  | zero => exact absurd HA.o (by simp [impl_turnGroup.l0])
  | succ k1 =>
   have H := HA.o
   clear HA
   simp only [impl_turnGroup.l0] at H
   by_cases c7 : A2 < (l0_2.length : Int)
   ·rw [if_pos c7] at H
    have AK := decide_eq_true c7
    clear c7
    by_cases c8 : 0 ≤ A2
    ·rw [if_pos c8] at H
     have AZ := decide_eq_true c8
     clear c8
     by_cases c9 : A2 < (A0.length : Int)
     ·rw [if_pos c9] at H
      have B0 := decide_eq_true c9
      clear c9
      by_cases c10 : ((rd_T89 A0 A2).f0) = 6
      ·rw [if_pos c10] at H
       have AG := beq_iff_eq.mpr c10
       have AH := bne_eq_false_iff_eq.mpr c10
       clear c10
       by_cases c11 : A2 < (l1.length : Int)
       ·rw [if_pos c11] at H
        have AV := decide_eq_true c11
        clear c11
        by_cases c12 : 0 ≤ a2
        ·rw [if_pos c12] at H
         have AW := decide_eq_true c12
         clear c12
         by_cases c13 : a2 < (l1.length : Int)
         ·rw [if_pos c13] at H
          have AX := decide_eq_true c13
          clear c13
          by_cases c14 : (rd l1 A2) = (rd l1 a2)
          ·rw [if_pos c14] at H
           have AI := beq_iff_eq.mpr c14
           have AJ := bne_eq_false_iff_eq.mpr c14
           clear c14
           obtain ⟨AR, Ag⟩ : ∃ y_ : List (S89), y_ = (A0.set (A2 : Int).toNat (⟨(rd_T89 A0 A2).f0, wrap64 (1 - ((rd_T89 A0 A2).f1))⟩ : S89)) := ⟨_, rfl⟩
           replace H : (impl_turnGroup.l0 k1 l1 a2 (l0_2.length : Int) (wrap64 (A2 + 1)) a0_0 a0_1 AR) = some r := by first | (rw [Ag]; with_reducible exact H) | (have H2_ := (Option.bind_some _ _).symm.trans H; rw [Ag]; with_reducible exact H2_) | (have H2_ := (Option.bind_some _ _).symm.trans H; with_reducible exact H2_) | with_reducible exact H | (rw [Ag]; exact H) | exact H
           have AE := Z.m Ag
           clear Ag
           have H' := Z.m H
           clear H
           try go_wp2
           replace A3 := Z.m (Kd.R_drew A3.o)
           replace A5 := Z.m (blk_drew A5.o)
           replace HK := Z.m (Kept.drew HK.o)
           replace HB := Z.m (qd HB.o)
           have p264 : 0 ≤ (A2 : Int) := ofD
           have q264 : A2 < (A0.length : Int) := ofD
           obtain ⟨A8, e264, A6, A7⟩ := at_T89 (Kd.RrZ A3.o).2.2 A2 p264 q264
           cases e264
           replace p264 := eq_true p264
           replace q264 := eq_true q264
           have p265 : 0 ≤ (A2 : Int) := ofD
           have q265 : A2 < (l1.length : Int) := ofD
           obtain ⟨Ac, e265, Aa⟩ := Kd.at_int (Kd.C_kept_now Al.o HK.o) A2 p265 q265
           have hw265_0 := Aa
           cases e265
           replace p265 := eq_true p265
           replace q265 := eq_true q265
           have p266 : 0 ≤ (a2 : Int) := ofD
           have q266 : a2 < (l1.length : Int) := ofD
           obtain ⟨Ai, e266, Ab⟩ := Kd.at_int (Kd.C_kept_now Al.o HK.o) a2 p266 q266
           have hw266_0 := Ab
           obtain rfl : Ac = Ai := (by injection e266)
           replace p266 := eq_true p266
           replace q266 := eq_true q266
           refine start_ (n := 18) (S := fun w' => w'.cell? ⟨A9, 0, none⟩ = some (.int .i64 a0_0) ∧ w'.cell? ⟨A9, 1, none⟩ = some (.int .i64 a0_1) ∧ w'.cell? ⟨A9, 2, none⟩ = some (.slice (some A8) A0.length Aq) ∧ w'.cell? (A8.add ((A2).toNat * 2)) = some (.int .i64 ((rd_T89 A0 A2).f0)) ∧ w'.cell? ⟨(A8.add ((A2).toNat * 2)).block, (A8.add ((A2).toNat * 2)).off + 1, none⟩ = some (.int .i64 ((rd_T89 A0 A2).f1)) ∧ w'.cell? (Ac.add (A2).toNat) = some (.int .i64 (rd l1 A2)) ∧ w'.cell? (Ac.add (a2).toNat) = some (.int .i64 (rd l1 a2))) (ds := []) #[false, false, false, false, false, false, false, false, false, false, false, false, false, false, false, false, false, false] (by kernel_rfl) rfl rfl ⟨(ql A5.o 0).trans rfl, (ql A5.o 1).trans rfl, (ql A5.o 2).trans rfl, A6, A7, (Kd.foot_int (Al.o _ (by repeat (first | exact HK.o | apply Kept.alloc | apply Kept.drewN | apply Kept.drew))) A2 (of_eq_true p265) (of_eq_true q265)), (Kd.foot_int (Al.o _ (by repeat (first | exact HK.o | apply Kept.alloc | apply Kept.drewN | apply Kept.drew))) a2 (of_eq_true p266) (of_eq_true q266))⟩ (fun hHeld => ?_); refine with_tabW impl_turnGroup.tab4 impl_turnGroup.bits4 (fun HT_ HW_ => ?_)
           generalize wr.drew = Bd at A3 A5 HK HB A6 A7 Aa Ab hHeld ⊢
           refine pure_ (i := 0) (N := some 13) (v := ?_) (a' := ?_) #[true, false, false, false, false, false, false, false, false, false, false, false, false, false, false, false, false, false] rfl rfl (any_of HT_.o (by kernel_rfl)) (fun _ _ _ h => h) (Or.inl ⟨by rfl, ?_⟩) ?_ ?_
           rotate_left
           ·intro w'
            go_simp
            with_reducible rfl
           rotate_left
           ·simp only [Act.put, q1, q2, q3, i64_w, i32_w]
            rfl
           refine pure_ (i := 2) (N := some 15) (v := ?_) (a' := ?_) #[true, false, true, false, false, false, false, false, false, false, false, false, false, false, false, false, false, false] rfl rfl (any_of HT_.o (by kernel_rfl)) (fun _ _ _ h => h) (Or.inl ⟨by rfl, ?_⟩) ?_ ?_
           rotate_left
           ·intro w'
            go_simp
            with_reducible rfl
           rotate_left
           ·simp only [Act.put, q1, q2, q3, i64_w, i32_w]
            rfl
           refine take_ (i := 1) (N := some 14) (v := ?_) (a' := ?_) #[true, true, true, false, false, false, false, false, false, false, false, false, false, false, false, false, false, false] rfl rfl (take_ofW HT_.o HW_.o (by kernel_rfl)) (fun _ _ _ h => h) (Or.inl ⟨by rfl, ?_⟩) hHeld ?_ ?_
           rotate_left
           ·rintro w' ⟨s0, s1, s2, s3, s4, s5, s6⟩
            go_simp
            with_reducible rfl
           rotate_left
           ·simp only [Act.put, q1, q2, q3, i64_w, i32_w]
            rfl
           refine pure_ (i := 3) (N := some 16) (v := ?_) (a' := ?_) #[true, true, true, true, false, false, false, false, false, false, false, false, false, false, false, false, false, false] rfl rfl (any_of HT_.o (by kernel_rfl)) (fun _ _ _ h => h) (Or.inl ⟨by rfl, ?_⟩) ?_ ?_
           rotate_left
           ·intro w'
            go_simp
            with_reducible rfl
           rotate_left
           ·simp only [Act.put, q1, q2, q3, i64_w, i32_w]
            rfl
           refine pure_ (i := 4) (N := some 17) (v := ?_) (a' := ?_) #[true, true, true, true, true, false, false, false, false, false, false, false, false, false, false, false, false, false] rfl rfl (any_of HT_.o (by kernel_rfl)) (fun _ _ _ h => h) (Or.inl ⟨by rfl, ?_⟩) ?_ ?_
           rotate_left
           ·intro w'
            go_simp
            with_reducible rfl
           rotate_left
           ·simp only [Act.put, q1, q2, q3, i64_w, i32_w]
            rfl
           refine take_ (i := 5) (N := some 18) (v := ?_) (a' := ?_) #[true, true, true, true, true, true, false, false, false, false, false, false, false, false, false, false, false, false] rfl rfl (take_ofW HT_.o HW_.o (by kernel_rfl)) (fun _ _ _ h => h) (Or.inl ⟨by rfl, ?_⟩) hHeld ?_ ?_
           rotate_left
           ·rintro w' ⟨s0, s1, s2, s3, s4, s5, s6⟩
            go_simp
            with_reducible rfl
           rotate_left
           ·simp only [Act.put, q1, q2, q3, i64_w, i32_w]
            rfl
           refine pure_ (i := 6) (N := some 19) (v := ?_) (a' := ?_) #[true, true, true, true, true, true, true, false, false, false, false, false, false, false, false, false, false, false] rfl rfl (any_of HT_.o (by kernel_rfl)) (fun _ _ _ h => h) (Or.inl ⟨by rfl, ?_⟩) ?_ ?_
           rotate_left
           ·intro w'
            go_simp
            with_reducible rfl
           rotate_left
           ·simp only [Act.put, q1, q2, q3, i64_w, i32_w]
            rfl
           refine pure_ (i := 7) (N := some 20) (v := ?_) (a' := ?_) #[true, true, true, true, true, true, true, true, false, false, false, false, false, false, false, false, false, false] rfl rfl (any_of HT_.o (by kernel_rfl)) (fun _ _ _ h => h) (Or.inl ⟨by rfl, ?_⟩) ?_ ?_
           rotate_left
           ·intro w'
            go_simp
            with_reducible rfl
           rotate_left
           ·simp only [Act.put, q1, q2, q3, i64_w, i32_w]
            rfl
           refine pure_ (i := 8) (N := some 21) (v := ?_) (a' := ?_) #[true, true, true, true, true, true, true, true, true, false, false, false, false, false, false, false, false, false] rfl rfl (any_of HT_.o (by kernel_rfl)) (fun _ _ _ h => h) (Or.inl ⟨by rfl, ?_⟩) ?_ ?_
           rotate_left
           ·intro w'
            go_simp
            with_reducible rfl
           rotate_left
           ·simp only [Act.put, q1, q2, q3, i64_w, i32_w]
            rfl
           refine pure_ (i := 9) (N := some 22) (v := ?_) (a' := ?_) #[true, true, true, true, true, true, true, true, true, true, false, false, false, false, false, false, false, false] rfl rfl (any_of HT_.o (by kernel_rfl)) (fun _ _ _ h => h) (Or.inl ⟨by rfl, ?_⟩) ?_ ?_
           rotate_left
           ·intro w'
            go_simp
            with_reducible rfl
           rotate_left
           ·simp only [Act.put, q1, q2, q3, i64_w, i32_w]
            rfl
           refine pure_ (i := 10) (N := some 23) (v := ?_) (a' := ?_) #[true, true, true, true, true, true, true, true, true, true, true, false, false, false, false, false, false, false] rfl rfl (any_of HT_.o (by kernel_rfl)) (fun _ _ _ h => h) (Or.inl ⟨by rfl, ?_⟩) ?_ ?_
           rotate_left
           ·intro w'
            go_simp
            with_reducible rfl
           rotate_left
           ·simp only [Act.put, q1, q2, q3, i64_w, i32_w]
            rfl
           refine pure_ (i := 12) (N := some 25) (v := ?_) (a' := ?_) #[true, true, true, true, true, true, true, true, true, true, true, false, true, false, false, false, false, false] rfl rfl (any_of HT_.o (by kernel_rfl)) (fun _ _ _ h => h) (Or.inl ⟨by rfl, ?_⟩) ?_ ?_
           rotate_left
           ·intro w'
            go_simp
            with_reducible rfl
           rotate_left
           ·simp only [Act.put, q1, q2, q3, i64_w, i32_w]
            rfl
           refine pure_ (i := 13) (N := some 26) (v := ?_) (a' := ?_) #[true, true, true, true, true, true, true, true, true, true, true, false, true, true, false, false, false, false] rfl rfl (any_of HT_.o (by kernel_rfl)) (fun _ _ _ h => h) (Or.inl ⟨by rfl, ?_⟩) ?_ ?_
           rotate_left
           ·intro w'
            go_simp
            with_reducible rfl
           rotate_left
           ·simp only [Act.put, q1, q2, q3, i64_w, i32_w]
            rfl
           refine pure_ (i := 14) (N := some 27) (v := ?_) (a' := ?_) #[true, true, true, true, true, true, true, true, true, true, true, false, true, true, true, false, false, false] rfl rfl (any_of HT_.o (by kernel_rfl)) (fun _ _ _ h => h) (Or.inl ⟨by rfl, ?_⟩) ?_ ?_
           rotate_left
           ·intro w'
            go_simp
            with_reducible rfl
           rotate_left
           ·simp only [Act.put, q1, q2, q3, i64_w, i32_w]
            rfl
           refine take_ (i := 11) (N := some 24) (v := ?_) (a' := ?_) #[true, true, true, true, true, true, true, true, true, true, true, true, true, true, true, false, false, false] rfl rfl (take_ofW HT_.o HW_.o (by kernel_rfl)) (fun _ _ _ h => h) (Or.inl ⟨by rfl, ?_⟩) hHeld ?_ ?_
           rotate_left
           ·rintro w' ⟨s0, s1, s2, s3, s4, s5, s6⟩
            go_simp
            with_reducible rfl
           rotate_left
           ·simp only [Act.put, q1, q2, q3, i64_w, i32_w]
            rfl
           refine take_ (i := 15) (N := some 28) (v := ?_) (a' := ?_) #[true, true, true, true, true, true, true, true, true, true, true, true, true, true, true, true, false, false] rfl rfl (take_ofW HT_.o HW_.o (by kernel_rfl)) (fun _ _ _ h => h) (Or.inl ⟨by rfl, ?_⟩) hHeld ?_ ?_
           rotate_left
           ·rintro w' ⟨s0, s1, s2, s3, s4, s5, s6⟩
            go_simp
            with_reducible rfl
           rotate_left
           ·simp only [Act.put, q1, q2, q3, i64_w, i32_w]
            rfl
           refine pure_ (i := 16) (N := some 29) (v := ?_) (a' := ?_) #[true, true, true, true, true, true, true, true, true, true, true, true, true, true, true, true, true, false] rfl rfl (any_of HT_.o (by kernel_rfl)) (fun _ _ _ h => h) (Or.inl ⟨by rfl, ?_⟩) ?_ ?_
           rotate_left
           ·intro w'
            go_simp
            with_reducible rfl
           rotate_left
           ·simp only [Act.put, q1, q2, q3, i64_w, i32_w]
            rfl
           refine pure_ (i := 17) (N := some 30) (v := ?_) (a' := ?_) #[true, true, true, true, true, true, true, true, true, true, true, true, true, true, true, true, true, true] rfl rfl (any_of HT_.o (by kernel_rfl)) (fun _ _ _ h => h) (Or.inl ⟨by rfl, ?_⟩) ?_ ?_
           rotate_left
           ·intro w'
            go_simp
            with_reducible rfl
           rotate_left
           ·simp only [Act.put, q1, q2, q3, i64_w, i32_w]
            rfl
           refine done_ (done_of HT_.o (by kernel_rfl)) ?_
           try go_wp2
           replace A3 := Z.m (Kd.R_drew A3.o)
           replace A5 := Z.m (blk_drew A5.o)
           replace HK := Z.m (Kept.drew HK.o)
           replace HB := Z.m (qd HB.o)
           have p267 : 0 ≤ (A2 : Int) := ofD
           have q267 : A2 < (A0.length : Int) := ofD
           obtain ⟨AF, e267, Ae, Af⟩ := at_T89 (Kd.RrZ A3.o).2.2 A2 p267 q267
           obtain rfl : A8 = AF := (by injection e267)
           replace p267 := eq_true p267
           replace q267 := eq_true q267
           have p15 : 0 ≤ (A2 : Int) := ofD
           have q15 : (A2 : Int) < ((A0.length : Int) : Int) := ofD
           obtain ⟨Ad, Ba, AL, AM, gl15, cl15, AD⟩ := Kd.R_form A3.o (by omega)
           (first | cases AL | (injection AL with ea_ en_ ec_; (first | subst ea_ | (injection ea_ with ea_; subst ea_)); subst ec_; clear en_))
           have AY := Z.m AM
           have AT := Z.m AD
           clear AM gl15 AD
           have Ao := Z.m (show (P0_2_ Ad ∨ w.heap.size ≤ Ad) from (A3.o.1 _ rfl))
           (first | simp only [add_plain] at A6 | skip)
           (first | simp only [add_plain] at A7 | skip)
           (first | simp only [add_plain] at Ae | skip)
           (first | simp only [add_plain] at Af | skip)
           obtain ⟨B2, AP, AN, Aj, Ak⟩ := Kd.R_elem A3.o z89 (A2 : Int) p15 q15
           obtain rfl := k89_openM AN
           have Az : World.cell? _ ⟨Ad, (A2 : Int).toNat * 2, none⟩ = some (.int .i64 ((rd_T89 A0 A2).f0)) := Aj 0 _ rfl
           have AA : World.cell? _ ⟨Ad, (A2 : Int).toNat * 2 + 1, none⟩ = some (.int .i64 ((rd_T89 A0 A2).f1)) := Aj 1 _ rfl
           have Au : World.frozen? _ ⟨Ad, (A2 : Int).toNat * 2, none⟩ = false := Ak 0
           have Av : World.frozen? _ ⟨Ad, (A2 : Int).toNat * 2 + 1, none⟩ = false := Ak 1
           (try clear AP); (try clear Aj); (try clear Ak); (try clear AN)
           replace p15 := eq_true p15
           replace q15 := eq_true q15
           obtain ⟨B7, An, AO, Am, AQ⟩ := Kd.R_elem A3.o z89 (A2 : Int) (ofD) (by have h_ : (A2 : Int) < ((A0.length : Int) : Int) := ofD; first | exact h_ | (have e_ := (Kd.RrZ A3.o).1; omega) | simpa using h_)
           obtain rfl := k89_openM AO
           have Ap := (Kd.R_seg A3.o (A2 : Int) (ofD) (by have h_ : (A2 : Int) < ((A0.length : Int) : Int) := ofD; first | exact h_ | (have e_ := (Kd.RrZ A3.o).1; omega) | simpa using h_) (seg := [.int .i64 (wrap64 (1 - ((rd_T89 A0 A2).f1)))]) (j := 1) An Am (show 2 ≤ 2 from by decide) (x' := (⟨(rd_T89 A0 A2).f0, wrap64 (1 - ((rd_T89 A0 A2).f1))⟩ : S89)) (k89_mkM _ _ _ (⟨(rd_T89 A0 A2).f0, wrap64 (1 - ((rd_T89 A0 A2).f1))⟩ : S89) ) (fun _ hk => hk)).1
           rw [← AE.o] at Ap
           have HQ18 := Z.m Ap
           (try clear An); (try clear Am); (try clear AQ); (try clear AO); (try clear Ap)
           refine start_ (n := 13) (S := fun w' => w'.cell? ⟨A9, 0, none⟩ = some (.int .i64 a0_0) ∧ w'.cell? ⟨A9, 1, none⟩ = some (.int .i64 a0_1) ∧ w'.cell? ⟨A9, 2, none⟩ = some (.slice (some ⟨Ad, 0, none⟩) A0.length Aq) ∧ w'.cell? ⟨Ad, ((A2).toNat * 2), none⟩ = some (.int .i64 ((rd_T89 A0 A2).f0)) ∧ w'.cell? ⟨Ad, ((A2).toNat * 2) + 1, none⟩ = some (.int .i64 ((rd_T89 A0 A2).f1))) (ds := [12]) #[false, false, false, false, false, false, false, false, false, false, false, false, false] (by kernel_rfl) rfl rfl ⟨(ql A5.o 0).trans rfl, (ql A5.o 1).trans rfl, (ql A5.o 2).trans rfl, Ae, Af⟩ (fun hHeld => ?_); refine with_tabW impl_turnGroup.tab5 impl_turnGroup.bits5 (fun HT_ HW_ => ?_)
           generalize Bd.drew = Bf at A3 A5 HK HB AT HQ18 Au Av Az AA A6 A7 Ae Af hHeld ⊢
           refine pure_ (i := 0) (N := some 31) (v := ?_) (a' := ?_) #[true, false, false, false, false, false, false, false, false, false, false, false, false] rfl rfl (any_of HT_.o (by kernel_rfl)) (fun _ _ _ h => h) (Or.inl ⟨by rfl, ?_⟩) ?_ ?_
           rotate_left
           ·intro w'
            go_simp
            with_reducible rfl
           rotate_left
           ·simp only [Act.put, q1, q2, q3, i64_w, i32_w]
            rfl
           refine pure_ (i := 2) (N := some 33) (v := ?_) (a' := ?_) #[true, false, true, false, false, false, false, false, false, false, false, false, false] rfl rfl (any_of HT_.o (by kernel_rfl)) (fun _ _ _ h => h) (Or.inl ⟨by rfl, ?_⟩) ?_ ?_
           rotate_left
           ·intro w'
            go_simp
            with_reducible rfl
           rotate_left
           ·simp only [Act.put, q1, q2, q3, i64_w, i32_w]
            rfl
           refine pure_ (i := 3) (N := some 34) (v := ?_) (a' := ?_) #[true, false, true, true, false, false, false, false, false, false, false, false, false] rfl rfl (any_of HT_.o (by kernel_rfl)) (fun _ _ _ h => h) (Or.inl ⟨by rfl, ?_⟩) ?_ ?_
           rotate_left
           ·intro w'
            go_simp
            with_reducible rfl
           rotate_left
           ·simp only [Act.put, q1, q2, q3, i64_w, i32_w]
            rfl
           refine pure_ (i := 5) (N := some 36) (v := ?_) (a' := ?_) #[true, false, true, true, false, true, false, false, false, false, false, false, false] rfl rfl (any_of HT_.o (by kernel_rfl)) (fun _ _ _ h => h) (Or.inl ⟨by rfl, ?_⟩) ?_ ?_
           rotate_left
           ·intro w'
            go_simp
            with_reducible rfl
           rotate_left
           ·simp only [Act.put, q1, q2, q3, i64_w, i32_w]
            rfl
           refine take_ (i := 1) (N := some 32) (v := ?_) (a' := ?_) #[true, true, true, true, false, true, false, false, false, false, false, false, false] rfl rfl (take_ofW HT_.o HW_.o (by kernel_rfl)) (fun _ _ _ h => h) (Or.inl ⟨by rfl, ?_⟩) hHeld ?_ ?_
           rotate_left
           ·rintro w' ⟨s0, s1, s2, s3, s4⟩
            go_simp
            with_reducible rfl
           rotate_left
           ·simp only [Act.put, q1, q2, q3, i64_w, i32_w]
            rfl
           refine take_ (i := 4) (N := some 35) (v := ?_) (a' := ?_) #[true, true, true, true, true, true, false, false, false, false, false, false, false] rfl rfl (take_ofW HT_.o HW_.o (by kernel_rfl)) (fun _ _ _ h => h) (Or.inl ⟨by rfl, ?_⟩) hHeld ?_ ?_
           rotate_left
           ·rintro w' ⟨s0, s1, s2, s3, s4⟩
            go_simp
            with_reducible rfl
           rotate_left
           ·simp only [Act.put, q1, q2, q3, i64_w, i32_w]
            rfl
           refine pure_ (i := 6) (N := some 37) (v := ?_) (a' := ?_) #[true, true, true, true, true, true, true, false, false, false, false, false, false] rfl rfl (any_of HT_.o (by kernel_rfl)) (fun _ _ _ h => h) (Or.inl ⟨by rfl, ?_⟩) ?_ ?_
           rotate_left
           ·intro w'
            go_simp
            with_reducible rfl
           rotate_left
           ·simp only [Act.put, q1, q2, q3, i64_w, i32_w]
            rfl
           refine pure_ (i := 7) (N := some 38) (v := ?_) (a' := ?_) #[true, true, true, true, true, true, true, true, false, false, false, false, false] rfl rfl (any_of HT_.o (by kernel_rfl)) (fun _ _ _ h => h) (Or.inl ⟨by rfl, ?_⟩) ?_ ?_
           rotate_left
           ·intro w'
            go_simp
            with_reducible rfl
           rotate_left
           ·simp only [Act.put, q1, q2, q3, i64_w, i32_w]
            rfl
           refine take_ (i := 8) (N := some 39) (v := ?_) (a' := ?_) #[true, true, true, true, true, true, true, true, true, false, false, false, false] rfl rfl (take_ofW HT_.o HW_.o (by kernel_rfl)) (fun _ _ _ h => h) (Or.inl ⟨by rfl, ?_⟩) hHeld ?_ ?_
           rotate_left
           ·rintro w' ⟨s0, s1, s2, s3, s4⟩
            go_simp
            with_reducible rfl
           rotate_left
           ·simp only [Act.put, q1, q2, q3, i64_w, i32_w]
            rfl
           refine pure_ (i := 9) (N := some 40) (v := ?_) (a' := ?_) #[true, true, true, true, true, true, true, true, true, true, false, false, false] rfl rfl (any_of HT_.o (by kernel_rfl)) (fun _ _ _ h => h) (Or.inl ⟨by rfl, ?_⟩) ?_ ?_
           rotate_left
           ·intro w'
            go_simp
            with_reducible rfl
           rotate_left
           ·simp only [Act.put, q1, q2, q3, i64_w, i32_w]
            rfl
           refine pure_ (i := 10) (N := some 41) (v := ?_) (a' := ?_) #[true, true, true, true, true, true, true, true, true, true, true, false, false] rfl rfl (any_of HT_.o (by kernel_rfl)) (fun _ _ _ h => h) (Or.inl ⟨by rfl, ?_⟩) ?_ ?_
           rotate_left
           ·intro w'
            go_simp
            with_reducible rfl
           rotate_left
           ·simp only [Act.put, q1, q2, q3, i64_w, i32_w]
            rfl
           refine pure_ (i := 11) (N := some 42) (v := ?_) (a' := ?_) #[true, true, true, true, true, true, true, true, true, true, true, true, false] rfl rfl (any_of HT_.o (by kernel_rfl)) (fun _ _ _ h => h) (Or.inl ⟨by rfl, ?_⟩) ?_ ?_
           rotate_left
           ·intro w'
            go_simp
            with_reducible rfl
           rotate_left
           ·simp only [Act.put, q1, q2, q3, i64_w, i32_w]
            rfl
           refine last_ (i := 12) (N := none) #[true, true, true, true, true, true, true, true, true, true, true, true, true] rfl rfl (one_of HT_.o (by kernel_rfl)) (by decide) (fun K hK => ?_)
           refine skip_ (w1 := ?_) ?hwx ?hnx ?_ ?_; (case hwx => rfl); (case hnx => rfl)
           rotate_left
           ·go_simp
            rfl
           refine hK.out _ _ ?_
           clear hK K
           refine done_ (done_of HT_.o (by kernel_rfl)) ?_
           try go_wp2
           (try simp only [← A4])
           go_roundg k1
           case measure => have := AB.o; omega
           case rel => exact ⟨(wrap64 (A2 + 1)), (AR), (by first | rfl | (simp; done) | (simp [*]; done)), H', ⟨by have := AB.o; omega⟩, ⟨by (try simp only [A4]); refine rK ?_; exact HQ18.o⟩, ⟨by (try simp only [A4]); refine bK ?_; refine qf ?_ (by have h_ := Kd.R_ne A3.o A5.o (by decide); intro e_; exact h_ (by rw [e_]; rfl)) _; refine bK ?_; exact A5.o⟩, ⟨by repeat (first | (with_reducible first | exact HK.o | apply Kept.alloc | apply Kept.drewN | apply Kept.drew | refine Kept.setCell ?_ Ao.o _ | refine Kept.setCell ?_ (.inr AC.o) _) | exact HK.o)⟩, ⟨vB HB⟩⟩
          ·rw [if_neg c14] at H
           have AI := beq_eq_false_iff_ne.mpr c14
           have AJ := bne_iff_ne.mpr c14
           have H' := Z.m H
           clear H
           try go_wp2
           replace A3 := Z.m (Kd.R_drew A3.o)
           replace A5 := Z.m (blk_drew A5.o)
           replace HK := Z.m (Kept.drew HK.o)
           replace HB := Z.m (qd HB.o)
           have p264 : 0 ≤ (A2 : Int) := ofD
           have q264 : A2 < (A0.length : Int) := ofD
           obtain ⟨A8, e264, A6, A7⟩ := at_T89 (Kd.RrZ A3.o).2.2 A2 p264 q264
           cases e264
           replace p264 := eq_true p264
           replace q264 := eq_true q264
           have p265 : 0 ≤ (A2 : Int) := ofD
           have q265 : A2 < (l1.length : Int) := ofD
           obtain ⟨Ac, e265, Aa⟩ := Kd.at_int (Kd.C_kept_now Al.o HK.o) A2 p265 q265
           have hw265_0 := Aa
           cases e265
           replace p265 := eq_true p265
           replace q265 := eq_true q265
           have p266 : 0 ≤ (a2 : Int) := ofD
           have q266 : a2 < (l1.length : Int) := ofD
           obtain ⟨Ai, e266, Ab⟩ := Kd.at_int (Kd.C_kept_now Al.o HK.o) a2 p266 q266
           have hw266_0 := Ab
           obtain rfl : Ac = Ai := (by injection e266)
           replace p266 := eq_true p266
           replace q266 := eq_true q266
           refine start_ (n := 18) (S := fun w' => w'.cell? ⟨A9, 0, none⟩ = some (.int .i64 a0_0) ∧ w'.cell? ⟨A9, 1, none⟩ = some (.int .i64 a0_1) ∧ w'.cell? ⟨A9, 2, none⟩ = some (.slice (some A8) A0.length Aq) ∧ w'.cell? (A8.add ((A2).toNat * 2)) = some (.int .i64 ((rd_T89 A0 A2).f0)) ∧ w'.cell? ⟨(A8.add ((A2).toNat * 2)).block, (A8.add ((A2).toNat * 2)).off + 1, none⟩ = some (.int .i64 ((rd_T89 A0 A2).f1)) ∧ w'.cell? (Ac.add (A2).toNat) = some (.int .i64 (rd l1 A2)) ∧ w'.cell? (Ac.add (a2).toNat) = some (.int .i64 (rd l1 a2))) (ds := []) #[false, false, false, false, false, false, false, false, false, false, false, false, false, false, false, false, false, false] (by kernel_rfl) rfl rfl ⟨(ql A5.o 0).trans rfl, (ql A5.o 1).trans rfl, (ql A5.o 2).trans rfl, A6, A7, (Kd.foot_int (Al.o _ (by repeat (first | exact HK.o | apply Kept.alloc | apply Kept.drewN | apply Kept.drew))) A2 (of_eq_true p265) (of_eq_true q265)), (Kd.foot_int (Al.o _ (by repeat (first | exact HK.o | apply Kept.alloc | apply Kept.drewN | apply Kept.drew))) a2 (of_eq_true p266) (of_eq_true q266))⟩ (fun hHeld => ?_); refine with_tabW impl_turnGroup.tab4 impl_turnGroup.bits4 (fun HT_ HW_ => ?_)
           generalize wr.drew = Bg at A3 A5 HK HB A6 A7 Aa Ab hHeld ⊢
           refine pure_ (i := 0) (N := some 13) (v := ?_) (a' := ?_) #[true, false, false, false, false, false, false, false, false, false, false, false, false, false, false, false, false, false] rfl rfl (any_of HT_.o (by kernel_rfl)) (fun _ _ _ h => h) (Or.inl ⟨by rfl, ?_⟩) ?_ ?_
           rotate_left
           ·intro w'
            go_simp
            with_reducible rfl
           rotate_left
           ·simp only [Act.put, q1, q2, q3, i64_w, i32_w]
            rfl
           refine pure_ (i := 2) (N := some 15) (v := ?_) (a' := ?_) #[true, false, true, false, false, false, false, false, false, false, false, false, false, false, false, false, false, false] rfl rfl (any_of HT_.o (by kernel_rfl)) (fun _ _ _ h => h) (Or.inl ⟨by rfl, ?_⟩) ?_ ?_
           rotate_left
           ·intro w'
            go_simp
            with_reducible rfl
           rotate_left
           ·simp only [Act.put, q1, q2, q3, i64_w, i32_w]
            rfl
           refine take_ (i := 1) (N := some 14) (v := ?_) (a' := ?_) #[true, true, true, false, false, false, false, false, false, false, false, false, false, false, false, false, false, false] rfl rfl (take_ofW HT_.o HW_.o (by kernel_rfl)) (fun _ _ _ h => h) (Or.inl ⟨by rfl, ?_⟩) hHeld ?_ ?_
           rotate_left
           ·rintro w' ⟨s0, s1, s2, s3, s4, s5, s6⟩
            go_simp
            with_reducible rfl
           rotate_left
           ·simp only [Act.put, q1, q2, q3, i64_w, i32_w]
            rfl
           refine pure_ (i := 3) (N := some 16) (v := ?_) (a' := ?_) #[true, true, true, true, false, false, false, false, false, false, false, false, false, false, false, false, false, false] rfl rfl (any_of HT_.o (by kernel_rfl)) (fun _ _ _ h => h) (Or.inl ⟨by rfl, ?_⟩) ?_ ?_
           rotate_left
           ·intro w'
            go_simp
            with_reducible rfl
           rotate_left
           ·simp only [Act.put, q1, q2, q3, i64_w, i32_w]
            rfl
           refine pure_ (i := 4) (N := some 17) (v := ?_) (a' := ?_) #[true, true, true, true, true, false, false, false, false, false, false, false, false, false, false, false, false, false] rfl rfl (any_of HT_.o (by kernel_rfl)) (fun _ _ _ h => h) (Or.inl ⟨by rfl, ?_⟩) ?_ ?_
           rotate_left
           ·intro w'
            go_simp
            with_reducible rfl
           rotate_left
           ·simp only [Act.put, q1, q2, q3, i64_w, i32_w]
            rfl
           refine take_ (i := 5) (N := some 18) (v := ?_) (a' := ?_) #[true, true, true, true, true, true, false, false, false, false, false, false, false, false, false, false, false, false] rfl rfl (take_ofW HT_.o HW_.o (by kernel_rfl)) (fun _ _ _ h => h) (Or.inl ⟨by rfl, ?_⟩) hHeld ?_ ?_
           rotate_left
           ·rintro w' ⟨s0, s1, s2, s3, s4, s5, s6⟩
            go_simp
            with_reducible rfl
           rotate_left
           ·simp only [Act.put, q1, q2, q3, i64_w, i32_w]
            rfl
           refine pure_ (i := 6) (N := some 19) (v := ?_) (a' := ?_) #[true, true, true, true, true, true, true, false, false, false, false, false, false, false, false, false, false, false] rfl rfl (any_of HT_.o (by kernel_rfl)) (fun _ _ _ h => h) (Or.inl ⟨by rfl, ?_⟩) ?_ ?_
           rotate_left
           ·intro w'
            go_simp
            with_reducible rfl
           rotate_left
           ·simp only [Act.put, q1, q2, q3, i64_w, i32_w]
            rfl
           refine pure_ (i := 7) (N := some 20) (v := ?_) (a' := ?_) #[true, true, true, true, true, true, true, true, false, false, false, false, false, false, false, false, false, false] rfl rfl (any_of HT_.o (by kernel_rfl)) (fun _ _ _ h => h) (Or.inl ⟨by rfl, ?_⟩) ?_ ?_
           rotate_left
           ·intro w'
            go_simp
            with_reducible rfl
           rotate_left
           ·simp only [Act.put, q1, q2, q3, i64_w, i32_w]
            rfl
           refine pure_ (i := 8) (N := some 21) (v := ?_) (a' := ?_) #[true, true, true, true, true, true, true, true, true, false, false, false, false, false, false, false, false, false] rfl rfl (any_of HT_.o (by kernel_rfl)) (fun _ _ _ h => h) (Or.inl ⟨by rfl, ?_⟩) ?_ ?_
           rotate_left
           ·intro w'
            go_simp
            with_reducible rfl
           rotate_left
           ·simp only [Act.put, q1, q2, q3, i64_w, i32_w]
            rfl
           refine pure_ (i := 9) (N := some 22) (v := ?_) (a' := ?_) #[true, true, true, true, true, true, true, true, true, true, false, false, false, false, false, false, false, false] rfl rfl (any_of HT_.o (by kernel_rfl)) (fun _ _ _ h => h) (Or.inl ⟨by rfl, ?_⟩) ?_ ?_
           rotate_left
           ·intro w'
            go_simp
            with_reducible rfl
           rotate_left
           ·simp only [Act.put, q1, q2, q3, i64_w, i32_w]
            rfl
           refine pure_ (i := 10) (N := some 23) (v := ?_) (a' := ?_) #[true, true, true, true, true, true, true, true, true, true, true, false, false, false, false, false, false, false] rfl rfl (any_of HT_.o (by kernel_rfl)) (fun _ _ _ h => h) (Or.inl ⟨by rfl, ?_⟩) ?_ ?_
           rotate_left
           ·intro w'
            go_simp
            with_reducible rfl
           rotate_left
           ·simp only [Act.put, q1, q2, q3, i64_w, i32_w]
            rfl
           refine pure_ (i := 12) (N := some 25) (v := ?_) (a' := ?_) #[true, true, true, true, true, true, true, true, true, true, true, false, true, false, false, false, false, false] rfl rfl (any_of HT_.o (by kernel_rfl)) (fun _ _ _ h => h) (Or.inl ⟨by rfl, ?_⟩) ?_ ?_
           rotate_left
           ·intro w'
            go_simp
            with_reducible rfl
           rotate_left
           ·simp only [Act.put, q1, q2, q3, i64_w, i32_w]
            rfl
           refine pure_ (i := 13) (N := some 26) (v := ?_) (a' := ?_) #[true, true, true, true, true, true, true, true, true, true, true, false, true, true, false, false, false, false] rfl rfl (any_of HT_.o (by kernel_rfl)) (fun _ _ _ h => h) (Or.inl ⟨by rfl, ?_⟩) ?_ ?_
           rotate_left
           ·intro w'
            go_simp
            with_reducible rfl
           rotate_left
           ·simp only [Act.put, q1, q2, q3, i64_w, i32_w]
            rfl
           refine pure_ (i := 14) (N := some 27) (v := ?_) (a' := ?_) #[true, true, true, true, true, true, true, true, true, true, true, false, true, true, true, false, false, false] rfl rfl (any_of HT_.o (by kernel_rfl)) (fun _ _ _ h => h) (Or.inl ⟨by rfl, ?_⟩) ?_ ?_
           rotate_left
           ·intro w'
            go_simp
            with_reducible rfl
           rotate_left
           ·simp only [Act.put, q1, q2, q3, i64_w, i32_w]
            rfl
           refine take_ (i := 11) (N := some 24) (v := ?_) (a' := ?_) #[true, true, true, true, true, true, true, true, true, true, true, true, true, true, true, false, false, false] rfl rfl (take_ofW HT_.o HW_.o (by kernel_rfl)) (fun _ _ _ h => h) (Or.inl ⟨by rfl, ?_⟩) hHeld ?_ ?_
           rotate_left
           ·rintro w' ⟨s0, s1, s2, s3, s4, s5, s6⟩
            go_simp
            with_reducible rfl
           rotate_left
           ·simp only [Act.put, q1, q2, q3, i64_w, i32_w]
            rfl
           refine take_ (i := 15) (N := some 28) (v := ?_) (a' := ?_) #[true, true, true, true, true, true, true, true, true, true, true, true, true, true, true, true, false, false] rfl rfl (take_ofW HT_.o HW_.o (by kernel_rfl)) (fun _ _ _ h => h) (Or.inl ⟨by rfl, ?_⟩) hHeld ?_ ?_
           rotate_left
           ·rintro w' ⟨s0, s1, s2, s3, s4, s5, s6⟩
            go_simp
            with_reducible rfl
           rotate_left
           ·simp only [Act.put, q1, q2, q3, i64_w, i32_w]
            rfl
           refine pure_ (i := 16) (N := some 29) (v := ?_) (a' := ?_) #[true, true, true, true, true, true, true, true, true, true, true, true, true, true, true, true, true, false] rfl rfl (any_of HT_.o (by kernel_rfl)) (fun _ _ _ h => h) (Or.inl ⟨by rfl, ?_⟩) ?_ ?_
           rotate_left
           ·intro w'
            go_simp
            with_reducible rfl
           rotate_left
           ·simp only [Act.put, q1, q2, q3, i64_w, i32_w]
            rfl
           refine pure_ (i := 17) (N := some 30) (v := ?_) (a' := ?_) #[true, true, true, true, true, true, true, true, true, true, true, true, true, true, true, true, true, true] rfl rfl (any_of HT_.o (by kernel_rfl)) (fun _ _ _ h => h) (Or.inl ⟨by rfl, ?_⟩) ?_ ?_
           rotate_left
           ·intro w'
            go_simp
            with_reducible rfl
           rotate_left
           ·simp only [Act.put, q1, q2, q3, i64_w, i32_w]
            rfl
           refine done_ (done_of HT_.o (by kernel_rfl)) ?_
           try go_wp2
           (try simp only [← A4])
           go_roundg k1
           case measure => have := AB.o; omega
           case rel => exact ⟨(wrap64 (A2 + 1)), (A0), (by first | rfl | (simp; done) | (simp [*]; done)), H', ⟨by have := AB.o; omega⟩, ⟨by (try simp only [A4]); refine rK ?_; exact A3.o⟩, ⟨by (try simp only [A4]); refine bK ?_; exact A5.o⟩, ⟨vT HK⟩, ⟨vB HB⟩⟩
         ·rw [if_neg c13] at H
          exact absurd H (by simp)
        ·rw [if_neg c12] at H
         exact absurd H (by simp)
       ·rw [if_neg c11] at H
        exact absurd H (by simp)
      ·rw [if_neg c10] at H
       have AG := beq_eq_false_iff_ne.mpr c10
       have AH := bne_iff_ne.mpr c10
       have H' := Z.m H
       clear H
       try go_wp2
       replace A3 := Z.m (Kd.R_drew A3.o)
       replace A5 := Z.m (blk_drew A5.o)
       replace HK := Z.m (Kept.drew HK.o)
       replace HB := Z.m (qd HB.o)
       have p264 : 0 ≤ (A2 : Int) := ofD
       have q264 : A2 < (A0.length : Int) := ofD
       obtain ⟨A8, e264, A6, A7⟩ := at_T89 (Kd.RrZ A3.o).2.2 A2 p264 q264
       cases e264
       replace p264 := eq_true p264
       replace q264 := eq_true q264
       refine start_ (n := 18) (S := fun w' => w'.cell? ⟨A9, 0, none⟩ = some (.int .i64 a0_0) ∧ w'.cell? ⟨A9, 1, none⟩ = some (.int .i64 a0_1) ∧ w'.cell? ⟨A9, 2, none⟩ = some (.slice (some A8) A0.length Aq) ∧ w'.cell? (A8.add ((A2).toNat * 2)) = some (.int .i64 ((rd_T89 A0 A2).f0)) ∧ w'.cell? ⟨(A8.add ((A2).toNat * 2)).block, (A8.add ((A2).toNat * 2)).off + 1, none⟩ = some (.int .i64 ((rd_T89 A0 A2).f1))) (ds := []) #[false, false, false, false, false, false, false, false, false, false, false, false, false, false, false, false, false, false] (by kernel_rfl) rfl rfl ⟨(ql A5.o 0).trans rfl, (ql A5.o 1).trans rfl, (ql A5.o 2).trans rfl, A6, A7⟩ (fun hHeld => ?_); refine with_tabW impl_turnGroup.tab4 impl_turnGroup.bits4 (fun HT_ HW_ => ?_)
       generalize wr.drew = Bh at A3 A5 HK HB A6 A7 hHeld ⊢
       refine pure_ (i := 0) (N := some 13) (v := ?_) (a' := ?_) #[true, false, false, false, false, false, false, false, false, false, false, false, false, false, false, false, false, false] rfl rfl (any_of HT_.o (by kernel_rfl)) (fun _ _ _ h => h) (Or.inl ⟨by rfl, ?_⟩) ?_ ?_
       rotate_left
       ·intro w'
        go_simp
        with_reducible rfl
       rotate_left
       ·simp only [Act.put, q1, q2, q3, i64_w, i32_w]
        rfl
       refine pure_ (i := 2) (N := some 15) (v := ?_) (a' := ?_) #[true, false, true, false, false, false, false, false, false, false, false, false, false, false, false, false, false, false] rfl rfl (any_of HT_.o (by kernel_rfl)) (fun _ _ _ h => h) (Or.inl ⟨by rfl, ?_⟩) ?_ ?_
       rotate_left
       ·intro w'
        go_simp
        with_reducible rfl
       rotate_left
       ·simp only [Act.put, q1, q2, q3, i64_w, i32_w]
        rfl
       refine take_ (i := 1) (N := some 14) (v := ?_) (a' := ?_) #[true, true, true, false, false, false, false, false, false, false, false, false, false, false, false, false, false, false] rfl rfl (take_ofW HT_.o HW_.o (by kernel_rfl)) (fun _ _ _ h => h) (Or.inl ⟨by rfl, ?_⟩) hHeld ?_ ?_
       rotate_left
       ·rintro w' ⟨s0, s1, s2, s3, s4⟩
        go_simp
        with_reducible rfl
       rotate_left
       ·simp only [Act.put, q1, q2, q3, i64_w, i32_w]
        rfl
       refine pure_ (i := 3) (N := some 16) (v := ?_) (a' := ?_) #[true, true, true, true, false, false, false, false, false, false, false, false, false, false, false, false, false, false] rfl rfl (any_of HT_.o (by kernel_rfl)) (fun _ _ _ h => h) (Or.inl ⟨by rfl, ?_⟩) ?_ ?_
       rotate_left
       ·intro w'
        go_simp
        with_reducible rfl
       rotate_left
       ·simp only [Act.put, q1, q2, q3, i64_w, i32_w]
        rfl
       refine pure_ (i := 4) (N := some 17) (v := ?_) (a' := ?_) #[true, true, true, true, true, false, false, false, false, false, false, false, false, false, false, false, false, false] rfl rfl (any_of HT_.o (by kernel_rfl)) (fun _ _ _ h => h) (Or.inl ⟨by rfl, ?_⟩) ?_ ?_
       rotate_left
       ·intro w'
        go_simp
        with_reducible rfl
       rotate_left
       ·simp only [Act.put, q1, q2, q3, i64_w, i32_w]
        rfl
       refine take_ (i := 5) (N := some 18) (v := ?_) (a' := ?_) #[true, true, true, true, true, true, false, false, false, false, false, false, false, false, false, false, false, false] rfl rfl (take_ofW HT_.o HW_.o (by kernel_rfl)) (fun _ _ _ h => h) (Or.inl ⟨by rfl, ?_⟩) hHeld ?_ ?_
       rotate_left
       ·rintro w' ⟨s0, s1, s2, s3, s4⟩
        go_simp
        with_reducible rfl
       rotate_left
       ·simp only [Act.put, q1, q2, q3, i64_w, i32_w]
        rfl
       refine pure_ (i := 6) (N := some 19) (v := ?_) (a' := ?_) #[true, true, true, true, true, true, true, false, false, false, false, false, false, false, false, false, false, false] rfl rfl (any_of HT_.o (by kernel_rfl)) (fun _ _ _ h => h) (Or.inl ⟨by rfl, ?_⟩) ?_ ?_
       rotate_left
       ·intro w'
        go_simp
        with_reducible rfl
       rotate_left
       ·simp only [Act.put, q1, q2, q3, i64_w, i32_w]
        rfl
       refine pure_ (i := 7) (N := some 20) (v := ?_) (a' := ?_) #[true, true, true, true, true, true, true, true, false, false, false, false, false, false, false, false, false, false] rfl rfl (any_of HT_.o (by kernel_rfl)) (fun _ _ _ h => h) (Or.inl ⟨by rfl, ?_⟩) ?_ ?_
       rotate_left
       ·intro w'
        go_simp
        with_reducible rfl
       rotate_left
       ·simp only [Act.put, q1, q2, q3, i64_w, i32_w]
        rfl
       refine pure_ (i := 8) (N := some 21) (v := undef) (a' := ?_) #[true, true, true, true, true, true, true, true, true, false, false, false, false, false, false, false, false, false] rfl rfl (any_of HT_.o (by kernel_rfl)) (fun _ _ _ h => h) (Or.inr ⟨by rfl, rfl⟩) ?_ ?_
       rotate_left
       ·simp only [Act.put, q1, q2, q3, i64_w, i32_w]
        rfl
       refine pure_ (i := 9) (N := some 22) (v := undef) (a' := ?_) #[true, true, true, true, true, true, true, true, true, true, false, false, false, false, false, false, false, false] rfl rfl (any_of HT_.o (by kernel_rfl)) (fun _ _ _ h => h) (Or.inr ⟨by rfl, rfl⟩) ?_ ?_
       rotate_left
       ·simp only [Act.put, q1, q2, q3, i64_w, i32_w]
        rfl
       refine pure_ (i := 10) (N := some 23) (v := undef) (a' := ?_) #[true, true, true, true, true, true, true, true, true, true, true, false, false, false, false, false, false, false] rfl rfl (any_of HT_.o (by kernel_rfl)) (fun _ _ _ h => h) (Or.inr ⟨by rfl, rfl⟩) ?_ ?_
       rotate_left
       ·simp only [Act.put, q1, q2, q3, i64_w, i32_w]
        rfl
       refine pure_ (i := 11) (N := some 24) (v := undef) (a' := ?_) #[true, true, true, true, true, true, true, true, true, true, true, true, false, false, false, false, false, false] rfl rfl (any_of HT_.o (by kernel_rfl)) (fun _ _ _ h => h) (Or.inr ⟨by rfl, rfl⟩) ?_ ?_
       rotate_left
       ·simp only [Act.put, q1, q2, q3, i64_w, i32_w]
        rfl
       refine pure_ (i := 12) (N := some 25) (v := undef) (a' := ?_) #[true, true, true, true, true, true, true, true, true, true, true, true, true, false, false, false, false, false] rfl rfl (any_of HT_.o (by kernel_rfl)) (fun _ _ _ h => h) (Or.inr ⟨by rfl, rfl⟩) ?_ ?_
       rotate_left
       ·simp only [Act.put, q1, q2, q3, i64_w, i32_w]
        rfl
       refine pure_ (i := 13) (N := some 26) (v := undef) (a' := ?_) #[true, true, true, true, true, true, true, true, true, true, true, true, true, true, false, false, false, false] rfl rfl (any_of HT_.o (by kernel_rfl)) (fun _ _ _ h => h) (Or.inr ⟨by rfl, rfl⟩) ?_ ?_
       rotate_left
       ·simp only [Act.put, q1, q2, q3, i64_w, i32_w]
        rfl
       refine pure_ (i := 14) (N := some 27) (v := undef) (a' := ?_) #[true, true, true, true, true, true, true, true, true, true, true, true, true, true, true, false, false, false] rfl rfl (any_of HT_.o (by kernel_rfl)) (fun _ _ _ h => h) (Or.inr ⟨by rfl, rfl⟩) ?_ ?_
       rotate_left
       ·simp only [Act.put, q1, q2, q3, i64_w, i32_w]
        rfl
       refine pure_ (i := 15) (N := some 28) (v := undef) (a' := ?_) #[true, true, true, true, true, true, true, true, true, true, true, true, true, true, true, true, false, false] rfl rfl (any_of HT_.o (by kernel_rfl)) (fun _ _ _ h => h) (Or.inr ⟨by rfl, rfl⟩) ?_ ?_
       rotate_left
       ·simp only [Act.put, q1, q2, q3, i64_w, i32_w]
        rfl
       refine pure_ (i := 16) (N := some 29) (v := undef) (a' := ?_) #[true, true, true, true, true, true, true, true, true, true, true, true, true, true, true, true, true, false] rfl rfl (any_of HT_.o (by kernel_rfl)) (fun _ _ _ h => h) (Or.inr ⟨by rfl, rfl⟩) ?_ ?_
       rotate_left
       ·simp only [Act.put, q1, q2, q3, i64_w, i32_w]
        rfl
       refine pure_ (i := 17) (N := some 30) (v := ?_) (a' := ?_) #[true, true, true, true, true, true, true, true, true, true, true, true, true, true, true, true, true, true] rfl rfl (any_of HT_.o (by kernel_rfl)) (fun _ _ _ h => h) (Or.inl ⟨by rfl, ?_⟩) ?_ ?_
       rotate_left
       ·intro w'
        go_simp
        with_reducible rfl
       rotate_left
       ·simp only [Act.put, q1, q2, q3, i64_w, i32_w]
        rfl
       refine done_ (done_of HT_.o (by kernel_rfl)) ?_
       try go_wp2
       (try simp only [← A4])
       go_roundg k1
       case measure => have := AB.o; omega
       case rel => exact ⟨(wrap64 (A2 + 1)), (A0), (by first | rfl | (simp; done) | (simp [*]; done)), H', ⟨by have := AB.o; omega⟩, ⟨by (try simp only [A4]); refine rK ?_; exact A3.o⟩, ⟨by (try simp only [A4]); refine bK ?_; exact A5.o⟩, ⟨vT HK⟩, ⟨vB HB⟩⟩
     ·rw [if_neg c9] at H
      exact absurd H (by simp)
    ·rw [if_neg c8] at H
     exact absurd H (by simp)
   ·rw [if_neg c7] at H
    have AK := decide_eq_false c7
    (try simp only [A4] at AK)
    clear c7
    obtain rfl := Option.some.inj H
    go_wp2
    first | go_end0 | ((try simp only [Exit.inBlock, Exit.then]); refine bodyPost_ret (results_none rfl _ _ _) rfl ?_)
    exact ⟨by first | rfl | (simp [eN, eS] <;> rfl) | (simp [*, eN, eS] <;> rfl), (by first | exact (vR A3) | (simp only [A4]; exact (vR A3))), vB HB, vT HK⟩

end Go.Proofs.Ytoklfgjemfojgaa.PAll
