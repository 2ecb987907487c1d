/- Began as a text that print.sh wrote (of the functions named below); turned and shortened by this session. -/
import Derived.Test.YtklmdnlambinaaaDoorG0
import Derived.Test.YtklmdnlambinaaaDoorG1
namespace Go.Proofs.YtklmdnlambinaaaDoor.PAll
open Go.RowKit Go.Proofs.YtklmdnlambinaaaDoorW.PrintWords Go.Proofs.YtklmdnlambinaaaDoorW.PrintLast Go.Proofs.YtklmdnlambinaaaDoorW.PrintMore
attribute [local go_sem] max2_int min2_int max_two min_two max_three min_three max_four min_four   -- for this text's walks alone
set_option linter.unusedVariables false
set_option linter.unusedSimpArgs false

/-! ### spec_l1Num: function 23 -/
def spec_l1Num.f : Nat → Int → Option (ByteArray)
 | 0, _ => none
 | k + 1, a0 => if a0 < 10 then (some (strOfNums (([(wrap64 (48 + a0)) % 256] : List Int)))) else ((spec_l1Num.f k (wrap64 (Int.tdiv a0 10))).bind fun t127 => ((some (([(wrap64 (48 + (Int.tmod a0 10))) % 256] : List Int) : List Int)).bind fun y128 => (if t127.size + (strOfNums y128).size ≤ 9223372036854775807 then (some (t127 ++ (strOfNums y128))) else (none))))
def spec_l1Num.T3 : Bool × List (List Nat × List Nat) := (true, [([], []), ([0], [0]), ([1], [1]), ([], []), ([3], [3]), ([4], [4]), ([5], [5]), ([6], [6]), ([7], [7]), ([2, 8], [2, 8]), ([9, 2, 0, 1, 2, 3, 4, 5, 6, 7, 8, 9], [9])])
def spec_l1Num.B3 : List Nat := [0, 1, 3, 0, 8, 24, 56, 120, 248, 511, 1023]
theorem spec_l1Num.tab3 : rtab .any (opsOf Tryd.f23 3) = spec_l1Num.T3 := by kernel_rfl
theorem spec_l1Num.bits3 : waitsOk spec_l1Num.T3.2 spec_l1Num.B3 = true := by kernel_rfl
set_option maxHeartbeats 8000000 in
set_option maxRecDepth 100000 in
theorem spec_l1Num.calls (k : Nat) : ∀ (a0 : Int) (r : ByteArray) (w : World) (h : spec_l1Num.f k a0 = some r),
 Calls Tryd.prog 23 #[.int .i64 a0] w fun e w' => e = .returned (.string r) ∧ Below w.heap.size w w' := by
 induction k using Nat.strongRecOn with
 | _ k ih =>
 intro a0 r w h
 cases k with
 | zero => exact absurd h (by simp [spec_l1Num.f])
 | succ k =>
 simp only [spec_l1Num.f] at h
 have HB := Z.m (Below.refl w.heap.size w)
 have H : (if a0 < 10 then (some (strOfNums (([(wrap64 (48 + a0)) % 256] : List Int)))) else ((spec_l1Num.f k (wrap64 (Int.tdiv a0 10))).bind fun A1 => ((some (([(wrap64 (48 + (Int.tmod a0 10))) % 256] : List Int) : List Int)).bind fun A2 => (if A1.size + (strOfNums A2).size ≤ 9223372036854775807 then (some (A1 ++ (strOfNums A2))) else (none))))) = some r := h
 clear h
 by_cases c2 : a0 < 10
 ·rw [if_pos c2] at H
  have Ad := decide_eq_true c2
  clear c2
  obtain ⟨Ae, A3⟩ : ∃ y_ : List Int, y_ = (([(wrap64 (48 + a0)) % 256] : List Int)) := ⟨_, rfl⟩
  replace H : (some (strOfNums Ae)) = some r := by first | (rw [A3]; with_reducible exact H) | (have H2_ := (Option.bind_some _ _).symm.trans H; rw [A3]; with_reducible exact H2_) | (have H2_ := (Option.bind_some _ _).symm.trans H; with_reducible exact H2_) | with_reducible exact H | (rw [A3]; exact H) | exact H
  have Aa := Z.m A3
  clear A3
  obtain rfl := Option.some.inj H
  go_enter Tryd.func23, Tryd.ntmps23
  go_wp2_with (first | ((with_reducible refine gq (N := 8) rfl ?_); refine Kd.R_lit (Kd.int .u8) _ 5 ?hg (N := 8) ?hd (xs := ([(wrap64 (48 + a0)) % 256] : List Int)) (inner := [.int .u8 ((wrap64 (48 + a0)) % 256)]) (ok := fun _ => True) (okp := fun _ => True) ?hr ?hp (fun _ hk => hk) trivial (Below.refl _ _) (Nat.le_refl _) (by simp) ?_; (case hd => rfl); (case hg => rfl); (case hr => first | (go_simp; done) | (go_simp; rfl)); (case hp => exact (Reps.one (show Kd.M (Kd.int .u8) _ _ _ ((wrap64 (48 + a0)) % 256) [.int .u8 ((wrap64 (48 + a0)) % 256)] from rfl) (Reps.none _ _))); intro Ak w3 Ac hb hg_ hnew_; clear hg_ hnew_; (first | rw [← Aa.o] at Ac | (simp only [Int.reduceToNat] at Ac; rw [← Aa.o] at Ac)); have Ab := Z.m (Kd.R_lower Ac (below_size (vB HB))); replace HB := bB HB hb; clear hb Ac; have hcv5 := own_string (P := Tryd.prog) Tryd.underlying69 Tryd.underlying5 Tryd.underlying9 (Kd.own_of_R Ab.o)))
  go_ret
  exact ⟨by first | rfl | (simp [eN, eS] <;> rfl) | (simp [*, eN, eS] <;> rfl), vB HB⟩
 ·rw [if_neg c2] at H
  have Ad := decide_eq_false c2
  clear c2
  replace H := Option.bind_eq_some_iff.mp H
  obtain ⟨A1, Af, H⟩ := H
  replace H : ((some (([(wrap64 (48 + (Int.tmod a0 10))) % 256] : List Int) : List Int)).bind fun A2 => (if A1.size + (strOfNums A2).size ≤ 9223372036854775807 then (some (A1 ++ (strOfNums A2))) else (none))) = some r := H
  have A6 := Z.m Af
  clear Af
  obtain ⟨A2, A4⟩ : ∃ y_ : List Int, y_ = (([(wrap64 (48 + (Int.tmod a0 10))) % 256] : List Int)) := ⟨_, rfl⟩
  replace H : (if A1.size + (strOfNums A2).size ≤ 9223372036854775807 then (some (A1 ++ (strOfNums A2))) else (none)) = some r := by first | (rw [A4]; with_reducible exact H) | (have H2_ := (Option.bind_some _ _).symm.trans H; rw [A4]; with_reducible exact H2_) | (have H2_ := (Option.bind_some _ _).symm.trans H; with_reducible exact H2_) | with_reducible exact H | (rw [A4]; exact H) | exact H
  have A5 := Z.m A4
  clear A4
  by_cases c7 : A1.size + (strOfNums A2).size ≤ 9223372036854775807
  ·rw [if_pos c7] at H
   have Ah := eq_true c7
   have Ai := decide_eq_true c7
   try have Aj : (9223372036854775807 < A1.size + (strOfNums A2).size) = False := eq_false (Nat.not_lt.2 c7)
   obtain rfl := Option.some.inj H
   go_enter Tryd.func23, Tryd.ntmps23
   try go_wp2
   replace HB := Z.m (qd HB.o)
   refine start_ (n := 11) (S := fun w' => True) (ds := []) #[false, false, false, false, false, false, false, false, false, false, false] (by kernel_rfl) rfl rfl trivial (fun hHeld => ?_); refine with_tabW spec_l1Num.tab3 spec_l1Num.bits3 (fun HT_ HW_ => ?_)
   generalize w.drew = w8 at HB hHeld ⊢
   refine pure_ (i := 0) (N := some 10) (v := ?_) (a' := ?_) #[true, false, false, false, false, false, false, false, false, false, false] rfl rfl (any_of HT_.o (by kernel_rfl)) (fun _ _ _ h => h) (Or.inl ⟨by rfl, ?_⟩) ?_ ?_
   rotate_left
   ·intro w'
    go_simp
    with_reducible rfl
   rotate_left
   ·simp only [Act.put, q1, q2, q3, i64_w, i32_w]
    rfl
   refine pure_ (i := 1) (N := some 11) (v := ?_) (a' := ?_) #[true, true, false, false, false, false, false, false, false, false, false] rfl rfl (any_of HT_.o (by kernel_rfl)) (fun _ _ _ h => h) (Or.inl ⟨by rfl, ?_⟩) ?_ ?_
   rotate_left
   ·intro w'
    go_simp
    with_reducible rfl
   rotate_left
   ·simp only [Act.put, q1, q2, q3, i64_w, i32_w]
    rfl
   refine pure_ (i := 3) (N := some 13) (v := ?_) (a' := ?_) #[true, true, false, true, false, false, false, false, false, false, false] rfl rfl (any_of HT_.o (by kernel_rfl)) (fun _ _ _ h => h) (Or.inl ⟨by rfl, ?_⟩) ?_ ?_
   rotate_left
   ·intro w'
    go_simp
    with_reducible rfl
   rotate_left
   ·simp only [Act.put, q1, q2, q3, i64_w, i32_w]
    rfl
   refine pure_ (i := 4) (N := some 14) (v := ?_) (a' := ?_) #[true, true, false, true, true, false, false, false, false, false, false] rfl rfl (any_of HT_.o (by kernel_rfl)) (fun _ _ _ h => h) (Or.inl ⟨by rfl, ?_⟩) ?_ ?_
   rotate_left
   ·intro w'
    go_simp
    with_reducible rfl
   rotate_left
   ·simp only [Act.put, q1, q2, q3, i64_w, i32_w]
    rfl
   refine pure_ (i := 5) (N := some 15) (v := ?_) (a' := ?_) #[true, true, false, true, true, true, false, false, false, false, false] rfl rfl (any_of HT_.o (by kernel_rfl)) (fun _ _ _ h => h) (Or.inl ⟨by rfl, ?_⟩) ?_ ?_
   rotate_left
   ·intro w'
    go_simp
    with_reducible rfl
   rotate_left
   ·simp only [Act.put, q1, q2, q3, i64_w, i32_w]
    rfl
   refine pure_ (i := 6) (N := some 16) (v := ?_) (a' := ?_) #[true, true, false, true, true, true, true, false, false, false, false] rfl rfl (any_of HT_.o (by kernel_rfl)) (fun _ _ _ h => h) (Or.inl ⟨by rfl, ?_⟩) ?_ ?_
   rotate_left
   ·intro w'
    go_simp
    with_reducible rfl
   rotate_left
   ·simp only [Act.put, q1, q2, q3, i64_w, i32_w]
    rfl
   refine join_ (σ := Value) 2 #[true, true, true, true, true, true, true, true, true, false, false] (fun s_ => [(12, .string A1), (17, s_), (18, .string (strOfNums A2))]) (fun s_ w' => (Kd.R (Kd.int .u8) 5 w' w.heap.size (fun _ => True) s_ A2) ∧ (Below w.heap.size w w')) ?_ ?_
   rotate_left
   ·intro hCont
    refine two_ (i := 2) (j := 7) (Ni := some 12) (Nj := some 17) #[true, true, true, true, true, true, true, false, false, false, false] #[true, true, false, true, true, true, true, true, false, false, false] rfl rfl rfl rfl (two_of HT_.o (by kernel_rfl)) (by decide) (by decide) (fun K hK => ?_) (fun K hK => ?_)
    ·skip
     refine goes_ Tryd.func23 (by kernel_rfl) rfl #[.int .i64 (wrap64 (Int.tdiv a0 10))] (by rfl) rfl rfl (by (try simp only [List.map_toArray, List.map_cons, List.map_nil]); first | done | rfl | (simp only [List.length_drop, List.length_take]; rfl)) ?_
     with_reducible refine (ih k (by omega) (wrap64 (Int.tdiv a0 10)) A1 _ A6.o).mono ?_
     rintro e w9 ⟨rfl, hb⟩
     refine ⟨_, rfl, ?_⟩
     replace HB := bB HB hb
     (try clear hb)
     refine hK.out _ _ trivial (fun hHeld => ?_)
     clear hK K
     refine norm_ (a' := ?_) ?_ ?_
     rotate_left
     ·show Act.put _ (some 12) _ = _
      simp only [Act.put, q1, q2, q3, i64_w, i32_w]
      rfl
     refine one_ (i := 7) (N := some 17) #[true, true, true, true, true, true, true, true, false, false, false] rfl rfl (one_of HT_.o (by kernel_rfl)) (by decide) (fun K hK => ?_)
     refine Kd.R_lit_step (Kd.int .u8) _ 5 ?hg (N := 17) ?hd (xs := ([(wrap64 (48 + (Int.tmod a0 10))) % 256] : List Int)) (inner := [.int .u8 ((wrap64 (48 + (Int.tmod a0 10))) % 256)]) (ok := fun _ => True) (okp := fun _ => True) ?hr ?hp (fun _ hk => hk) trivial (Below.refl _ _) (Nat.le_refl _) (by simp) ?_; (case hd => rfl); (case hg => rfl); (case hr => first | (go_simp; done) | (go_simp; rfl)); (case hp => exact (Reps.one (show Kd.M (Kd.int .u8) _ _ _ ((wrap64 (48 + (Int.tmod a0 10))) % 256) [.int .u8 ((wrap64 (48 + (Int.tmod a0 10))) % 256)] from rfl) (Reps.none _ _)))
     intro A7 Al A9 hb hg_ hnew_
     clear hg_ hnew_
     (first | rw [← A5.o] at A9 | (simp only [Int.reduceToNat] at A9; rw [← A5.o] at A9))
     have A0 := Z.m (Kd.R_lower A9 (below_size (vB HB)))
     replace HB := bB HB hb
     clear hb A9
     refine hK.out _ _ trivial (fun hHeld => ?_)
     clear hK K
     refine norm_ (a' := ?_) ?_ ?_
     rotate_left
     ·show Act.put _ (some 17) _ = _
      simp only [Act.put, q1, q2, q3, i64_w, i32_w]
      rfl
     refine one_ (i := 8) (N := some 18) #[true, true, true, true, true, true, true, true, true, false, false] rfl rfl (one_of HT_.o (by kernel_rfl)) (by decide) (fun K hK => ?_)
     have hcv12 := own_string (P := Tryd.prog) Tryd.underlying69 Tryd.underlying5 Tryd.underlying9 (Kd.own_of_R A0.o)
     refine value_ (w1 := ?_) (v := ?_) (by rfl) rfl ?_ ?_
     rotate_left 2
     ·go_simp
      constructor
      ·rfl
      ·rfl
     clear hcv12
     refine hK.out _ _ trivial (fun hHeld => ?_)
     clear hK K
     refine norm_ (a' := ?_) ?_ ?_
     rotate_left
     ·show Act.put _ (some 18) _ = _
      simp only [Act.put, q1, q2, q3, i64_w, i32_w]
      rfl
     exact norm_ (by simp only [putAll, Act.put, q1, q2, q3]) (hCont (A7) _ ⟨(vR A0), (vB HB)⟩)
    ·skip
     refine Kd.R_lit_step (Kd.int .u8) _ 5 ?hg (N := 17) ?hd (xs := ([(wrap64 (48 + (Int.tmod a0 10))) % 256] : List Int)) (inner := [.int .u8 ((wrap64 (48 + (Int.tmod a0 10))) % 256)]) (ok := fun _ => True) (okp := fun _ => True) ?hr ?hp (fun _ hk => hk) trivial (Below.refl _ _) (Nat.le_refl _) (by simp) ?_; (case hd => rfl); (case hg => rfl); (case hr => first | (go_simp; done) | (go_simp; rfl)); (case hp => exact (Reps.one (show Kd.M (Kd.int .u8) _ _ _ ((wrap64 (48 + (Int.tmod a0 10))) % 256) [.int .u8 ((wrap64 (48 + (Int.tmod a0 10))) % 256)] from rfl) (Reps.none _ _)))
     intro A7 w9 A8 hb hg_ hnew_
     clear hg_ hnew_
     (first | rw [← A5.o] at A8 | (simp only [Int.reduceToNat] at A8; rw [← A5.o] at A8))
     have A0 := Z.m (Kd.R_lower A8 (below_size (vB HB)))
     replace HB := bB HB hb
     clear hb A8
     refine hK.out _ _ trivial (fun hHeld => ?_)
     clear hK K
     refine norm_ (a' := ?_) ?_ ?_
     rotate_left
     ·show Act.put _ (some 17) _ = _
      simp only [Act.put, q1, q2, q3, i64_w, i32_w]
      rfl
     refine two_ (i := 2) (j := 8) (Ni := some 12) (Nj := some 18) #[true, true, true, true, true, true, true, true, false, false, false] #[true, true, false, true, true, true, true, true, true, false, false] rfl rfl rfl rfl (two_of HT_.o (by kernel_rfl)) (by decide) (by decide) (fun K hK => ?_) (fun K hK => ?_)
     ·skip
      refine goes_ Tryd.func23 (by kernel_rfl) rfl #[.int .i64 (wrap64 (Int.tdiv a0 10))] (by rfl) rfl rfl (by (try simp only [List.map_toArray, List.map_cons, List.map_nil]); first | done | rfl | (simp only [List.length_drop, List.length_take]; rfl)) ?_
      with_reducible refine (ih k (by omega) (wrap64 (Int.tdiv a0 10)) A1 _ A6.o).mono ?_
      rintro e Am ⟨rfl, hb⟩
      refine ⟨_, rfl, ?_⟩
      replace A0 := Z.m (Kd.Rb (vR A0) hb)
      replace HB := bB HB hb
      (try clear hb)
      refine hK.out _ _ trivial (fun hHeld => ?_)
      clear hK K
      refine norm_ (a' := ?_) ?_ ?_
      rotate_left
      ·show Act.put _ (some 12) _ = _
       simp only [Act.put, q1, q2, q3, i64_w, i32_w]
       rfl
      refine one_ (i := 8) (N := some 18) #[true, true, true, true, true, true, true, true, true, false, false] rfl rfl (one_of HT_.o (by kernel_rfl)) (by decide) (fun K hK => ?_)
      have hcv12 := own_string (P := Tryd.prog) Tryd.underlying69 Tryd.underlying5 Tryd.underlying9 (Kd.own_of_R A0.o)
      refine value_ (w1 := ?_) (v := ?_) (by rfl) rfl ?_ ?_
      rotate_left 2
      ·go_simp
       constructor
       ·rfl
       ·rfl
      clear hcv12
      refine hK.out _ _ trivial (fun hHeld => ?_)
      clear hK K
      refine norm_ (a' := ?_) ?_ ?_
      rotate_left
      ·show Act.put _ (some 18) _ = _
       simp only [Act.put, q1, q2, q3, i64_w, i32_w]
       rfl
      exact norm_ (by simp only [putAll, Act.put, q1, q2, q3]) (hCont (A7) _ ⟨(vR A0), (vB HB)⟩)
     ·skip
      have hcv11 := own_string (P := Tryd.prog) Tryd.underlying69 Tryd.underlying5 Tryd.underlying9 (Kd.own_of_R A0.o)
      refine value_ (w1 := ?_) (v := ?_) (by rfl) rfl ?_ ?_
      rotate_left 2
      ·go_simp
       constructor
       ·rfl
       ·rfl
      clear hcv11
      refine hK.out _ _ trivial (fun hHeld => ?_)
      clear hK K
      refine norm_ (a' := ?_) ?_ ?_
      rotate_left
      ·show Act.put _ (some 18) _ = _
       simp only [Act.put, q1, q2, q3, i64_w, i32_w]
       rfl
      refine one_ (i := 2) (N := some 12) #[true, true, true, true, true, true, true, true, true, false, false] rfl rfl (one_of HT_.o (by kernel_rfl)) (by decide) (fun K hK => ?_)
      refine goes_ Tryd.func23 (by kernel_rfl) rfl #[.int .i64 (wrap64 (Int.tdiv a0 10))] (by rfl) rfl rfl (by (try simp only [List.map_toArray, List.map_cons, List.map_nil]); first | done | rfl | (simp only [List.length_drop, List.length_take]; rfl)) ?_
      with_reducible refine (ih k (by omega) (wrap64 (Int.tdiv a0 10)) A1 _ A6.o).mono ?_
      rintro e An ⟨rfl, hb⟩
      refine ⟨_, rfl, ?_⟩
      replace A0 := Z.m (Kd.Rb (vR A0) hb)
      replace HB := bB HB hb
      (try clear hb)
      refine hK.out _ _ trivial (fun hHeld => ?_)
      clear hK K
      refine norm_ (a' := ?_) ?_ ?_
      rotate_left
      ·show Act.put _ (some 12) _ = _
       simp only [Act.put, q1, q2, q3, i64_w, i32_w]
       rfl
      exact norm_ (by simp only [putAll, Act.put, q1, q2, q3]) (hCont (A7) _ ⟨(vR A0), (vB HB)⟩)
   rintro A7 Ag ⟨h0_, h1_⟩
   have A0 : Z (Kd.R (Kd.int .u8) 5 Ag w.heap.size (fun _ => True) A7 A2) := ⟨h0_⟩
   replace HB : Z (Below w.heap.size w Ag) := ⟨h1_⟩
   clear h0_ h1_
   have hHeld := trivial
   refine norm_ (a' := ?_) ?_ ?_
   rotate_left
   ·simp only [putAll, Act.put, q1, q2, q3]
    rfl
   refine pure_ (i := 9) (N := some 19) (v := ?_) (a' := ?_) #[true, true, true, true, true, true, true, true, true, true, false] rfl rfl (any_of HT_.o (by kernel_rfl)) (fun _ _ _ h => h) (Or.inl ⟨by rfl, ?_⟩) ?_ ?_
   rotate_left
   ·intro w'
    go_simp
    with_reducible rfl
   rotate_left
   ·simp only [Act.put, q1, q2, q3, i64_w, i32_w]
    rfl
   refine pure_ (i := 10) (N := some 2) (v := ?_) (a' := ?_) #[true, true, true, true, true, true, true, true, true, true, true] rfl rfl (any_of HT_.o (by kernel_rfl)) (fun _ _ _ h => h) (Or.inl ⟨by rfl, ?_⟩) ?_ ?_
   rotate_left
   ·intro w'
    go_simp
    with_reducible rfl
   rotate_left
   ·simp only [Act.put, q1, q2, q3, i64_w, i32_w]
    rfl
   refine done_ (done_of HT_.o (by kernel_rfl)) ?_
   try go_wp2
   go_ret
   exact ⟨by first | rfl | (simp [eN, eS] <;> rfl) | (simp [*, eN, eS] <;> rfl), vB HB⟩
  ·rw [if_neg c7] at H
   exact absurd H (by simp)

/-! ### spec_paLetter: function 51 -/
def spec_paLetter.f (a0_0 : Int) (a0_1 : Int) : Option (ByteArray) := if a0_1 = 1 then (if 0 ≤ a0_0 then (if a0_0 ≤ (wrap64 (a0_0 + 1)) then (if (wrap64 (a0_0 + 1)) ≤ 8 then (some ((⟨#[46, 46, 46, 70, 46, 46, 71, 46]⟩ : ByteArray).extract (a0_0 : Int).toNat ((wrap64 (a0_0 + 1)) : Int).toNat)) else (none)) else (none)) else (none)) else (if 0 ≤ a0_0 then (if a0_0 ≤ (wrap64 (a0_0 + 1)) then (if (wrap64 (a0_0 + 1)) ≤ 8 then (some ((⟨#[46, 108, 114, 102, 120, 111, 103, 99]⟩ : ByteArray).extract (a0_0 : Int).toNat ((wrap64 (a0_0 + 1)) : Int).toNat)) else (none)) else (none)) else (none))
set_option maxHeartbeats 8000000 in
set_option maxRecDepth 100000 in
theorem spec_paLetter.calls (a0_0 : Int) (a0_1 : Int) (r : ByteArray) (w : World) (h : spec_paLetter.f a0_0 a0_1 = some r) :
 Calls Tryd.prog 51 #[.agg #[.int .i64 a0_0, .int .i64 a0_1]] w fun e w' => e = .returned (.string r) ∧ Below w.heap.size w w' := by
 have Aq := Tryd.underlying62
 have HB := Z.m (Below.refl w.heap.size w)
 have H : (if a0_1 = 1 then (if 0 ≤ a0_0 then (if a0_0 ≤ (wrap64 (a0_0 + 1)) then (if (wrap64 (a0_0 + 1)) ≤ 8 then (some ((⟨#[46, 46, 46, 70, 46, 46, 71, 46]⟩ : ByteArray).extract (a0_0 : Int).toNat ((wrap64 (a0_0 + 1)) : Int).toNat)) else (none)) else (none)) else (none)) else (if 0 ≤ a0_0 then (if a0_0 ≤ (wrap64 (a0_0 + 1)) then (if (wrap64 (a0_0 + 1)) ≤ 8 then (some ((⟨#[46, 108, 114, 102, 120, 111, 103, 99]⟩ : ByteArray).extract (a0_0 : Int).toNat ((wrap64 (a0_0 + 1)) : Int).toNat)) else (none)) else (none)) else (none))) = some r := h
 clear h
 by_cases c2 : a0_1 = 1
 ·rw [if_pos c2] at H
  have A8 := beq_iff_eq.mpr c2
  have A9 := bne_eq_false_iff_eq.mpr c2
  clear c2
  by_cases c3 : 0 ≤ a0_0
  ·rw [if_pos c3] at H
   have Ag := eq_true c3
   have Ah := decide_eq_true c3
   clear c3
   by_cases c4 : a0_0 ≤ (wrap64 (a0_0 + 1))
   ·rw [if_pos c4] at H
    have Ai := eq_true c4
    have Aj := decide_eq_true c4
    by_cases c5 : (wrap64 (a0_0 + 1)) ≤ 8
    ·rw [if_pos c5] at H
     have Ak := eq_true c5
     have Al := decide_eq_true c5
     obtain rfl := Option.some.inj H
     go_enter Tryd.func51, Tryd.ntmps51
     go_wp2_with (first | ((with_reducible refine gq (N := 1) rfl ?_); refine be (N := 1) (cs := #[.int .i64 a0_0, .int .i64 a0_1]) (t := 62) ?_; intro A3 hg w6 hbox hb; have A0 := Z.m (hbox); have A1 := gW (w := w) HB hg; have A2 := A1; replace HB := bB HB hb; clear hb hbox hg; have Aa := bc0 A0; have Ab := bc1 A0; have Ac := qz A0.o 0; have Ad := qz A0.o 1))
     go_ret
     exact ⟨by first | rfl | (simp [eN, eS] <;> rfl) | (simp [*, eN, eS] <;> rfl), vB HB⟩
    ·rw [if_neg c5] at H
     exact absurd H (by simp)
   ·rw [if_neg c4] at H
    exact absurd H (by simp)
  ·rw [if_neg c3] at H
   exact absurd H (by simp)
 ·rw [if_neg c2] at H
  have A8 := beq_eq_false_iff_ne.mpr c2
  have A9 := bne_iff_ne.mpr c2
  by_cases c8 : 0 ≤ a0_0
  ·rw [if_pos c8] at H
   have Am := eq_true c8
   have An := decide_eq_true c8
   clear c8
   by_cases c9 : a0_0 ≤ (wrap64 (a0_0 + 1))
   ·rw [if_pos c9] at H
    have Ao := eq_true c9
    have Ap := decide_eq_true c9
    by_cases c10 : (wrap64 (a0_0 + 1)) ≤ 8
    ·rw [if_pos c10] at H
     have Ae := eq_true c10
     have Af := decide_eq_true c10
     obtain rfl := Option.some.inj H
     go_enter Tryd.func51, Tryd.ntmps51
     go_wp2_with (first | ((with_reducible refine gq (N := 1) rfl ?_); refine be (N := 1) (cs := #[.int .i64 a0_0, .int .i64 a0_1]) (t := 62) ?_; intro A3 hg Ar hbox hb; have A0 := Z.m (hbox); have A1 := gW (w := w) HB hg; have A2 := A1; replace HB := bB HB hb; clear hb hbox hg; have A4 := bc0 A0; have A5 := bc1 A0; have A6 := qz A0.o 0; have A7 := qz A0.o 1))
     go_ret
     exact ⟨by first | rfl | (simp [eN, eS] <;> rfl) | (simp [*, eN, eS] <;> rfl), vB HB⟩
    ·rw [if_neg c10] at H
     exact absurd H (by simp)
   ·rw [if_neg c9] at H
    exact absurd H (by simp)
  ·rw [if_neg c8] at H
   exact absurd H (by simp)

/-! ### spec_paText: function 39 -/
def spec_paText.l0 : Nat → ByteArray → List (S62) → Int → Int → Option (ByteArray)
 | 0, _, _, _, _ => none
 | k + 1, x3, x6, x7, x8 => if x8 < x7 then (if 0 ≤ x8 then (if x8 < (x6.length : Int) then ((spec_paLetter.f ((rd_T62 x6 x8).f0) ((rd_T62 x6 x8).f1)).bind fun t134 => (if x3.size + t134.size ≤ 9223372036854775807 then (spec_paText.l0 k (x3 ++ t134) x6 x7 (wrap64 (x8 + 1))) else (none))) else (none)) else (none)) else (some x3)
def spec_paText.f (k : Nat) (l0 : List (S62)) : Option (ByteArray) := spec_paText.l0 k (⟨#[]⟩ : ByteArray) l0 (l0.length : Int) 0
set_option maxHeartbeats 8000000 in
set_option maxRecDepth 100000 in
theorem spec_paText.calls (k : Nat) (A0 : Option Addr) (c0 : Nat) (l0 : List (S62)) (r : ByteArray) (w : World) (hr0 : Kd.C k62 w A0 l0.length l0) (hc0 : l0.length ≤ c0) (h : spec_paText.f k l0 = some r) :
 Calls Tryd.prog 39 #[.slice A0 l0.length c0] w fun e w' => e = .returned (.string r) ∧ Below w.heap.size w w' := by
 have Ap := Tryd.underlying62
 have Aj := Z.m hr0
 have Aq := Z.m hc0
 clear hr0 hc0
 have HB := Z.m (Below.refl w.heap.size w)
 have H : (spec_paText.l0 k (⟨#[]⟩ : ByteArray) l0 (l0.length : Int) 0) = some r := h
 clear h
 have H' := Z.m H
 clear H
 go_enter Tryd.func39, Tryd.ntmps39
 go_wp2
 go_loopg [3, 8] k (fun kq v3 v8 w' => ∃ (A6 : ByteArray) (A1 : Int), v3 = .string A6 ∧ v8 = .int .i64 A1 ∧ Z (spec_paText.l0 kq A6 l0 (l0.length : Int) A1 = some r) ∧ Z (kq ≤ k) ∧ Z (Below w.heap.size w w'))
 case atStart => exact ⟨((⟨#[]⟩ : ByteArray)), (0), (by first | rfl | (simp; done) | (simp [*]; done)), (by first | rfl | (simp; done) | (simp [*]; done)), H', ⟨Nat.le_refl _⟩, ⟨vB HB⟩⟩
 case round =>
  clear H'
  obtain ⟨A6, A1, rfl, rfl, HA, Ah, HB⟩ := hrel
  cases gk with
  | zero => exact absurd HA.o (by simp [spec_paText.l0])
  | succ k1 =>
   have H := HA.o
   clear HA
   simp only [spec_paText.l0] at H
   by_cases c2 : A1 < (l0.length : Int)
   ·rw [if_pos c2] at H
    have Aa := decide_eq_true c2
    clear c2
    by_cases c3 : 0 ≤ A1
    ·rw [if_pos c3] at H
     have Ak := decide_eq_true c3
     clear c3
     by_cases c4 : A1 < (l0.length : Int)
     ·rw [if_pos c4] at H
      have Al := decide_eq_true c4
      clear c4
      replace H := Option.bind_eq_some_iff.mp H
      obtain ⟨A7, Af, H⟩ := H
      replace H : (if A6.size + A7.size ≤ 9223372036854775807 then (spec_paText.l0 k1 (A6 ++ A7) l0 (l0.length : Int) (wrap64 (A1 + 1))) else (none)) = some r := H
      have A5 := Z.m Af
      clear Af
      by_cases c6 : A6.size + A7.size ≤ 9223372036854775807
      ·rw [if_pos c6] at H
       have Am := eq_true c6
       have An := decide_eq_true c6
       try have Ao : (9223372036854775807 < A6.size + A7.size) = False := eq_false (Nat.not_lt.2 c6)
       have H' := Z.m H
       clear H
       have p132 : 0 ≤ (A1 : Int) := ofD
       have q132 : A1 < (l0.length : Int) := ofD
       obtain ⟨Ai, e132, A3, A4⟩ := at_T62 Aj.o A1 p132 q132
       cases e132
       replace A3 := (HB.o.cell (World.block_lt_of_cell? w _ A3)).trans A3
       replace A4 := (HB.o.cell (World.block_lt_of_cell? w _ A4)).trans A4
       replace p132 := eq_true p132
       replace q132 := eq_true q132
       go_wp2_with (first | ((with_reducible refine gq (N := 5) rfl ?_); refine be (N := 5) (cs := #[.int .i64 0, .int .i64 0]) (t := 62) ?_; intro A9 hg w7 hbox hb; have A2 := Z.m (hbox); have A8 := gW (w := w) HB hg; have Ag := A8; replace HB := bB HB hb; clear hb hbox hg; have Ab := bc0 A2; have Ac := bc1 A2; have Ad := qz A2.o 0; have Ae := qz A2.o 1) | ((with_reducible refine gc (f := 51) rfl ?_); refine gA (some 14) _ #[.agg #[.int .i64 ((rd_T62 l0 A1).f0), .int .i64 ((rd_T62 l0 A1).f1)]] ?_ Tryd.func51; (with_reducible refine (spec_paLetter.calls ((rd_T62 l0 A1).f0) ((rd_T62 l0 A1).f1) A7 _ A5.o).mono ?_); rintro e w9 ⟨rfl, hb⟩; refine ⟨_, rfl, ?_⟩; replace A2 := Z.m (qb (g := A9) (o := .cells #[.int .i64 ((rd_T62 l0 A1).f0), .int .i64 ((rd_T62 l0 A1).f1)] 62 (0, 0)) (by refine bK ?_; refine qp (cs := #[iV ((rd_T62 l0 A1).f0), iV 0]) ?_ 1 _ rfl; refine bK ?_; refine qp (cs := #[iV 0, iV 0]) ?_ 0 _ rfl; refine bK ?_; exact A2.o) hb); replace HB := bB HB hb; (try clear hb); (try clear Ar); (try clear hk); (try clear hi)))
       go_roundg k1
       case measure => have := Ah.o; omega
       case rel => exact ⟨(A6 ++ A7), (wrap64 (A1 + 1)), (by first | rfl | (simp; done) | (simp [*]; done)), (by first | rfl | (simp; done) | (simp [*]; done)), H', ⟨by have := Ah.o; omega⟩, ⟨vB HB⟩⟩
      ·rw [if_neg c6] at H
       exact absurd H (by simp)
     ·rw [if_neg c4] at H
      exact absurd H (by simp)
    ·rw [if_neg c3] at H
     exact absurd H (by simp)
   ·rw [if_neg c2] at H
    have Aa := decide_eq_false c2
    clear c2
    obtain rfl := Option.some.inj H
    go_wp2
    go_ret
    exact ⟨by first | rfl | (simp [eN, eS] <;> rfl) | (simp [*, eN, eS] <;> rfl), vB HB⟩

/-! ### spec_boRow: function 40 -/
set_option maxHeartbeats 8000000 in
set_option maxRecDepth 100000 in
/-- The part of the board's own row that boRow hands back. -/
theorem spec_boRow.calls (a0_0 a0_1 : Int) (A0_2 : Option Addr) (c0_2 : Nat) (l0_2 : List S62) (a1 ji : Int) (w : World) (hc0_2 : l0_2.length ≤ c0_2) (hji : wrap64 (a1 * a0_1) = ji) (h0 : 0 ≤ ji) (h1 : ji ≤ wrap64 ((wrap64 (a1 + 1)) * a0_1)) (h2 : wrap64 ((wrap64 (a1 + 1)) * a0_1) ≤ (l0_2.length : Int)) :
 Calls Tryd.prog 40 #[.agg #[.int .i64 a0_0, .int .i64 a0_1, .slice A0_2 l0_2.length c0_2], .int .i64 a1] w fun e w' => e = .returned (.slice (if c0_2 = ((ji) : Int).toNat then A0_2 else (A0_2 : Option Addr).map (·.add (((ji) : Int).toNat * 2))) (((wrap64 ((wrap64 (a1 + 1)) * a0_1)) : Int).toNat - ((ji) : Int).toNat) (c0_2 - ((ji) : Int).toNat)) ∧ Below w.heap.size w w' := by
 have A0 := Tryd.underlying24
 have HB := Z.m (Below.refl w.heap.size w)
 have hjiw : (IntKind.i64.wrap (a1 * a0_1)) = ji := (i64_w _).trans hji
 obtain ⟨i0, hi0, _, hsz, _⟩ := info_parts info62
 have hcut := cut_mid (P := Tryd.prog) 22 62 .i64 .i64 Tryd.underlying22 hi0 2 hsz A0_2 l0_2.length c0_2 (ji) (wrap64 ((wrap64 (a1 + 1)) * a0_1)) h0 h1 h2 hc0_2
 clear hi0 hsz
 generalize (if c0_2 = ((ji) : Int).toNat then A0_2 else (A0_2 : Option Addr).map (·.add (((ji) : Int).toNat * 2))) = Ce at hcut ⊢
 go_enter Tryd.func40, Tryd.ntmps40
 go_wp2_with (first | ((with_reducible refine gq (N := 2) rfl ?_); refine be (N := 2) (cs := #[.int .i64 a0_0, .int .i64 a0_1, .slice A0_2 l0_2.length c0_2]) (t := 24) ?_; intro gb hg w2 hbox hb; have BK := Z.m (hbox); have GW := gW (w := w) HB hg; replace HB := bB HB hb; clear hb hbox hg; have hcz_0 := bc0 BK; have hcz_1 := bc1 BK; have hcz_2 := bc2 BK))
 go_ret
 exact ⟨by first | rfl | (simp; done) | (simp [*] <;> rfl), vB HB⟩

/-! ### spec_boText: function 24 -/
def spec_boText.l0 : Nat → ByteArray → Int → Int → Int → List (S62) → Option (ByteArray)
 | 0, _, _, _, _, _ => none
 | k + 1, x3, x4, x141000, x141001, x141002 => if x4 < x141000 then (if 0 ≤ (wrap64 (x4 * x141001)) then (if (wrap64 (x4 * x141001)) ≤ (wrap64 ((wrap64 (x4 + 1)) * x141001)) then (if (wrap64 ((wrap64 (x4 + 1)) * x141001)) ≤ (x141002.length : Int) then ((spec_paText.f k ((x141002.take ((wrap64 ((wrap64 (x4 + 1)) * x141001)) : Int).toNat).drop ((wrap64 (x4 * x141001)) : Int).toNat)).bind fun t145 => (if t145.size + 1 ≤ 9223372036854775807 then (if x3.size + (t145 ++ (⟨#[10]⟩ : ByteArray)).size ≤ 9223372036854775807 then (spec_boText.l0 k (x3 ++ (t145 ++ (⟨#[10]⟩ : ByteArray))) (wrap64 (x4 + 1)) x141000 x141001 x141002) else (none)) else (none))) else (none)) else (none)) else (none)) else (some x3)
def spec_boText.f (k : Nat) (a0_0 : Int) (a0_1 : Int) (l0_2 : List (S62)) : Option (ByteArray) := spec_boText.l0 k (⟨#[]⟩ : ByteArray) 0 a0_0 a0_1 l0_2
set_option maxHeartbeats 8000000 in
set_option maxRecDepth 100000 in
theorem spec_boText.calls (k : Nat) (a0_0 : Int) (a0_1 : Int) (A0_2 : Option Addr) (c0_2 : Nat) (l0_2 : List (S62)) (r : ByteArray) (w : World) (hr0_2 : Kd.C k62 w A0_2 l0_2.length l0_2) (hc0_2 : l0_2.length ≤ c0_2) (h : spec_boText.f k a0_0 a0_1 l0_2 = some r) :
 Calls Tryd.prog 24 #[.agg #[.int .i64 a0_0, .int .i64 a0_1, .slice A0_2 l0_2.length c0_2]] w fun e w' => e = .returned (.string r) ∧ Below w.heap.size w w' := by
 have AM := Tryd.underlying24
 have Ag := Z.m hr0_2
 have Ac := Z.m hc0_2
 clear hr0_2 hc0_2
 have HB := Z.m (Below.refl w.heap.size w)
 have H : (spec_boText.l0 k (⟨#[]⟩ : ByteArray) 0 a0_0 a0_1 l0_2) = some r := h
 clear h
 have H' := Z.m H
 clear H
 go_enter Tryd.func24, Tryd.ntmps24
 go_wp2_with (first | ((with_reducible refine gq (N := 1) rfl ?_); refine be (N := 1) (cs := #[.int .i64 a0_0, .int .i64 a0_1, .slice A0_2 l0_2.length c0_2]) (t := 24) ?_; intro Ai hg w2 hbox hb; have A0 := Z.m (hbox); have Ae := gW (w := w) HB hg; have Ay := Ae; replace HB := bB HB hb; clear hb hbox hg))
 go_loopg [3, 4] k (fun kq v3 v4 w' => ∃ (A4 : ByteArray) (A2 : Int), v3 = .string A4 ∧ v4 = .int .i64 A2 ∧ Z (spec_boText.l0 kq A4 A2 a0_0 a0_1 l0_2 = some r) ∧ Z (kq ≤ k) ∧ Z (w'.heap[Ai]? = some (.cells #[.int .i64 a0_0, .int .i64 a0_1, (.slice A0_2 l0_2.length c0_2)] 24 (0, 0))) ∧ Z (Below w.heap.size w w'))
 case atStart => exact ⟨((⟨#[]⟩ : ByteArray)), (0), (by first | rfl | (simp; done) | (simp [*]; done)), (by first | rfl | (simp; done) | (simp [*]; done)), H', ⟨Nat.le_refl _⟩, ⟨vK A0⟩, ⟨vB HB⟩⟩
 case round =>
  clear H'
  obtain ⟨A4, A2, rfl, rfl, HA, Az, A0, HB⟩ := hrel
  cases gk with
  | zero => exact absurd HA.o (by simp [spec_boText.l0])
  | succ k1 =>
   have H := HA.o
   clear HA
   simp only [spec_boText.l0] at H
   by_cases c3 : A2 < a0_0
   ·rw [if_pos c3] at H
    have Av := decide_eq_true c3
    clear c3
    obtain ⟨A6, Aa⟩ : ∃ j_ : Int, (wrap64 (A2 * a0_1)) = j_ := ⟨_, rfl⟩
    replace H : (if 0 ≤ (A6) then (if (A6) ≤ (wrap64 ((wrap64 (A2 + 1)) * a0_1)) then (if (wrap64 ((wrap64 (A2 + 1)) * a0_1)) ≤ (l0_2.length : Int) then ((spec_paText.f k1 ((l0_2.take ((wrap64 ((wrap64 (A2 + 1)) * a0_1)) : Int).toNat).drop ((A6) : Int).toNat)).bind fun A3 => (if A3.size + 1 ≤ 9223372036854775807 then (if A4.size + (A3 ++ (⟨#[10]⟩ : ByteArray)).size ≤ 9223372036854775807 then (spec_boText.l0 k1 (A4 ++ (A3 ++ (⟨#[10]⟩ : ByteArray))) (wrap64 (A2 + 1)) a0_0 a0_1 l0_2) else (none)) else (none))) else (none)) else (none)) else (none)) = some r := by first | (rw [Aa] at H; exact H) | (simp only [Aa] at H ⊢; exact H)
    have hji4w : (IntKind.i64.wrap (A2 * a0_1)) = A6 := (i64_w _).trans Aa
    by_cases c5 : 0 ≤ (A6)
    ·rw [if_pos c5] at H
     have AD := eq_true c5
     have AE := decide_eq_true c5
     clear c5
     by_cases c6 : (A6) ≤ (wrap64 ((wrap64 (A2 + 1)) * a0_1))
     ·rw [if_pos c6] at H
      have AF := eq_true c6
      have AG := decide_eq_true c6
      by_cases c7 : (wrap64 ((wrap64 (A2 + 1)) * a0_1)) ≤ (l0_2.length : Int)
      ·rw [if_pos c7] at H
       have AH := eq_true c7
       have AI := decide_eq_true c7
       obtain ⟨A7, A5⟩ : ∃ y_ : List (S62), y_ = ((l0_2.take ((wrap64 ((wrap64 (A2 + 1)) * a0_1)) : Int).toNat).drop ((A6) : Int).toNat) := ⟨_, rfl⟩
       replace H : ((spec_paText.f k1 A7).bind fun A3 => (if A3.size + 1 ≤ 9223372036854775807 then (if A4.size + (A3 ++ (⟨#[10]⟩ : ByteArray)).size ≤ 9223372036854775807 then (spec_boText.l0 k1 (A4 ++ (A3 ++ (⟨#[10]⟩ : ByteArray))) (wrap64 (A2 + 1)) a0_0 a0_1 l0_2) else (none)) else (none))) = some r := by first | (rw [A5]; with_reducible exact H) | (have H2_ := (Option.bind_some _ _).symm.trans H; rw [A5]; with_reducible exact H2_) | (have H2_ := (Option.bind_some _ _).symm.trans H; with_reducible exact H2_) | with_reducible exact H | (rw [A5]; exact H) | exact H
       have Ad := Z.m A5
       clear A5
       replace H := Option.bind_eq_some_iff.mp H
       obtain ⟨A3, Ax, H⟩ := H
       replace H : (if A3.size + 1 ≤ 9223372036854775807 then (if A4.size + (A3 ++ (⟨#[10]⟩ : ByteArray)).size ≤ 9223372036854775807 then (spec_boText.l0 k1 (A4 ++ (A3 ++ (⟨#[10]⟩ : ByteArray))) (wrap64 (A2 + 1)) a0_0 a0_1 l0_2) else (none)) else (none)) = some r := H
       have A8 := Z.m Ax
       clear Ax
       by_cases c9 : A3.size + 1 ≤ 9223372036854775807
       ·rw [if_pos c9] at H
        have AJ := eq_true c9
        have AK := decide_eq_true c9
        try have AL : (9223372036854775807 < A3.size + 1) = False := eq_false (Nat.not_lt.2 c9)
        by_cases c10 : A4.size + (A3 ++ (⟨#[10]⟩ : ByteArray)).size ≤ 9223372036854775807
        ·rw [if_pos c10] at H
         have AA := eq_true c10
         have AB := decide_eq_true c10
         try have AC : (9223372036854775807 < A4.size + (A3 ++ (⟨#[10]⟩ : ByteArray)).size) = False := eq_false (Nat.not_lt.2 c10)
         have H' := Z.m H
         clear H
         have Aj := bc0 A0
         have Ak := bc1 A0
         have Al := bc2 A0
         have Ap := qz A0.o 0
         have Aq := qz A0.o 1
         have Ar := qz A0.o 2
         have q12 : ((wrap64 ((wrap64 (A2 + 1)) * a0_1)) : Int) ≤ ((l0_2.length : Int) : Int) := ofD
         obtain ⟨i012, hi012, _, hsz12, _⟩ := info_parts info62
         have hroom12 : l0_2.length ≤ c0_2 := Ac.o
         have hC12 : Kd.C k62 _ A0_2 l0_2.length l0_2 := Ag.o
         have ql12 : ((A6) : Int) ≤ ((wrap64 ((wrap64 (A2 + 1)) * a0_1)) : Int) := ofD
         have q012 : (0 : Int) ≤ ((A6) : Int) := ofD
         have hcut12 := cut_mid (P := Tryd.prog) 22 62 .i64 .i64 Tryd.underlying22 hi012 2 hsz12 A0_2 l0_2.length c0_2 (A6) (wrap64 ((wrap64 (A2 + 1)) * a0_1)) q012 ql12 q12 hroom12
         have A9 := Kd.C_mid (lo := ((A6) : Int).toNat) (hi := ((wrap64 ((wrap64 (A2 + 1)) * a0_1)) : Int).toNat) (c := c0_2) hC12 (by omega) (by omega) hroom12
         obtain ⟨Aw, hA12⟩ : ∃ A1, A1 = (if c0_2 = ((A6) : Int).toNat then A0_2 else (A0_2 : Option Addr).map (·.add (((A6) : Int).toNat * 2))) := ⟨_, rfl⟩
         obtain ⟨c12, hc12⟩ : ∃ c1, c1 = c0_2 - ((A6) : Int).toNat := ⟨_, rfl⟩
         have Ab : A7.length = ((wrap64 ((wrap64 (A2 + 1)) * a0_1)) : Int).toNat - ((A6) : Int).toNat := (by rw [Ad.o, List.length_drop, List.length_take] <;> omega)
         rw [show ((l0_2).take ((wrap64 ((wrap64 (A2 + 1)) * a0_1)) : Int).toNat).drop ((A6) : Int).toNat = A7 from Ad.o.symm] at A9
         replace A9 : Kd.C k62 _ Aw A7.length A7 := (by rw [hA12]; exact A9)
         rw [← Ab, ← hA12, ← hc12] at hcut12
         have Ah := Z.m A9
         have Af := Z.m (show A7.length ≤ c12 from by rw [Ab, hc12]; exact Nat.sub_le_sub_right (Nat.le_trans (by omega) hroom12) _)
         clear A9 hC12 hroom12 hi012 hsz12
         have KY12 := Z.m Ab
         have KA12 := Z.m hA12
         clear Ab hA12
         replace q12 := eq_true q12
         go_wp2_with (first | ((with_reducible refine gc (f := 40) rfl ?_); refine gA (some 14) _ #[.agg #[.int .i64 a0_0, .int .i64 a0_1, .slice A0_2 l0_2.length c0_2], .int .i64 A2] ?_ Tryd.func40; (with_reducible refine (spec_boRow.calls a0_0 a0_1 A0_2 c0_2 l0_2 A2 A6 _ ?side1 Aa q012 ql12 (of_eq_true q12)).mono ?_); (case side1 => exact Ac.o); rintro e wb ⟨rfl, hb⟩; refine ⟨_, rfl, ?_⟩; rw [← KY12.o, ← KA12.o, ← hc12]; replace A0 := kB A0 hb; replace HB := bB HB hb; (try clear hb)) | ((with_reducible refine gc (f := 39) rfl ?_); refine gA (some 15) _ #[.slice Aw A7.length c12] ?_ Tryd.func39; (with_reducible refine (spec_paText.calls k1 _ _ A7 A3 _ ?side1 ?side2 A8.o).mono ?_); (case side1 => repeat (first | exact (Kd.C_below Ah.o HB.o) | (with_reducible refine Kd.C_alloc ?_ _) | (with_reducible refine Kd.C_drewN ?_ _) | (with_reducible refine Kd.C_drew ?_))); (case side2 => exact Af.o); rintro e AO ⟨rfl, hb⟩; refine ⟨_, rfl, ?_⟩; replace A0 := kB A0 hb; replace HB := bB HB hb; (try clear hb); (try clear AN); (try clear hk); (try clear hi)))
         go_roundg k1
         case measure => have := Az.o; omega
         case rel => exact ⟨(A4 ++ (A3 ++ (⟨#[10]⟩ : ByteArray))), (wrap64 (A2 + 1)), (by first | rfl | (simp; done) | (simp [*]; done)), (by first | rfl | (simp; done) | (simp [*]; done)), H', ⟨by have := Az.o; omega⟩, ⟨vK A0⟩, ⟨vB HB⟩⟩
        ·rw [if_neg c10] at H
         exact absurd H (by simp)
       ·rw [if_neg c9] at H
        exact absurd H (by simp)
      ·rw [if_neg c7] at H
       exact absurd H (by simp)
     ·rw [if_neg c6] at H
      exact absurd H (by simp)
    ·rw [if_neg c5] at H
     exact absurd H (by simp)
   ·rw [if_neg c3] at H
    have Av := decide_eq_false c3
    clear c3
    obtain rfl := Option.some.inj H
    have Am := bc0 A0
    have An := bc1 A0
    have Ao := bc2 A0
    have As := qz A0.o 0
    have At := qz A0.o 1
    have Au := qz A0.o 2
    go_wp2
    go_ret
    exact ⟨by first | rfl | (simp [eN, eS] <;> rfl) | (simp [*, eN, eS] <;> rfl), vB HB⟩

/-! ### spec_MachineText: function 11 -/
def spec_MachineText.l0 : Nat → ByteArray → List Int → Int → Int → Int → Int → List (S62) → Int → Int → Int → Int → Int → Option (ByteArray × Bool)
 | 0, _, _, _, _, _, _, _, _, _, _, _, _ => none
 | k + 1, x4, x20, x21, x22, x147000, x147001, x147002, x147003, x147004, x147005, x147006, x147007 => if x22 < x21 then (if 0 ≤ x22 then (if x22 < (x20.length : Int) then (if x22 > 0 then (if x4.size + 1 ≤ 9223372036854775807 then ((spec_l1Num.f k (rd x20 x22)).bind fun t152 => (if (x4 ++ (⟨#[32]⟩ : ByteArray)).size + t152.size ≤ 9223372036854775807 then (spec_MachineText.l0 k ((x4 ++ (⟨#[32]⟩ : ByteArray)) ++ t152) x20 x21 (wrap64 (x22 + 1)) x147000 x147001 x147002 x147003 x147004 x147005 x147006 x147007) else (none))) else (none)) else ((spec_l1Num.f k (rd x20 x22)).bind fun t153 => (if x4.size + t153.size ≤ 9223372036854775807 then (spec_MachineText.l0 k (x4 ++ t153) x20 x21 (wrap64 (x22 + 1)) x147000 x147001 x147002 x147003 x147004 x147005 x147006 x147007) else (none)))) else (none)) else (none)) else (if x4.size + 1 ≤ 9223372036854775807 then ((spec_boText.f k x147000 x147001 x147002).bind fun t154 => (if (x4 ++ (⟨#[10]⟩ : ByteArray)).size + t154.size ≤ 9223372036854775807 then (some ((x4 ++ (⟨#[10]⟩ : ByteArray)) ++ t154, true)) else (none))) else (none))
def spec_MachineText.f (k : Nat) (a0_0 : Int) (a0_1 : Int) (l0_2 : List (S62)) (a0_3 : Int) (a0_4 : Int) (a0_5 : Int) (a0_6 : Int) (a0_7 : Int) : Option (ByteArray × Bool) := (spec_maGood.f k a0_0 a0_1 l0_2 a0_3 a0_4 a0_5 a0_6 a0_7).bind fun t147 => (if t147 = true then ((some (([a0_3, a0_4, a0_5, a0_6, a0_7] : List Int) : List Int)).bind fun y148 => (spec_MachineText.l0 k (⟨#[]⟩ : ByteArray) y148 (y148.length : Int) 0 a0_0 a0_1 l0_2 a0_3 a0_4 a0_5 a0_6 a0_7)) else (some ((⟨#[]⟩ : ByteArray), false)))
set_option maxHeartbeats 8000000 in
set_option maxRecDepth 100000 in
theorem spec_MachineText.calls (k : Nat) (a0_0 : Int) (a0_1 : Int) (A0_2 : Option Addr) (c0_2 : Nat) (l0_2 : List (S62)) (a0_3 : Int) (a0_4 : Int) (a0_5 : Int) (a0_6 : Int) (a0_7 : Int) (r1 : ByteArray) (r2 : Bool) (w : World) (hr0_2 : Kd.C k62 w A0_2 l0_2.length l0_2) (hc0_2 : l0_2.length ≤ c0_2) (h : spec_MachineText.f k a0_0 a0_1 l0_2 a0_3 a0_4 a0_5 a0_6 a0_7 = some (r1, r2)) :
 Calls Tryd.prog 11 #[.agg #[.int .i64 a0_0, .int .i64 a0_1, .slice A0_2 l0_2.length c0_2, .int .i64 a0_3, .int .i64 a0_4, .int .i64 a0_5, .int .i64 a0_6, .int .i64 a0_7]] w fun e w' => e = .returned (.tuple #[.string r1, .bool r2]) ∧ Below w.heap.size w w' := by
 have BV := Tryd.underlying39
 have BU := Tryd.underlying24
 have Ac := Z.m hr0_2
 have Ab := Z.m hc0_2
 clear hr0_2 hc0_2
 have HB := Z.m (Below.refl w.heap.size w)
 have H : ((spec_maGood.f k a0_0 a0_1 l0_2 a0_3 a0_4 a0_5 a0_6 a0_7).bind fun Ae => (if Ae = true then ((some (([a0_3, a0_4, a0_5, a0_6, a0_7] : List Int) : List Int)).bind fun A3 => (spec_MachineText.l0 k (⟨#[]⟩ : ByteArray) A3 (A3.length : Int) 0 a0_0 a0_1 l0_2 a0_3 a0_4 a0_5 a0_6 a0_7)) else (some ((⟨#[]⟩ : ByteArray), false)))) = some (r1, r2) := h
 clear h
 replace H := Option.bind_eq_some_iff.mp H
 obtain ⟨Ae, Bz, H⟩ := H
 replace H : (if Ae = true then ((some (([a0_3, a0_4, a0_5, a0_6, a0_7] : List Int) : List Int)).bind fun A3 => (spec_MachineText.l0 k (⟨#[]⟩ : ByteArray) A3 (A3.length : Int) 0 a0_0 a0_1 l0_2 a0_3 a0_4 a0_5 a0_6 a0_7)) else (some ((⟨#[]⟩ : ByteArray), false))) = some (r1, r2) := H
 have A2 := Z.m Bz
 clear Bz
 by_cases c3 : Ae = true
 ·subst c3
  have H1 : ((some (([a0_3, a0_4, a0_5, a0_6, a0_7] : List Int) : List Int)).bind fun A3 => (spec_MachineText.l0 k (⟨#[]⟩ : ByteArray) A3 (A3.length : Int) 0 a0_0 a0_1 l0_2 a0_3 a0_4 a0_5 a0_6 a0_7)) = some (r1, r2) := by rw [if_pos rfl] at H; exact H
  clear H
  have H := H1
  clear H1
  obtain ⟨A3, A6⟩ : ∃ y_ : List Int, y_ = (([a0_3, a0_4, a0_5, a0_6, a0_7] : List Int)) := ⟨_, rfl⟩
  replace H : (spec_MachineText.l0 k (⟨#[]⟩ : ByteArray) A3 (A3.length : Int) 0 a0_0 a0_1 l0_2 a0_3 a0_4 a0_5 a0_6 a0_7) = some (r1, r2) := by first | (rw [A6]; with_reducible exact H) | (have H2_ := (Option.bind_some _ _).symm.trans H; rw [A6]; with_reducible exact H2_) | (have H2_ := (Option.bind_some _ _).symm.trans H; with_reducible exact H2_) | with_reducible exact H | (rw [A6]; exact H) | exact H
  have Ag := Z.m A6
  clear A6
  have H' := Z.m H
  clear H
  go_enter Tryd.func11, Tryd.ntmps11
  go_wp2_with (first | ((with_reducible refine gq (N := 1) rfl ?_); refine be (N := 1) (cs := #[.int .i64 a0_0, .int .i64 a0_1, .slice A0_2 l0_2.length c0_2, .int .i64 a0_3, .int .i64 a0_4, .int .i64 a0_5, .int .i64 a0_6, .int .i64 a0_7]) (t := 39) ?_; intro Ah hg w4 hbox hb; have A0 := Z.m (hbox); have Aa := gW (w := w) HB hg; have AR := Aa; replace HB := bB HB hb; clear hb hbox hg; have Ai := bc0 A0; have Aj := bc1 A0; have Ak := bc2 A0; have Al := bc3 A0; have Am := bc4 A0; have An := bc5 A0; have Ao := bc6 A0; have Ap := bc7 A0; have Ay := qz A0.o 0; have Az := qz A0.o 1; have AA := qz A0.o 2; have AB := qz A0.o 3; have AC := qz A0.o 4; have AD := qz A0.o 5; have AE := qz A0.o 6; have AF := qz A0.o 7) | ((with_reducible refine gc (f := 22) rfl ?_); refine gA (some 8) _ #[.agg #[.int .i64 a0_0, .int .i64 a0_1, .slice A0_2 l0_2.length c0_2, .int .i64 a0_3, .int .i64 a0_4, .int .i64 a0_5, .int .i64 a0_6, .int .i64 a0_7]] ?_ Tryd.func22; (with_reducible refine (spec_maGood.calls k a0_0 a0_1 _ _ l0_2 a0_3 a0_4 a0_5 a0_6 a0_7 true _ ?side1 ?side2 A2.o).mono ?_); (case side1 => repeat (first | exact (Kd.C_below Ac.o HB.o) | (with_reducible refine Kd.C_alloc ?_ _) | (with_reducible refine Kd.C_drewN ?_ _) | (with_reducible refine Kd.C_drew ?_))); (case side2 => exact Ab.o); rintro e w6 ⟨rfl, hb⟩; refine ⟨_, rfl, ?_⟩; replace A0 := kB A0 hb; replace HB := bB HB hb; (try clear hb); (try clear AX); (try clear hk); (try clear hi); have Aq := bc0 A0; have Ar := bc1 A0; have As := bc2 A0; have At := bc3 A0; have Au := bc4 A0; have Av := bc5 A0; have Aw := bc6 A0; have Ax := bc7 A0; have AG := qz A0.o 0; have AH := qz A0.o 1; have AI := qz A0.o 2; have AJ := qz A0.o 3; have AK := qz A0.o 4; have AL := qz A0.o 5; have AM := qz A0.o 6; have AN := qz A0.o 7) | ((with_reducible refine gq (N := 20) rfl ?_); refine Kd.R_lit (Kd.int .i64) _ 3 ?hg (N := 20) ?hd (xs := ([a0_3, a0_4, a0_5, a0_6, a0_7] : List Int)) (inner := [.int .i64 a0_3, .int .i64 a0_4, .int .i64 a0_5, .int .i64 a0_6, .int .i64 a0_7]) (ok := fun _ => True) (okp := fun _ => True) ?hr ?hp (fun _ hk => hk) trivial (Below.refl _ _) (Nat.le_refl _) (by simp) ?_; (case hd => rfl); (case hg => rfl); (case hr => first | (go_simp; done) | (go_simp; rfl)); (case hp => exact (Reps.one (show Kd.M (Kd.int .i64) _ _ _ a0_3 [.int .i64 a0_3] from rfl) (Reps.one (show Kd.M (Kd.int .i64) _ _ _ a0_4 [.int .i64 a0_4] from rfl) (Reps.one (show Kd.M (Kd.int .i64) _ _ _ a0_5 [.int .i64 a0_5] from rfl) (Reps.one (show Kd.M (Kd.int .i64) _ _ _ a0_6 [.int .i64 a0_6] from rfl) (Reps.one (show Kd.M (Kd.int .i64) _ _ _ a0_7 [.int .i64 a0_7] from rfl) (Reps.none _ _))))))); intro BW w8 AV hb hg_ hnew_; clear hg_ hnew_; (first | rw [← Ag.o] at AV | (simp only [Int.reduceToNat] at AV; rw [← Ag.o] at AV)); have Af := Z.m (Kd.R_lower AV (below_size (vB HB))); replace A0 := kB A0 hb; replace HB := bB HB hb; clear hb AV; obtain ⟨Bw, Bx, By⟩ := Kd.R_slice Af.o; subst By))
  go_loopg [4, 22] k (fun kq v4 v22 w' => ∃ (A4 : ByteArray) (A1 : Int), v4 = .string A4 ∧ v22 = .int .i64 A1 ∧ Z (spec_MachineText.l0 kq A4 A3 (A3.length : Int) A1 a0_0 a0_1 l0_2 a0_3 a0_4 a0_5 a0_6 a0_7 = some (r1, r2)) ∧ Z (kq ≤ k) ∧ Z (Kd.R (Kd.int .i64) 3 w' w.heap.size (fun _ => True) (.slice Bw A3.length Bx) A3) ∧ Z (w'.heap[Ah]? = some (.cells #[.int .i64 a0_0, .int .i64 a0_1, (.slice A0_2 l0_2.length c0_2), .int .i64 a0_3, .int .i64 a0_4, .int .i64 a0_5, .int .i64 a0_6, .int .i64 a0_7] 39 (0, 0))) ∧ Z (Below w.heap.size w w'))
  case atStart => exact ⟨((⟨#[]⟩ : ByteArray)), (0), (by first | rfl | (simp; done) | (simp [*]; done)), (by first | rfl | (simp; done) | (simp [*]; done)), H', ⟨Nat.le_refl _⟩, ⟨vR Af⟩, ⟨vK A0⟩, ⟨vB HB⟩⟩
  case round =>
   clear H'
   (try clear c3)
   (try clear Ai); (try clear Aj); (try clear Ak); (try clear Al); (try clear Am); (try clear An); (try clear Ao); (try clear Ap)
   (try clear Aq); (try clear Ar); (try clear As); (try clear At); (try clear Au); (try clear Av); (try clear Aw); (try clear Ax)
   (try clear Ay); (try clear Az); (try clear AA); (try clear AB); (try clear AC); (try clear AD); (try clear AE); (try clear AF)
   (try clear AG); (try clear AH); (try clear AI); (try clear AJ); (try clear AK); (try clear AL); (try clear AM); (try clear AN)
   obtain ⟨A4, A1, rfl, rfl, HA, AW, A5, A0, HB⟩ := hrel
   cases gk with
   | zero => exact absurd HA.o (by simp [spec_MachineText.l0])
   | succ k1 =>
    have H := HA.o
    clear HA
    simp only [spec_MachineText.l0] at H
    by_cases c11 : A1 < (A3.length : Int)
    ·rw [if_pos c11] at H
     have AT := decide_eq_true c11
     clear c11
     by_cases c12 : 0 ≤ A1
     ·rw [if_pos c12] at H
      have BA := decide_eq_true c12
      clear c12
      by_cases c13 : A1 < (A3.length : Int)
      ·rw [if_pos c13] at H
       have BB := decide_eq_true c13
       clear c13
       by_cases c14 : A1 > 0
       ·rw [if_pos c14] at H
        have AU := decide_eq_true c14
        clear c14
        by_cases c15 : A4.size + 1 ≤ 9223372036854775807
        ·rw [if_pos c15] at H
         have BC := eq_true c15
         have BD := decide_eq_true c15
         try have BE : (9223372036854775807 < A4.size + 1) = False := eq_false (Nat.not_lt.2 c15)
         replace H := Option.bind_eq_some_iff.mp H
         obtain ⟨A7, AO, H⟩ := H
         replace H : (if (A4 ++ (⟨#[32]⟩ : ByteArray)).size + A7.size ≤ 9223372036854775807 then (spec_MachineText.l0 k1 ((A4 ++ (⟨#[32]⟩ : ByteArray)) ++ A7) A3 (A3.length : Int) (wrap64 (A1 + 1)) a0_0 a0_1 l0_2 a0_3 a0_4 a0_5 a0_6 a0_7) else (none)) = some (r1, r2) := H
         have BR := Z.m AO
         clear AO
         by_cases c17 : (A4 ++ (⟨#[32]⟩ : ByteArray)).size + A7.size ≤ 9223372036854775807
         ·rw [if_pos c17] at H
          have BF := eq_true c17
          have BG := decide_eq_true c17
          try have BH : (9223372036854775807 < (A4 ++ (⟨#[32]⟩ : ByteArray)).size + A7.size) = False := eq_false (Nat.not_lt.2 c17)
          try have c17b2x : (9223372036854775807 < A4.size + 1 + A7.size) = False := eq_false (by rw [ByteArray.size_append, show (⟨#[32]⟩ : ByteArray).size = 1 from rfl] at c17; omega)
          have H' := Z.m H
          clear H
          have p151 : 0 ≤ (A1 : Int) := ofD
          have q151 : A1 < (A3.length : Int) := ofD
          obtain ⟨AS, e151, Ad⟩ := Kd.at_int (Kd.Rr A5.o).2.2 A1 p151 q151
          cases e151
          replace p151 := eq_true p151
          replace q151 := eq_true q151
          go_wp2_with (first | ((with_reducible refine gc (f := 23) rfl ?_); refine gA (some 33) _ #[.int .i64 (rd A3 A1)] ?_ Tryd.func23; (with_reducible refine (spec_l1Num.calls k1 (rd A3 A1) A7 _ BR.o).mono ?_); rintro e BX ⟨rfl, hb⟩; refine ⟨_, rfl, ?_⟩; replace A5 := Z.m (Kd.Rb (vR A5) hb); replace A0 := kB A0 hb; replace HB := bB HB hb; (try clear hb); (try clear AX); (try clear hk); (try clear hi)))
          go_roundg k1
          case measure => have := AW.o; omega
          case rel => exact ⟨((A4 ++ (⟨#[32]⟩ : ByteArray)) ++ A7), (wrap64 (A1 + 1)), (by first | rfl | (simp; done) | (simp [*]; done)), (by first | rfl | (simp; done) | (simp [*]; done)), H', ⟨by have := AW.o; omega⟩, ⟨vR A5⟩, ⟨vK A0⟩, ⟨vB HB⟩⟩
         ·rw [if_neg c17] at H
          exact absurd H (by simp)
        ·rw [if_neg c15] at H
         exact absurd H (by simp)
       ·rw [if_neg c14] at H
        have AU := decide_eq_false c14
        clear c14
        replace H := Option.bind_eq_some_iff.mp H
        obtain ⟨A8, AP, H⟩ := H
        replace H : (if A4.size + A8.size ≤ 9223372036854775807 then (spec_MachineText.l0 k1 (A4 ++ A8) A3 (A3.length : Int) (wrap64 (A1 + 1)) a0_0 a0_1 l0_2 a0_3 a0_4 a0_5 a0_6 a0_7) else (none)) = some (r1, r2) := H
        have BS := Z.m AP
        clear AP
        by_cases c20 : A4.size + A8.size ≤ 9223372036854775807
        ·rw [if_pos c20] at H
         have BI := eq_true c20
         have BJ := decide_eq_true c20
         try have BK : (9223372036854775807 < A4.size + A8.size) = False := eq_false (Nat.not_lt.2 c20)
         have H' := Z.m H
         clear H
         have p151 : 0 ≤ (A1 : Int) := ofD
         have q151 : A1 < (A3.length : Int) := ofD
         obtain ⟨AS, e151, Ad⟩ := Kd.at_int (Kd.Rr A5.o).2.2 A1 p151 q151
         cases e151
         replace p151 := eq_true p151
         replace q151 := eq_true q151
         go_wp2_with (first | ((with_reducible refine gc (f := 23) rfl ?_); refine gA (some 33) _ #[.int .i64 (rd A3 A1)] ?_ Tryd.func23; (with_reducible refine (spec_l1Num.calls k1 (rd A3 A1) A8 _ BS.o).mono ?_); rintro e BY ⟨rfl, hb⟩; refine ⟨_, rfl, ?_⟩; replace A5 := Z.m (Kd.Rb (vR A5) hb); replace A0 := kB A0 hb; replace HB := bB HB hb; (try clear hb); (try clear AX); (try clear hk); (try clear hi)))
         go_roundg k1
         case measure => have := AW.o; omega
         case rel => exact ⟨(A4 ++ A8), (wrap64 (A1 + 1)), (by first | rfl | (simp; done) | (simp [*]; done)), (by first | rfl | (simp; done) | (simp [*]; done)), H', ⟨by have := AW.o; omega⟩, ⟨vR A5⟩, ⟨vK A0⟩, ⟨vB HB⟩⟩
        ·rw [if_neg c20] at H
         exact absurd H (by simp)
      ·rw [if_neg c13] at H
       exact absurd H (by simp)
     ·rw [if_neg c12] at H
      exact absurd H (by simp)
    ·rw [if_neg c11] at H
     have AT := decide_eq_false c11
     clear c11
     by_cases c22 : A4.size + 1 ≤ 9223372036854775807
     ·rw [if_pos c22] at H
      have BL := eq_true c22
      have BM := decide_eq_true c22
      try have BN : (9223372036854775807 < A4.size + 1) = False := eq_false (Nat.not_lt.2 c22)
      replace H := Option.bind_eq_some_iff.mp H
      obtain ⟨A9, AQ, H⟩ := H
      replace H : (if (A4 ++ (⟨#[10]⟩ : ByteArray)).size + A9.size ≤ 9223372036854775807 then (some ((A4 ++ (⟨#[10]⟩ : ByteArray)) ++ A9, true)) else (none)) = some (r1, r2) := H
      have BT := Z.m AQ
      clear AQ
      by_cases c24 : (A4 ++ (⟨#[10]⟩ : ByteArray)).size + A9.size ≤ 9223372036854775807
      ·rw [if_pos c24] at H
       have BO := eq_true c24
       have BP := decide_eq_true c24
       try have BQ : (9223372036854775807 < (A4 ++ (⟨#[10]⟩ : ByteArray)).size + A9.size) = False := eq_false (Nat.not_lt.2 c24)
       try have c24b2x : (9223372036854775807 < A4.size + 1 + A9.size) = False := eq_false (by rw [ByteArray.size_append, show (⟨#[10]⟩ : ByteArray).size = 1 from rfl] at c24; omega)
       simp only [Option.some.injEq, Prod.mk.injEq] at H
       obtain ⟨rfl, rfl⟩ := H
       have AY := bc0 A0
       have AZ := bc1 A0
       have B0 := bc2 A0
       have B1 := bc3 A0
       have B2 := bc4 A0
       have B4 := bc5 A0
       have B5 := bc6 A0
       have B7 := bc7 A0
       have Bg := qz A0.o 0
       have Bh := qz A0.o 1
       have Bi := qz A0.o 2
       have Bj := qz A0.o 3
       have Bk := qz A0.o 4
       have Bl := qz A0.o 5
       have Bm := qz A0.o 6
       have Bn := qz A0.o 7
       go_wp2_with (first | ((with_reducible refine gc (f := 24) rfl ?_); refine gA (some 40) _ #[.agg #[.int .i64 a0_0, .int .i64 a0_1, .slice A0_2 l0_2.length c0_2]] ?_ Tryd.func24; (with_reducible refine (spec_boText.calls k1 a0_0 a0_1 _ _ l0_2 A9 _ ?side1 ?side2 BT.o).mono ?_); (case side1 => repeat (first | exact (Kd.C_below Ac.o HB.o) | (with_reducible refine Kd.C_alloc ?_ _) | (with_reducible refine Kd.C_drewN ?_ _) | (with_reducible refine Kd.C_drew ?_))); (case side2 => exact Ab.o); rintro e BZ ⟨rfl, hb⟩; refine ⟨_, rfl, ?_⟩; replace A5 := Z.m (Kd.Rb (vR A5) hb); replace A0 := kB A0 hb; replace HB := bB HB hb; (try clear hb); (try clear AX); (try clear hk); (try clear hi)))
       go_ret2
       exact ⟨by first | rfl | (simp [eN, eS] <;> rfl) | (simp [*, eN, eS] <;> rfl), vB HB⟩
      ·rw [if_neg c24] at H
       exact absurd H (by simp)
     ·rw [if_neg c22] at H
      exact absurd H (by simp)
 ·replace c3 := Bool.eq_false_iff.mpr c3
  subst c3
  have H1 : (some ((⟨#[]⟩ : ByteArray), false)) = some (r1, r2) := by rw [if_neg (show ¬ (false = true) by decide)] at H; exact H
  clear H
  have H := H1
  clear H1
  simp only [Option.some.injEq, Prod.mk.injEq] at H
  obtain ⟨rfl, rfl⟩ := H
  go_enter Tryd.func11, Tryd.ntmps11
  go_wp2_with (first | ((with_reducible refine gq (N := 1) rfl ?_); refine be (N := 1) (cs := #[.int .i64 a0_0, .int .i64 a0_1, .slice A0_2 l0_2.length c0_2, .int .i64 a0_3, .int .i64 a0_4, .int .i64 a0_5, .int .i64 a0_6, .int .i64 a0_7]) (t := 39) ?_; intro Ah hg C0 hbox hb; have A0 := Z.m (hbox); have Aa := gW (w := w) HB hg; have AR := Aa; replace HB := bB HB hb; clear hb hbox hg; have B8 := bc0 A0; have B9 := bc1 A0; have Ba := bc2 A0; have Bb := bc3 A0; have Bc := bc4 A0; have Bd := bc5 A0; have Be := bc6 A0; have Bf := bc7 A0; have Bo := qz A0.o 0; have Bp := qz A0.o 1; have Bq := qz A0.o 2; have Br := qz A0.o 3; have Bs := qz A0.o 4; have Bt := qz A0.o 5; have Bu := qz A0.o 6; have Bv := qz A0.o 7) | ((with_reducible refine gc (f := 22) rfl ?_); refine gA (some 8) _ #[.agg #[.int .i64 a0_0, .int .i64 a0_1, .slice A0_2 l0_2.length c0_2, .int .i64 a0_3, .int .i64 a0_4, .int .i64 a0_5, .int .i64 a0_6, .int .i64 a0_7]] ?_ Tryd.func22; (with_reducible refine (spec_maGood.calls k a0_0 a0_1 _ _ l0_2 a0_3 a0_4 a0_5 a0_6 a0_7 false _ ?side1 ?side2 A2.o).mono ?_); (case side1 => repeat (first | exact (Kd.C_below Ac.o HB.o) | (with_reducible refine Kd.C_alloc ?_ _) | (with_reducible refine Kd.C_drewN ?_ _) | (with_reducible refine Kd.C_drew ?_))); (case side2 => exact Ab.o); rintro e C1 ⟨rfl, hb⟩; refine ⟨_, rfl, ?_⟩; replace A0 := kB A0 hb; replace HB := bB HB hb; (try clear hb); (try clear AX); (try clear hk); (try clear hi)))
  go_ret2
  exact ⟨by first | rfl | (simp [eN, eS] <;> rfl) | (simp [*, eN, eS] <;> rfl), vB HB⟩

/-! ### laws_toCell: function 52 -/
def laws_toCell.f (a0_0 : Int) (a0_1 : Int) : Option (Int × Int) := some (a0_0, a0_1)
set_option maxHeartbeats 8000000 in
set_option maxRecDepth 100000 in
theorem laws_toCell.calls (a0_0 : Int) (a0_1 : Int) (r1 : Int) (r2 : Int) (w : World) (h : laws_toCell.f a0_0 a0_1 = some (r1, r2)) :
 Calls Tryd.prog 52 #[.agg #[.int .i64 a0_0, .int .i64 a0_1]] w fun e w' => e = .returned (.agg #[.int .i64 r1, .int .i64 r2]) ∧ Below w.heap.size w w' := by
 have AB := Tryd.underlying79
 have AA := Tryd.underlying62
 have HB := Z.m (Below.refl w.heap.size w)
 have H : (some (a0_0, a0_1)) = some (r1, r2) := h
 clear h
 simp only [Option.some.injEq, Prod.mk.injEq] at H
 obtain ⟨rfl, rfl⟩ := H
 go_enter Tryd.func52, Tryd.ntmps52
 go_wp2_with (first | ((with_reducible refine gq (N := 1) rfl ?_); refine be (N := 1) (cs := #[.int .i64 a0_0, .int .i64 a0_1]) (t := 79) ?_; intro As hg w2 hbox hb; have A0 := Z.m (hbox); have A9 := gW (w := w) HB hg; have Ap := A9; replace HB := bB HB hb; clear hb hbox hg) | ((with_reducible refine gq (N := 2) rfl ?_); refine be (N := 2) (cs := #[.int .i64 0, .int .i64 0]) (t := 62) ?_; intro Ac hg w3 hbox hb; have A1 := Z.m (hbox); have Aa := gW (w := w) HB hg; have Aq := Aa; have A4 := neL A0 hg; have A6 := neG A0 hg; replace A0 := kB A0 hb; replace HB := bB HB hb; clear hb hbox hg) | ((with_reducible refine gq (N := 3) rfl ?_); refine be (N := 3) (cs := #[.int .i64 0, .int .i64 0]) (t := 62) ?_; intro At hg w4 hbox hb; have A3 := Z.m (hbox); have Ab := gW (w := w) HB hg; have Ar := Ab; have A5 := neL A0 hg; have A7 := neG A0 hg; have A2 := neL A1 hg; have A8 := neG A1 hg; replace A0 := kB A0 hb; replace A1 := kB A1 hb; replace HB := bB HB hb; clear hb hbox hg; have Au := A4.o; have Ax := A6.o; have Av := A5.o; have Ay := A7.o; have Ah := bc0 A0; have Ai := bc1 A0; have Al := qz A0.o 0; have Am := qz A0.o 1; have Aw := A8.o; have Az := A2.o; have Aj := bc0 A3; have Ak := bc1 A3; have An := qz A3.o 0; have Ao := qz A3.o 1; have Ad := bc0 A1; have Ae := bc1 A1; have Af := qz A1.o 0; have Ag := qz A1.o 1))
 refine bodyPost_ret (results_cell_row rfl _ _ Ac 62 #[.int .i64 a0_0, .int .i64 a0_1] (0, 0) _ rfl (by refine bK ?_; refine qp (cs := #[iV a0_0, iV 0]) ?_ 1 _ rfl; refine bK ?_; refine qp (cs := #[iV 0, iV 0]) ?_ 0 _ rfl; refine bK ?_; (iterate 2 refine qF ?_ A2); exact A1.o) Tryd.underlying62 rfl (by kernel_rfl)) rfl ?_
 exact ⟨by first | rfl | (simp [eN, eS] <;> rfl) | (simp [*, eN, eS] <;> rfl), vB HB⟩

end Go.Proofs.YtklmdnlambinaaaDoor.PAll
