/- Began as a text that print.sh wrote (of the functions named below); turned and shortened by this session. -/
import Derived.Test.YtlkiakpipcnijaaG0
import Derived.Test.YtlkiakpipcnijaaG6
import Derived.Test.YtlkiakpipcnijaaG7
import Derived.Test.YtlkiakpipcnijaaG8
import Derived.Test.YtlkiakpipcnijaaG16
namespace Go.Proofs.Ytlkiakpipcnijaa.PAll
open Go.RowKit Go.Proofs.YtlkiakpipcnijaaW.PrintWords Go.Proofs.YtlkiakpipcnijaaW.PrintLast Go.Proofs.YtlkiakpipcnijaaW.PrintMore
attribute [local go_sem] max2_int min2_int max_two min_two max_three min_three max_four min_four   -- for this text's walks alone
set_option linter.unusedVariables false
set_option linter.unusedSimpArgs false

/-! ### spec_WithoutCogs: function 37 -/
def spec_WithoutCogs.l0 : Nat → List Int → List (List Int) → List (S71) → Int → Int → Int → Int → List (S71) → Option (Int × Int × (List (S71)) × Bool)
 | 0, _, _, _, _, _, _, _, _ => none
 | k + 1, x4, x5, x20, x21, x22, x387000, x387001, x387002 => if x22 < x21 then (if 0 ≤ x22 then (if x22 < (x20.length : Int) then (if ((rd_T71 x20 x22).f0) = 7 then (if x22 < (x4.length : Int) then (if 0 ≤ (rd x4 x22) then (if (rd x4 x22) < (x5.length : Int) then (if 0 < ((rd_L3 x5 (rd x4 x22)).length : Int) then (if 1 < ((rd_L3 x5 (rd x4 x22)).length : Int) then (if (wrap64 ((rd (rd_L3 x5 (rd x4 x22)) 0) + (rd (rd_L3 x5 (rd x4 x22)) 1))) ≤ 1 then (if x22 < (x387002.length : Int) then (spec_WithoutCogs.l0 k x4 x5 x20 x21 (wrap64 (x22 + 1)) x387000 x387001 (x387002.set (x22 : Int).toNat (⟨0, 0⟩ : S71))) else (none)) else (spec_WithoutCogs.l0 k x4 x5 x20 x21 (wrap64 (x22 + 1)) x387000 x387001 x387002)) else (none)) else (none)) else (none)) else (none)) else (none)) else (spec_WithoutCogs.l0 k x4 x5 x20 x21 (wrap64 (x22 + 1)) x387000 x387001 x387002)) else (none)) else (none)) else (some (x387000, x387001, x387002, true))
def spec_WithoutCogs.f (k : Nat) (a0_0 : Int) (a0_1 : Int) (l0_2 : List (S71)) : Option (Int × Int × (List (S71)) × Bool) := (spec_boGood.f k a0_0 a0_1 l0_2).bind fun t374 => (if t374 = true then ((spec_ggGroups.f k a0_0 a0_1 l0_2).bind fun t375 => ((spec_ggGears.f k a0_0 a0_1 l0_2).bind fun t378 => ((spec_boOwn.f a0_0 a0_1 l0_2).bind fun bt381 => (spec_WithoutCogs.l0 k t375 t378 l0_2 (l0_2.length : Int) 0 bt381.1 bt381.2.1 bt381.2.2)))) else (some (0, 0, ([] : List (S71)), false)))
def spec_WithoutCogs.T8 : Bool × List (List Nat × List Nat) := (true, [([], []), ([0], [0]), ([1], [1]), ([2], [2]), ([3], [3]), ([3], [3]), ([3], [3]), ([5, 6, 3], [3, 5, 6]), ([7, 3], [3, 7]), ([4, 8, 3], [3, 4, 8]), ([9, 3], [3, 9]), ([10, 3], [3, 10]), ([11, 3], [3, 11]), ([3], [3]), ([3], [3]), ([3], [3]), ([14, 15, 3], [3, 14, 15]), ([16, 3], [3, 16]), ([13, 17, 3], [3, 13, 17]), ([18, 3], [3, 18]), ([19, 3], [3, 19]), ([20, 3], [3, 20]), ([12, 21, 3], [3, 12, 21]), ([22, 3], [3, 22]), ([3, 23], [3, 23])])
def spec_WithoutCogs.B8 : List Nat := [0, 1, 3, 7, 15, 15, 15, 111, 239, 511, 1023, 2047, 4095, 15, 15, 15, 49167, 114703, 253967, 516111, 1040399, 2088975, 4194303, 8388607, 16777215]
theorem spec_WithoutCogs.tab8 : rtab .any (opsOf Try.f37 8) = spec_WithoutCogs.T8 := by kernel_rfl
theorem spec_WithoutCogs.bits8 : waitsOk spec_WithoutCogs.T8.2 spec_WithoutCogs.B8 = true := by kernel_rfl
set_option maxHeartbeats 60000000 in
set_option maxRecDepth 100000 in
theorem spec_WithoutCogs.calls (k : Nat) (a0_0 : Int) (a0_1 : Int) (A0_2 : Option Addr) (c0_2 : Nat) (l0_2 : List (S71)) (r1 : Int) (r2 : Int) (r3 : List (S71)) (r4 : Bool) (w : World) (hr0_2 : Kd.C k71 w A0_2 l0_2.length l0_2) (hc0_2 : l0_2.length ≤ c0_2) (h : spec_WithoutCogs.f k a0_0 a0_1 l0_2 = some (r1, r2, r3, r4)) :
 Calls Try.prog 37 #[.agg #[.int .i64 a0_0, .int .i64 a0_1, .slice A0_2 l0_2.length c0_2]] w fun e w' => ∃ v2_ : Value, e = .returned (.tuple #[.agg #[.int .i64 r1, .int .i64 r2, v2_], .bool r4]) ∧ Kd.R k71 71 w' w.heap.size (fun _ => True) v2_ r3 ∧ Below w.heap.size w w' := by
 have Ee := Try.underlying30
 have Ef := Try.underlying71
 have AI := Z.m hr0_2
 have AT := Z.m hc0_2
 clear hr0_2 hc0_2
 have HB := Z.m (Below.refl w.heap.size w)
 have H : ((spec_boGood.f k a0_0 a0_1 l0_2).bind fun BF => (if BF = true then ((spec_ggGroups.f k a0_0 a0_1 l0_2).bind fun Ab => ((spec_ggGears.f k a0_0 a0_1 l0_2).bind fun Ad => ((spec_boOwn.f a0_0 a0_1 l0_2).bind fun bt381 => (spec_WithoutCogs.l0 k Ab Ad l0_2 (l0_2.length : Int) 0 bt381.1 bt381.2.1 bt381.2.2)))) else (some (0, 0, ([] : List (S71)), false)))) = some (r1, r2, r3, r4) := h
 clear h
 replace H := Option.bind_eq_some_iff.mp H
 obtain ⟨BF, Dd, H⟩ := H
 replace H : (if BF = true then ((spec_ggGroups.f k a0_0 a0_1 l0_2).bind fun Ab => ((spec_ggGears.f k a0_0 a0_1 l0_2).bind fun Ad => ((spec_boOwn.f a0_0 a0_1 l0_2).bind fun bt381 => (spec_WithoutCogs.l0 k Ab Ad l0_2 (l0_2.length : Int) 0 bt381.1 bt381.2.1 bt381.2.2)))) else (some (0, 0, ([] : List (S71)), false))) = some (r1, r2, r3, r4) := H
 have A2 := Z.m Dd
 clear Dd
 by_cases c3 : BF = true
 ·subst c3
  have H1 : ((spec_ggGroups.f k a0_0 a0_1 l0_2).bind fun Ab => ((spec_ggGears.f k a0_0 a0_1 l0_2).bind fun Ad => ((spec_boOwn.f a0_0 a0_1 l0_2).bind fun bt381 => (spec_WithoutCogs.l0 k Ab Ad l0_2 (l0_2.length : Int) 0 bt381.1 bt381.2.1 bt381.2.2)))) = some (r1, r2, r3, r4) := by rw [if_pos rfl] at H; exact H
  clear H
  have H := H1
  clear H1
  replace H := Option.bind_eq_some_iff.mp H
  obtain ⟨Ab, De, H⟩ := H
  replace H : ((spec_ggGears.f k a0_0 a0_1 l0_2).bind fun Ad => ((spec_boOwn.f a0_0 a0_1 l0_2).bind fun bt381 => (spec_WithoutCogs.l0 k Ab Ad l0_2 (l0_2.length : Int) 0 bt381.1 bt381.2.1 bt381.2.2))) = some (r1, r2, r3, r4) := H
  have A4 := Z.m De
  clear De
  replace H := Option.bind_eq_some_iff.mp H
  obtain ⟨Ad, Df, H⟩ := H
  replace H : ((spec_boOwn.f a0_0 a0_1 l0_2).bind fun bt381 => (spec_WithoutCogs.l0 k Ab Ad l0_2 (l0_2.length : Int) 0 bt381.1 bt381.2.1 bt381.2.2)) = some (r1, r2, r3, r4) := H
  have A5 := Z.m Df
  clear Df
  replace H := Option.bind_eq_some_iff.mp H
  obtain ⟨⟨AP, AQ, Be⟩, Dg, H⟩ := H
  replace H : (spec_WithoutCogs.l0 k Ab Ad l0_2 (l0_2.length : Int) 0 AP AQ Be) = some (r1, r2, r3, r4) := H
  have A6 := Z.m Dg
  clear Dg
  have H' := Z.m H
  clear H
  go_enter Try.func37, Try.ntmps37
  try go_wp2_with (first | ((with_reducible refine gq (N := 1) rfl ?_); refine be (N := 1) (cs := #[.int .i64 a0_0, .int .i64 a0_1, .slice A0_2 l0_2.length c0_2]) (t := 30) ?_; intro AA hg w7 hbox hb; have A3 := Z.m (hbox); have B0 := gW (w := w) HB hg; have BZ := B0; replace HB := bB HB hb; clear hb hbox hg) | ((with_reducible refine gq (N := 2) rfl ?_); refine be (N := 2) (cs := #[.int .i64 0, .int .i64 0, .slice none 0 0]) (t := 30) ?_; intro AJ hg w8 hbox hb; have A8 := Z.m (hbox); have B2 := gW (w := w) HB hg; have C0 := B2; have Av := neL A3 hg; have Ax := neG A3 hg; replace A3 := kB A3 hb; replace HB := bB HB hb; clear hb hbox hg; have Ec := Av.o; have Ed := Ax.o; have Bh := bc0 A3; have Bi := bc1 A3; have Bj := bc2 A3; have Bt := qz A3.o 0; have Bu := qz A3.o 1; have Bv := qz A3.o 2) | ((with_reducible refine gc (f := 59) rfl ?_); refine gA (some 10) _ #[.agg #[.int .i64 a0_0, .int .i64 a0_1, .slice A0_2 l0_2.length c0_2]] ?_ Try.func59; (with_reducible refine (spec_boGood.calls k a0_0 a0_1 _ _ l0_2 true _ ?side1 ?side2 A2.o).mono ?_); (case side1 => repeat (first | exact (Kd.C_below AI.o HB.o) | (with_reducible refine Kd.C_alloc ?_ _) | (with_reducible refine Kd.C_drewN ?_ _) | (with_reducible refine Kd.C_drew ?_))); (case side2 => exact AT.o); rintro e Eh ⟨rfl, hb⟩; refine ⟨_, rfl, ?_⟩; replace A3 := kB A3 hb; replace A8 := kB A8 hb; replace HB := bB HB hb; (try clear hb); (try clear Ds); (try clear hk); (try clear hi)))
  replace A3 := Z.m (blk_drew A3.o)
  replace A8 := Z.m (blk_drew A8.o)
  replace HB := Z.m (qd HB.o)
  refine start_ (n := 6) (S := fun w' => w'.cell? ⟨AA, 0, none⟩ = some (.int .i64 a0_0) ∧ w'.cell? ⟨AA, 1, none⟩ = some (.int .i64 a0_1) ∧ w'.cell? ⟨AA, 2, none⟩ = some (.slice A0_2 l0_2.length c0_2)) (ds := []) #[false, false, false, false, false, false] (by kernel_rfl) rfl rfl ⟨(ql A3.o 0).trans rfl, (ql A3.o 1).trans rfl, (ql A3.o 2).trans rfl⟩ (fun hHeld => ?_)
  generalize Eh.drew = El at A3 A8 HB hHeld ⊢
  refine take_ (i := 0) (N := some 13) (v := ?_) (a' := ?_) #[true, false, false, false, false, false] rfl rfl (by kernel_rfl) (fun _ _ _ h => h) (Or.inl ⟨by rfl, ?_⟩) hHeld ?_ ?_
  rotate_left
  ·rintro w' ⟨s0, s1, s2⟩
   go_simp
   with_reducible rfl
  rotate_left
  ·simp only [Act.put, q1, q2, q3, i64_w, i32_w]
   rfl
  refine take_ (i := 2) (N := some 15) (v := ?_) (a' := ?_) #[true, false, true, false, false, false] rfl rfl (by kernel_rfl) (fun _ _ _ h => h) (Or.inl ⟨by rfl, ?_⟩) hHeld ?_ ?_
  rotate_left
  ·rintro w' ⟨s0, s1, s2⟩
   go_simp
   with_reducible rfl
  rotate_left
  ·simp only [Act.put, q1, q2, q3, i64_w, i32_w]
   rfl
  refine one_ (i := 1) (N := some 14) #[true, true, true, false, false, false] rfl rfl (by kernel_rfl) (by decide) (fun K hK => ?_)
  refine goes_ Try.func54 (by kernel_rfl) rfl #[.agg #[.int .i64 a0_0, .int .i64 a0_1, .slice A0_2 l0_2.length c0_2]] (by rfl) rfl rfl (by (try simp only [List.map_toArray, List.map_cons, List.map_nil]); first | done | rfl | (simp only [List.length_drop, List.length_take]; rfl)) ?_
  with_reducible refine (spec_ggGroups.calls k a0_0 a0_1 _ _ l0_2 Ab _ ?side1 ?side2 A4.o).mono ?_
  (case side1 => repeat (first | exact (Kd.C_below AI.o HB.o) | (with_reducible refine Kd.C_alloc ?_ _) | (with_reducible refine Kd.C_drewN ?_ _) | (with_reducible refine Kd.C_drew ?_)))
  (case side2 => exact AT.o)
  rintro e Em ⟨AX, rfl, BM, hb⟩
  refine ⟨_, rfl, ?_⟩
  have AH := Z.m (Kd.R_lower BM (below_size (vB HB)))
  replace A3 := kB A3 hb
  replace A8 := kB A8 hb
  replace HB := bB HB hb
  (try clear hb); (try clear BM)
  refine hK.out _ _ ⟨(ql A3.o 0).trans rfl, (ql A3.o 1).trans rfl, (ql A3.o 2).trans rfl⟩ (fun hHeld => ?_)
  clear hK K
  refine norm_ (a' := ?_) ?_ ?_
  rotate_left
  ·show Act.put _ (some 14) _ = _
   simp only [Act.put, q1, q2, q3, i64_w, i32_w]
   rfl
  refine one_ (i := 3) (N := some 16) #[true, true, true, true, false, false] rfl rfl (by kernel_rfl) (by decide) (fun K hK => ?_)
  refine goes_ Try.func68 (by kernel_rfl) rfl #[.agg #[.int .i64 a0_0, .int .i64 a0_1, .slice A0_2 l0_2.length c0_2]] (by rfl) rfl rfl (by (try simp only [List.map_toArray, List.map_cons, List.map_nil]); first | done | rfl | (simp only [List.length_drop, List.length_take]; rfl)) ?_
  with_reducible refine (spec_ggGears.calls k a0_0 a0_1 _ _ l0_2 Ad _ ?side1 ?side2 A5.o).mono ?_
  (case side1 => repeat (first | exact (Kd.C_below AI.o HB.o) | (with_reducible refine Kd.C_alloc ?_ _) | (with_reducible refine Kd.C_drewN ?_ _) | (with_reducible refine Kd.C_drew ?_)))
  (case side2 => exact AT.o)
  rintro e En ⟨BG, rfl, BM, hb⟩
  refine ⟨_, rfl, ?_⟩
  have AU := Z.m (Kd.S_lower (Kd.S_new' BM (Kd.R_lt (vR AH))) (below_size (vB HB)))
  replace AH := Z.m (Kd.Rb (vR AH) hb)
  replace A3 := kB A3 hb
  replace A8 := kB A8 hb
  replace HB := bB HB hb
  (try clear hb); (try clear BM)
  refine hK.out _ _ ⟨(ql A3.o 0).trans rfl, (ql A3.o 1).trans rfl, (ql A3.o 2).trans rfl⟩ (fun hHeld => ?_)
  clear hK K
  refine norm_ (a' := ?_) ?_ ?_
  rotate_left
  ·show Act.put _ (some 16) _ = _
   simp only [Act.put, q1, q2, q3, i64_w, i32_w]
   rfl
  refine pure_ (i := 4) (N := some 4) (v := ?_) (a' := ?_) #[true, true, true, true, true, false] rfl rfl (by kernel_rfl) (fun _ _ _ h => h) (Or.inl ⟨by rfl, ?_⟩) ?_ ?_
  rotate_left
  ·intro w'
   go_simp
   with_reducible rfl
  rotate_left
  ·simp only [Act.put, q1, q2, q3, i64_w, i32_w]
   rfl
  refine pure_ (i := 5) (N := some 5) (v := ?_) (a' := ?_) #[true, true, true, true, true, true] rfl rfl (by kernel_rfl) (fun _ _ _ h => h) (Or.inl ⟨by rfl, ?_⟩) ?_ ?_
  rotate_left
  ·intro w'
   go_simp
   with_reducible rfl
  rotate_left
  ·simp only [Act.put, q1, q2, q3, i64_w, i32_w]
   rfl
  refine done_ (by kernel_rfl) ?_
  have Bk := bc0 A3
  have Bl := bc1 A3
  have Bm := bc2 A3
  have Bw := qz A3.o 0
  have Bx := qz A3.o 1
  have By := qz A3.o 2
  try go_wp2_with (first | ((with_reducible refine gc (f := 75) rfl ?_); refine gA (some 18) _ #[.agg #[.int .i64 a0_0, .int .i64 a0_1, .slice A0_2 l0_2.length c0_2]] ?_ Try.func75; (with_reducible refine (spec_boOwn.calls a0_0 a0_1 _ _ l0_2 AP AQ Be _ ?side1 ?side2 A6.o).mono ?_); (case side1 => repeat (first | exact (Kd.C_below AI.o HB.o) | (with_reducible refine Kd.C_alloc ?_ _) | (with_reducible refine Kd.C_drewN ?_ _) | (with_reducible refine Kd.C_drew ?_))); (case side2 => exact AT.o); rintro e Eo ⟨Eg, rfl, BM, hb⟩; refine ⟨_, rfl, ?_⟩; have AY := Z.m (Kd.R_lower BM (below_size (vB HB))); replace AH := Z.m (Kd.Rb (vR AH) hb); replace AU := Z.m (Kd.S_below (vS AU) hb); replace A3 := kB A3 hb; replace A8 := kB A8 hb; replace HB := bB HB hb; (try clear hb); (try clear Ds); (try clear hk); (try clear hi); (try clear BM)) | ((with_reducible refine gq (N := 6) rfl ?_); refine be (N := 6) (cs := #[.int .i64 0, .int .i64 0, .slice none 0 0]) (t := 30) ?_; intro AK hg Ep hbox hb; have Aa := Z.m (hbox); have C1 := gW (w := w) HB hg; have Dh := C1; have Aw := neL A3 hg; have AF := neG A3 hg; have Ay := neL A8 hg; have AG := neG A8 hg; replace AH := Z.m (Kd.Rb (vR AH) hb); replace AU := Z.m (Kd.S_below (vS AU) hb); replace AY := Z.m (Kd.Rb (vR AY) hb); replace A3 := kB A3 hb; replace A8 := kB A8 hb; replace HB := bB HB hb; clear hb hbox hg; have Dt := AF.o; have DK := Aw.o; have Du := AG.o; have DL := Ay.o; have Bn := bc0 Aa; have Bo := bc1 Aa; have Bp := bc2 Aa; have Bz := qz Aa.o 0; have BA := qz Aa.o 1; have BB := qz Aa.o 2; obtain ⟨BX, Cd, D6⟩ := Kd.R_slice AY.o; subst D6; have Bq := bc0 A3; have Br := bc1 A3; have Bs := bc2 A3; have BC := qz A3.o 0; have BD := qz A3.o 1; have BE := qz A3.o 2))
  go_loopg [22] k (fun kq v22 w' => ∃ (A0 : Int) (A9 : List (S71)) (u387002 : Value), v22 = .int .i64 A0 ∧ Z (spec_WithoutCogs.l0 kq Ab Ad l0_2 (l0_2.length : Int) A0 AP AQ A9 = some (r1, r2, r3, r4)) ∧ Z (kq ≤ k) ∧ Z (Kd.R (Kd.int .i64) 3 w' w.heap.size (fun _ => True) AX Ab) ∧ Z (Kd.S (Kd.slice 3 (Kd.int .i64)) 38 w' w.heap.size (fun k_ => some k_ ≠ (AX : Value).ownBlock) BG Ad) ∧ Z (Kd.R k71 71 w' w.heap.size (fun _ => True) u387002 A9) ∧ Z (w'.heap[AA]? = some (.cells #[.int .i64 a0_0, .int .i64 a0_1, (.slice A0_2 l0_2.length c0_2)] 30 (0, 0))) ∧ Z (w'.heap[AJ]? = some (.cells #[.int .i64 0, .int .i64 0, (.slice none 0 0)] 30 (0, 0))) ∧ Z (w'.heap[AK]? = some (.cells #[.int .i64 AP, .int .i64 AQ, u387002] 30 (0, 0))) ∧ Z (Below w.heap.size w w'))
  case atStart => exact ⟨(0), (Be), (.slice BX Be.length Cd), (by first | rfl | (simp; done) | (simp [*]; done)), H', ⟨Nat.le_refl _⟩, ⟨by refine rK ?_; exact Kd.Rm (rf (rf (rf (Kd.Ry AH.o Aa.o (by decide))))) (fun _ hk => trivial)⟩, ⟨by (with_reducible repeat (first | apply Kd.S_alloc | apply Kd.S_drewN | apply Kd.S_drew)); exact Kd.S_mono (Kd.S_far (p := ⟨AK, 2, none⟩) (Kd.S_far (p := ⟨AK, 1, none⟩) (Kd.S_far (p := ⟨AK, 0, none⟩) (Kd.S_types AU.o Aa.o (by decide)) (fun _ hk => hk.2) (.int .i64 AP)) (fun _ hk => hk.2) (.int .i64 AQ)) (fun _ hk => hk.2) (.slice BX Be.length Cd)) (fun _ hk => hk.1.2)⟩, ⟨by refine rK ?_; exact Kd.Rm (rf (rf (rf (Kd.Ry AY.o Aa.o (by decide))))) (fun _ hk => trivial)⟩, ⟨by refine bK ?_; (iterate 3 refine qF ?_ Aw); exact A3.o⟩, ⟨by refine bK ?_; (iterate 3 refine qF ?_ Ay); exact A8.o⟩, ⟨by refine bK ?_; apply st3; refine bK ?_; exact Aa.o⟩, ⟨vB HB⟩⟩
  case round =>
   clear H'
   (try clear c3)
   (try clear Bh); (try clear Bi); (try clear Bj); (try clear Bk); (try clear Bl); (try clear Bm); (try clear Bn); (try clear Bo)
   (try clear Bp); (try clear Bq); (try clear Br); (try clear Bs); (try clear Bt); (try clear Bu); (try clear Bv); (try clear Bw)
   (try clear Bx); (try clear By); (try clear Bz); (try clear BA); (try clear BB); (try clear BC); (try clear BD); (try clear BE)
   obtain ⟨A0, A9, u387002, rfl, HA, BW, Af, Ae, A1, A3, A8, Aa, HB⟩ := hrel
   cases gk with
   | zero => exact absurd HA.o (by simp [spec_WithoutCogs.l0])
   | succ k1 =>
    have H := HA.o
    clear HA
    simp only [spec_WithoutCogs.l0] at H
    by_cases c23 : A0 < (l0_2.length : Int)
    ·rw [if_pos c23] at H
     have C6 := decide_eq_true c23
     clear c23
     by_cases c24 : 0 ≤ A0
     ·rw [if_pos c24] at H
      have Di := decide_eq_true c24
      clear c24
      by_cases c25 : A0 < (l0_2.length : Int)
      ·rw [if_pos c25] at H
       have Dj := decide_eq_true c25
       clear c25
       by_cases c26 : ((rd_T71 l0_2 A0).f0) = 7
       ·rw [if_pos c26] at H
        have C7 := beq_iff_eq.mpr c26
        have C8 := bne_eq_false_iff_eq.mpr c26
        clear c26
        by_cases c27 : A0 < (Ab.length : Int)
        ·rw [if_pos c27] at H
         have Dk := decide_eq_true c27
         clear c27
         by_cases c28 : 0 ≤ (rd Ab A0)
         ·rw [if_pos c28] at H
          have Dl := decide_eq_true c28
          clear c28
          by_cases c29 : (rd Ab A0) < (Ad.length : Int)
          ·rw [if_pos c29] at H
           have Dm := decide_eq_true c29
           clear c29
           by_cases c30 : 0 < ((rd_L3 Ad (rd Ab A0)).length : Int)
           ·rw [if_pos c30] at H
            have Dn := decide_eq_true c30
            have Do : decide (0 < (rd_L3 Ad (rd Ab A0)).length) = true := decide_eq_true (by omega)
            clear c30
            by_cases c31 : 1 < ((rd_L3 Ad (rd Ab A0)).length : Int)
            ·rw [if_pos c31] at H
             have Dp := decide_eq_true c31
             have Dq : decide (1 < (rd_L3 Ad (rd Ab A0)).length) = true := decide_eq_true (by omega)
             clear c31
             by_cases c32 : (wrap64 ((rd (rd_L3 Ad (rd Ab A0)) 0) + (rd (rd_L3 Ad (rd Ab A0)) 1))) ≤ 1
             ·rw [if_pos c32] at H
              have C9 := decide_eq_true c32
              clear c32
              by_cases c33 : A0 < (A9.length : Int)
              ·rw [if_pos c33] at H
               have Dr := decide_eq_true c33
               clear c33
               obtain ⟨BV, AW⟩ : ∃ y_ : List (S71), y_ = (A9.set (A0 : Int).toNat (⟨0, 0⟩ : S71)) := ⟨_, rfl⟩
               replace H : (spec_WithoutCogs.l0 k1 Ab Ad l0_2 (l0_2.length : Int) (wrap64 (A0 + 1)) AP AQ BV) = some (r1, r2, r3, r4) := by first | (rw [AW]; with_reducible exact H) | (have H2_ := (Option.bind_some _ _).symm.trans H; rw [AW]; with_reducible exact H2_) | (have H2_ := (Option.bind_some _ _).symm.trans H; with_reducible exact H2_) | with_reducible exact H | (rw [AW]; exact H) | exact H
               have C4 := Z.m AW
               clear AW
               have H' := Z.m H
               clear H
               have p387 : 0 ≤ (A0 : Int) := ofD
               have q387 : A0 < (l0_2.length : Int) := ofD
               obtain ⟨AR, e387, Aj, Ak⟩ := at_T71 AI.o A0 p387 q387
               cases e387
               replace Aj := (HB.o.cell (World.block_lt_of_cell? w _ Aj)).trans Aj
               replace Ak := (HB.o.cell (World.block_lt_of_cell? w _ Ak)).trans Ak
               replace p387 := eq_true p387
               replace q387 := eq_true q387
               try go_wp2_with (first | ((with_reducible refine gq (N := 8) rfl ?_); refine be (N := 8) (cs := #[.int .i64 0, .int .i64 0]) (t := 71) ?_; intro A7 hg BH hbox hb; have Ac := Z.m (hbox); have AS := gW (w := w) HB hg; have BK := AS; have Ag := neL A3 hg; have Ap := neG A3 hg; have Ah := neL A8 hg; have Aq := neG A8 hg; have Ai := neL Aa hg; have Ar := neG Aa hg; replace Af := Z.m (Kd.Rb (vR Af) hb); replace Ae := Z.m (Kd.S_below (vS Ae) hb); replace A1 := Z.m (Kd.Rb (Kd.R_elderB (vR A1) A7 (Nat.le_of_eq hg.symm)) hb); replace A3 := kB A3 hb; replace A8 := kB A8 hb; replace Aa := kB Aa hb; replace HB := bB HB hb; clear hb hbox hg; have Dv := Ap.o; have DM := Ag.o; have Dw := Aq.o; have DN := Ah.o; have Dx := Ar.o; have DO := Ai.o; have Co := bc0 Ac; have Cp := bc1 Ac; have CJ := qz Ac.o 0; have CK := qz Ac.o 1))
               have n0_ : Z (Kd.R (Kd.int .i64) 3 ((BH.setCell ⟨A7, 0, none⟩ (.int .i64 ((rd_T71 l0_2 A0).f0))).setCell ⟨A7, 1, none⟩ (.int .i64 ((rd_T71 l0_2 A0).f1))) w.heap.size (fun _ => True) AX Ab) := ⟨by refine rK ?_; exact Kd.Rm (rf (rf (Kd.Ry Af.o Ac.o (by decide)))) (fun _ hk => trivial)⟩
               have n1_ : Z (Kd.S (Kd.slice 3 (Kd.int .i64)) 38 ((BH.setCell ⟨A7, 0, none⟩ (.int .i64 ((rd_T71 l0_2 A0).f0))).setCell ⟨A7, 1, none⟩ (.int .i64 ((rd_T71 l0_2 A0).f1))) w.heap.size (fun k_ => some k_ ≠ (AX : Value).ownBlock) BG Ad) := ⟨by (with_reducible repeat (first | apply Kd.S_alloc | apply Kd.S_drewN | apply Kd.S_drew)); exact Kd.S_mono (Kd.S_far (p := ⟨A7, 1, none⟩) (Kd.S_far (p := ⟨A7, 0, none⟩) (Kd.S_types Ae.o Ac.o (by decide)) (fun _ hk => hk.2) (.int .i64 ((rd_T71 l0_2 A0).f0))) (fun _ hk => hk.2) (.int .i64 ((rd_T71 l0_2 A0).f1))) (fun _ hk => hk.1)⟩
               have n2_ : Z (Kd.R k71 71 ((BH.setCell ⟨A7, 0, none⟩ (.int .i64 ((rd_T71 l0_2 A0).f0))).setCell ⟨A7, 1, none⟩ (.int .i64 ((rd_T71 l0_2 A0).f1))) w.heap.size (fun k_ => k_ ≠ A7) u387002 A9) := ⟨by refine rK ?_; exact Kd.Rm (rf (rf (Kd.Rm A1.o (fun k_ hk => (⟨hk, hk.2⟩ : _ ∧ k_ ≠ A7))))) (fun _ hk => hk.1.2)⟩
               have n3_ : Z (((BH.setCell ⟨A7, 0, none⟩ (.int .i64 ((rd_T71 l0_2 A0).f0))).setCell ⟨A7, 1, none⟩ (.int .i64 ((rd_T71 l0_2 A0).f1))).heap[AA]? = some (.cells #[.int .i64 a0_0, .int .i64 a0_1, .slice (some AR) l0_2.length c0_2] 30 (0, 0))) := ⟨by refine bK ?_; (iterate 2 refine qF ?_ Ag); exact A3.o⟩
               have n4_ : Z (((BH.setCell ⟨A7, 0, none⟩ (.int .i64 ((rd_T71 l0_2 A0).f0))).setCell ⟨A7, 1, none⟩ (.int .i64 ((rd_T71 l0_2 A0).f1))).heap[AJ]? = some (.cells #[.int .i64 0, .int .i64 0, .slice none 0 0] 30 (0, 0))) := ⟨by refine bK ?_; (iterate 2 refine qF ?_ Ah); exact A8.o⟩
               have n5_ : Z (((BH.setCell ⟨A7, 0, none⟩ (.int .i64 ((rd_T71 l0_2 A0).f0))).setCell ⟨A7, 1, none⟩ (.int .i64 ((rd_T71 l0_2 A0).f1))).heap[AK]? = some (.cells #[.int .i64 AP, .int .i64 AQ, u387002] 30 (0, 0))) := ⟨by refine bK ?_; (iterate 2 refine qF ?_ Ai); exact Aa.o⟩
               have n6_ : Z (((BH.setCell ⟨A7, 0, none⟩ (.int .i64 ((rd_T71 l0_2 A0).f0))).setCell ⟨A7, 1, none⟩ (.int .i64 ((rd_T71 l0_2 A0).f1))).heap[A7]? = some (.cells #[.int .i64 ((rd_T71 l0_2 A0).f0), .int .i64 ((rd_T71 l0_2 A0).f1)] 71 (0, 0))) := ⟨by refine bK ?_; refine qp (cs := #[iV ((rd_T71 l0_2 A0).f0), iV 0]) ?_ 1 _ rfl; refine bK ?_; refine qp (cs := #[iV 0, iV 0]) ?_ 0 _ rfl; refine bK ?_; exact Ac.o⟩
               have n7_ : Z (Below w.heap.size w ((BH.setCell ⟨A7, 0, none⟩ (.int .i64 ((rd_T71 l0_2 A0).f0))).setCell ⟨A7, 1, none⟩ (.int .i64 ((rd_T71 l0_2 A0).f1)))) := ⟨vB HB⟩
               (try clear Af); (try clear Ae); (try clear A1); (try clear A3); (try clear A8); (try clear Aa); (try clear Ac); (try clear HB)
               generalize ((BH.setCell ⟨A7, 0, none⟩ (.int .i64 ((rd_T71 l0_2 A0).f0))).setCell ⟨A7, 1, none⟩ (.int .i64 ((rd_T71 l0_2 A0).f1))) = Ei at n0_ n1_ n2_ n3_ n4_ n5_ n6_ n7_ ⊢
               have Af := n0_
               have Ae := n1_
               have A1 := n2_
               have A3 := n3_
               have A8 := n4_
               have Aa := n5_
               have Ac := n6_
               have HB := n7_
               clear n0_ n1_ n2_ n3_ n4_ n5_ n6_ n7_
               replace Af := Z.m (Kd.R_drew Af.o)
               replace Ae := Z.m (Kd.S_drew Ae.o)
               replace A1 := Z.m (Kd.R_drew A1.o)
               replace A3 := Z.m (blk_drew A3.o)
               replace A8 := Z.m (blk_drew A8.o)
               replace Aa := Z.m (blk_drew Aa.o)
               replace Ac := Z.m (blk_drew Ac.o)
               replace HB := Z.m (qd HB.o)
               obtain ⟨E1, E8, Cf⟩ := Kd.R_slice Af.o
               (first | subst Cf | (injection Cf with f1_ f2_ f3_; have f4_ := f1_.symm; have f5_ := f3_.symm; clear f1_ f2_ f3_; subst f4_; subst f5_))
               have p389 : 0 ≤ (A0 : Int) := ofD
               have q389 : A0 < (Ab.length : Int) := ofD
               obtain ⟨AL, e389, AD⟩ := Kd.at_int (Kd.RrZ Af.o).2.2 A0 p389 q389
               cases e389
               replace p389 := eq_true p389
               replace q389 := eq_true q389
               obtain ⟨E2, E9, Cg⟩ := Kd.S_slice Ae.o
               (first | subst Cg | (injection Cg with f1_ f2_ f3_; have f4_ := f1_.symm; have f5_ := f3_.symm; clear f1_ f2_ f3_; subst f4_; subst f5_))
               have p390 : 0 ≤ ((rd Ab A0) : Int) := ofD
               have q390 : (rd Ab A0) < (Ad.length : Int) := ofD
               obtain ⟨AM, BN, c390_0, e390, Al, AB, hi390_0⟩ := at_L3 (Kd.S_reads' Ae.o).2.2 (rd Ab A0) p390 q390
               cases e390
               obtain ⟨Ca, hce390, hMe390, AN⟩ := Kd.S_get Ae.o [] (rd Ab A0) p390 (by first | exact q390 | exact ofD | (have e_ := (Kd.S_reads' Ae.o).1; omega))
               obtain ⟨ve390_0, rfl, ge390_0⟩ := hMe390
               have hv390_0 := AN 0 _ rfl
               rw [Nat.add_zero, show ((Kd.slice 3 (Kd.int .i64))).sz = 1 from rfl, Nat.mul_one] at hv390_0
               replace hv390_0 := Option.some.inj (hv390_0.symm.trans Al)
               rw [hv390_0] at ge390_0
               have HL390_0 := Z.m (show Kd.R (Kd.int .i64) 3 _ _ _ _ (rd_L3 Ad (rd Ab A0)) from ge390_0)
               clear hv390_0 ge390_0
               clear AN hce390
               have As := Z.m hi390_0
               have Bf := Z.m AB
               clear hi390_0 AB
               replace p390 := eq_true p390
               replace q390 := eq_true q390
               have p391 : 0 ≤ (0 : Int) := (by omega)
               have q391 : 0 < ((rd_L3 Ad (rd Ab A0)).length : Int) := ofD
               obtain ⟨Au, e391, Am⟩ := Kd.at_int (by repeat (first | (with_reducible exact As.o) | (with_reducible refine Kd.C_alloc ?_ _) | (with_reducible refine Kd.C_drewN ?_ _) | (with_reducible refine Kd.C_drew ?_) | exact As.o)) 0 p391 q391
               cases e391
               have qi391 : (0 < (rd_L3 Ad (rd Ab A0)).length) = True := eq_true (by omega)
               (try rw [show ((0 : Int)).toNat = 0 from rfl] at Am)
               (try rw [Addr.add_zero'] at Am)
               replace p391 := eq_true p391
               replace q391 := eq_true q391
               have p392 : 0 ≤ (A0 : Int) := ofD
               have q392 : A0 < (Ab.length : Int) := ofD
               obtain ⟨B7, e392, AE⟩ := Kd.at_int (Kd.RrZ Af.o).2.2 A0 p392 q392
               obtain rfl : AL = B7 := (by injection e392)
               replace p392 := eq_true p392
               replace q392 := eq_true q392
               have p393 : 0 ≤ ((rd Ab A0) : Int) := ofD
               have q393 : (rd Ab A0) < (Ad.length : Int) := ofD
               obtain ⟨Ba, BO, c393_0, e393, An, AC, hi393_0⟩ := at_L3 (Kd.S_reads' Ae.o).2.2 (rd Ab A0) p393 q393
               obtain rfl : AM = Ba := (by injection e393)
               obtain ⟨Cb, hce393, hMe393, AO⟩ := Kd.S_get Ae.o [] (rd Ab A0) p393 (by first | exact q393 | exact ofD | (have e_ := (Kd.S_reads' Ae.o).1; omega))
               obtain ⟨ve393_0, rfl, ge393_0⟩ := hMe393
               have hv393_0 := AO 0 _ rfl
               rw [Nat.add_zero, show ((Kd.slice 3 (Kd.int .i64))).sz = 1 from rfl, Nat.mul_one] at hv393_0
               replace hv393_0 := Option.some.inj (hv393_0.symm.trans An)
               rw [hv393_0] at ge393_0
               have HL393_0 := Z.m (show Kd.R (Kd.int .i64) 3 _ _ _ _ (rd_L3 Ad (rd Ab A0)) from ge393_0)
               clear hv393_0 ge393_0
               clear AO hce393
               have At := Z.m hi393_0
               have Bg := Z.m AC
               clear hi393_0 AC
               replace p393 := eq_true p393
               replace q393 := eq_true q393
               have ea_ := Option.some.inj (Al.symm.trans An)
               injection ea_ with ea_ en_ ec_
               subst ea_
               subst ec_
               clear en_
               have p394 : 0 ≤ (1 : Int) := (by omega)
               have q394 : 1 < ((rd_L3 Ad (rd Ab A0)).length : Int) := ofD
               obtain ⟨C5, e394, Ao⟩ := Kd.at_int (by repeat (first | (with_reducible exact At.o) | (with_reducible refine Kd.C_alloc ?_ _) | (with_reducible refine Kd.C_drewN ?_ _) | (with_reducible refine Kd.C_drew ?_) | exact At.o)) 1 p394 q394
               cases e394
               (try simp only [show (1 : Int).toNat = 1 from rfl, Nat.reduceMul, Nat.reduceEqDiff, Go.Addr.add, ↓reduceIte] at Ao)
               have qi394 : (1 < (rd_L3 Ad (rd Ab A0)).length) = True := eq_true (by omega)
               (try rw [show ((1 : Int)).toNat = 1 from rfl] at Ao)
               replace p394 := eq_true p394
               replace q394 := eq_true q394
               refine start_ (n := 25) (S := fun w' => w'.cell? ⟨A7, 0, none⟩ = some (.int .i64 ((rd_T71 l0_2 A0).f0)) ∧ w'.cell? ⟨A7, 1, none⟩ = some (.int .i64 ((rd_T71 l0_2 A0).f1)) ∧ w'.cell? (AL.add (A0).toNat) = some (.int .i64 (rd Ab A0)) ∧ w'.cell? (AM.add ((rd Ab A0)).toNat) = some (.slice (some Au) (rd_L3 Ad (rd Ab A0)).length c390_0) ∧ w'.cell? Au = some (.int .i64 (rd (rd_L3 Ad (rd Ab A0)) 0)) ∧ w'.cell? (AL.add (A0).toNat) = some (.int .i64 (rd Ab A0)) ∧ w'.cell? (AM.add ((rd Ab A0)).toNat) = some (.slice (some Au) (rd_L3 Ad (rd Ab A0)).length c390_0) ∧ w'.cell? ⟨Au.block, Au.off + 1, none⟩ = some (.int .i64 (rd (rd_L3 Ad (rd Ab A0)) 1))) (ds := []) #[false, false, false, false, false, false, false, false, false, false, false, false, false, false, false, false, false, false, false, false, false, false, false, false, false] (by kernel_rfl) rfl rfl ⟨(ql Ac.o 0).trans rfl, (ql Ac.o 1).trans rfl, AD, Al, Am, AE, An, Ao⟩ (fun hHeld => ?_); refine with_tabW spec_WithoutCogs.tab8 spec_WithoutCogs.bits8 (fun HT_ HW_ => ?_)
               generalize Ei.drew = BU at Af Ae A1 A3 A8 Aa Ac HB HL390_0 HL393_0 As At AD Al Am AE An Ao hHeld ⊢
               refine pure_ (i := 0) (N := some 27) (v := ?_) (a' := ?_) #[true, false, false, false, false, false, false, false, false, false, false, false, false, false, false, false, false, false, false, false, false, false, false, false, false] rfl rfl (any_of HT_.o (by kernel_rfl)) (fun _ _ _ h => h) (Or.inl ⟨by rfl, ?_⟩) ?_ ?_
               rotate_left
               ·intro w'
                go_simp
                with_reducible rfl
               rotate_left
               ·simp only [Act.put, q1, q2, q3, i64_w, i32_w]
                rfl
               refine take_ (i := 1) (N := some 28) (v := ?_) (a' := ?_) #[true, true, false, false, false, false, false, false, false, false, false, false, false, false, false, false, false, false, false, false, false, false, false, false, false] rfl rfl (take_ofW HT_.o HW_.o (by kernel_rfl)) (fun _ _ _ h => h) (Or.inl ⟨by rfl, ?_⟩) hHeld ?_ ?_
               rotate_left
               ·rintro w' ⟨s0, s1, s2, s3, s4, s5, s6, s7⟩
                go_simp
                with_reducible rfl
               rotate_left
               ·simp only [Act.put, q1, q2, q3, i64_w, i32_w]
                rfl
               refine pure_ (i := 2) (N := some 29) (v := ?_) (a' := ?_) #[true, true, true, false, false, false, false, false, false, false, false, false, false, false, false, false, false, false, false, false, false, false, false, false, false] rfl rfl (any_of HT_.o (by kernel_rfl)) (fun _ _ _ h => h) (Or.inl ⟨by rfl, ?_⟩) ?_ ?_
               rotate_left
               ·intro w'
                go_simp
                with_reducible rfl
               rotate_left
               ·simp only [Act.put, q1, q2, q3, i64_w, i32_w]
                rfl
               refine pure_ (i := 3) (N := some 30) (v := ?_) (a' := ?_) #[true, true, true, true, false, false, false, false, false, false, false, false, false, false, false, false, false, false, false, false, false, false, false, false, false] rfl rfl (any_of HT_.o (by kernel_rfl)) (fun _ _ _ h => h) (Or.inl ⟨by rfl, ?_⟩) ?_ ?_
               rotate_left
               ·intro w'
                go_simp
                with_reducible rfl
               rotate_left
               ·simp only [Act.put, q1, q2, q3, i64_w, i32_w]
                rfl
               refine pure_ (i := 4) (N := some 31) (v := ?_) (a' := ?_) #[true, true, true, true, true, false, false, false, false, false, false, false, false, false, false, false, false, false, false, false, false, false, false, false, false] rfl rfl (any_of HT_.o (by kernel_rfl)) (fun _ _ _ h => h) (Or.inl ⟨by rfl, ?_⟩) ?_ ?_
               rotate_left
               ·intro w'
                go_simp
                with_reducible rfl
               rotate_left
               ·simp only [Act.put, q1, q2, q3, i64_w, i32_w]
                rfl
               refine pure_ (i := 5) (N := some 32) (v := ?_) (a' := ?_) #[true, true, true, true, true, true, false, false, false, false, false, false, false, false, false, false, false, false, false, false, false, false, false, false, false] rfl rfl (any_of HT_.o (by kernel_rfl)) (fun _ _ _ h => h) (Or.inl ⟨by rfl, ?_⟩) ?_ ?_
               rotate_left
               ·intro w'
                go_simp
                with_reducible rfl
               rotate_left
               ·simp only [Act.put, q1, q2, q3, i64_w, i32_w]
                rfl
               refine pure_ (i := 6) (N := some 33) (v := ?_) (a' := ?_) #[true, true, true, true, true, true, true, false, false, false, false, false, false, false, false, false, false, false, false, false, false, false, false, false, false] rfl rfl (any_of HT_.o (by kernel_rfl)) (fun _ _ _ h => h) (Or.inl ⟨by rfl, ?_⟩) ?_ ?_
               rotate_left
               ·intro w'
                go_simp
                with_reducible rfl
               rotate_left
               ·simp only [Act.put, q1, q2, q3, i64_w, i32_w]
                rfl
               refine pure_ (i := 7) (N := some 34) (v := ?_) (a' := ?_) #[true, true, true, true, true, true, true, true, false, false, false, false, false, false, false, false, false, false, false, false, false, false, false, false, false] rfl rfl (any_of HT_.o (by kernel_rfl)) (fun _ _ _ h => h) (Or.inl ⟨by rfl, ?_⟩) ?_ ?_
               rotate_left
               ·intro w'
                go_simp
                with_reducible rfl
               rotate_left
               ·simp only [Act.put, q1, q2, q3, i64_w, i32_w]
                rfl
               refine pure_ (i := 13) (N := some 40) (v := ?_) (a' := ?_) #[true, true, true, true, true, true, true, true, false, false, false, false, false, true, false, false, false, false, false, false, false, false, false, false, false] rfl rfl (any_of HT_.o (by kernel_rfl)) (fun _ _ _ h => h) (Or.inl ⟨by rfl, ?_⟩) ?_ ?_
               rotate_left
               ·intro w'
                go_simp
                with_reducible rfl
               rotate_left
               ·simp only [Act.put, q1, q2, q3, i64_w, i32_w]
                rfl
               refine pure_ (i := 14) (N := some 41) (v := ?_) (a' := ?_) #[true, true, true, true, true, true, true, true, false, false, false, false, false, true, true, false, false, false, false, false, false, false, false, false, false] rfl rfl (any_of HT_.o (by kernel_rfl)) (fun _ _ _ h => h) (Or.inl ⟨by rfl, ?_⟩) ?_ ?_
               rotate_left
               ·intro w'
                go_simp
                with_reducible rfl
               rotate_left
               ·simp only [Act.put, q1, q2, q3, i64_w, i32_w]
                rfl
               refine pure_ (i := 15) (N := some 42) (v := ?_) (a' := ?_) #[true, true, true, true, true, true, true, true, false, false, false, false, false, true, true, true, false, false, false, false, false, false, false, false, false] rfl rfl (any_of HT_.o (by kernel_rfl)) (fun _ _ _ h => h) (Or.inl ⟨by rfl, ?_⟩) ?_ ?_
               rotate_left
               ·intro w'
                go_simp
                with_reducible rfl
               rotate_left
               ·simp only [Act.put, q1, q2, q3, i64_w, i32_w]
                rfl
               refine pure_ (i := 16) (N := some 43) (v := ?_) (a' := ?_) #[true, true, true, true, true, true, true, true, false, false, false, false, false, true, true, true, true, false, false, false, false, false, false, false, false] rfl rfl (any_of HT_.o (by kernel_rfl)) (fun _ _ _ h => h) (Or.inl ⟨by rfl, ?_⟩) ?_ ?_
               rotate_left
               ·intro w'
                go_simp
                with_reducible rfl
               rotate_left
               ·simp only [Act.put, q1, q2, q3, i64_w, i32_w]
                rfl
               refine take_ (i := 8) (N := some 35) (v := ?_) (a' := ?_) #[true, true, true, true, true, true, true, true, true, false, false, false, false, true, true, true, true, false, false, false, false, false, false, false, false] rfl rfl (take_ofW HT_.o HW_.o (by kernel_rfl)) (fun _ _ _ h => h) (Or.inl ⟨by rfl, ?_⟩) hHeld ?_ ?_
               rotate_left
               ·rintro w' ⟨s0, s1, s2, s3, s4, s5, s6, s7⟩
                go_simp
                with_reducible rfl
               rotate_left
               ·simp only [Act.put, q1, q2, q3, i64_w, i32_w]
                rfl
               refine pure_ (i := 9) (N := some 36) (v := ?_) (a' := ?_) #[true, true, true, true, true, true, true, true, true, true, false, false, false, true, true, true, true, false, false, false, false, false, false, false, false] rfl rfl (any_of HT_.o (by kernel_rfl)) (fun _ _ _ h => h) (Or.inl ⟨by rfl, ?_⟩) ?_ ?_
               rotate_left
               ·intro w'
                go_simp
                with_reducible rfl
               rotate_left
               ·simp only [Act.put, q1, q2, q3, i64_w, i32_w]
                rfl
               refine take_ (i := 10) (N := some 37) (v := ?_) (a' := ?_) #[true, true, true, true, true, true, true, true, true, true, true, false, false, true, true, true, true, false, false, false, false, false, false, false, false] rfl rfl (take_ofW HT_.o HW_.o (by kernel_rfl)) (fun _ _ _ h => h) (Or.inl ⟨by rfl, ?_⟩) hHeld ?_ ?_
               rotate_left
               ·rintro w' ⟨s0, s1, s2, s3, s4, s5, s6, s7⟩
                go_simp
                with_reducible rfl
               rotate_left
               ·simp only [Act.put, q1, q2, q3, i64_w, i32_w]
                rfl
               refine pure_ (i := 11) (N := some 38) (v := ?_) (a' := ?_) #[true, true, true, true, true, true, true, true, true, true, true, true, false, true, true, true, true, false, false, false, false, false, false, false, false] rfl rfl (any_of HT_.o (by kernel_rfl)) (fun _ _ _ h => h) (Or.inl ⟨by rfl, ?_⟩) ?_ ?_
               rotate_left
               ·intro w'
                go_simp
                with_reducible rfl
               rotate_left
               ·simp only [Act.put, q1, q2, q3, i64_w, i32_w]
                rfl
               refine take_ (i := 12) (N := some 39) (v := ?_) (a' := ?_) #[true, true, true, true, true, true, true, true, true, true, true, true, true, true, true, true, true, false, false, false, false, false, false, false, false] rfl rfl (take_ofW HT_.o HW_.o (by kernel_rfl)) (fun _ _ _ h => h) (Or.inl ⟨by rfl, ?_⟩) hHeld ?_ ?_
               rotate_left
               ·rintro w' ⟨s0, s1, s2, s3, s4, s5, s6, s7⟩
                go_simp
                with_reducible rfl
               rotate_left
               ·simp only [Act.put, q1, q2, q3, i64_w, i32_w]
                rfl
               refine take_ (i := 17) (N := some 44) (v := ?_) (a' := ?_) #[true, true, true, true, true, true, true, true, true, true, true, true, true, true, true, true, true, true, false, false, false, false, false, false, false] rfl rfl (take_ofW HT_.o HW_.o (by kernel_rfl)) (fun _ _ _ h => h) (Or.inl ⟨by rfl, ?_⟩) hHeld ?_ ?_
               rotate_left
               ·rintro w' ⟨s0, s1, s2, s3, s4, s5, s6, s7⟩
                go_simp
                with_reducible rfl
               rotate_left
               ·simp only [Act.put, q1, q2, q3, i64_w, i32_w]
                rfl
               refine pure_ (i := 18) (N := some 45) (v := ?_) (a' := ?_) #[true, true, true, true, true, true, true, true, true, true, true, true, true, true, true, true, true, true, true, false, false, false, false, false, false] rfl rfl (any_of HT_.o (by kernel_rfl)) (fun _ _ _ h => h) (Or.inl ⟨by rfl, ?_⟩) ?_ ?_
               rotate_left
               ·intro w'
                go_simp
                with_reducible rfl
               rotate_left
               ·simp only [Act.put, q1, q2, q3, i64_w, i32_w]
                rfl
               refine take_ (i := 19) (N := some 46) (v := ?_) (a' := ?_) #[true, true, true, true, true, true, true, true, true, true, true, true, true, true, true, true, true, true, true, true, false, false, false, false, false] rfl rfl (take_ofW HT_.o HW_.o (by kernel_rfl)) (fun _ _ _ h => h) (Or.inl ⟨by rfl, ?_⟩) hHeld ?_ ?_
               rotate_left
               ·rintro w' ⟨s0, s1, s2, s3, s4, s5, s6, s7⟩
                go_simp
                with_reducible rfl
               rotate_left
               ·simp only [Act.put, q1, q2, q3, i64_w, i32_w]
                rfl
               refine pure_ (i := 20) (N := some 47) (v := ?_) (a' := ?_) #[true, true, true, true, true, true, true, true, true, true, true, true, true, true, true, true, true, true, true, true, true, false, false, false, false] rfl rfl (any_of HT_.o (by kernel_rfl)) (fun _ _ _ h => h) (Or.inl ⟨by rfl, ?_⟩) ?_ ?_
               rotate_left
               ·intro w'
                go_simp
                with_reducible rfl
               rotate_left
               ·simp only [Act.put, q1, q2, q3, i64_w, i32_w]
                rfl
               refine take_ (i := 21) (N := some 48) (v := ?_) (a' := ?_) #[true, true, true, true, true, true, true, true, true, true, true, true, true, true, true, true, true, true, true, true, true, true, false, false, false] rfl rfl (take_ofW HT_.o HW_.o (by kernel_rfl)) (fun _ _ _ h => h) (Or.inl ⟨by rfl, ?_⟩) hHeld ?_ ?_
               rotate_left
               ·rintro w' ⟨s0, s1, s2, s3, s4, s5, s6, s7⟩
                go_simp
                with_reducible rfl
               rotate_left
               ·simp only [Act.put, q1, q2, q3, i64_w, i32_w]
                rfl
               refine pure_ (i := 22) (N := some 49) (v := ?_) (a' := ?_) #[true, true, true, true, true, true, true, true, true, true, true, true, true, true, true, true, true, true, true, true, true, true, true, false, false] rfl rfl (any_of HT_.o (by kernel_rfl)) (fun _ _ _ h => h) (Or.inl ⟨by rfl, ?_⟩) ?_ ?_
               rotate_left
               ·intro w'
                go_simp
                with_reducible rfl
               rotate_left
               ·simp only [Act.put, q1, q2, q3, i64_w, i32_w]
                rfl
               refine pure_ (i := 23) (N := some 50) (v := ?_) (a' := ?_) #[true, true, true, true, true, true, true, true, true, true, true, true, true, true, true, true, true, true, true, true, true, true, true, true, false] rfl rfl (any_of HT_.o (by kernel_rfl)) (fun _ _ _ h => h) (Or.inl ⟨by rfl, ?_⟩) ?_ ?_
               rotate_left
               ·intro w'
                go_simp
                with_reducible rfl
               rotate_left
               ·simp only [Act.put, q1, q2, q3, i64_w, i32_w]
                rfl
               refine pure_ (i := 24) (N := some 51) (v := ?_) (a' := ?_) #[true, true, true, true, true, true, true, true, true, true, true, true, true, true, true, true, true, true, true, true, true, true, true, true, true] rfl rfl (any_of HT_.o (by kernel_rfl)) (fun _ _ _ h => h) (Or.inl ⟨by rfl, ?_⟩) ?_ ?_
               rotate_left
               ·intro w'
                go_simp
                with_reducible rfl
               rotate_left
               ·simp only [Act.put, q1, q2, q3, i64_w, i32_w]
                rfl
               refine done_ (done_of HT_.o (by kernel_rfl)) ?_
               have Dy := AF.o
               have DP := Aw.o
               have Dz := AG.o
               have DQ := Ay.o
               have Cq := bc0 Aa
               have Cr := bc1 Aa
               have Cs := bc2 Aa
               have CL := qz Aa.o 0
               have CM := qz Aa.o 1
               have CN := qz Aa.o 2
               have p34 : 0 ≤ (A0 : Int) := ofD
               have q34 : (A0 : Int) < ((A9.length : Int) : Int) := ofD
               obtain ⟨Az, AV, Ce, Cj, gl34, cl34, C2⟩ := Kd.R_form A1.o (by omega)
               (first | cases Ce | (injection Ce with ea_ en_ ec_; (first | subst ea_ | (injection ea_ with ea_; subst ea_)); subst ec_; clear en_))
               have BY := Z.m Cj
               have E5 := Z.m C2
               clear Cj gl34 C2
               obtain ⟨E6, Cn, Cl, Bb, Bc⟩ := Kd.R_elem A1.o z71 (A0 : Int) p34 q34
               obtain rfl := k71_openM Cl
               have Da : BU.cell? ⟨Az, (A0 : Int).toNat * 2, none⟩ = some (.int .i64 ((rd_T71 A9 A0).f0)) := Bb 0 _ rfl
               have Db : BU.cell? ⟨Az, (A0 : Int).toNat * 2 + 1, none⟩ = some (.int .i64 ((rd_T71 A9 A0).f1)) := Bb 1 _ rfl
               have D8 : BU.frozen? ⟨Az, (A0 : Int).toNat * 2, none⟩ = false := Bc 0
               have D9 : BU.frozen? ⟨Az, (A0 : Int).toNat * 2 + 1, none⟩ = false := Bc 1
               (try clear Cn); (try clear Bb); (try clear Bc); (try clear Cl)
               replace p34 := eq_true p34
               replace q34 := eq_true q34
               have C3 := Z.m (show Kd.R k71 71 BU w.heap.size (fun k_ => k_ ≠ A7) (.slice (some ⟨Az, 0, none⟩) A9.length AV) A9 from (vR A1))
               obtain ⟨E7, BL, Cm, AZ, Bd⟩ := Kd.R_elem C3.o z71 (A0 : Int) (ofD) (by have h_ : (A0 : Int) < ((A9.length : Int) : Int) := ofD; first | exact h_ | (have e_ := (Kd.RrZ A1.o).1; omega) | simpa using h_)
               obtain rfl := k71_openM Cm
               have BP := Kd.R_seg C3.o (A0 : Int) (ofD) (by have h_ : (A0 : Int) < ((A9.length : Int) : Int) := ofD; first | exact h_ | (have e_ := (Kd.RrZ A1.o).1; omega) | simpa using h_) (seg := [.int .i64 0, .int .i64 0]) (j := 0) BL AZ (show 2 ≤ 2 from by decide) (x' := (⟨0, 0⟩ : S71)) (k71_mkM _ _ _ (⟨0, 0⟩ : S71) ) (fun _ hk => hk)
               have BS := AZ 0 _ rfl
               (try simp only [show (k71).sz = 2 from rfl, Nat.mul_one, Nat.add_zero] at BS)
               have BQ := Bd 0
               (try simp only [show (k71).sz = 2 from rfl, Nat.mul_one, Nat.add_zero] at BQ)
               have BT := AZ 1 _ rfl
               (try simp only [show (k71).sz = 2 from rfl, Nat.mul_one, Nat.add_zero] at BT)
               have BR := Bd 1
               (try simp only [show (k71).sz = 2 from rfl, Nat.mul_one, Nat.add_zero] at BR)
               (try clear BL); (try clear AZ); (try clear Bd); (try clear Cm)
               try go_wp2_with (first | ((with_reducible refine gt (t := 71) (p := 56) rfl ?_); refine store_event (t := 71) (p := 56) (v := ?vo_w48) (w1 := ((BU.setCell ⟨Az, (A0 : Int).toNat * 2, none⟩ (.int .i64 0)).setCell ⟨Az, (A0 : Int).toNat * 2 + 1, none⟩ (.int .i64 0))) ?hg ?ho ?hn ?hr ?_; (case ho => rfl); (case hg => rfl); (case hn => rfl); (case hr => first | (go_simp; done) | (go_simp; rfl)); intro Dc hw; have hg : BU.grownBy Dc (some Az) := (by rw [hw]; exact BP.2); have hp_ : Kd.R k71 71 Dc w.heap.size (fun k_ => k_ ≠ A7) (.slice (some ⟨Az, 0, none⟩) A9.length AV) BV := (by rw [hw, C4.o]; exact BP.1); clear BP; replace Af := Z.m (Kd.Ro (v := (.slice (some ⟨Az, 0, none⟩) A9.length AV)) (vR Af) (Kd.Rt A1.o) (by decide) hg); replace Ae := Z.m (Kd.S_over' (v := (.slice (some ⟨Az, 0, none⟩) A9.length AV)) (vS Ae) (Kd.Rt A1.o) (by decide) hg); replace A3 := Z.m (qg (g := AA) (o := .cells #[.int .i64 a0_0, .int .i64 a0_1, .slice (some AR) l0_2.length c0_2] 30 (0, 0)) (vK A3) hg (Kd.R_ne A1.o A3.o (by decide))); replace A8 := Z.m (qg (g := AJ) (o := .cells #[.int .i64 0, .int .i64 0, .slice none 0 0] 30 (0, 0)) (vK A8) hg (Kd.R_ne A1.o A8.o (by decide))); replace Aa := Z.m (qg (g := AK) (o := .cells #[.int .i64 AP, .int .i64 AQ, .slice (some ⟨Az, 0, none⟩) A9.length AV] 30 (0, 0)) (vK Aa) hg (Kd.R_ne A1.o Aa.o (by decide))); replace Ac := Z.m (qg (g := A7) (o := .cells #[.int .i64 ((rd_T71 l0_2 A0).f0), .int .i64 ((rd_T71 l0_2 A0).f1)] 71 (0, 0)) (vK Ac) hg (Kd.R_away A1.o (fun _ hk => hk))); replace HL390_0 := Z.m (Kd.Ro (v := (.slice (some ⟨Az, 0, none⟩) A9.length AV)) (vR HL390_0) (Kd.Rt A1.o) (by decide) hg); replace HL393_0 := Z.m (Kd.Ro (v := (.slice (some ⟨Az, 0, none⟩) A9.length AV)) (vR HL393_0) (Kd.Rt A1.o) (by decide) hg); replace A1 := Z.m (hp_); replace HB := Z.m ((by rw [hw]; exact qx (qx (HB.o) BY.o) BY.o : Below w.heap.size w Dc)); clear hg hw hp_))
               go_roundg k1
               case measure => have := BW.o; omega
               case rel => exact ⟨(wrap64 (A0 + 1)), (BV), (.slice (some ⟨Az, 0, none⟩) A9.length AV), (by first | rfl | (simp; done) | (simp [*]; done)), H', ⟨by have := BW.o; omega⟩, ⟨vR Af⟩, ⟨vS Ae⟩, ⟨by refine rK ?_; exact Kd.Rm A1.o (fun _ hk => trivial)⟩, ⟨vK A3⟩, ⟨vK A8⟩, ⟨vK Aa⟩, ⟨vB HB⟩⟩
              ·rw [if_neg c33] at H
               exact absurd H (by simp)
             ·rw [if_neg c32] at H
              have C9 := decide_eq_false c32
              clear c32
              have H' := Z.m H
              clear H
              have p387 : 0 ≤ (A0 : Int) := ofD
              have q387 : A0 < (l0_2.length : Int) := ofD
              obtain ⟨AR, e387, Aj, Ak⟩ := at_T71 AI.o A0 p387 q387
              cases e387
              replace Aj := (HB.o.cell (World.block_lt_of_cell? w _ Aj)).trans Aj
              replace Ak := (HB.o.cell (World.block_lt_of_cell? w _ Ak)).trans Ak
              replace p387 := eq_true p387
              replace q387 := eq_true q387
              try go_wp2_with (first | ((with_reducible refine gq (N := 8) rfl ?_); refine be (N := 8) (cs := #[.int .i64 0, .int .i64 0]) (t := 71) ?_; intro A7 hg BI hbox hb; have Ac := Z.m (hbox); have AS := gW (w := w) HB hg; have BK := AS; have Ag := neL A3 hg; have Ap := neG A3 hg; have Ah := neL A8 hg; have Aq := neG A8 hg; have Ai := neL Aa hg; have Ar := neG Aa hg; replace Af := Z.m (Kd.Rb (vR Af) hb); replace Ae := Z.m (Kd.S_below (vS Ae) hb); replace A1 := Z.m (Kd.Rb (Kd.R_elderB (vR A1) A7 (Nat.le_of_eq hg.symm)) hb); replace A3 := kB A3 hb; replace A8 := kB A8 hb; replace Aa := kB Aa hb; replace HB := bB HB hb; clear hb hbox hg; have DA := Ap.o; have DR := Ag.o; have DB := Aq.o; have DS := Ah.o; have DC := Ar.o; have DT := Ai.o; have Ct := bc0 Ac; have Cu := bc1 Ac; have CO := qz Ac.o 0; have CP := qz Ac.o 1))
              have n0_ : Z (Kd.R (Kd.int .i64) 3 ((BI.setCell ⟨A7, 0, none⟩ (.int .i64 ((rd_T71 l0_2 A0).f0))).setCell ⟨A7, 1, none⟩ (.int .i64 ((rd_T71 l0_2 A0).f1))) w.heap.size (fun _ => True) AX Ab) := ⟨by refine rK ?_; exact Kd.Rm (rf (rf (Kd.Ry Af.o Ac.o (by decide)))) (fun _ hk => trivial)⟩
              have n1_ : Z (Kd.S (Kd.slice 3 (Kd.int .i64)) 38 ((BI.setCell ⟨A7, 0, none⟩ (.int .i64 ((rd_T71 l0_2 A0).f0))).setCell ⟨A7, 1, none⟩ (.int .i64 ((rd_T71 l0_2 A0).f1))) w.heap.size (fun k_ => some k_ ≠ (AX : Value).ownBlock) BG Ad) := ⟨by (with_reducible repeat (first | apply Kd.S_alloc | apply Kd.S_drewN | apply Kd.S_drew)); exact Kd.S_mono (Kd.S_far (p := ⟨A7, 1, none⟩) (Kd.S_far (p := ⟨A7, 0, none⟩) (Kd.S_types Ae.o Ac.o (by decide)) (fun _ hk => hk.2) (.int .i64 ((rd_T71 l0_2 A0).f0))) (fun _ hk => hk.2) (.int .i64 ((rd_T71 l0_2 A0).f1))) (fun _ hk => hk.1)⟩
              have n2_ : Z (Kd.R k71 71 ((BI.setCell ⟨A7, 0, none⟩ (.int .i64 ((rd_T71 l0_2 A0).f0))).setCell ⟨A7, 1, none⟩ (.int .i64 ((rd_T71 l0_2 A0).f1))) w.heap.size (fun k_ => k_ ≠ A7) u387002 A9) := ⟨by refine rK ?_; exact Kd.Rm (rf (rf (Kd.Rm A1.o (fun k_ hk => (⟨hk, hk.2⟩ : _ ∧ k_ ≠ A7))))) (fun _ hk => hk.1.2)⟩
              have n3_ : Z (((BI.setCell ⟨A7, 0, none⟩ (.int .i64 ((rd_T71 l0_2 A0).f0))).setCell ⟨A7, 1, none⟩ (.int .i64 ((rd_T71 l0_2 A0).f1))).heap[AA]? = some (.cells #[.int .i64 a0_0, .int .i64 a0_1, .slice (some AR) l0_2.length c0_2] 30 (0, 0))) := ⟨by refine bK ?_; (iterate 2 refine qF ?_ Ag); exact A3.o⟩
              have n4_ : Z (((BI.setCell ⟨A7, 0, none⟩ (.int .i64 ((rd_T71 l0_2 A0).f0))).setCell ⟨A7, 1, none⟩ (.int .i64 ((rd_T71 l0_2 A0).f1))).heap[AJ]? = some (.cells #[.int .i64 0, .int .i64 0, .slice none 0 0] 30 (0, 0))) := ⟨by refine bK ?_; (iterate 2 refine qF ?_ Ah); exact A8.o⟩
              have n5_ : Z (((BI.setCell ⟨A7, 0, none⟩ (.int .i64 ((rd_T71 l0_2 A0).f0))).setCell ⟨A7, 1, none⟩ (.int .i64 ((rd_T71 l0_2 A0).f1))).heap[AK]? = some (.cells #[.int .i64 AP, .int .i64 AQ, u387002] 30 (0, 0))) := ⟨by refine bK ?_; (iterate 2 refine qF ?_ Ai); exact Aa.o⟩
              have n6_ : Z (((BI.setCell ⟨A7, 0, none⟩ (.int .i64 ((rd_T71 l0_2 A0).f0))).setCell ⟨A7, 1, none⟩ (.int .i64 ((rd_T71 l0_2 A0).f1))).heap[A7]? = some (.cells #[.int .i64 ((rd_T71 l0_2 A0).f0), .int .i64 ((rd_T71 l0_2 A0).f1)] 71 (0, 0))) := ⟨by refine bK ?_; refine qp (cs := #[iV ((rd_T71 l0_2 A0).f0), iV 0]) ?_ 1 _ rfl; refine bK ?_; refine qp (cs := #[iV 0, iV 0]) ?_ 0 _ rfl; refine bK ?_; exact Ac.o⟩
              have n7_ : Z (Below w.heap.size w ((BI.setCell ⟨A7, 0, none⟩ (.int .i64 ((rd_T71 l0_2 A0).f0))).setCell ⟨A7, 1, none⟩ (.int .i64 ((rd_T71 l0_2 A0).f1)))) := ⟨vB HB⟩
              (try clear Af); (try clear Ae); (try clear A1); (try clear A3); (try clear A8); (try clear Aa); (try clear Ac); (try clear HB)
              generalize ((BI.setCell ⟨A7, 0, none⟩ (.int .i64 ((rd_T71 l0_2 A0).f0))).setCell ⟨A7, 1, none⟩ (.int .i64 ((rd_T71 l0_2 A0).f1))) = Ej at n0_ n1_ n2_ n3_ n4_ n5_ n6_ n7_ ⊢
              have Af := n0_
              have Ae := n1_
              have A1 := n2_
              have A3 := n3_
              have A8 := n4_
              have Aa := n5_
              have Ac := n6_
              have HB := n7_
              clear n0_ n1_ n2_ n3_ n4_ n5_ n6_ n7_
              replace Af := Z.m (Kd.R_drew Af.o)
              replace Ae := Z.m (Kd.S_drew Ae.o)
              replace A1 := Z.m (Kd.R_drew A1.o)
              replace A3 := Z.m (blk_drew A3.o)
              replace A8 := Z.m (blk_drew A8.o)
              replace Aa := Z.m (blk_drew Aa.o)
              replace Ac := Z.m (blk_drew Ac.o)
              replace HB := Z.m (qd HB.o)
              obtain ⟨E3, Ea, Ch⟩ := Kd.R_slice Af.o
              (first | subst Ch | (injection Ch with f1_ f2_ f3_; have f4_ := f1_.symm; have f5_ := f3_.symm; clear f1_ f2_ f3_; subst f4_; subst f5_))
              have p389 : 0 ≤ (A0 : Int) := ofD
              have q389 : A0 < (Ab.length : Int) := ofD
              obtain ⟨AL, e389, AD⟩ := Kd.at_int (Kd.RrZ Af.o).2.2 A0 p389 q389
              cases e389
              replace p389 := eq_true p389
              replace q389 := eq_true q389
              obtain ⟨E4, Eb, Ci⟩ := Kd.S_slice Ae.o
              (first | subst Ci | (injection Ci with f1_ f2_ f3_; have f4_ := f1_.symm; have f5_ := f3_.symm; clear f1_ f2_ f3_; subst f4_; subst f5_))
              have p390 : 0 ≤ ((rd Ab A0) : Int) := ofD
              have q390 : (rd Ab A0) < (Ad.length : Int) := ofD
              obtain ⟨AM, BN, c390_0, e390, Al, AB, hi390_0⟩ := at_L3 (Kd.S_reads' Ae.o).2.2 (rd Ab A0) p390 q390
              cases e390
              obtain ⟨Ca, hce390, hMe390, AN⟩ := Kd.S_get Ae.o [] (rd Ab A0) p390 (by first | exact q390 | exact ofD | (have e_ := (Kd.S_reads' Ae.o).1; omega))
              obtain ⟨ve390_0, rfl, ge390_0⟩ := hMe390
              have hv390_0 := AN 0 _ rfl
              rw [Nat.add_zero, show ((Kd.slice 3 (Kd.int .i64))).sz = 1 from rfl, Nat.mul_one] at hv390_0
              replace hv390_0 := Option.some.inj (hv390_0.symm.trans Al)
              rw [hv390_0] at ge390_0
              have HL390_0 := Z.m (show Kd.R (Kd.int .i64) 3 _ _ _ _ (rd_L3 Ad (rd Ab A0)) from ge390_0)
              clear hv390_0 ge390_0
              clear AN hce390
              have As := Z.m hi390_0
              have Bf := Z.m AB
              clear hi390_0 AB
              replace p390 := eq_true p390
              replace q390 := eq_true q390
              have p391 : 0 ≤ (0 : Int) := (by omega)
              have q391 : 0 < ((rd_L3 Ad (rd Ab A0)).length : Int) := ofD
              obtain ⟨Au, e391, Am⟩ := Kd.at_int (by repeat (first | (with_reducible exact As.o) | (with_reducible refine Kd.C_alloc ?_ _) | (with_reducible refine Kd.C_drewN ?_ _) | (with_reducible refine Kd.C_drew ?_) | exact As.o)) 0 p391 q391
              cases e391
              have qi391 : (0 < (rd_L3 Ad (rd Ab A0)).length) = True := eq_true (by omega)
              (try rw [show ((0 : Int)).toNat = 0 from rfl] at Am)
              (try rw [Addr.add_zero'] at Am)
              replace p391 := eq_true p391
              replace q391 := eq_true q391
              have p392 : 0 ≤ (A0 : Int) := ofD
              have q392 : A0 < (Ab.length : Int) := ofD
              obtain ⟨B7, e392, AE⟩ := Kd.at_int (Kd.RrZ Af.o).2.2 A0 p392 q392
              obtain rfl : AL = B7 := (by injection e392)
              replace p392 := eq_true p392
              replace q392 := eq_true q392
              have p393 : 0 ≤ ((rd Ab A0) : Int) := ofD
              have q393 : (rd Ab A0) < (Ad.length : Int) := ofD
              obtain ⟨Ba, BO, c393_0, e393, An, AC, hi393_0⟩ := at_L3 (Kd.S_reads' Ae.o).2.2 (rd Ab A0) p393 q393
              obtain rfl : AM = Ba := (by injection e393)
              obtain ⟨Cb, hce393, hMe393, AO⟩ := Kd.S_get Ae.o [] (rd Ab A0) p393 (by first | exact q393 | exact ofD | (have e_ := (Kd.S_reads' Ae.o).1; omega))
              obtain ⟨ve393_0, rfl, ge393_0⟩ := hMe393
              have hv393_0 := AO 0 _ rfl
              rw [Nat.add_zero, show ((Kd.slice 3 (Kd.int .i64))).sz = 1 from rfl, Nat.mul_one] at hv393_0
              replace hv393_0 := Option.some.inj (hv393_0.symm.trans An)
              rw [hv393_0] at ge393_0
              have HL393_0 := Z.m (show Kd.R (Kd.int .i64) 3 _ _ _ _ (rd_L3 Ad (rd Ab A0)) from ge393_0)
              clear hv393_0 ge393_0
              clear AO hce393
              have At := Z.m hi393_0
              have Bg := Z.m AC
              clear hi393_0 AC
              replace p393 := eq_true p393
              replace q393 := eq_true q393
              have ea_ := Option.some.inj (Al.symm.trans An)
              injection ea_ with ea_ en_ ec_
              subst ea_
              subst ec_
              clear en_
              have p394 : 0 ≤ (1 : Int) := (by omega)
              have q394 : 1 < ((rd_L3 Ad (rd Ab A0)).length : Int) := ofD
              obtain ⟨C5, e394, Ao⟩ := Kd.at_int (by repeat (first | (with_reducible exact At.o) | (with_reducible refine Kd.C_alloc ?_ _) | (with_reducible refine Kd.C_drewN ?_ _) | (with_reducible refine Kd.C_drew ?_) | exact At.o)) 1 p394 q394
              cases e394
              (try simp only [show (1 : Int).toNat = 1 from rfl, Nat.reduceMul, Nat.reduceEqDiff, Go.Addr.add, ↓reduceIte] at Ao)
              have qi394 : (1 < (rd_L3 Ad (rd Ab A0)).length) = True := eq_true (by omega)
              (try rw [show ((1 : Int)).toNat = 1 from rfl] at Ao)
              replace p394 := eq_true p394
              replace q394 := eq_true q394
              refine start_ (n := 25) (S := fun w' => w'.cell? ⟨A7, 0, none⟩ = some (.int .i64 ((rd_T71 l0_2 A0).f0)) ∧ w'.cell? ⟨A7, 1, none⟩ = some (.int .i64 ((rd_T71 l0_2 A0).f1)) ∧ w'.cell? (AL.add (A0).toNat) = some (.int .i64 (rd Ab A0)) ∧ w'.cell? (AM.add ((rd Ab A0)).toNat) = some (.slice (some Au) (rd_L3 Ad (rd Ab A0)).length c390_0) ∧ w'.cell? Au = some (.int .i64 (rd (rd_L3 Ad (rd Ab A0)) 0)) ∧ w'.cell? (AL.add (A0).toNat) = some (.int .i64 (rd Ab A0)) ∧ w'.cell? (AM.add ((rd Ab A0)).toNat) = some (.slice (some Au) (rd_L3 Ad (rd Ab A0)).length c390_0) ∧ w'.cell? ⟨Au.block, Au.off + 1, none⟩ = some (.int .i64 (rd (rd_L3 Ad (rd Ab A0)) 1))) (ds := []) #[false, false, false, false, false, false, false, false, false, false, false, false, false, false, false, false, false, false, false, false, false, false, false, false, false] (by kernel_rfl) rfl rfl ⟨(ql Ac.o 0).trans rfl, (ql Ac.o 1).trans rfl, AD, Al, Am, AE, An, Ao⟩ (fun hHeld => ?_); refine with_tabW spec_WithoutCogs.tab8 spec_WithoutCogs.bits8 (fun HT_ HW_ => ?_)
              generalize Ej.drew = Er at Af Ae A1 A3 A8 Aa Ac HB HL390_0 HL393_0 As At AD Al Am AE An Ao hHeld ⊢
              refine pure_ (i := 0) (N := some 27) (v := ?_) (a' := ?_) #[true, false, false, false, false, false, false, false, false, false, false, false, false, false, false, false, false, false, false, false, false, false, false, false, false] rfl rfl (any_of HT_.o (by kernel_rfl)) (fun _ _ _ h => h) (Or.inl ⟨by rfl, ?_⟩) ?_ ?_
              rotate_left
              ·intro w'
               go_simp
               with_reducible rfl
              rotate_left
              ·simp only [Act.put, q1, q2, q3, i64_w, i32_w]
               rfl
              refine take_ (i := 1) (N := some 28) (v := ?_) (a' := ?_) #[true, true, false, false, false, false, false, false, false, false, false, false, false, false, false, false, false, false, false, false, false, false, false, false, false] rfl rfl (take_ofW HT_.o HW_.o (by kernel_rfl)) (fun _ _ _ h => h) (Or.inl ⟨by rfl, ?_⟩) hHeld ?_ ?_
              rotate_left
              ·rintro w' ⟨s0, s1, s2, s3, s4, s5, s6, s7⟩
               go_simp
               with_reducible rfl
              rotate_left
              ·simp only [Act.put, q1, q2, q3, i64_w, i32_w]
               rfl
              refine pure_ (i := 2) (N := some 29) (v := ?_) (a' := ?_) #[true, true, true, false, false, false, false, false, false, false, false, false, false, false, false, false, false, false, false, false, false, false, false, false, false] rfl rfl (any_of HT_.o (by kernel_rfl)) (fun _ _ _ h => h) (Or.inl ⟨by rfl, ?_⟩) ?_ ?_
              rotate_left
              ·intro w'
               go_simp
               with_reducible rfl
              rotate_left
              ·simp only [Act.put, q1, q2, q3, i64_w, i32_w]
               rfl
              refine pure_ (i := 3) (N := some 30) (v := ?_) (a' := ?_) #[true, true, true, true, false, false, false, false, false, false, false, false, false, false, false, false, false, false, false, false, false, false, false, false, false] rfl rfl (any_of HT_.o (by kernel_rfl)) (fun _ _ _ h => h) (Or.inl ⟨by rfl, ?_⟩) ?_ ?_
              rotate_left
              ·intro w'
               go_simp
               with_reducible rfl
              rotate_left
              ·simp only [Act.put, q1, q2, q3, i64_w, i32_w]
               rfl
              refine pure_ (i := 4) (N := some 31) (v := ?_) (a' := ?_) #[true, true, true, true, true, false, false, false, false, false, false, false, false, false, false, false, false, false, false, false, false, false, false, false, false] rfl rfl (any_of HT_.o (by kernel_rfl)) (fun _ _ _ h => h) (Or.inl ⟨by rfl, ?_⟩) ?_ ?_
              rotate_left
              ·intro w'
               go_simp
               with_reducible rfl
              rotate_left
              ·simp only [Act.put, q1, q2, q3, i64_w, i32_w]
               rfl
              refine pure_ (i := 5) (N := some 32) (v := ?_) (a' := ?_) #[true, true, true, true, true, true, false, false, false, false, false, false, false, false, false, false, false, false, false, false, false, false, false, false, false] rfl rfl (any_of HT_.o (by kernel_rfl)) (fun _ _ _ h => h) (Or.inl ⟨by rfl, ?_⟩) ?_ ?_
              rotate_left
              ·intro w'
               go_simp
               with_reducible rfl
              rotate_left
              ·simp only [Act.put, q1, q2, q3, i64_w, i32_w]
               rfl
              refine pure_ (i := 6) (N := some 33) (v := ?_) (a' := ?_) #[true, true, true, true, true, true, true, false, false, false, false, false, false, false, false, false, false, false, false, false, false, false, false, false, false] rfl rfl (any_of HT_.o (by kernel_rfl)) (fun _ _ _ h => h) (Or.inl ⟨by rfl, ?_⟩) ?_ ?_
              rotate_left
              ·intro w'
               go_simp
               with_reducible rfl
              rotate_left
              ·simp only [Act.put, q1, q2, q3, i64_w, i32_w]
               rfl
              refine pure_ (i := 7) (N := some 34) (v := ?_) (a' := ?_) #[true, true, true, true, true, true, true, true, false, false, false, false, false, false, false, false, false, false, false, false, false, false, false, false, false] rfl rfl (any_of HT_.o (by kernel_rfl)) (fun _ _ _ h => h) (Or.inl ⟨by rfl, ?_⟩) ?_ ?_
              rotate_left
              ·intro w'
               go_simp
               with_reducible rfl
              rotate_left
              ·simp only [Act.put, q1, q2, q3, i64_w, i32_w]
               rfl
              refine pure_ (i := 13) (N := some 40) (v := ?_) (a' := ?_) #[true, true, true, true, true, true, true, true, false, false, false, false, false, true, false, false, false, false, false, false, false, false, false, false, false] rfl rfl (any_of HT_.o (by kernel_rfl)) (fun _ _ _ h => h) (Or.inl ⟨by rfl, ?_⟩) ?_ ?_
              rotate_left
              ·intro w'
               go_simp
               with_reducible rfl
              rotate_left
              ·simp only [Act.put, q1, q2, q3, i64_w, i32_w]
               rfl
              refine pure_ (i := 14) (N := some 41) (v := ?_) (a' := ?_) #[true, true, true, true, true, true, true, true, false, false, false, false, false, true, true, false, false, false, false, false, false, false, false, false, false] rfl rfl (any_of HT_.o (by kernel_rfl)) (fun _ _ _ h => h) (Or.inl ⟨by rfl, ?_⟩) ?_ ?_
              rotate_left
              ·intro w'
               go_simp
               with_reducible rfl
              rotate_left
              ·simp only [Act.put, q1, q2, q3, i64_w, i32_w]
               rfl
              refine pure_ (i := 15) (N := some 42) (v := ?_) (a' := ?_) #[true, true, true, true, true, true, true, true, false, false, false, false, false, true, true, true, false, false, false, false, false, false, false, false, false] rfl rfl (any_of HT_.o (by kernel_rfl)) (fun _ _ _ h => h) (Or.inl ⟨by rfl, ?_⟩) ?_ ?_
              rotate_left
              ·intro w'
               go_simp
               with_reducible rfl
              rotate_left
              ·simp only [Act.put, q1, q2, q3, i64_w, i32_w]
               rfl
              refine pure_ (i := 16) (N := some 43) (v := ?_) (a' := ?_) #[true, true, true, true, true, true, true, true, false, false, false, false, false, true, true, true, true, false, false, false, false, false, false, false, false] rfl rfl (any_of HT_.o (by kernel_rfl)) (fun _ _ _ h => h) (Or.inl ⟨by rfl, ?_⟩) ?_ ?_
              rotate_left
              ·intro w'
               go_simp
               with_reducible rfl
              rotate_left
              ·simp only [Act.put, q1, q2, q3, i64_w, i32_w]
               rfl
              refine take_ (i := 8) (N := some 35) (v := ?_) (a' := ?_) #[true, true, true, true, true, true, true, true, true, false, false, false, false, true, true, true, true, false, false, false, false, false, false, false, false] rfl rfl (take_ofW HT_.o HW_.o (by kernel_rfl)) (fun _ _ _ h => h) (Or.inl ⟨by rfl, ?_⟩) hHeld ?_ ?_
              rotate_left
              ·rintro w' ⟨s0, s1, s2, s3, s4, s5, s6, s7⟩
               go_simp
               with_reducible rfl
              rotate_left
              ·simp only [Act.put, q1, q2, q3, i64_w, i32_w]
               rfl
              refine pure_ (i := 9) (N := some 36) (v := ?_) (a' := ?_) #[true, true, true, true, true, true, true, true, true, true, false, false, false, true, true, true, true, false, false, false, false, false, false, false, false] rfl rfl (any_of HT_.o (by kernel_rfl)) (fun _ _ _ h => h) (Or.inl ⟨by rfl, ?_⟩) ?_ ?_
              rotate_left
              ·intro w'
               go_simp
               with_reducible rfl
              rotate_left
              ·simp only [Act.put, q1, q2, q3, i64_w, i32_w]
               rfl
              refine take_ (i := 10) (N := some 37) (v := ?_) (a' := ?_) #[true, true, true, true, true, true, true, true, true, true, true, false, false, true, true, true, true, false, false, false, false, false, false, false, false] rfl rfl (take_ofW HT_.o HW_.o (by kernel_rfl)) (fun _ _ _ h => h) (Or.inl ⟨by rfl, ?_⟩) hHeld ?_ ?_
              rotate_left
              ·rintro w' ⟨s0, s1, s2, s3, s4, s5, s6, s7⟩
               go_simp
               with_reducible rfl
              rotate_left
              ·simp only [Act.put, q1, q2, q3, i64_w, i32_w]
               rfl
              refine pure_ (i := 11) (N := some 38) (v := ?_) (a' := ?_) #[true, true, true, true, true, true, true, true, true, true, true, true, false, true, true, true, true, false, false, false, false, false, false, false, false] rfl rfl (any_of HT_.o (by kernel_rfl)) (fun _ _ _ h => h) (Or.inl ⟨by rfl, ?_⟩) ?_ ?_
              rotate_left
              ·intro w'
               go_simp
               with_reducible rfl
              rotate_left
              ·simp only [Act.put, q1, q2, q3, i64_w, i32_w]
               rfl
              refine take_ (i := 12) (N := some 39) (v := ?_) (a' := ?_) #[true, true, true, true, true, true, true, true, true, true, true, true, true, true, true, true, true, false, false, false, false, false, false, false, false] rfl rfl (take_ofW HT_.o HW_.o (by kernel_rfl)) (fun _ _ _ h => h) (Or.inl ⟨by rfl, ?_⟩) hHeld ?_ ?_
              rotate_left
              ·rintro w' ⟨s0, s1, s2, s3, s4, s5, s6, s7⟩
               go_simp
               with_reducible rfl
              rotate_left
              ·simp only [Act.put, q1, q2, q3, i64_w, i32_w]
               rfl
              refine take_ (i := 17) (N := some 44) (v := ?_) (a' := ?_) #[true, true, true, true, true, true, true, true, true, true, true, true, true, true, true, true, true, true, false, false, false, false, false, false, false] rfl rfl (take_ofW HT_.o HW_.o (by kernel_rfl)) (fun _ _ _ h => h) (Or.inl ⟨by rfl, ?_⟩) hHeld ?_ ?_
              rotate_left
              ·rintro w' ⟨s0, s1, s2, s3, s4, s5, s6, s7⟩
               go_simp
               with_reducible rfl
              rotate_left
              ·simp only [Act.put, q1, q2, q3, i64_w, i32_w]
               rfl
              refine pure_ (i := 18) (N := some 45) (v := ?_) (a' := ?_) #[true, true, true, true, true, true, true, true, true, true, true, true, true, true, true, true, true, true, true, false, false, false, false, false, false] rfl rfl (any_of HT_.o (by kernel_rfl)) (fun _ _ _ h => h) (Or.inl ⟨by rfl, ?_⟩) ?_ ?_
              rotate_left
              ·intro w'
               go_simp
               with_reducible rfl
              rotate_left
              ·simp only [Act.put, q1, q2, q3, i64_w, i32_w]
               rfl
              refine take_ (i := 19) (N := some 46) (v := ?_) (a' := ?_) #[true, true, true, true, true, true, true, true, true, true, true, true, true, true, true, true, true, true, true, true, false, false, false, false, false] rfl rfl (take_ofW HT_.o HW_.o (by kernel_rfl)) (fun _ _ _ h => h) (Or.inl ⟨by rfl, ?_⟩) hHeld ?_ ?_
              rotate_left
              ·rintro w' ⟨s0, s1, s2, s3, s4, s5, s6, s7⟩
               go_simp
               with_reducible rfl
              rotate_left
              ·simp only [Act.put, q1, q2, q3, i64_w, i32_w]
               rfl
              refine pure_ (i := 20) (N := some 47) (v := ?_) (a' := ?_) #[true, true, true, true, true, true, true, true, true, true, true, true, true, true, true, true, true, true, true, true, true, false, false, false, false] rfl rfl (any_of HT_.o (by kernel_rfl)) (fun _ _ _ h => h) (Or.inl ⟨by rfl, ?_⟩) ?_ ?_
              rotate_left
              ·intro w'
               go_simp
               with_reducible rfl
              rotate_left
              ·simp only [Act.put, q1, q2, q3, i64_w, i32_w]
               rfl
              refine take_ (i := 21) (N := some 48) (v := ?_) (a' := ?_) #[true, true, true, true, true, true, true, true, true, true, true, true, true, true, true, true, true, true, true, true, true, true, false, false, false] rfl rfl (take_ofW HT_.o HW_.o (by kernel_rfl)) (fun _ _ _ h => h) (Or.inl ⟨by rfl, ?_⟩) hHeld ?_ ?_
              rotate_left
              ·rintro w' ⟨s0, s1, s2, s3, s4, s5, s6, s7⟩
               go_simp
               with_reducible rfl
              rotate_left
              ·simp only [Act.put, q1, q2, q3, i64_w, i32_w]
               rfl
              refine pure_ (i := 22) (N := some 49) (v := ?_) (a' := ?_) #[true, true, true, true, true, true, true, true, true, true, true, true, true, true, true, true, true, true, true, true, true, true, true, false, false] rfl rfl (any_of HT_.o (by kernel_rfl)) (fun _ _ _ h => h) (Or.inl ⟨by rfl, ?_⟩) ?_ ?_
              rotate_left
              ·intro w'
               go_simp
               with_reducible rfl
              rotate_left
              ·simp only [Act.put, q1, q2, q3, i64_w, i32_w]
               rfl
              refine pure_ (i := 23) (N := some 50) (v := ?_) (a' := ?_) #[true, true, true, true, true, true, true, true, true, true, true, true, true, true, true, true, true, true, true, true, true, true, true, true, false] rfl rfl (any_of HT_.o (by kernel_rfl)) (fun _ _ _ h => h) (Or.inl ⟨by rfl, ?_⟩) ?_ ?_
              rotate_left
              ·intro w'
               go_simp
               with_reducible rfl
              rotate_left
              ·simp only [Act.put, q1, q2, q3, i64_w, i32_w]
               rfl
              refine pure_ (i := 24) (N := some 51) (v := ?_) (a' := ?_) #[true, true, true, true, true, true, true, true, true, true, true, true, true, true, true, true, true, true, true, true, true, true, true, true, true] rfl rfl (any_of HT_.o (by kernel_rfl)) (fun _ _ _ h => h) (Or.inl ⟨by rfl, ?_⟩) ?_ ?_
              rotate_left
              ·intro w'
               go_simp
               with_reducible rfl
              rotate_left
              ·simp only [Act.put, q1, q2, q3, i64_w, i32_w]
               rfl
              refine done_ (done_of HT_.o (by kernel_rfl)) ?_
              try go_wp2
              go_roundg k1
              case measure => have := BW.o; omega
              case rel => exact ⟨(wrap64 (A0 + 1)), (A9), (u387002), (by first | rfl | (simp; done) | (simp [*]; done)), H', ⟨by have := BW.o; omega⟩, ⟨vR Af⟩, ⟨vS Ae⟩, ⟨by refine rK ?_; exact Kd.Rm A1.o (fun _ hk => trivial)⟩, ⟨vK A3⟩, ⟨vK A8⟩, ⟨vK Aa⟩, ⟨vB HB⟩⟩
            ·rw [if_neg c31] at H
             exact absurd H (by simp)
           ·rw [if_neg c30] at H
            exact absurd H (by simp)
          ·rw [if_neg c29] at H
           exact absurd H (by simp)
         ·rw [if_neg c28] at H
          exact absurd H (by simp)
        ·rw [if_neg c27] at H
         exact absurd H (by simp)
       ·rw [if_neg c26] at H
        have C7 := beq_eq_false_iff_ne.mpr c26
        have C8 := bne_iff_ne.mpr c26
        have H' := Z.m H
        clear H
        have p387 : 0 ≤ (A0 : Int) := ofD
        have q387 : A0 < (l0_2.length : Int) := ofD
        obtain ⟨AR, e387, Aj, Ak⟩ := at_T71 AI.o A0 p387 q387
        cases e387
        replace Aj := (HB.o.cell (World.block_lt_of_cell? w _ Aj)).trans Aj
        replace Ak := (HB.o.cell (World.block_lt_of_cell? w _ Ak)).trans Ak
        replace p387 := eq_true p387
        replace q387 := eq_true q387
        try go_wp2_with (first | ((with_reducible refine gq (N := 8) rfl ?_); refine be (N := 8) (cs := #[.int .i64 0, .int .i64 0]) (t := 71) ?_; intro A7 hg BJ hbox hb; have Ac := Z.m (hbox); have AS := gW (w := w) HB hg; have BK := AS; have Ag := neL A3 hg; have Ap := neG A3 hg; have Ah := neL A8 hg; have Aq := neG A8 hg; have Ai := neL Aa hg; have Ar := neG Aa hg; replace Af := Z.m (Kd.Rb (vR Af) hb); replace Ae := Z.m (Kd.S_below (vS Ae) hb); replace A1 := Z.m (Kd.Rb (Kd.R_elderB (vR A1) A7 (Nat.le_of_eq hg.symm)) hb); replace A3 := kB A3 hb; replace A8 := kB A8 hb; replace Aa := kB Aa hb; replace HB := bB HB hb; clear hb hbox hg; have DD := Ap.o; have DU := Ag.o; have DE := Aq.o; have DV := Ah.o; have DF := Ar.o; have DW := Ai.o; have Cv := bc0 Ac; have Cw := bc1 Ac; have CQ := qz Ac.o 0; have CR := qz Ac.o 1))
        have n0_ : Z (Kd.R (Kd.int .i64) 3 ((BJ.setCell ⟨A7, 0, none⟩ (.int .i64 ((rd_T71 l0_2 A0).f0))).setCell ⟨A7, 1, none⟩ (.int .i64 ((rd_T71 l0_2 A0).f1))) w.heap.size (fun _ => True) AX Ab) := ⟨by refine rK ?_; exact Kd.Rm (rf (rf (Kd.Ry Af.o Ac.o (by decide)))) (fun _ hk => trivial)⟩
        have n1_ : Z (Kd.S (Kd.slice 3 (Kd.int .i64)) 38 ((BJ.setCell ⟨A7, 0, none⟩ (.int .i64 ((rd_T71 l0_2 A0).f0))).setCell ⟨A7, 1, none⟩ (.int .i64 ((rd_T71 l0_2 A0).f1))) w.heap.size (fun k_ => some k_ ≠ (AX : Value).ownBlock) BG Ad) := ⟨by (with_reducible repeat (first | apply Kd.S_alloc | apply Kd.S_drewN | apply Kd.S_drew)); exact Kd.S_mono (Kd.S_far (p := ⟨A7, 1, none⟩) (Kd.S_far (p := ⟨A7, 0, none⟩) (Kd.S_types Ae.o Ac.o (by decide)) (fun _ hk => hk.2) (.int .i64 ((rd_T71 l0_2 A0).f0))) (fun _ hk => hk.2) (.int .i64 ((rd_T71 l0_2 A0).f1))) (fun _ hk => hk.1)⟩
        have n2_ : Z (Kd.R k71 71 ((BJ.setCell ⟨A7, 0, none⟩ (.int .i64 ((rd_T71 l0_2 A0).f0))).setCell ⟨A7, 1, none⟩ (.int .i64 ((rd_T71 l0_2 A0).f1))) w.heap.size (fun k_ => k_ ≠ A7) u387002 A9) := ⟨by refine rK ?_; exact Kd.Rm (rf (rf (Kd.Rm A1.o (fun k_ hk => (⟨hk, hk.2⟩ : _ ∧ k_ ≠ A7))))) (fun _ hk => hk.1.2)⟩
        have n3_ : Z (((BJ.setCell ⟨A7, 0, none⟩ (.int .i64 ((rd_T71 l0_2 A0).f0))).setCell ⟨A7, 1, none⟩ (.int .i64 ((rd_T71 l0_2 A0).f1))).heap[AA]? = some (.cells #[.int .i64 a0_0, .int .i64 a0_1, .slice (some AR) l0_2.length c0_2] 30 (0, 0))) := ⟨by refine bK ?_; (iterate 2 refine qF ?_ Ag); exact A3.o⟩
        have n4_ : Z (((BJ.setCell ⟨A7, 0, none⟩ (.int .i64 ((rd_T71 l0_2 A0).f0))).setCell ⟨A7, 1, none⟩ (.int .i64 ((rd_T71 l0_2 A0).f1))).heap[AJ]? = some (.cells #[.int .i64 0, .int .i64 0, .slice none 0 0] 30 (0, 0))) := ⟨by refine bK ?_; (iterate 2 refine qF ?_ Ah); exact A8.o⟩
        have n5_ : Z (((BJ.setCell ⟨A7, 0, none⟩ (.int .i64 ((rd_T71 l0_2 A0).f0))).setCell ⟨A7, 1, none⟩ (.int .i64 ((rd_T71 l0_2 A0).f1))).heap[AK]? = some (.cells #[.int .i64 AP, .int .i64 AQ, u387002] 30 (0, 0))) := ⟨by refine bK ?_; (iterate 2 refine qF ?_ Ai); exact Aa.o⟩
        have n6_ : Z (((BJ.setCell ⟨A7, 0, none⟩ (.int .i64 ((rd_T71 l0_2 A0).f0))).setCell ⟨A7, 1, none⟩ (.int .i64 ((rd_T71 l0_2 A0).f1))).heap[A7]? = some (.cells #[.int .i64 ((rd_T71 l0_2 A0).f0), .int .i64 ((rd_T71 l0_2 A0).f1)] 71 (0, 0))) := ⟨by refine bK ?_; refine qp (cs := #[iV ((rd_T71 l0_2 A0).f0), iV 0]) ?_ 1 _ rfl; refine bK ?_; refine qp (cs := #[iV 0, iV 0]) ?_ 0 _ rfl; refine bK ?_; exact Ac.o⟩
        have n7_ : Z (Below w.heap.size w ((BJ.setCell ⟨A7, 0, none⟩ (.int .i64 ((rd_T71 l0_2 A0).f0))).setCell ⟨A7, 1, none⟩ (.int .i64 ((rd_T71 l0_2 A0).f1)))) := ⟨vB HB⟩
        (try clear Af); (try clear Ae); (try clear A1); (try clear A3); (try clear A8); (try clear Aa); (try clear Ac); (try clear HB)
        generalize ((BJ.setCell ⟨A7, 0, none⟩ (.int .i64 ((rd_T71 l0_2 A0).f0))).setCell ⟨A7, 1, none⟩ (.int .i64 ((rd_T71 l0_2 A0).f1))) = Ek at n0_ n1_ n2_ n3_ n4_ n5_ n6_ n7_ ⊢
        have Af := n0_
        have Ae := n1_
        have A1 := n2_
        have A3 := n3_
        have A8 := n4_
        have Aa := n5_
        have Ac := n6_
        have HB := n7_
        clear n0_ n1_ n2_ n3_ n4_ n5_ n6_ n7_
        replace Af := Z.m (Kd.R_drew Af.o)
        replace Ae := Z.m (Kd.S_drew Ae.o)
        replace A1 := Z.m (Kd.R_drew A1.o)
        replace A3 := Z.m (blk_drew A3.o)
        replace A8 := Z.m (blk_drew A8.o)
        replace Aa := Z.m (blk_drew Aa.o)
        replace Ac := Z.m (blk_drew Ac.o)
        replace HB := Z.m (qd HB.o)
        refine start_ (n := 25) (S := fun w' => w'.cell? ⟨A7, 0, none⟩ = some (.int .i64 ((rd_T71 l0_2 A0).f0)) ∧ w'.cell? ⟨A7, 1, none⟩ = some (.int .i64 ((rd_T71 l0_2 A0).f1))) (ds := []) #[false, false, false, false, false, false, false, false, false, false, false, false, false, false, false, false, false, false, false, false, false, false, false, false, false] (by kernel_rfl) rfl rfl ⟨(ql Ac.o 0).trans rfl, (ql Ac.o 1).trans rfl⟩ (fun hHeld => ?_); refine with_tabW spec_WithoutCogs.tab8 spec_WithoutCogs.bits8 (fun HT_ HW_ => ?_)
        generalize Ek.drew = Es at Af Ae A1 A3 A8 Aa Ac HB hHeld ⊢
        refine pure_ (i := 0) (N := some 27) (v := ?_) (a' := ?_) #[true, false, false, false, false, false, false, false, false, false, false, false, false, false, false, false, false, false, false, false, false, false, false, false, false] rfl rfl (any_of HT_.o (by kernel_rfl)) (fun _ _ _ h => h) (Or.inl ⟨by rfl, ?_⟩) ?_ ?_
        rotate_left
        ·intro w'
         go_simp
         with_reducible rfl
        rotate_left
        ·simp only [Act.put, q1, q2, q3, i64_w, i32_w]
         rfl
        refine take_ (i := 1) (N := some 28) (v := ?_) (a' := ?_) #[true, true, false, false, false, false, false, false, false, false, false, false, false, false, false, false, false, false, false, false, false, false, false, false, false] rfl rfl (take_ofW HT_.o HW_.o (by kernel_rfl)) (fun _ _ _ h => h) (Or.inl ⟨by rfl, ?_⟩) hHeld ?_ ?_
        rotate_left
        ·rintro w' ⟨s0, s1⟩
         go_simp
         with_reducible rfl
        rotate_left
        ·simp only [Act.put, q1, q2, q3, i64_w, i32_w]
         rfl
        refine pure_ (i := 2) (N := some 29) (v := ?_) (a' := ?_) #[true, true, true, false, false, false, false, false, false, false, false, false, false, false, false, false, false, false, false, false, false, false, false, false, false] rfl rfl (any_of HT_.o (by kernel_rfl)) (fun _ _ _ h => h) (Or.inl ⟨by rfl, ?_⟩) ?_ ?_
        rotate_left
        ·intro w'
         go_simp
         with_reducible rfl
        rotate_left
        ·simp only [Act.put, q1, q2, q3, i64_w, i32_w]
         rfl
        refine pure_ (i := 3) (N := some 30) (v := ?_) (a' := ?_) #[true, true, true, true, false, false, false, false, false, false, false, false, false, false, false, false, false, false, false, false, false, false, false, false, false] rfl rfl (any_of HT_.o (by kernel_rfl)) (fun _ _ _ h => h) (Or.inl ⟨by rfl, ?_⟩) ?_ ?_
        rotate_left
        ·intro w'
         go_simp
         with_reducible rfl
        rotate_left
        ·simp only [Act.put, q1, q2, q3, i64_w, i32_w]
         rfl
        refine pure_ (i := 4) (N := some 31) (v := undef) (a' := ?_) #[true, true, true, true, true, false, false, false, false, false, false, false, false, false, false, false, false, false, false, false, false, false, false, false, false] rfl rfl (any_of HT_.o (by kernel_rfl)) (fun _ _ _ h => h) (Or.inr ⟨by rfl, rfl⟩) ?_ ?_
        rotate_left
        ·simp only [Act.put, q1, q2, q3, i64_w, i32_w]
         rfl
        refine pure_ (i := 5) (N := some 32) (v := undef) (a' := ?_) #[true, true, true, true, true, true, false, false, false, false, false, false, false, false, false, false, false, false, false, false, false, false, false, false, false] rfl rfl (any_of HT_.o (by kernel_rfl)) (fun _ _ _ h => h) (Or.inr ⟨by rfl, rfl⟩) ?_ ?_
        rotate_left
        ·simp only [Act.put, q1, q2, q3, i64_w, i32_w]
         rfl
        refine pure_ (i := 6) (N := some 33) (v := undef) (a' := ?_) #[true, true, true, true, true, true, true, false, false, false, false, false, false, false, false, false, false, false, false, false, false, false, false, false, false] rfl rfl (any_of HT_.o (by kernel_rfl)) (fun _ _ _ h => h) (Or.inr ⟨by rfl, rfl⟩) ?_ ?_
        rotate_left
        ·simp only [Act.put, q1, q2, q3, i64_w, i32_w]
         rfl
        refine pure_ (i := 7) (N := some 34) (v := undef) (a' := ?_) #[true, true, true, true, true, true, true, true, false, false, false, false, false, false, false, false, false, false, false, false, false, false, false, false, false] rfl rfl (any_of HT_.o (by kernel_rfl)) (fun _ _ _ h => h) (Or.inr ⟨by rfl, rfl⟩) ?_ ?_
        rotate_left
        ·simp only [Act.put, q1, q2, q3, i64_w, i32_w]
         rfl
        refine pure_ (i := 8) (N := some 35) (v := undef) (a' := ?_) #[true, true, true, true, true, true, true, true, true, false, false, false, false, false, false, false, false, false, false, false, false, false, false, false, false] rfl rfl (any_of HT_.o (by kernel_rfl)) (fun _ _ _ h => h) (Or.inr ⟨by rfl, rfl⟩) ?_ ?_
        rotate_left
        ·simp only [Act.put, q1, q2, q3, i64_w, i32_w]
         rfl
        refine pure_ (i := 9) (N := some 36) (v := undef) (a' := ?_) #[true, true, true, true, true, true, true, true, true, true, false, false, false, false, false, false, false, false, false, false, false, false, false, false, false] rfl rfl (any_of HT_.o (by kernel_rfl)) (fun _ _ _ h => h) (Or.inr ⟨by rfl, rfl⟩) ?_ ?_
        rotate_left
        ·simp only [Act.put, q1, q2, q3, i64_w, i32_w]
         rfl
        refine pure_ (i := 10) (N := some 37) (v := undef) (a' := ?_) #[true, true, true, true, true, true, true, true, true, true, true, false, false, false, false, false, false, false, false, false, false, false, false, false, false] rfl rfl (any_of HT_.o (by kernel_rfl)) (fun _ _ _ h => h) (Or.inr ⟨by rfl, rfl⟩) ?_ ?_
        rotate_left
        ·simp only [Act.put, q1, q2, q3, i64_w, i32_w]
         rfl
        refine pure_ (i := 11) (N := some 38) (v := undef) (a' := ?_) #[true, true, true, true, true, true, true, true, true, true, true, true, false, false, false, false, false, false, false, false, false, false, false, false, false] rfl rfl (any_of HT_.o (by kernel_rfl)) (fun _ _ _ h => h) (Or.inr ⟨by rfl, rfl⟩) ?_ ?_
        rotate_left
        ·simp only [Act.put, q1, q2, q3, i64_w, i32_w]
         rfl
        refine pure_ (i := 12) (N := some 39) (v := undef) (a' := ?_) #[true, true, true, true, true, true, true, true, true, true, true, true, true, false, false, false, false, false, false, false, false, false, false, false, false] rfl rfl (any_of HT_.o (by kernel_rfl)) (fun _ _ _ h => h) (Or.inr ⟨by rfl, rfl⟩) ?_ ?_
        rotate_left
        ·simp only [Act.put, q1, q2, q3, i64_w, i32_w]
         rfl
        refine pure_ (i := 13) (N := some 40) (v := undef) (a' := ?_) #[true, true, true, true, true, true, true, true, true, true, true, true, true, true, false, false, false, false, false, false, false, false, false, false, false] rfl rfl (any_of HT_.o (by kernel_rfl)) (fun _ _ _ h => h) (Or.inr ⟨by rfl, rfl⟩) ?_ ?_
        rotate_left
        ·simp only [Act.put, q1, q2, q3, i64_w, i32_w]
         rfl
        refine pure_ (i := 14) (N := some 41) (v := undef) (a' := ?_) #[true, true, true, true, true, true, true, true, true, true, true, true, true, true, true, false, false, false, false, false, false, false, false, false, false] rfl rfl (any_of HT_.o (by kernel_rfl)) (fun _ _ _ h => h) (Or.inr ⟨by rfl, rfl⟩) ?_ ?_
        rotate_left
        ·simp only [Act.put, q1, q2, q3, i64_w, i32_w]
         rfl
        refine pure_ (i := 15) (N := some 42) (v := undef) (a' := ?_) #[true, true, true, true, true, true, true, true, true, true, true, true, true, true, true, true, false, false, false, false, false, false, false, false, false] rfl rfl (any_of HT_.o (by kernel_rfl)) (fun _ _ _ h => h) (Or.inr ⟨by rfl, rfl⟩) ?_ ?_
        rotate_left
        ·simp only [Act.put, q1, q2, q3, i64_w, i32_w]
         rfl
        refine pure_ (i := 16) (N := some 43) (v := undef) (a' := ?_) #[true, true, true, true, true, true, true, true, true, true, true, true, true, true, true, true, true, false, false, false, false, false, false, false, false] rfl rfl (any_of HT_.o (by kernel_rfl)) (fun _ _ _ h => h) (Or.inr ⟨by rfl, rfl⟩) ?_ ?_
        rotate_left
        ·simp only [Act.put, q1, q2, q3, i64_w, i32_w]
         rfl
        refine pure_ (i := 17) (N := some 44) (v := undef) (a' := ?_) #[true, true, true, true, true, true, true, true, true, true, true, true, true, true, true, true, true, true, false, false, false, false, false, false, false] rfl rfl (any_of HT_.o (by kernel_rfl)) (fun _ _ _ h => h) (Or.inr ⟨by rfl, rfl⟩) ?_ ?_
        rotate_left
        ·simp only [Act.put, q1, q2, q3, i64_w, i32_w]
         rfl
        refine pure_ (i := 18) (N := some 45) (v := undef) (a' := ?_) #[true, true, true, true, true, true, true, true, true, true, true, true, true, true, true, true, true, true, true, false, false, false, false, false, false] rfl rfl (any_of HT_.o (by kernel_rfl)) (fun _ _ _ h => h) (Or.inr ⟨by rfl, rfl⟩) ?_ ?_
        rotate_left
        ·simp only [Act.put, q1, q2, q3, i64_w, i32_w]
         rfl
        refine pure_ (i := 19) (N := some 46) (v := undef) (a' := ?_) #[true, true, true, true, true, true, true, true, true, true, true, true, true, true, true, true, true, true, true, true, false, false, false, false, false] rfl rfl (any_of HT_.o (by kernel_rfl)) (fun _ _ _ h => h) (Or.inr ⟨by rfl, rfl⟩) ?_ ?_
        rotate_left
        ·simp only [Act.put, q1, q2, q3, i64_w, i32_w]
         rfl
        refine pure_ (i := 20) (N := some 47) (v := undef) (a' := ?_) #[true, true, true, true, true, true, true, true, true, true, true, true, true, true, true, true, true, true, true, true, true, false, false, false, false] rfl rfl (any_of HT_.o (by kernel_rfl)) (fun _ _ _ h => h) (Or.inr ⟨by rfl, rfl⟩) ?_ ?_
        rotate_left
        ·simp only [Act.put, q1, q2, q3, i64_w, i32_w]
         rfl
        refine pure_ (i := 21) (N := some 48) (v := undef) (a' := ?_) #[true, true, true, true, true, true, true, true, true, true, true, true, true, true, true, true, true, true, true, true, true, true, false, false, false] rfl rfl (any_of HT_.o (by kernel_rfl)) (fun _ _ _ h => h) (Or.inr ⟨by rfl, rfl⟩) ?_ ?_
        rotate_left
        ·simp only [Act.put, q1, q2, q3, i64_w, i32_w]
         rfl
        refine pure_ (i := 22) (N := some 49) (v := undef) (a' := ?_) #[true, true, true, true, true, true, true, true, true, true, true, true, true, true, true, true, true, true, true, true, true, true, true, false, false] rfl rfl (any_of HT_.o (by kernel_rfl)) (fun _ _ _ h => h) (Or.inr ⟨by rfl, rfl⟩) ?_ ?_
        rotate_left
        ·simp only [Act.put, q1, q2, q3, i64_w, i32_w]
         rfl
        refine pure_ (i := 23) (N := some 50) (v := undef) (a' := ?_) #[true, true, true, true, true, true, true, true, true, true, true, true, true, true, true, true, true, true, true, true, true, true, true, true, false] rfl rfl (any_of HT_.o (by kernel_rfl)) (fun _ _ _ h => h) (Or.inr ⟨by rfl, rfl⟩) ?_ ?_
        rotate_left
        ·simp only [Act.put, q1, q2, q3, i64_w, i32_w]
         rfl
        refine pure_ (i := 24) (N := some 51) (v := ?_) (a' := ?_) #[true, true, true, true, true, true, true, true, true, true, true, true, true, true, true, true, true, true, true, true, true, true, true, true, true] rfl rfl (any_of HT_.o (by kernel_rfl)) (fun _ _ _ h => h) (Or.inl ⟨by rfl, ?_⟩) ?_ ?_
        rotate_left
        ·intro w'
         go_simp
         with_reducible rfl
        rotate_left
        ·simp only [Act.put, q1, q2, q3, i64_w, i32_w]
         rfl
        refine done_ (done_of HT_.o (by kernel_rfl)) ?_
        try go_wp2
        go_roundg k1
        case measure => have := BW.o; omega
        case rel => exact ⟨(wrap64 (A0 + 1)), (A9), (u387002), (by first | rfl | (simp; done) | (simp [*]; done)), H', ⟨by have := BW.o; omega⟩, ⟨vR Af⟩, ⟨vS Ae⟩, ⟨by refine rK ?_; exact Kd.Rm A1.o (fun _ hk => trivial)⟩, ⟨vK A3⟩, ⟨vK A8⟩, ⟨vK Aa⟩, ⟨vB HB⟩⟩
      ·rw [if_neg c25] at H
       exact absurd H (by simp)
     ·rw [if_neg c24] at H
      exact absurd H (by simp)
    ·rw [if_neg c23] at H
     have C6 := decide_eq_false c23
     clear c23
     simp only [Option.some.injEq, Prod.mk.injEq] at H
     obtain ⟨rfl, rfl, rfl, rfl⟩ := H
     have DG := AF.o
     have DX := Aw.o
     have DH := AG.o
     have DY := Ay.o
     have Cx := bc0 Aa
     have Cy := bc1 Aa
     have Cz := bc2 Aa
     have CS := qz Aa.o 0
     have CT := qz Aa.o 1
     have CU := qz Aa.o 2
     have DI := Ax.o
     have DZ := Av.o
     have CA := bc0 A8
     have CB := bc1 A8
     have CC := bc2 A8
     have CV := qz A8.o 0
     have CW := qz A8.o 1
     have CX := qz A8.o 2
     obtain ⟨D4, D5, D7⟩ := Kd.R_slice A1.o
     subst D7
     go_wp2
     refine bodyPost_ret (results_ct rfl _ _ AJ 30 #[.int .i64 AP, .int .i64 AQ, .slice D4 A9.length D5] (0, 0) _ rfl (by refine bK ?_; apply st3; refine bK ?_; exact A8.o) Try.underlying30 rfl (by kernel_rfl)) rfl ?_
     exact ⟨_, by first | rfl | (simp [eN, eS] <;> rfl) | (simp [*, eN, eS] <;> rfl), by refine rK ?_; exact Kd.Rm (rf (rf (rf (Kd.Ry A1.o A8.o (by decide))))) (fun _ hk => trivial), vB HB⟩
 ·replace c3 := Bool.eq_false_iff.mpr c3
  subst c3
  have H1 : (some (0, 0, ([] : List (S71)), false)) = some (r1, r2, r3, r4) := by rw [if_neg (show ¬ (false = true) by decide)] at H; exact H
  clear H
  have H := H1
  clear H1
  simp only [Option.some.injEq, Prod.mk.injEq] at H
  obtain ⟨rfl, rfl, rfl, rfl⟩ := H
  go_enter Try.func37, Try.ntmps37
  go_wp2_with (first | ((with_reducible refine gq (N := 1) rfl ?_); refine be (N := 1) (cs := #[.int .i64 a0_0, .int .i64 a0_1, .slice A0_2 l0_2.length c0_2]) (t := 30) ?_; intro AA hg Et hbox hb; have A3 := Z.m (hbox); have B0 := gW (w := w) HB hg; have BZ := B0; replace HB := bB HB hb; clear hb hbox hg) | ((with_reducible refine gq (N := 2) rfl ?_); refine be (N := 2) (cs := #[.int .i64 0, .int .i64 0, .slice none 0 0]) (t := 30) ?_; intro AJ hg Eu hbox hb; have A8 := Z.m (hbox); have B2 := gW (w := w) HB hg; have C0 := B2; have Av := neL A3 hg; have Ax := neG A3 hg; replace A3 := kB A3 hb; replace HB := bB HB hb; clear hb hbox hg; have DJ := Av.o; have E0 := Ax.o; have CD := bc0 A3; have CE := bc1 A3; have CF := bc2 A3; have CY := qz A3.o 0; have CZ := qz A3.o 1; have D0 := qz A3.o 2) | ((with_reducible refine gc (f := 59) rfl ?_); refine gA (some 10) _ #[.agg #[.int .i64 a0_0, .int .i64 a0_1, .slice A0_2 l0_2.length c0_2]] ?_ Try.func59; (with_reducible refine (spec_boGood.calls k a0_0 a0_1 _ _ l0_2 false _ ?side1 ?side2 A2.o).mono ?_); (case side1 => repeat (first | exact (Kd.C_below AI.o HB.o) | (with_reducible refine Kd.C_alloc ?_ _) | (with_reducible refine Kd.C_drewN ?_ _) | (with_reducible refine Kd.C_drew ?_))); (case side2 => exact AT.o); rintro e Ew ⟨rfl, hb⟩; refine ⟨_, rfl, ?_⟩; replace A3 := kB A3 hb; replace A8 := kB A8 hb; replace HB := bB HB hb; (try clear hb); (try clear Ds); (try clear hk); (try clear hi); have CG := bc0 A8; have CH := bc1 A8; have CI := bc2 A8; have D1 := qz A8.o 0; have D2 := qz A8.o 1; have D3 := qz A8.o 2))
  refine bodyPost_ret (results_ct rfl _ _ AJ 30 #[.int .i64 0, .int .i64 0, .slice none 0 0] (0, 0) _ rfl (by refine bK ?_; apply st3; refine bK ?_; exact A8.o) Try.underlying30 rfl (by kernel_rfl)) rfl ?_
  exact ⟨_, by first | rfl | (simp [eN, eS] <;> rfl) | (simp [*, eN, eS] <;> rfl), by first | exact Kd.R_nil _ _ _ _ _ | exact Kd.N_nil _ _ _ _ _ | exact Kd.V_nil _ _ _ _ _ | exact Kd.Q_nil _ _ _ _ _ | exact Kd.S_nil _ _ _ _ _, vB HB⟩

end Go.Proofs.Ytlkiakpipcnijaa.PAll
