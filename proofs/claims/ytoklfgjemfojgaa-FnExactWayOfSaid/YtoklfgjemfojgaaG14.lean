/- Began as a text that print.sh wrote (of the functions named below); turned and shortened by this session. -/
import Derived.Test.YtoklfgjemfojgaaG0
import Derived.Test.YtoklfgjemfojgaaG9
import Derived.Test.YtoklfgjemfojgaaG11
import Derived.Test.YtoklfgjemfojgaaG12
import Derived.Test.YtoklfgjemfojgaaG13
namespace Go.Proofs.Ytoklfgjemfojgaa.PAll
open Go.RowKit Go.Proofs.YtoklfgjemfojgaaW.PrintWords Go.Proofs.YtoklfgjemfojgaaW.PrintLast Go.Proofs.YtoklfgjemfojgaaW.PrintMore
attribute [local go_sem] max2_int min2_int max_two min_two max_three min_three max_four min_four   -- for this text's walks alone
set_option linter.unusedVariables false
set_option linter.unusedSimpArgs false

/-! ### impl_WayOf: function 36 -/
def impl_WayOf.l0 : Nat → List (List Int) → List Int → Int → Int → Int → Int → List (S89) → Option ((List (List Int)) × Bool)
 | 0, _, _, _, _, _, _, _ => none
 | k + 1, x8, x25, x26, x27, x340000, x340001, x340002 => if x27 < x26 then (if 0 ≤ x27 then (if x27 < (x25.length : Int) then (if x340001 = 0 then (none) else (if x8.length < 5864062014805 then (impl_WayOf.l0 k (x8 ++ [(([wrap64 (Int.tdiv (rd x25 x27) x340001), Int.tmod (rd x25 x27) x340001] : List Int))]) x25 x26 (wrap64 (x27 + 1)) x340000 x340001 x340002) else (none))) else (none)) else (none)) else (some (x8, true))
def impl_WayOf.f (k : Nat) (a0_0 : Int) (a0_1 : Int) (l0_2 : List (S89)) (a1 : Int) : Option ((List (List Int)) × Bool) := (impl_validEntry.f k a0_0 a0_1 l0_2 a1).bind fun t340 => (if t340 = true then ((impl_copyBoard.f a0_0 a0_1 l0_2).bind fun bt341 => ((impl_groupNumbers.f k a0_0 a0_1 l0_2).bind fun t346 => ((impl_drop.f k bt341.1 bt341.2.1 bt341.2.2 t346 a1).bind fun bt349 => (impl_WayOf.l0 k (([] : List (List Int))) bt349.2.2.2.1 (bt349.2.2.2.1.length : Int) 0 a0_0 a0_1 l0_2)))) else (some (([] : List (List Int)), false)))
def impl_WayOf.T3 : Bool × List (List Nat × List Nat) := (true, [([], []), ([0], [0]), ([], []), ([2, 1], [2]), ([], []), ([1, 3, 4, 3], [1, 3, 4]), ([5], [5]), ([6], [6]), ([6], [6]), ([], []), ([9, 7, 5, 0, 1, 2, 3, 4, 5, 6, 7, 9], [7, 9]), ([8, 10, 0, 1, 2, 3, 4, 5, 6, 7, 8, 9, 10], [8])])
def impl_WayOf.B3 : List Nat := [0, 1, 0, 7, 0, 31, 63, 127, 127, 0, 767, 2047]
theorem impl_WayOf.tab3 : rtab .any (opsOf Try.f36 3) = impl_WayOf.T3 := by kernel_rfl
theorem impl_WayOf.bits3 : waitsOk impl_WayOf.T3.2 impl_WayOf.B3 = true := by kernel_rfl
def impl_WayOf.T8 : Bool × List (List Nat × List Nat) := (true, [([], []), ([], []), ([], []), ([2], [2]), ([1, 3], [1, 3]), ([], []), ([], []), ([6], [6]), ([5, 7], [5, 7]), ([4, 8], [4, 8]), ([9], [9]), ([0, 10], [0, 10]), ([11, 11, 0, 1, 2, 3, 4, 5, 6, 7, 8, 9, 10, 11], [0, 11])])
def impl_WayOf.B8 : List Nat := [0, 0, 0, 4, 14, 0, 0, 64, 224, 510, 1022, 2047, 4095]
theorem impl_WayOf.tab8 : rtab .any (opsOf Try.f36 8) = impl_WayOf.T8 := by kernel_rfl
theorem impl_WayOf.bits8 : waitsOk impl_WayOf.T8.2 impl_WayOf.B8 = true := by kernel_rfl
set_option maxHeartbeats 8000000 in
set_option maxRecDepth 100000 in
theorem impl_WayOf.calls (k : Nat) (a0_0 : Int) (a0_1 : Int) (A0_2 : Option Addr) (c0_2 : Nat) (l0_2 : List (S89)) (a1 : Int) (r1 : List (List Int)) (r2 : Bool) (w : World) (hr0_2 : Kd.C k89 w A0_2 l0_2.length l0_2) (hc0_2 : l0_2.length ≤ c0_2) (h : impl_WayOf.f k a0_0 a0_1 l0_2 a1 = some (r1, r2)) :
 Calls Try.prog 36 #[.agg #[.int .i64 a0_0, .int .i64 a0_1, .slice A0_2 l0_2.length c0_2], .int .i64 a1] w fun e w' => ∃ v0_ : Value, e = .returned (.tuple #[v0_, .bool r2]) ∧ Kd.S (Kd.slice 3 (Kd.int .i64)) 43 w' w.heap.size (fun _ => True) v0_ r1 ∧ Below w.heap.size w w' := by
 have BQ := Try.underlying32
 have BP := Try.underlying27
 have At := Z.m hr0_2
 have As := Z.m hc0_2
 clear hr0_2 hc0_2
 have HB := Z.m (Below.refl w.heap.size w)
 have H : ((impl_validEntry.f k a0_0 a0_1 l0_2 a1).bind fun AS => (if AS = true then ((impl_copyBoard.f a0_0 a0_1 l0_2).bind fun bt341 => ((impl_groupNumbers.f k a0_0 a0_1 l0_2).bind fun Ad => ((impl_drop.f k bt341.1 bt341.2.1 bt341.2.2 Ad a1).bind fun bt349 => (impl_WayOf.l0 k (([] : List (List Int))) bt349.2.2.2.1 (bt349.2.2.2.1.length : Int) 0 a0_0 a0_1 l0_2)))) else (some (([] : List (List Int)), false)))) = some (r1, r2) := h
 clear h
 replace H := Option.bind_eq_some_iff.mp H
 obtain ⟨AS, BA, H⟩ := H
 replace H : (if AS = true then ((impl_copyBoard.f a0_0 a0_1 l0_2).bind fun bt341 => ((impl_groupNumbers.f k a0_0 a0_1 l0_2).bind fun Ad => ((impl_drop.f k bt341.1 bt341.2.1 bt341.2.2 Ad a1).bind fun bt349 => (impl_WayOf.l0 k (([] : List (List Int))) bt349.2.2.2.1 (bt349.2.2.2.1.length : Int) 0 a0_0 a0_1 l0_2)))) else (some (([] : List (List Int)), false))) = some (r1, r2) := H
 have A3 := Z.m BA
 clear BA
 by_cases c4 : AS = true
 ·subst c4
  have H1 : ((impl_copyBoard.f a0_0 a0_1 l0_2).bind fun bt341 => ((impl_groupNumbers.f k a0_0 a0_1 l0_2).bind fun Ad => ((impl_drop.f k bt341.1 bt341.2.1 bt341.2.2 Ad a1).bind fun bt349 => (impl_WayOf.l0 k (([] : List (List Int))) bt349.2.2.2.1 (bt349.2.2.2.1.length : Int) 0 a0_0 a0_1 l0_2)))) = some (r1, r2) := by rw [if_pos rfl] at H; exact H
  clear H
  have H := H1
  clear H1
  replace H := Option.bind_eq_some_iff.mp H
  obtain ⟨⟨Ao, Ap, Af⟩, BB, H⟩ := H
  replace H : ((impl_groupNumbers.f k a0_0 a0_1 l0_2).bind fun Ad => ((impl_drop.f k Ao Ap Af Ad a1).bind fun bt349 => (impl_WayOf.l0 k (([] : List (List Int))) bt349.2.2.2.1 (bt349.2.2.2.1.length : Int) 0 a0_0 a0_1 l0_2))) = some (r1, r2) := H
  have A5 := Z.m BB
  clear BB
  replace H := Option.bind_eq_some_iff.mp H
  obtain ⟨Ad, BC, H⟩ := H
  replace H : ((impl_drop.f k Ao Ap Af Ad a1).bind fun bt349 => (impl_WayOf.l0 k (([] : List (List Int))) bt349.2.2.2.1 (bt349.2.2.2.1.length : Int) 0 a0_0 a0_1 l0_2)) = some (r1, r2) := H
  have A6 := Z.m BC
  clear BC
  replace H := Option.bind_eq_some_iff.mp H
  obtain ⟨⟨Aw, Ax, Ay, Aa, AH⟩, BD, H⟩ := H
  replace H : (impl_WayOf.l0 k (([] : List (List Int))) Aa (Aa.length : Int) 0 a0_0 a0_1 l0_2) = some (r1, r2) := H
  have A7 := Z.m BD
  clear BD
  obtain ⟨Bd, AB⟩ : ∃ y_ : List (List Int), y_ = (([] : List (List Int))) := ⟨_, rfl⟩
  replace H : (impl_WayOf.l0 k Bd Aa (Aa.length : Int) 0 a0_0 a0_1 l0_2) = some (r1, r2) := by first | (rw [AB]; with_reducible exact H) | (have H2_ := (Option.bind_some _ _).symm.trans H; rw [AB]; with_reducible exact H2_) | (have H2_ := (Option.bind_some _ _).symm.trans H; with_reducible exact H2_) | with_reducible exact H | (rw [AB]; exact H) | exact H
  have AT := Z.m AB
  clear AB
  have H' := Z.m H
  clear H
  go_enter Try.func36, Try.ntmps36
  try go_wp2_with (first | ((with_reducible refine gq (N := 2) rfl ?_); refine be (N := 2) (cs := #[.int .i64 a0_0, .int .i64 a0_1, .slice A0_2 l0_2.length c0_2]) (t := 32) ?_; intro Ab hg w8 hbox hb; have A0 := Z.m (hbox); have AJ := gW (w := w) HB hg; have Az := AJ; replace HB := bB HB hb; clear hb hbox hg; have Bt := bc0 A0; have Bu := bc1 A0; have Bv := bc2 A0; have Bw := qz A0.o 0; have Bx := qz A0.o 1; have By := qz A0.o 2) | ((with_reducible refine gc (f := 53) rfl ?_); refine gA (some 13) _ #[.agg #[.int .i64 a0_0, .int .i64 a0_1, .slice A0_2 l0_2.length c0_2], .int .i64 a1] ?_ Try.func53; (with_reducible refine (impl_validEntry.calls k a0_0 a0_1 _ _ l0_2 a1 true _ ?side1 ?side2 A3.o).mono ?_); (case side1 => repeat (first | exact (Kd.C_below At.o HB.o) | (with_reducible refine Kd.C_alloc ?_ _) | (with_reducible refine Kd.C_drewN ?_ _) | (with_reducible refine Kd.C_drew ?_))); (case side2 => exact As.o); rintro e BU ⟨rfl, hb⟩; refine ⟨_, rfl, ?_⟩; replace A0 := kB A0 hb; replace HB := bB HB hb; (try clear hb); (try clear BL); (try clear hk); (try clear hi)))
  replace A0 := Z.m (blk_drew A0.o)
  replace HB := Z.m (qd HB.o)
  refine start_ (n := 12) (S := fun w' => w'.cell? ⟨Ab, 0, none⟩ = some (.int .i64 a0_0) ∧ w'.cell? ⟨Ab, 1, none⟩ = some (.int .i64 a0_1) ∧ w'.cell? ⟨Ab, 2, none⟩ = some (.slice A0_2 l0_2.length c0_2)) (ds := []) #[false, false, false, false, false, false, false, false, false, false, false, false] (by kernel_rfl) rfl rfl ⟨(ql A0.o 0).trans rfl, (ql A0.o 1).trans rfl, (ql A0.o 2).trans rfl⟩ (fun hHeld => ?_); refine with_tabW impl_WayOf.tab3 impl_WayOf.bits3 (fun HT_ HW_ => ?_)
  generalize BU.drew = BW at A0 HB hHeld ⊢
  refine pure_ (i := 4) (N := some 20) (v := ?_) (a' := ?_) #[false, false, false, false, true, false, false, false, false, false, false, false] rfl rfl (any_of HT_.o (by kernel_rfl)) (fun _ _ _ h => h) (Or.inl ⟨by rfl, ?_⟩) ?_ ?_
  rotate_left
  ·intro w'
   go_simp
   with_reducible rfl
  rotate_left
  ·simp only [Act.put, q1, q2, q3, i64_w, i32_w]
   rfl
  refine take_ (i := 0) (N := some 16) (v := ?_) (a' := ?_) #[true, false, false, false, true, false, false, false, false, false, false, false] rfl rfl (take_ofW HT_.o HW_.o (by kernel_rfl)) (fun _ _ _ h => h) (Or.inl ⟨by rfl, ?_⟩) hHeld ?_ ?_
  rotate_left
  ·rintro w' ⟨s0, s1, s2⟩
   go_simp
   with_reducible rfl
  rotate_left
  ·simp only [Act.put, q1, q2, q3, i64_w, i32_w]
   rfl
  refine take_ (i := 2) (N := some 18) (v := ?_) (a' := ?_) #[true, false, true, false, true, false, false, false, false, false, false, false] rfl rfl (take_ofW HT_.o HW_.o (by kernel_rfl)) (fun _ _ _ h => h) (Or.inl ⟨by rfl, ?_⟩) hHeld ?_ ?_
  rotate_left
  ·rintro w' ⟨s0, s1, s2⟩
   go_simp
   with_reducible rfl
  rotate_left
  ·simp only [Act.put, q1, q2, q3, i64_w, i32_w]
   rfl
  refine join_ (σ := Value × Value × Value × Nat) 2 #[true, true, true, true, true, true, true, true, true, true, false, false] (fun s_ => [(17, .agg #[.int .i64 Ao, .int .i64 Ap, s_.1]), (19, s_.2.1), (21, .tuple #[.agg #[.int .i64 Aw, .int .i64 Ax, .int .i64 Ay], s_.2.2.1]), (6, .pointer (some ⟨s_.2.2.2, 0, none⟩)), (15, .tuple #[.agg #[.int .i64 Aw, .int .i64 Ax, .int .i64 Ay], s_.2.2.1]), (22, .agg #[.int .i64 Aw, .int .i64 Ax, .int .i64 Ay]), (23, s_.2.2.1)]) (fun s_ w' => (w'.cell? ⟨Ab, 0, none⟩ = some (.int .i64 a0_0) ∧ w'.cell? ⟨Ab, 1, none⟩ = some (.int .i64 a0_1) ∧ w'.cell? ⟨Ab, 2, none⟩ = some (.slice A0_2 l0_2.length c0_2)) ∧ (Kd.R k89 89 w' w.heap.size (fun _ => True) s_.1 AH) ∧ (Kd.R (Kd.int .i64) 3 w' w.heap.size (fun k_ => some k_ ≠ (s_.2.2.1 : Value).ownBlock) s_.2.1 Ad) ∧ (Kd.R (Kd.int .i64) 3 w' w.heap.size (fun k_ => some k_ ≠ (s_.2.1 : Value).ownBlock) s_.2.2.1 Aa) ∧ (w'.heap[Ab]? = some (.cells #[.int .i64 a0_0, .int .i64 a0_1, .slice A0_2 l0_2.length c0_2] 32 (0, 0))) ∧ (w'.heap[s_.2.2.2]? = some (.cells #[.int .i64 0, .int .i64 0, .int .i64 0] 27 (0, 0))) ∧ (w.heap.size ≤ s_.2.2.2) ∧ (w.heap.size ≤ s_.2.2.2) ∧ (Ab ≠ s_.2.2.2) ∧ (s_.2.2.2 ≠ Ab) ∧ (Below w.heap.size w w')) ?_ ?_
  rotate_left
  ·intro hCont
   refine two_ (i := 1) (j := 9) (Ni := some 17) (Nj := some 6) #[true, true, true, false, true, false, false, false, false, false, false, false] #[true, false, true, false, true, false, false, false, false, true, false, false] rfl rfl rfl rfl (two_of HT_.o (by kernel_rfl)) (by decide) (by decide) (fun K hK => ?_) (fun K hK => ?_)
   ·skip
    refine goes_ Try.func55 (by kernel_rfl) rfl #[.agg #[.int .i64 a0_0, .int .i64 a0_1, .slice A0_2 l0_2.length c0_2]] (by rfl) rfl rfl (by (try simp only [List.map_toArray, List.map_cons, List.map_nil]); first | done | rfl | (simp only [List.length_drop, List.length_take]; rfl)) ?_
    with_reducible refine (impl_copyBoard.calls a0_0 a0_1 _ _ l0_2 Ao Ap Af _ ?side1 ?side2 A5.o).mono ?_
    (case side1 => repeat (first | exact (Kd.C_below At.o HB.o) | (with_reducible refine Kd.C_alloc ?_ _) | (with_reducible refine Kd.C_drewN ?_ _) | (with_reducible refine Kd.C_drew ?_)))
    (case side2 => exact As.o)
    rintro e BV ⟨AV, rfl, Al, hb⟩
    refine ⟨_, rfl, ?_⟩
    have A1 := Z.m (Kd.R_lower Al (below_size (vB HB)))
    replace A0 := kB A0 hb
    replace HB := bB HB hb
    (try clear hb); (try clear Al)
    refine hK.out _ _ ⟨(ql A0.o 0).trans rfl, (ql A0.o 1).trans rfl, (ql A0.o 2).trans rfl⟩ (fun hHeld => ?_)
    clear hK K
    refine norm_ (a' := ?_) ?_ ?_
    rotate_left
    ·show Act.put _ (some 17) _ = _
     simp only [Act.put, q1, q2, q3, i64_w, i32_w]
     rfl
    refine two_ (i := 3) (j := 9) (Ni := some 19) (Nj := some 6) #[true, true, true, true, true, false, false, false, false, false, false, false] #[true, true, true, false, true, false, false, false, false, true, false, false] rfl rfl rfl rfl (two_of HT_.o (by kernel_rfl)) (by decide) (by decide) (fun K hK => ?_) (fun K hK => ?_)
    ·skip
     refine goes_ Try.func56 (by kernel_rfl) rfl #[.agg #[.int .i64 a0_0, .int .i64 a0_1, .slice A0_2 l0_2.length c0_2]] (by rfl) rfl rfl (by (try simp only [List.map_toArray, List.map_cons, List.map_nil]); first | done | rfl | (simp only [List.length_drop, List.length_take]; rfl)) ?_
     with_reducible refine (impl_groupNumbers.calls k a0_0 a0_1 _ _ l0_2 Ad _ ?side1 ?side2 A6.o).mono ?_
     (case side1 => repeat (first | exact (Kd.C_below At.o HB.o) | (with_reducible refine Kd.C_alloc ?_ _) | (with_reducible refine Kd.C_drewN ?_ _) | (with_reducible refine Kd.C_drew ?_)))
     (case side2 => exact As.o)
     rintro e BJ ⟨AO, rfl, Al, hb⟩
     refine ⟨_, rfl, ?_⟩
     have A8 := Z.m (Kd.R_lower Al (below_size (vB HB)))
     replace A1 := Z.m (Kd.Rb (vR A1) hb)
     replace A0 := kB A0 hb
     replace HB := bB HB hb
     (try clear hb); (try clear Al)
     obtain ⟨AQ, AR, Bb⟩ := Kd.R_slice A1.o
     (first | subst Bb | (injection Bb with f1_ f2_ f3_; have f4_ := f1_.symm; have f5_ := f3_.symm; clear f1_ f2_ f3_; subst f4_; subst f5_))
     obtain ⟨Ah, Ai, Av⟩ := Kd.R_slice A8.o
     (first | subst Av | (injection Av with f1_ f2_ f3_; have f4_ := f1_.symm; have f5_ := f3_.symm; clear f1_ f2_ f3_; subst f4_; subst f5_))
     refine hK.out _ _ ⟨(ql A0.o 0).trans rfl, (ql A0.o 1).trans rfl, (ql A0.o 2).trans rfl⟩ (fun hHeld => ?_)
     clear hK K
     refine norm_ (a' := ?_) ?_ ?_
     rotate_left
     ·show Act.put _ (some 19) _ = _
      simp only [Act.put, q1, q2, q3, i64_w, i32_w]
      rfl
     refine two_ (i := 5) (j := 9) (Ni := some 21) (Nj := some 6) #[true, true, true, true, true, true, false, false, false, false, false, false] #[true, true, true, true, true, false, false, false, false, true, false, false] rfl rfl rfl rfl (two_of HT_.o (by kernel_rfl)) (by decide) (by decide) (fun K hK => ?_) (fun K hK => ?_)
     ·skip
      refine goes_ Try.func54 (by kernel_rfl) rfl #[.agg #[.int .i64 Ao, .int .i64 Ap, .slice AQ Af.length AR], .slice Ah Ad.length Ai, .int .i64 a1] (by rfl) rfl rfl (by (try simp only [List.map_toArray, List.map_cons, List.map_nil]); first | done | rfl | (simp only [List.length_drop, List.length_take]; rfl)) ?_
      with_reducible refine (impl_drop.calls k Ao Ap (fun k_ => some k_ = (.slice AQ Af.length AR : Value).ownBlock) (.slice AQ Af.length AR) Af _ _ Ad a1 Aw Ax Ay Aa AH w _ ?side1 ?side2 ?side3 ?side4 A7.o).mono ?_
      (case side1 => repeat (first | (with_reducible first | exact HB.o | apply qa | apply qn | apply qd | refine qx ?_ Az.o) | exact HB.o))
      (case side2 => exact Kd.Rg rfl A1.o)
      (case side3 => exact Kd.Ck ((Kd.Ra A8.o (Kd.Rt A1.o) (by decide))) (fun k_ hk_ hs_ => (hk_.2) hs_))
      (case side4 => exact (Kd.RrZ A8.o).2.1)
      rintro e BX ⟨Am, rfl, Al, AN, hb, hkp⟩
      refine ⟨_, rfl, ?_⟩
      have Ag := Z.m (Kd.Rm (ok' := fun k_ => some k_ ≠ (.slice Ah Ad.length Ai : Value).ownBlock) Al (fun k_ hk_ => Or.elim hk_ (fun hs_ => fun e_ => ((((Kd.Ra A8.o (Kd.Rt A1.o) (by decide))).1 k_ e_.symm).2) hs_) (fun hn_ => (Kd.fresh' (Kd.R_lt (vR A8)) k_ hn_))))
      replace A0 := Z.m (qk (vK A0) hkp (fun hs_ => (fun e_ => (Kd.R_ne A1.o A0.o (by decide)) e_) hs_))
      replace A8 := Z.m (Kd.Rm (ok' := fun k_ => some k_ ≠ (Am : Value).ownBlock) (Kd.Rk ((Kd.Ra A8.o (Kd.Rt A1.o) (by decide))) hkp (fun k_ hk_ hs_ => (hk_.2) hs_)) (fun k_ hk_ => fun e_ => Or.elim (Al.1 k_ e_.symm) (fun hs_ => hk_.2.1 hs_) (fun hn_ => Nat.not_le.2 hk_.2.2 hn_)))
      replace A1 := Z.m (Kd.Re rfl AN (fun k_ e_ => A1.o.1 k_ e_))
      replace HB := Z.m (hb)
      (try clear hb); (try clear hkp); (try clear Al); (try clear AN)
      refine hK.out _ _ ⟨(ql A0.o 0).trans rfl, (ql A0.o 1).trans rfl, (ql A0.o 2).trans rfl⟩ (fun hHeld => ?_)
      clear hK K
      refine norm_ (a' := ?_) ?_ ?_
      rotate_left
      ·show Act.put _ (some 21) _ = _
       simp only [Act.put, q1, q2, q3, i64_w, i32_w]
       rfl
      refine pure_ (i := 6) (N := some 15) (v := ?_) (a' := ?_) #[true, true, true, true, true, true, true, false, false, false, false, false] rfl rfl (any_of HT_.o (by kernel_rfl)) (fun _ _ _ h => h) (Or.inl ⟨by rfl, ?_⟩) ?_ ?_
      rotate_left
      ·intro w'
       go_simp
       with_reducible rfl
      rotate_left
      ·simp only [Act.put, q1, q2, q3, i64_w, i32_w]
       rfl
      refine pure_ (i := 7) (N := some 22) (v := ?_) (a' := ?_) #[true, true, true, true, true, true, true, true, false, false, false, false] rfl rfl (any_of HT_.o (by kernel_rfl)) (fun _ _ _ h => h) (Or.inl ⟨by rfl, ?_⟩) ?_ ?_
      rotate_left
      ·intro w'
       go_simp
       with_reducible rfl
      rotate_left
      ·simp only [Act.put, q1, q2, q3, i64_w, i32_w]
       rfl
      refine pure_ (i := 8) (N := some 23) (v := ?_) (a' := ?_) #[true, true, true, true, true, true, true, true, true, false, false, false] rfl rfl (any_of HT_.o (by kernel_rfl)) (fun _ _ _ h => h) (Or.inl ⟨by rfl, ?_⟩) ?_ ?_
      rotate_left
      ·intro w'
       go_simp
       with_reducible rfl
      rotate_left
      ·simp only [Act.put, q1, q2, q3, i64_w, i32_w]
       rfl
      refine one_ (i := 9) (N := some 6) #[true, true, true, true, true, true, true, true, true, true, false, false] rfl rfl (one_of HT_.o (by kernel_rfl)) (by decide) (fun K hK => ?_)
      refine box_step ?hg (N := 6) ?hd (cs := #[.int .i64 0, .int .i64 0, .int .i64 0]) (t := 27) ?hr ?_; (case hd => rfl); (case hg => rfl); (case hr => first | (go_simp; done) | (go_simp; rfl))
      intro Ae hg Bz hbox hb
      have A4 := Z.m (hbox)
      have Aq := gW (w := w) HB hg
      have Aj := gW (w := w) HB hg
      have A2 := neL A0 hg
      have A9 := neG A0 hg
      replace A1 := Z.m (Kd.Rb (vR A1) hb)
      replace A8 := Z.m (Kd.Rb (vR A8) hb)
      replace Ag := Z.m (Kd.Rb (vR Ag) hb)
      replace A0 := kB A0 hb
      replace HB := bB HB hb
      clear hb hbox hg
      refine hK.out _ _ ⟨(ql A0.o 0).trans rfl, (ql A0.o 1).trans rfl, (ql A0.o 2).trans rfl⟩ (fun hHeld => ?_)
      clear hK K
      refine norm_ (a' := ?_) ?_ ?_
      rotate_left
      ·show Act.put _ (some 6) _ = _
       simp only [Act.put, q1, q2, q3, i64_w, i32_w]
       rfl
      exact norm_ (by simp only [putAll, Act.put, q1, q2, q3]) (hCont (.slice AQ Af.length AR, .slice Ah Ad.length Ai, Am, Ae) _ ⟨hHeld, (vR A1), (vR A8), (vR Ag), (vK A0), (vK A4), Aq.o, Aj.o, A2.o, A9.o, (vB HB)⟩)
     ·skip
      refine box_step ?hg (N := 6) ?hd (cs := #[.int .i64 0, .int .i64 0, .int .i64 0]) (t := 27) ?hr ?_; (case hd => rfl); (case hg => rfl); (case hr => first | (go_simp; done) | (go_simp; rfl))
      intro Ae hg BK hbox hb
      have A4 := Z.m (hbox)
      have Aq := gW (w := w) HB hg
      have Aj := gW (w := w) HB hg
      have A2 := neL A0 hg
      have A9 := neG A0 hg
      replace A1 := Z.m (Kd.Rb (vR A1) hb)
      replace A8 := Z.m (Kd.Rb (vR A8) hb)
      replace A0 := kB A0 hb
      replace HB := bB HB hb
      clear hb hbox hg
      obtain ⟨Ah, Ai, Av⟩ := Kd.R_slice A1.o
      (first | subst Av | (injection Av with f1_ f2_ f3_; have f4_ := f1_.symm; have f5_ := f3_.symm; clear f1_ f2_ f3_; subst f4_; subst f5_))
      obtain ⟨Ar, Au, AA⟩ := Kd.R_slice A8.o
      (first | subst AA | (injection AA with f1_ f2_ f3_; have f4_ := f1_.symm; have f5_ := f3_.symm; clear f1_ f2_ f3_; subst f4_; subst f5_))
      refine hK.out _ _ ⟨(ql A0.o 0).trans rfl, (ql A0.o 1).trans rfl, (ql A0.o 2).trans rfl⟩ (fun hHeld => ?_)
      clear hK K
      refine norm_ (a' := ?_) ?_ ?_
      rotate_left
      ·show Act.put _ (some 6) _ = _
       simp only [Act.put, q1, q2, q3, i64_w, i32_w]
       rfl
      refine one_ (i := 5) (N := some 21) #[true, true, true, true, true, true, false, false, false, true, false, false] rfl rfl (one_of HT_.o (by kernel_rfl)) (by decide) (fun K hK => ?_)
      refine goes_ Try.func54 (by kernel_rfl) rfl #[.agg #[.int .i64 Ao, .int .i64 Ap, .slice Ah Af.length Ai], .slice Ar Ad.length Au, .int .i64 a1] (by rfl) rfl rfl (by (try simp only [List.map_toArray, List.map_cons, List.map_nil]); first | done | rfl | (simp only [List.length_drop, List.length_take]; rfl)) ?_
      with_reducible refine (impl_drop.calls k Ao Ap (fun k_ => some k_ = (.slice Ah Af.length Ai : Value).ownBlock) (.slice Ah Af.length Ai) Af _ _ Ad a1 Aw Ax Ay Aa AH w _ ?side1 ?side2 ?side3 ?side4 A7.o).mono ?_
      (case side1 => repeat (first | (with_reducible first | exact HB.o | apply qa | apply qn | apply qd | refine qx ?_ Az.o | refine qx ?_ Aj.o) | exact HB.o))
      (case side2 => exact Kd.Rg rfl A1.o)
      (case side3 => exact Kd.Ck ((Kd.Ra A8.o (Kd.Rt A1.o) (by decide))) (fun k_ hk_ hs_ => (hk_.2) hs_))
      (case side4 => exact (Kd.RrZ A8.o).2.1)
      rintro e Bz ⟨Am, rfl, Al, AN, hb, hkp⟩
      refine ⟨_, rfl, ?_⟩
      have Ag := Z.m (Kd.Rm (ok' := fun k_ => some k_ ≠ (.slice Ar Ad.length Au : Value).ownBlock) Al (fun k_ hk_ => Or.elim hk_ (fun hs_ => fun e_ => ((((Kd.Ra A8.o (Kd.Rt A1.o) (by decide))).1 k_ e_.symm).2) hs_) (fun hn_ => (Kd.fresh' (Kd.R_lt (vR A8)) k_ hn_))))
      replace A0 := Z.m (qk (vK A0) hkp (fun hs_ => (fun e_ => (Kd.R_ne A1.o A0.o (by decide)) e_) hs_))
      replace A8 := Z.m (Kd.Rm (ok' := fun k_ => some k_ ≠ (Am : Value).ownBlock) (Kd.Rk ((Kd.Ra A8.o (Kd.Rt A1.o) (by decide))) hkp (fun k_ hk_ hs_ => (hk_.2) hs_)) (fun k_ hk_ => fun e_ => Or.elim (Al.1 k_ e_.symm) (fun hs_ => hk_.2.1 hs_) (fun hn_ => Nat.not_le.2 hk_.2.2 hn_)))
      replace A4 := Z.m (qk (vK A4) hkp (fun hs_ => (fun e_ => (Kd.R_ne A1.o A4.o (by decide)) e_) hs_))
      replace A1 := Z.m (Kd.Re rfl AN (fun k_ e_ => A1.o.1 k_ e_))
      replace HB := Z.m (hb)
      (try clear hb); (try clear hkp); (try clear Al); (try clear AN)
      refine hK.out _ _ ⟨(ql A0.o 0).trans rfl, (ql A0.o 1).trans rfl, (ql A0.o 2).trans rfl⟩ (fun hHeld => ?_)
      clear hK K
      refine norm_ (a' := ?_) ?_ ?_
      rotate_left
      ·show Act.put _ (some 21) _ = _
       simp only [Act.put, q1, q2, q3, i64_w, i32_w]
       rfl
      refine pure_ (i := 6) (N := some 15) (v := ?_) (a' := ?_) #[true, true, true, true, true, true, true, false, false, true, false, false] rfl rfl (any_of HT_.o (by kernel_rfl)) (fun _ _ _ h => h) (Or.inl ⟨by rfl, ?_⟩) ?_ ?_
      rotate_left
      ·intro w'
       go_simp
       with_reducible rfl
      rotate_left
      ·simp only [Act.put, q1, q2, q3, i64_w, i32_w]
       rfl
      refine pure_ (i := 7) (N := some 22) (v := ?_) (a' := ?_) #[true, true, true, true, true, true, true, true, false, true, false, false] rfl rfl (any_of HT_.o (by kernel_rfl)) (fun _ _ _ h => h) (Or.inl ⟨by rfl, ?_⟩) ?_ ?_
      rotate_left
      ·intro w'
       go_simp
       with_reducible rfl
      rotate_left
      ·simp only [Act.put, q1, q2, q3, i64_w, i32_w]
       rfl
      refine pure_ (i := 8) (N := some 23) (v := ?_) (a' := ?_) #[true, true, true, true, true, true, true, true, true, true, false, false] rfl rfl (any_of HT_.o (by kernel_rfl)) (fun _ _ _ h => h) (Or.inl ⟨by rfl, ?_⟩) ?_ ?_
      rotate_left
      ·intro w'
       go_simp
       with_reducible rfl
      rotate_left
      ·simp only [Act.put, q1, q2, q3, i64_w, i32_w]
       rfl
      exact norm_ (by simp only [putAll, Act.put, q1, q2, q3]) (hCont (.slice Ah Af.length Ai, .slice Ar Ad.length Au, Am, Ae) _ ⟨hHeld, (vR A1), (vR A8), (vR Ag), (vK A0), (vK A4), Aq.o, Aj.o, A2.o, A9.o, (vB HB)⟩)
    ·skip
     refine box_step ?hg (N := 6) ?hd (cs := #[.int .i64 0, .int .i64 0, .int .i64 0]) (t := 27) ?hr ?_; (case hd => rfl); (case hg => rfl); (case hr => first | (go_simp; done) | (go_simp; rfl))
     intro Ae hg BJ hbox hb
     have A4 := Z.m (hbox)
     have Aq := gW (w := w) HB hg
     have Aj := gW (w := w) HB hg
     have A2 := neL A0 hg
     have A9 := neG A0 hg
     replace A1 := Z.m (Kd.Rb (vR A1) hb)
     replace A0 := kB A0 hb
     replace HB := bB HB hb
     clear hb hbox hg
     refine hK.out _ _ ⟨(ql A0.o 0).trans rfl, (ql A0.o 1).trans rfl, (ql A0.o 2).trans rfl⟩ (fun hHeld => ?_)
     clear hK K
     refine norm_ (a' := ?_) ?_ ?_
     rotate_left
     ·show Act.put _ (some 6) _ = _
      simp only [Act.put, q1, q2, q3, i64_w, i32_w]
      rfl
     refine one_ (i := 3) (N := some 19) #[true, true, true, true, true, false, false, false, false, true, false, false] rfl rfl (one_of HT_.o (by kernel_rfl)) (by decide) (fun K hK => ?_)
     refine goes_ Try.func56 (by kernel_rfl) rfl #[.agg #[.int .i64 a0_0, .int .i64 a0_1, .slice A0_2 l0_2.length c0_2]] (by rfl) rfl rfl (by (try simp only [List.map_toArray, List.map_cons, List.map_nil]); first | done | rfl | (simp only [List.length_drop, List.length_take]; rfl)) ?_
     with_reducible refine (impl_groupNumbers.calls k a0_0 a0_1 _ _ l0_2 Ad _ ?side1 ?side2 A6.o).mono ?_
     (case side1 => repeat (first | exact (Kd.C_below At.o HB.o) | (with_reducible refine Kd.C_alloc ?_ _) | (with_reducible refine Kd.C_drewN ?_ _) | (with_reducible refine Kd.C_drew ?_)))
     (case side2 => exact As.o)
     rintro e BK ⟨AO, rfl, Al, hb⟩
     refine ⟨_, rfl, ?_⟩
     have A8 := Z.m (Kd.R_lower Al (below_size (vB HB)))
     replace A1 := Z.m (Kd.Rb (vR A1) hb)
     replace A0 := kB A0 hb
     replace A4 := kB A4 hb
     replace HB := bB HB hb
     (try clear hb); (try clear Al)
     obtain ⟨Ah, Ai, Av⟩ := Kd.R_slice A1.o
     (first | subst Av | (injection Av with f1_ f2_ f3_; have f4_ := f1_.symm; have f5_ := f3_.symm; clear f1_ f2_ f3_; subst f4_; subst f5_))
     obtain ⟨Ar, Au, AA⟩ := Kd.R_slice A8.o
     (first | subst AA | (injection AA with f1_ f2_ f3_; have f4_ := f1_.symm; have f5_ := f3_.symm; clear f1_ f2_ f3_; subst f4_; subst f5_))
     refine hK.out _ _ ⟨(ql A0.o 0).trans rfl, (ql A0.o 1).trans rfl, (ql A0.o 2).trans rfl⟩ (fun hHeld => ?_)
     clear hK K
     refine norm_ (a' := ?_) ?_ ?_
     rotate_left
     ·show Act.put _ (some 19) _ = _
      simp only [Act.put, q1, q2, q3, i64_w, i32_w]
      rfl
     refine one_ (i := 5) (N := some 21) #[true, true, true, true, true, true, false, false, false, true, false, false] rfl rfl (one_of HT_.o (by kernel_rfl)) (by decide) (fun K hK => ?_)
     refine goes_ Try.func54 (by kernel_rfl) rfl #[.agg #[.int .i64 Ao, .int .i64 Ap, .slice Ah Af.length Ai], .slice Ar Ad.length Au, .int .i64 a1] (by rfl) rfl rfl (by (try simp only [List.map_toArray, List.map_cons, List.map_nil]); first | done | rfl | (simp only [List.length_drop, List.length_take]; rfl)) ?_
     with_reducible refine (impl_drop.calls k Ao Ap (fun k_ => some k_ = (.slice Ah Af.length Ai : Value).ownBlock) (.slice Ah Af.length Ai) Af _ _ Ad a1 Aw Ax Ay Aa AH w _ ?side1 ?side2 ?side3 ?side4 A7.o).mono ?_
     (case side1 => repeat (first | (with_reducible first | exact HB.o | apply qa | apply qn | apply qd | refine qx ?_ Az.o | refine qx ?_ Aj.o) | exact HB.o))
     (case side2 => exact Kd.Rg rfl A1.o)
     (case side3 => exact Kd.Ck ((Kd.Ra A8.o (Kd.Rt A1.o) (by decide))) (fun k_ hk_ hs_ => (hk_.2) hs_))
     (case side4 => exact (Kd.RrZ A8.o).2.1)
     rintro e Bz ⟨Am, rfl, Al, AN, hb, hkp⟩
     refine ⟨_, rfl, ?_⟩
     have Ag := Z.m (Kd.Rm (ok' := fun k_ => some k_ ≠ (.slice Ar Ad.length Au : Value).ownBlock) Al (fun k_ hk_ => Or.elim hk_ (fun hs_ => fun e_ => ((((Kd.Ra A8.o (Kd.Rt A1.o) (by decide))).1 k_ e_.symm).2) hs_) (fun hn_ => (Kd.fresh' (Kd.R_lt (vR A8)) k_ hn_))))
     replace A0 := Z.m (qk (vK A0) hkp (fun hs_ => (fun e_ => (Kd.R_ne A1.o A0.o (by decide)) e_) hs_))
     replace A4 := Z.m (qk (vK A4) hkp (fun hs_ => (fun e_ => (Kd.R_ne A1.o A4.o (by decide)) e_) hs_))
     replace A8 := Z.m (Kd.Rm (ok' := fun k_ => some k_ ≠ (Am : Value).ownBlock) (Kd.Rk ((Kd.Ra A8.o (Kd.Rt A1.o) (by decide))) hkp (fun k_ hk_ hs_ => (hk_.2) hs_)) (fun k_ hk_ => fun e_ => Or.elim (Al.1 k_ e_.symm) (fun hs_ => hk_.2.1 hs_) (fun hn_ => Nat.not_le.2 hk_.2.2 hn_)))
     replace A1 := Z.m (Kd.Re rfl AN (fun k_ e_ => A1.o.1 k_ e_))
     replace HB := Z.m (hb)
     (try clear hb); (try clear hkp); (try clear Al); (try clear AN)
     refine hK.out _ _ ⟨(ql A0.o 0).trans rfl, (ql A0.o 1).trans rfl, (ql A0.o 2).trans rfl⟩ (fun hHeld => ?_)
     clear hK K
     refine norm_ (a' := ?_) ?_ ?_
     rotate_left
     ·show Act.put _ (some 21) _ = _
      simp only [Act.put, q1, q2, q3, i64_w, i32_w]
      rfl
     refine pure_ (i := 6) (N := some 15) (v := ?_) (a' := ?_) #[true, true, true, true, true, true, true, false, false, true, false, false] rfl rfl (any_of HT_.o (by kernel_rfl)) (fun _ _ _ h => h) (Or.inl ⟨by rfl, ?_⟩) ?_ ?_
     rotate_left
     ·intro w'
      go_simp
      with_reducible rfl
     rotate_left
     ·simp only [Act.put, q1, q2, q3, i64_w, i32_w]
      rfl
     refine pure_ (i := 7) (N := some 22) (v := ?_) (a' := ?_) #[true, true, true, true, true, true, true, true, false, true, false, false] rfl rfl (any_of HT_.o (by kernel_rfl)) (fun _ _ _ h => h) (Or.inl ⟨by rfl, ?_⟩) ?_ ?_
     rotate_left
     ·intro w'
      go_simp
      with_reducible rfl
     rotate_left
     ·simp only [Act.put, q1, q2, q3, i64_w, i32_w]
      rfl
     refine pure_ (i := 8) (N := some 23) (v := ?_) (a' := ?_) #[true, true, true, true, true, true, true, true, true, true, false, false] rfl rfl (any_of HT_.o (by kernel_rfl)) (fun _ _ _ h => h) (Or.inl ⟨by rfl, ?_⟩) ?_ ?_
     rotate_left
     ·intro w'
      go_simp
      with_reducible rfl
     rotate_left
     ·simp only [Act.put, q1, q2, q3, i64_w, i32_w]
      rfl
     exact norm_ (by simp only [putAll, Act.put, q1, q2, q3]) (hCont (.slice Ah Af.length Ai, .slice Ar Ad.length Au, Am, Ae) _ ⟨hHeld, (vR A1), (vR A8), (vR Ag), (vK A0), (vK A4), Aq.o, Aj.o, A2.o, A9.o, (vB HB)⟩)
   ·skip
    refine box_step ?hg (N := 6) ?hd (cs := #[.int .i64 0, .int .i64 0, .int .i64 0]) (t := 27) ?hr ?_; (case hd => rfl); (case hg => rfl); (case hr => first | (go_simp; done) | (go_simp; rfl))
    intro Ae hg BV hbox hb
    have A4 := Z.m (hbox)
    have Aq := gW (w := w) HB hg
    have Aj := gW (w := w) HB hg
    have A2 := neL A0 hg
    have A9 := neG A0 hg
    replace A0 := kB A0 hb
    replace HB := bB HB hb
    clear hb hbox hg
    refine hK.out _ _ ⟨(ql A0.o 0).trans rfl, (ql A0.o 1).trans rfl, (ql A0.o 2).trans rfl⟩ (fun hHeld => ?_)
    clear hK K
    refine norm_ (a' := ?_) ?_ ?_
    rotate_left
    ·show Act.put _ (some 6) _ = _
     simp only [Act.put, q1, q2, q3, i64_w, i32_w]
     rfl
    refine one_ (i := 1) (N := some 17) #[true, true, true, false, true, false, false, false, false, true, false, false] rfl rfl (one_of HT_.o (by kernel_rfl)) (by decide) (fun K hK => ?_)
    refine goes_ Try.func55 (by kernel_rfl) rfl #[.agg #[.int .i64 a0_0, .int .i64 a0_1, .slice A0_2 l0_2.length c0_2]] (by rfl) rfl rfl (by (try simp only [List.map_toArray, List.map_cons, List.map_nil]); first | done | rfl | (simp only [List.length_drop, List.length_take]; rfl)) ?_
    with_reducible refine (impl_copyBoard.calls a0_0 a0_1 _ _ l0_2 Ao Ap Af _ ?side1 ?side2 A5.o).mono ?_
    (case side1 => repeat (first | exact (Kd.C_below At.o HB.o) | (with_reducible refine Kd.C_alloc ?_ _) | (with_reducible refine Kd.C_drewN ?_ _) | (with_reducible refine Kd.C_drew ?_)))
    (case side2 => exact As.o)
    rintro e BJ ⟨AV, rfl, Al, hb⟩
    refine ⟨_, rfl, ?_⟩
    have A1 := Z.m (Kd.R_lower Al (below_size (vB HB)))
    replace A0 := kB A0 hb
    replace A4 := kB A4 hb
    replace HB := bB HB hb
    (try clear hb); (try clear Al)
    refine hK.out _ _ ⟨(ql A0.o 0).trans rfl, (ql A0.o 1).trans rfl, (ql A0.o 2).trans rfl⟩ (fun hHeld => ?_)
    clear hK K
    refine norm_ (a' := ?_) ?_ ?_
    rotate_left
    ·show Act.put _ (some 17) _ = _
     simp only [Act.put, q1, q2, q3, i64_w, i32_w]
     rfl
    refine one_ (i := 3) (N := some 19) #[true, true, true, true, true, false, false, false, false, true, false, false] rfl rfl (one_of HT_.o (by kernel_rfl)) (by decide) (fun K hK => ?_)
    refine goes_ Try.func56 (by kernel_rfl) rfl #[.agg #[.int .i64 a0_0, .int .i64 a0_1, .slice A0_2 l0_2.length c0_2]] (by rfl) rfl rfl (by (try simp only [List.map_toArray, List.map_cons, List.map_nil]); first | done | rfl | (simp only [List.length_drop, List.length_take]; rfl)) ?_
    with_reducible refine (impl_groupNumbers.calls k a0_0 a0_1 _ _ l0_2 Ad _ ?side1 ?side2 A6.o).mono ?_
    (case side1 => repeat (first | exact (Kd.C_below At.o HB.o) | (with_reducible refine Kd.C_alloc ?_ _) | (with_reducible refine Kd.C_drewN ?_ _) | (with_reducible refine Kd.C_drew ?_)))
    (case side2 => exact As.o)
    rintro e BK ⟨AO, rfl, Al, hb⟩
    refine ⟨_, rfl, ?_⟩
    have A8 := Z.m (Kd.R_lower Al (below_size (vB HB)))
    replace A1 := Z.m (Kd.Rb (vR A1) hb)
    replace A0 := kB A0 hb
    replace A4 := kB A4 hb
    replace HB := bB HB hb
    (try clear hb); (try clear Al)
    obtain ⟨Ah, Ai, Av⟩ := Kd.R_slice A1.o
    (first | subst Av | (injection Av with f1_ f2_ f3_; have f4_ := f1_.symm; have f5_ := f3_.symm; clear f1_ f2_ f3_; subst f4_; subst f5_))
    obtain ⟨Ar, Au, AA⟩ := Kd.R_slice A8.o
    (first | subst AA | (injection AA with f1_ f2_ f3_; have f4_ := f1_.symm; have f5_ := f3_.symm; clear f1_ f2_ f3_; subst f4_; subst f5_))
    refine hK.out _ _ ⟨(ql A0.o 0).trans rfl, (ql A0.o 1).trans rfl, (ql A0.o 2).trans rfl⟩ (fun hHeld => ?_)
    clear hK K
    refine norm_ (a' := ?_) ?_ ?_
    rotate_left
    ·show Act.put _ (some 19) _ = _
     simp only [Act.put, q1, q2, q3, i64_w, i32_w]
     rfl
    refine one_ (i := 5) (N := some 21) #[true, true, true, true, true, true, false, false, false, true, false, false] rfl rfl (one_of HT_.o (by kernel_rfl)) (by decide) (fun K hK => ?_)
    refine goes_ Try.func54 (by kernel_rfl) rfl #[.agg #[.int .i64 Ao, .int .i64 Ap, .slice Ah Af.length Ai], .slice Ar Ad.length Au, .int .i64 a1] (by rfl) rfl rfl (by (try simp only [List.map_toArray, List.map_cons, List.map_nil]); first | done | rfl | (simp only [List.length_drop, List.length_take]; rfl)) ?_
    with_reducible refine (impl_drop.calls k Ao Ap (fun k_ => some k_ = (.slice Ah Af.length Ai : Value).ownBlock) (.slice Ah Af.length Ai) Af _ _ Ad a1 Aw Ax Ay Aa AH w _ ?side1 ?side2 ?side3 ?side4 A7.o).mono ?_
    (case side1 => repeat (first | (with_reducible first | exact HB.o | apply qa | apply qn | apply qd | refine qx ?_ Az.o | refine qx ?_ Aj.o) | exact HB.o))
    (case side2 => exact Kd.Rg rfl A1.o)
    (case side3 => exact Kd.Ck ((Kd.Ra A8.o (Kd.Rt A1.o) (by decide))) (fun k_ hk_ hs_ => (hk_.2) hs_))
    (case side4 => exact (Kd.RrZ A8.o).2.1)
    rintro e Bz ⟨Am, rfl, Al, AN, hb, hkp⟩
    refine ⟨_, rfl, ?_⟩
    have Ag := Z.m (Kd.Rm (ok' := fun k_ => some k_ ≠ (.slice Ar Ad.length Au : Value).ownBlock) Al (fun k_ hk_ => Or.elim hk_ (fun hs_ => fun e_ => ((((Kd.Ra A8.o (Kd.Rt A1.o) (by decide))).1 k_ e_.symm).2) hs_) (fun hn_ => (Kd.fresh' (Kd.R_lt (vR A8)) k_ hn_))))
    replace A0 := Z.m (qk (vK A0) hkp (fun hs_ => (fun e_ => (Kd.R_ne A1.o A0.o (by decide)) e_) hs_))
    replace A4 := Z.m (qk (vK A4) hkp (fun hs_ => (fun e_ => (Kd.R_ne A1.o A4.o (by decide)) e_) hs_))
    replace A8 := Z.m (Kd.Rm (ok' := fun k_ => some k_ ≠ (Am : Value).ownBlock) (Kd.Rk ((Kd.Ra A8.o (Kd.Rt A1.o) (by decide))) hkp (fun k_ hk_ hs_ => (hk_.2) hs_)) (fun k_ hk_ => fun e_ => Or.elim (Al.1 k_ e_.symm) (fun hs_ => hk_.2.1 hs_) (fun hn_ => Nat.not_le.2 hk_.2.2 hn_)))
    replace A1 := Z.m (Kd.Re rfl AN (fun k_ e_ => A1.o.1 k_ e_))
    replace HB := Z.m (hb)
    (try clear hb); (try clear hkp); (try clear Al); (try clear AN)
    refine hK.out _ _ ⟨(ql A0.o 0).trans rfl, (ql A0.o 1).trans rfl, (ql A0.o 2).trans rfl⟩ (fun hHeld => ?_)
    clear hK K
    refine norm_ (a' := ?_) ?_ ?_
    rotate_left
    ·show Act.put _ (some 21) _ = _
     simp only [Act.put, q1, q2, q3, i64_w, i32_w]
     rfl
    refine pure_ (i := 6) (N := some 15) (v := ?_) (a' := ?_) #[true, true, true, true, true, true, true, false, false, true, false, false] rfl rfl (any_of HT_.o (by kernel_rfl)) (fun _ _ _ h => h) (Or.inl ⟨by rfl, ?_⟩) ?_ ?_
    rotate_left
    ·intro w'
     go_simp
     with_reducible rfl
    rotate_left
    ·simp only [Act.put, q1, q2, q3, i64_w, i32_w]
     rfl
    refine pure_ (i := 7) (N := some 22) (v := ?_) (a' := ?_) #[true, true, true, true, true, true, true, true, false, true, false, false] rfl rfl (any_of HT_.o (by kernel_rfl)) (fun _ _ _ h => h) (Or.inl ⟨by rfl, ?_⟩) ?_ ?_
    rotate_left
    ·intro w'
     go_simp
     with_reducible rfl
    rotate_left
    ·simp only [Act.put, q1, q2, q3, i64_w, i32_w]
     rfl
    refine pure_ (i := 8) (N := some 23) (v := ?_) (a' := ?_) #[true, true, true, true, true, true, true, true, true, true, false, false] rfl rfl (any_of HT_.o (by kernel_rfl)) (fun _ _ _ h => h) (Or.inl ⟨by rfl, ?_⟩) ?_ ?_
    rotate_left
    ·intro w'
     go_simp
     with_reducible rfl
    rotate_left
    ·simp only [Act.put, q1, q2, q3, i64_w, i32_w]
     rfl
    exact norm_ (by simp only [putAll, Act.put, q1, q2, q3]) (hCont (.slice Ah Af.length Ai, .slice Ar Ad.length Au, Am, Ae) _ ⟨hHeld, (vR A1), (vR A8), (vR Ag), (vK A0), (vK A4), Aq.o, Aj.o, A2.o, A9.o, (vB HB)⟩)
  rintro ⟨AV, AO, Am, Ae⟩ AI ⟨hS_, h0_, h1_, h2_, h3_, h4_, h5_, h6_, h7_, h8_, h9_⟩
  have A1 : Z (Kd.R k89 89 AI w.heap.size (fun _ => True) AV AH) := ⟨h0_⟩
  have A8 : Z (Kd.R (Kd.int .i64) 3 AI w.heap.size (fun k_ => some k_ ≠ (Am : Value).ownBlock) AO Ad) := ⟨h1_⟩
  have Ag : Z (Kd.R (Kd.int .i64) 3 AI w.heap.size (fun k_ => some k_ ≠ (AO : Value).ownBlock) Am Aa) := ⟨h2_⟩
  have A4 : Z (AI.heap[Ae]? = some (.cells #[.int .i64 0, .int .i64 0, .int .i64 0] 27 (0, 0))) := ⟨h4_⟩
  have Aq : Z (w.heap.size ≤ Ae) := ⟨h5_⟩
  have Aj : Z (w.heap.size ≤ Ae) := ⟨h6_⟩
  have A2 : Z (Ab ≠ Ae) := ⟨h7_⟩
  have A9 : Z (Ae ≠ Ab) := ⟨h8_⟩
  replace A0 : Z (AI.heap[Ab]? = some (.cells #[.int .i64 a0_0, .int .i64 a0_1, .slice A0_2 l0_2.length c0_2] 32 (0, 0))) := ⟨h3_⟩
  replace HB : Z (Below w.heap.size w AI) := ⟨h9_⟩
  clear h0_ h1_ h2_ h3_ h4_ h5_ h6_ h7_ h8_ h9_
  have hHeld : AI.cell? ⟨Ab, 0, none⟩ = some (.int .i64 a0_0) ∧ AI.cell? ⟨Ab, 1, none⟩ = some (.int .i64 a0_1) ∧ AI.cell? ⟨Ab, 2, none⟩ = some (.slice A0_2 l0_2.length c0_2) := hS_
  refine norm_ (a' := ?_) ?_ ?_
  rotate_left
  ·simp only [putAll, Act.put, q1, q2, q3]
   rfl
  refine one_ (i := 10) (N := none) #[true, true, true, true, true, true, true, true, true, true, true, false] rfl rfl (one_of HT_.o (by kernel_rfl)) (by decide) (fun K hK => ?_)
  have BM : AI.cell? ⟨Ae, 0, none⟩ = some (.int .i64 0) := (ql A4.o 0).trans rfl
  have hfs19 := qz A4.o 0
  have Bo := A2.o
  have Bl := A9.o
  have BN : AI.cell? ⟨Ae, 1, none⟩ = some (.int .i64 0) := (ql A4.o 1).trans rfl
  have hfs20 := qz A4.o 1
  have Bp := A2.o
  have Bm := A9.o
  have BO : AI.cell? ⟨Ae, 2, none⟩ = some (.int .i64 0) := (ql A4.o 2).trans rfl
  have hfs21 := qz A4.o 2
  have Bq := A2.o
  have Bn := A9.o
  refine skip_ (w1 := ?_) ?hwx ?hnx ?_ ?_; (case hwx => rfl); (case hnx => rfl)
  rotate_left
  ·go_simp
   rfl
  refine hK.out _ _ ⟨(cx A2.o ((cx A2.o ((cx A2.o (hHeld.1)))))), (cx A2.o ((cx A2.o ((cx A2.o (hHeld.2.1)))))), (cx A2.o ((cx A2.o ((cx A2.o (hHeld.2.2))))))⟩ (fun hHeld => ?_)
  clear hK K
  refine pure_ (i := 11) (N := some 7) (v := ?_) (a' := ?_) #[true, true, true, true, true, true, true, true, true, true, true, true] rfl rfl (any_of HT_.o (by kernel_rfl)) (fun _ _ _ h => h) (Or.inl ⟨by rfl, ?_⟩) ?_ ?_
  rotate_left
  ·intro w'
   go_simp
   with_reducible rfl
  rotate_left
  ·simp only [Act.put, q1, q2, q3, i64_w, i32_w]
   rfl
  refine done_ (done_of HT_.o (by kernel_rfl)) ?_
  try go_wp2_with (first | ((with_reducible refine gq (N := 24) rfl ?_); refine Kd.S_lit (Kd.slice 3 (Kd.int .i64)) _ 43 ?hg (N := 24) ?hd (xs := ([] : List (List Int))) (inner := []) (ok := fun _ => True) (okp := fun _ => True) ?hr ?hp (fun _ hk => hk) trivial (Below.refl _ _) (Nat.le_refl _) (by simp) ?_; (case hd => rfl); (case hg => rfl); (case hr => first | (go_simp; done) | (go_simp; rfl)); (case hp => exact (Reps.none _ _)); intro BR BY AM hb hg_ hnew_; clear hg_ hnew_; (first | rw [← AT.o] at AM | (simp only [Int.reduceToNat] at AM; rw [← AT.o] at AM)); have AY := Z.m (Kd.S_lower (Kd.S_new' (Kd.S_new' AM (Kd.R_lt (by refine rK ?_; exact (Kd.Rm (rf (rf (rf (Kd.Ry A8.o A4.o (by decide))))) (fun _ h_ => h_.1))))) (Kd.R_lt (by refine rK ?_; exact (Kd.Rm (rf (rf (rf (Kd.Ry Ag.o A4.o (by decide))))) (fun _ h_ => h_.1))))) (below_size (vB HB))); replace A1 := Z.m (Kd.Rb (by refine rK ?_; exact (Kd.Rm (rf (rf (rf (Kd.Ry A1.o A4.o (by decide))))) (fun _ h_ => h_.1))) hb); replace A8 := Z.m (Kd.Rb (by refine rK ?_; exact (Kd.Rm (rf (rf (rf (Kd.Ry A8.o A4.o (by decide))))) (fun _ h_ => h_.1))) hb); replace Ag := Z.m (Kd.Rb (by refine rK ?_; exact (Kd.Rm (rf (rf (rf (Kd.Ry Ag.o A4.o (by decide))))) (fun _ h_ => h_.1))) hb); replace A0 := Z.m (qb (g := Ab) (o := .cells #[.int .i64 a0_0, .int .i64 a0_1, .slice A0_2 l0_2.length c0_2] 32 (0, 0)) (by refine bK ?_; (iterate 3 refine qF ?_ A2); exact A0.o) hb); replace A4 := Z.m (qb (g := Ae) (o := .cells #[.int .i64 Aw, .int .i64 Ax, .int .i64 Ay] 27 (0, 0)) (by refine bK ?_; apply st3; refine bK ?_; exact A4.o) hb); replace HB := bB HB hb; clear hb AM; obtain ⟨AW, AL, Bs⟩ := Kd.R_slice Ag.o; subst Bs))
  go_loopg [8, 27] k (fun kq v8 v27 w' => ∃ (AE : List (List Int)) (Ac : Int), v27 = .int .i64 Ac ∧ Z (impl_WayOf.l0 kq AE Aa (Aa.length : Int) Ac a0_0 a0_1 l0_2 = some (r1, r2)) ∧ Z (kq ≤ k) ∧ Z (Kd.S (Kd.slice 3 (Kd.int .i64)) 43 w' w.heap.size (fun k_ => some k_ ≠ ((.slice AW Aa.length AL) : Value).ownBlock) v8 AE) ∧ Z (Kd.R (Kd.int .i64) 3 w' w.heap.size (fun _ => True) (.slice AW Aa.length AL) Aa) ∧ Z (w'.heap[Ab]? = some (.cells #[.int .i64 a0_0, .int .i64 a0_1, (.slice A0_2 l0_2.length c0_2)] 32 (0, 0))) ∧ Z (w'.heap[Ae]? = some (.cells #[.int .i64 Aw, .int .i64 Ax, .int .i64 Ay] 27 (0, 0))) ∧ Z (Below w.heap.size w w'))
  case atStart => exact ⟨(Bd), (0), (by first | rfl | (simp; done) | (simp [*]; done)), H', ⟨Nat.le_refl _⟩, ⟨by (with_reducible repeat (first | apply Kd.S_alloc | apply Kd.S_drewN | apply Kd.S_drew)); exact Kd.S_mono AY.o (fun _ hk => hk.2)⟩, ⟨by refine rK ?_; exact Kd.Rm Ag.o (fun _ hk => trivial)⟩, ⟨vK A0⟩, ⟨vK A4⟩, ⟨vB HB⟩⟩
  case round =>
   clear H'
   obtain ⟨AE, Ac, rfl, HA, BE, An, Ak, A0, A4, HB⟩ := hrel
   cases gk with
   | zero => exact absurd HA.o (by simp [impl_WayOf.l0])
   | succ k1 =>
    have H := HA.o
    clear HA
    simp only [impl_WayOf.l0] at H
    by_cases c25 : Ac < (Aa.length : Int)
    ·rw [if_pos c25] at H
     have B7 := decide_eq_true c25
     clear c25
     by_cases c26 : 0 ≤ Ac
     ·rw [if_pos c26] at H
      have BF := decide_eq_true c26
      clear c26
      by_cases c27 : Ac < (Aa.length : Int)
      ·rw [if_pos c27] at H
       have BG := decide_eq_true c27
       clear c27
       by_cases c28 : a0_1 = 0
       ·rw [if_pos c28] at H
        exact absurd H (by simp)
       ·rw [if_neg c28] at H
        have BH := beq_eq_false_iff_ne.mpr c28
        have BI := bne_iff_ne.mpr c28
        obtain ⟨AP, AC⟩ : ∃ y_ : List Int, y_ = (([wrap64 (Int.tdiv (rd Aa Ac) a0_1), Int.tmod (rd Aa Ac) a0_1] : List Int)) := ⟨_, rfl⟩
        replace H : (if AE.length < 5864062014805 then (impl_WayOf.l0 k1 (AE ++ [AP]) Aa (Aa.length : Int) (wrap64 (Ac + 1)) a0_0 a0_1 l0_2) else (none)) = some (r1, r2) := by first | (rw [AC]; with_reducible exact H) | (have H2_ := (Option.bind_some _ _).symm.trans H; rw [AC]; with_reducible exact H2_) | (have H2_ := (Option.bind_some _ _).symm.trans H; with_reducible exact H2_) | with_reducible exact H | (rw [AC]; exact H) | exact H
        have AU := Z.m AC
        clear AC
        by_cases c29 : AE.length < 5864062014805
        ·rw [if_pos c29] at H
         have B0 := Z.m c29
         clear c29
         obtain ⟨Be, AD⟩ : ∃ y_ : List (List Int), y_ = (AE ++ [AP]) := ⟨_, rfl⟩
         replace H : (impl_WayOf.l0 k1 Be Aa (Aa.length : Int) (wrap64 (Ac + 1)) a0_0 a0_1 l0_2) = some (r1, r2) := by first | (rw [AD]; with_reducible exact H) | (have H2_ := (Option.bind_some _ _).symm.trans H; rw [AD]; with_reducible exact H2_) | (have H2_ := (Option.bind_some _ _).symm.trans H; with_reducible exact H2_) | with_reducible exact H | (rw [AD]; exact H) | exact H
         have B2 := Z.m AD
         clear AD
         have H' := Z.m H
         clear H
         have p360 : 0 ≤ (Ac : Int) := ofD
         have q360 : Ac < (Aa.length : Int) := ofD
         obtain ⟨AK, e360, Br⟩ := Kd.at_int (Kd.RrZ Ak.o).2.2 Ac p360 q360
         cases e360
         replace p360 := eq_true p360
         replace q360 := eq_true q360
         try go_wp2
         replace An := Z.m (Kd.S_drew An.o)
         replace Ak := Z.m (Kd.R_drew Ak.o)
         replace A0 := Z.m (blk_drew A0.o)
         replace A4 := Z.m (blk_drew A4.o)
         replace HB := Z.m (qd HB.o)
         refine start_ (n := 13) (S := fun w' => w'.cell? ⟨Ab, 0, none⟩ = some (.int .i64 a0_0) ∧ w'.cell? ⟨Ab, 1, none⟩ = some (.int .i64 a0_1) ∧ w'.cell? ⟨Ab, 2, none⟩ = some (.slice A0_2 l0_2.length c0_2)) (ds := []) #[false, false, false, false, false, false, false, false, false, false, false, false, false] (by kernel_rfl) rfl rfl ⟨(ql A0.o 0).trans rfl, (ql A0.o 1).trans rfl, (ql A0.o 2).trans rfl⟩ (fun hHeld => ?_); refine with_tabW impl_WayOf.tab8 impl_WayOf.bits8 (fun HT_ HW_ => ?_)
         generalize wr.drew = BZ at An Ak A0 A4 HB hHeld ⊢
         refine pure_ (i := 0) (N := some 31) (v := ?_) (a' := ?_) #[true, false, false, false, false, false, false, false, false, false, false, false, false] rfl rfl (any_of HT_.o (by kernel_rfl)) (fun _ _ _ h => h) (Or.inl ⟨by rfl, ?_⟩) ?_ ?_
         rotate_left
         ·intro w'
          go_simp
          with_reducible rfl
         rotate_left
         ·simp only [Act.put, q1, q2, q3, i64_w, i32_w]
          rfl
         refine pure_ (i := 1) (N := some 32) (v := ?_) (a' := ?_) #[true, true, false, false, false, false, false, false, false, false, false, false, false] rfl rfl (any_of HT_.o (by kernel_rfl)) (fun _ _ _ h => h) (Or.inl ⟨by rfl, ?_⟩) ?_ ?_
         rotate_left
         ·intro w'
          go_simp
          with_reducible rfl
         rotate_left
         ·simp only [Act.put, q1, q2, q3, i64_w, i32_w]
          rfl
         refine pure_ (i := 2) (N := some 33) (v := ?_) (a' := ?_) #[true, true, true, false, false, false, false, false, false, false, false, false, false] rfl rfl (any_of HT_.o (by kernel_rfl)) (fun _ _ _ h => h) (Or.inl ⟨by rfl, ?_⟩) ?_ ?_
         rotate_left
         ·intro w'
          go_simp
          with_reducible rfl
         rotate_left
         ·simp only [Act.put, q1, q2, q3, i64_w, i32_w]
          rfl
         refine pure_ (i := 5) (N := some 36) (v := ?_) (a' := ?_) #[true, true, true, false, false, true, false, false, false, false, false, false, false] rfl rfl (any_of HT_.o (by kernel_rfl)) (fun _ _ _ h => h) (Or.inl ⟨by rfl, ?_⟩) ?_ ?_
         rotate_left
         ·intro w'
          go_simp
          with_reducible rfl
         rotate_left
         ·simp only [Act.put, q1, q2, q3, i64_w, i32_w]
          rfl
         refine pure_ (i := 6) (N := some 37) (v := ?_) (a' := ?_) #[true, true, true, false, false, true, true, false, false, false, false, false, false] rfl rfl (any_of HT_.o (by kernel_rfl)) (fun _ _ _ h => h) (Or.inl ⟨by rfl, ?_⟩) ?_ ?_
         rotate_left
         ·intro w'
          go_simp
          with_reducible rfl
         rotate_left
         ·simp only [Act.put, q1, q2, q3, i64_w, i32_w]
          rfl
         refine take_ (i := 3) (N := some 34) (v := ?_) (a' := ?_) #[true, true, true, true, false, true, true, false, false, false, false, false, false] rfl rfl (take_ofW HT_.o HW_.o (by kernel_rfl)) (fun _ _ _ h => h) (Or.inl ⟨by rfl, ?_⟩) hHeld ?_ ?_
         rotate_left
         ·rintro w' ⟨s0, s1, s2⟩
          go_simp
          with_reducible rfl
         rotate_left
         ·simp only [Act.put, q1, q2, q3, i64_w, i32_w]
          rfl
         refine pure_ (i := 4) (N := some 35) (v := ?_) (a' := ?_) #[true, true, true, true, true, true, true, false, false, false, false, false, false] rfl rfl (any_of HT_.o (by kernel_rfl)) (fun _ _ _ h => h) (Or.inl ⟨by rfl, ?_⟩) ?_ ?_
         rotate_left
         ·intro w'
          go_simp
          with_reducible rfl
         rotate_left
         ·simp only [Act.put, q1, q2, q3, i64_w, i32_w]
          rfl
         refine take_ (i := 7) (N := some 38) (v := ?_) (a' := ?_) #[true, true, true, true, true, true, true, true, false, false, false, false, false] rfl rfl (take_ofW HT_.o HW_.o (by kernel_rfl)) (fun _ _ _ h => h) (Or.inl ⟨by rfl, ?_⟩) hHeld ?_ ?_
         rotate_left
         ·rintro w' ⟨s0, s1, s2⟩
          go_simp
          with_reducible rfl
         rotate_left
         ·simp only [Act.put, q1, q2, q3, i64_w, i32_w]
          rfl
         refine pure_ (i := 8) (N := some 39) (v := ?_) (a' := ?_) #[true, true, true, true, true, true, true, true, true, false, false, false, false] rfl rfl (any_of HT_.o (by kernel_rfl)) (fun _ _ _ h => h) (Or.inl ⟨by rfl, ?_⟩) ?_ ?_
         rotate_left
         ·intro w'
          go_simp
          with_reducible rfl
         rotate_left
         ·simp only [Act.put, q1, q2, q3, i64_w, i32_w]
          rfl
         refine one_ (i := 9) (N := some 40) #[true, true, true, true, true, true, true, true, true, true, false, false, false] rfl rfl (one_of HT_.o (by kernel_rfl)) (by decide) (fun K hK => ?_)
         refine Kd.R_lit_step (Kd.int .i64) _ 3 ?hg (N := 40) ?hd (xs := ([wrap64 (Int.tdiv (rd Aa Ac) a0_1), Int.tmod (rd Aa Ac) a0_1] : List Int)) (inner := [.int .i64 (wrap64 (Int.tdiv (rd Aa Ac) a0_1)), .int .i64 (Int.tmod (rd Aa Ac) a0_1)]) (ok := fun _ => True) (okp := fun _ => True) ?hr ?hp (fun _ hk => hk) trivial (Below.refl _ _) (Nat.le_refl _) (by simp) ?_; (case hd => rfl); (case hg => rfl); (case hr => first | (go_simp; done) | (go_simp; rfl)); (case hp => exact (Reps.one (show Kd.M (Kd.int .i64) _ _ _ (wrap64 (Int.tdiv (rd Aa Ac) a0_1)) [.int .i64 (wrap64 (Int.tdiv (rd Aa Ac) a0_1))] from rfl) (Reps.one (show Kd.M (Kd.int .i64) _ _ _ (Int.tmod (rd Aa Ac) a0_1) [.int .i64 (Int.tmod (rd Aa Ac) a0_1)] from rfl) (Reps.none _ _))))
         intro BS C0 AF hb hg_ hnew_
         clear hg_ hnew_
         (first | rw [← AU.o] at AF | (simp only [Int.reduceToNat] at AF; rw [← AU.o] at AF))
         have AG := Z.m (Kd.R_lower (Kd.R_new' AF (Kd.R_lt (vR Ak))) (below_size (vB HB)))
         replace An := Z.m (Kd.S_elder' (vS An) (Kd.R_base AF) hb)
         replace Ak := Z.m (Kd.R_elder' (vR Ak) (Kd.R_base AF) hb)
         replace A0 := kB A0 hb
         replace A4 := kB A4 hb
         replace HB := bB HB hb
         clear hb AF
         obtain ⟨AX, Ba, Bc⟩ := Kd.R_slice AG.o
         (first | subst Bc | (injection Bc with f1_ f2_ f3_; have f4_ := f1_.symm; have f5_ := f3_.symm; clear f1_ f2_ f3_; subst f4_; subst f5_))
         refine hK.out _ _ ⟨(ql A0.o 0).trans rfl, (ql A0.o 1).trans rfl, (ql A0.o 2).trans rfl⟩ (fun hHeld => ?_)
         clear hK K
         refine norm_ (a' := ?_) ?_ ?_
         rotate_left
         ·show Act.put _ (some 40) _ = _
          simp only [Act.put, q1, q2, q3, i64_w, i32_w]
          rfl
         refine one_ (i := 10) (N := some 41) #[true, true, true, true, true, true, true, true, true, true, true, false, false] rfl rfl (one_of HT_.o (by kernel_rfl)) (by decide) (fun K hK => ?_)
         refine value_ (w1 := ?_) (v := ?_) (by rfl) rfl ?_ ?_
         rotate_left 2
         ·go_simp
          constructor
          ·rfl
          ·rfl
         refine hK.out _ _ ⟨(ql (blk_alloc A0.o _) 0).trans rfl, (ql (blk_alloc A0.o _) 1).trans rfl, (ql (blk_alloc A0.o _) 2).trans rfl⟩ (fun hHeld => ?_)
         clear hK K
         refine norm_ (a' := ?_) ?_ ?_
         rotate_left
         ·show Act.put _ (some 41) _ = _
          simp only [Act.put, q1, q2, q3, i64_w, i32_w]
          rfl
         refine one_ (i := 11) (N := some 42) #[true, true, true, true, true, true, true, true, true, true, true, true, false] rfl rfl (one_of HT_.o (by kernel_rfl)) (by decide) (fun K hK => ?_)
         refine Kd.S_append_step (Kd.slice 3 (Kd.int .i64)) (w0 := w) w.heap.size (by rfl) (.tmp 31) (.tmp 41) 54 43 (.slice none 0 0) 24 rfl Try.underlying54 info43 rfl (by decide) (by omega) u8 AE AP [.slice AX AP.length Ba] (fun k_ => some k_ ≠ (.slice (some AK) Aa.length AL : Value).ownBlock) (fun k_ => some k_ = (.slice AX AP.length Ba : Value).ownBlock) rfl rfl ?aP (fun k_ hk_ => ((Kd.Rm (ok' := fun k_ => ((fun k_ => some k_ ≠ (.slice (some AK) Aa.length AL : Value).ownBlock)) k_ ∧ some k_ ≠ (u8 : Value).ownBlock) (Kd.Ra (AG.o) (Kd.S_typed An.o) (by decide)) (fun k_ hk => ⟨hk.1.2, hk.2⟩))).1 k_ hk_.symm) ?aF ?aO ?aB ?aS ?aL ?_
         (case aP => exact Kd.M_row (Kd.Rm (Kd.Rg rfl (Kd.Rm (ok' := fun k_ => ((fun k_ => some k_ ≠ (.slice (some AK) Aa.length AL : Value).ownBlock)) k_ ∧ some k_ ≠ (u8 : Value).ownBlock) (Kd.Ra (AG.o) (Kd.S_typed An.o) (by decide)) (fun k_ hk => ⟨hk.1.2, hk.2⟩))) (fun _ h_ => h_)))
         (case aB => exact (vB HB))
         (case aF => exact (fun k_ hk => Kd.fresh' (Kd.R_lt (vR Ak)) k_ hk))
         (case aO => exact (by (with_reducible repeat (first | apply Kd.S_alloc | apply Kd.S_drewN | apply Kd.S_drew)); exact Kd.S_mono An.o (fun k_ hk => ⟨hk.1, fun e_ => hk.2 e_⟩)))
         (case aS => exact (below_size (vB HB)))
         (case aL => have := B0.o; omega)
         intro BT C1 ho hb hg hat
         rw [← B2.o] at ho
         have AZ := Z.m (ho)
         replace Ak := Z.m (Kd.Ro (vR Ak) (Kd.S_typed (vS An)) (by decide) hg)
         replace A0 := Z.m (qg (g := Ab) (o := .cells #[.int .i64 a0_0, .int .i64 a0_1, .slice A0_2 l0_2.length c0_2] 32 (0, 0)) (vK A0) hg (Kd.S_ne An.o A0.o (by decide)))
         replace A4 := Z.m (qg (g := Ae) (o := .cells #[.int .i64 Aw, .int .i64 Ax, .int .i64 Ay] 27 (0, 0)) (vK A4) hg (Kd.S_ne An.o A4.o (by decide)))
         replace HB := Z.m (hb)
         clear An AG
         clear ho hb hg hat
         refine hK.out _ _ ⟨(ql A0.o 0).trans rfl, (ql A0.o 1).trans rfl, (ql A0.o 2).trans rfl⟩ (fun hHeld => ?_)
         clear hK K
         refine norm_ (a' := ?_) ?_ ?_
         rotate_left
         ·show Act.put _ (some 42) _ = _
          simp only [Act.put, q1, q2, q3, i64_w, i32_w]
          rfl
         refine pure_ (i := 12) (N := some 8) (v := ?_) (a' := ?_) #[true, true, true, true, true, true, true, true, true, true, true, true, true] rfl rfl (any_of HT_.o (by kernel_rfl)) (fun _ _ _ h => h) (Or.inl ⟨by rfl, ?_⟩) ?_ ?_
         rotate_left
         ·intro w'
          go_simp
          with_reducible rfl
         rotate_left
         ·simp only [Act.put, q1, q2, q3, i64_w, i32_w]
          rfl
         refine done_ (done_of HT_.o (by kernel_rfl)) ?_
         try go_wp2
         go_roundg k1
         case measure => have := BE.o; omega
         case rel => exact ⟨(Be), (wrap64 (Ac + 1)), (by first | rfl | (simp; done) | (simp [*]; done)), H', ⟨by have := BE.o; omega⟩, ⟨vS AZ⟩, ⟨by refine rK ?_; exact Kd.Rm Ak.o (fun _ hk => trivial)⟩, ⟨vK A0⟩, ⟨vK A4⟩, ⟨vB HB⟩⟩
        ·rw [if_neg c29] at H
         exact absurd H (by simp)
      ·rw [if_neg c27] at H
       exact absurd H (by simp)
     ·rw [if_neg c26] at H
      exact absurd H (by simp)
    ·rw [if_neg c25] at H
     have B7 := decide_eq_false c25
     clear c25
     simp only [Option.some.injEq, Prod.mk.injEq] at H
     obtain ⟨rfl, rfl⟩ := H
     go_wp2
     go_ret2
     exact ⟨_, by first | rfl | (simp [eN, eS] <;> rfl) | (simp [*, eN, eS] <;> rfl), by (with_reducible repeat (first | apply Kd.S_alloc | apply Kd.S_drewN | apply Kd.S_drew)); exact Kd.S_mono An.o (fun _ hk => trivial), vB HB⟩
 ·replace c4 := Bool.eq_false_iff.mpr c4
  subst c4
  have H1 : (some (([] : List (List Int)), false)) = some (r1, r2) := by rw [if_neg (show ¬ (false = true) by decide)] at H; exact H
  clear H
  have H := H1
  clear H1
  simp only [Option.some.injEq, Prod.mk.injEq] at H
  obtain ⟨rfl, rfl⟩ := H
  go_enter Try.func36, Try.ntmps36
  go_wp2_with (first | ((with_reducible refine gq (N := 2) rfl ?_); refine be (N := 2) (cs := #[.int .i64 a0_0, .int .i64 a0_1, .slice A0_2 l0_2.length c0_2]) (t := 32) ?_; intro Ab hg C2 hbox hb; have A0 := Z.m (hbox); have AJ := gW (w := w) HB hg; have Az := AJ; replace HB := bB HB hb; clear hb hbox hg; have Bf := bc0 A0; have Bg := bc1 A0; have Bh := bc2 A0; have Bi := qz A0.o 0; have Bj := qz A0.o 1; have Bk := qz A0.o 2) | ((with_reducible refine gc (f := 53) rfl ?_); refine gA (some 13) _ #[.agg #[.int .i64 a0_0, .int .i64 a0_1, .slice A0_2 l0_2.length c0_2], .int .i64 a1] ?_ Try.func53; (with_reducible refine (impl_validEntry.calls k a0_0 a0_1 _ _ l0_2 a1 false _ ?side1 ?side2 A3.o).mono ?_); (case side1 => repeat (first | exact (Kd.C_below At.o HB.o) | (with_reducible refine Kd.C_alloc ?_ _) | (with_reducible refine Kd.C_drewN ?_ _) | (with_reducible refine Kd.C_drew ?_))); (case side2 => exact As.o); rintro e C3 ⟨rfl, hb⟩; refine ⟨_, rfl, ?_⟩; replace A0 := kB A0 hb; replace HB := bB HB hb; (try clear hb); (try clear BL); (try clear hk); (try clear hi)))
  go_ret2
  exact ⟨_, by first | rfl | (simp [eN, eS] <;> rfl) | (simp [*, eN, eS] <;> rfl), by first | exact Kd.S_nil _ _ _ _ _ | exact Kd.N_nil _ _ _ _ _ | exact Kd.V_nil _ _ _ _ _ | exact Kd.Q_nil _ _ _ _ _ | exact Kd.R_nil _ _ _ _ _, vB HB⟩

end Go.Proofs.Ytoklfgjemfojgaa.PAll
