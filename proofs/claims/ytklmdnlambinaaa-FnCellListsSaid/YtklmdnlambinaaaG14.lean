/- Began as a text that print.sh wrote (of the functions named below); turned and shortened by this session. -/
import Derived.Test.YtklmdnlambinaaaG0
import Derived.Test.YtklmdnlambinaaaG1
import Derived.Test.YtklmdnlambinaaaG2
import Derived.Test.YtklmdnlambinaaaG4
namespace Go.Proofs.Ytklmdnlambinaaa.PAll
open Go.RowKit Go.Proofs.YtklmdnlambinaaaW.PrintWords Go.Proofs.YtklmdnlambinaaaW.PrintLast Go.Proofs.YtklmdnlambinaaaW.PrintMore
attribute [local go_sem] max2_int min2_int max_two min_two max_three min_three max_four min_four   -- for this text's walks alone
set_option linter.unusedVariables false
set_option linter.unusedSimpArgs false

/-! ### spec_l1Cur_one: function 54 -/
def spec_l1Cur_one.f (s0_0 : List Int) (s0_1 : Int) (s0_2 : Int) (a1 : Int) : Option (Bool × Int × Int) := (spec_l1Cur_pick.f s0_0 s0_1 s0_2 a1).bind fun bt346 => (some ((bt346.1 == 0), bt346.2.1, bt346.2.2))
set_option maxHeartbeats 8000000 in
set_option maxRecDepth 100000 in
theorem spec_l1Cur_one.calls (g : Nat) (s0_0 : List Int) (s0_1 : Int) (s0_2 : Int) (a1 : Int) (r1 : Bool) (r2 : Int) (r3 : Int) (w0 w : World) (hI : IsS56 w0 w g s0_0 s0_1 s0_2) (hB : Below w0.heap.size w0 w) (h : spec_l1Cur_one.f s0_0 s0_1 s0_2 a1 = some (r1, r2, r3)) :
 Calls Try.prog 54 #[.pointer (some ⟨g, 0, none⟩), .int .i64 a1] w fun e w' => e = .returned (.bool r1) ∧ IsS56 w0 w' g s0_0 r2 r3 ∧ Below w0.heap.size w0 w' ∧ KeepBut w w' g none := by
 have HI0 := Z.m hI
 have HK := Z.m (KeepBut.refl w g none)
 have HL := Z.m hB.size
 clear hI
 have HW0 := Z.m hB.size
 have HB := Z.m hB
 clear hB
 have H : ((spec_l1Cur_pick.f s0_0 s0_1 s0_2 a1).bind fun bt346 => (some ((bt346.1 == 0), bt346.2.1, bt346.2.2))) = some (r1, r2, r3) := h
 clear h
 replace H := Option.bind_eq_some_iff.mp H
 obtain ⟨⟨A0, A1, A2⟩, A4, H⟩ := H
 replace H : (some ((A0 == 0), A1, A2)) = some (r1, r2, r3) := H
 have A3 := Z.m A4
 clear A4
 simp only [Option.some.injEq, Prod.mk.injEq] at H
 obtain ⟨rfl, rfl, rfl⟩ := H
 go_enter Try.func54, Try.ntmps54
 go_wp2_with (first | ((with_reducible refine gc (f := 47) rfl ?_); refine gA (some 7) _ #[.pointer (some ⟨g, 0, none⟩), .int .i64 a1] ?_ Try.func47; (with_reducible refine (spec_l1Cur_pick.calls g s0_0 s0_1 s0_2 a1 A0 A1 A2 w0 _ ?side1 ?side2 A3.o).mono ?_); (case side1 => repeat (first | (with_reducible first | exact HI0.o | apply IsS56.alloc | apply IsS56.drewN | apply IsS56.drew | apply IsS56.set_1 | apply IsS56.set_2) | exact HI0.o)); (case side2 => repeat (first | (with_reducible first | exact HB.o | apply qa | apply qn | apply qd | refine qx ?_ (IsS56.ge HI0.o)) | exact HB.o)); rintro e w4 ⟨rfl, hi, hb, hk⟩; refine ⟨_, rfl, ?_⟩; replace HK := Z.m (KeepBut.trans (by repeat (first | (with_reducible first | exact HK.o | apply KeepBut.set_ | apply keep_drewN | apply keep_drew | apply keep_alloc) | exact HK.o)) hk (.inl rfl)); replace HB := Z.m (hb); replace HI0 := Z.m (hi); (try clear hb); (try clear A5); (try clear hk); (try clear hi)))
 go_ret
 exact ⟨by first | rfl | (simp [eN, eS] <;> rfl) | (simp [*, eN, eS] <;> rfl), by repeat (first | (with_reducible first | exact HI0.o | apply IsS56.alloc | apply IsS56.drewN | apply IsS56.drew | apply IsS56.set_1 | apply IsS56.set_2) | exact HI0.o), by repeat (first | (with_reducible first | exact HB.o | apply qa | apply qn | apply qd | refine qx ?_ (IsS56.ge HI0.o)) | exact HB.o), by repeat (first | (with_reducible first | exact HK.o | apply KeepBut.set_ | apply keep_drewN | apply keep_drew | apply keep_alloc) | exact HK.o)⟩

/-! ### spec_l1Cur_cells: function 50 -/
mutual
def spec_l1Cur_cells.j0 : Nat → List (S25) → Int → List Int → Int → Int → Option ((List (S25)) × Int × Int)
 | 0, _, _, _, _, _ => none
 | k + 1, x3, x4, x1000, x1001, x1002 => spec_l1Cur_cells.l0 k x3 x4 x1000 x1001 x1002
def spec_l1Cur_cells.l0 : Nat → List (S25) → Int → List Int → Int → Int → Option ((List (S25)) × Int × Int)
 | 0, _, _, _, _, _ => none
 | k + 1, x3, x4, x1000, x1001, x1002 => if (x3.length : Int) < x4 then ((spec_l1Cur_cell.f k x1000 x1001 x1002).bind fun bt358 => (if x3.length < 8796093022208 then (spec_l1Cur_cells.l0 k (x3 ++ [(⟨bt358.1, bt358.2.1⟩ : S25)]) x4 x1000 bt358.2.2.1 bt358.2.2.2) else (none))) else (if x4 > 0 then ((spec_l1Cur_one.f x1000 x1001 x1002 16).bind fun bt365 => (spec_l1Cur_cells.j2 k x3 x4 bt365.1 x1000 bt365.2.1 bt365.2.2)) else (spec_l1Cur_cells.j2 k x3 x4 false x1000 x1001 x1002))
def spec_l1Cur_cells.j2 : Nat → List (S25) → Int → Bool → List Int → Int → Int → Option ((List (S25)) × Int × Int)
 | 0, _, _, _, _, _, _ => none
 | k + 1, x3, x4, x26, x1000, x1001, x1002 => if x26 = true then ((spec_l1Cur_pick.f x1000 x1001 x1002 x4).bind fun bt368 => ((spec_l1Cur_anyCell.f k x1000 bt368.2.1 bt368.2.2).bind fun bt371 => (if 0 ≤ bt368.1 then (if bt368.1 < (x3.length : Int) then (some ((x3.set (bt368.1 : Int).toNat (⟨bt371.1, bt371.2.1⟩ : S25)), bt371.2.2.1, bt371.2.2.2)) else (none)) else (none)))) else (some (x3, x1001, x1002))
end
def spec_l1Cur_cells.f (k : Nat) (s0_0 : List Int) (s0_1 : Int) (s0_2 : Int) : Option ((List (S25)) × Int × Int) := (spec_l1Cur_pick.f s0_0 s0_1 s0_2 9).bind fun bt349 => ((spec_l1Cur_one.f s0_0 bt349.2.1 bt349.2.2 20).bind fun bt352 => (if bt352.1 = true then ((spec_l1Cur_pick.f s0_0 bt352.2.1 bt352.2.2 2).bind fun bt355 => (spec_l1Cur_cells.j0 k ([] : List (S25)) (wrap64 (90 + bt355.1)) s0_0 bt355.2.1 bt355.2.2)) else (spec_l1Cur_cells.j0 k ([] : List (S25)) bt349.1 s0_0 bt352.2.1 bt352.2.2)))
set_option maxHeartbeats 8000000 in
set_option maxRecDepth 100000 in
theorem spec_l1Cur_cells.calls (k : Nat) (g : Nat) (s0_0 : List Int) (s0_1 : Int) (s0_2 : Int) (r1 : List (S25)) (r2 : Int) (r3 : Int) (w0 w : World) (hI : IsS56 w0 w g s0_0 s0_1 s0_2) (hB : Below w0.heap.size w0 w) (h : spec_l1Cur_cells.f k s0_0 s0_1 s0_2 = some (r1, r2, r3)) :
 Calls Try.prog 50 #[.pointer (some ⟨g, 0, none⟩)] w fun e w' => ∃ v0_ : Value, e = .returned (v0_) ∧ Kd.R k25 25 w' w.heap.size (fun _ => True) v0_ r1 ∧ IsS56 w0 w' g s0_0 r2 r3 ∧ Below w0.heap.size w0 w' ∧ KeepBut w w' g none := by
 have BC := Try.underlying25
 have HI0 := Z.m hI
 have HK := Z.m (KeepBut.refl w g none)
 have HL := Z.m hB.size
 clear hI
 have HW0 := Z.m hB.size
 have HB := Z.m hB
 clear hB
 have H : ((spec_l1Cur_pick.f s0_0 s0_1 s0_2 9).bind fun bt349 => ((spec_l1Cur_one.f s0_0 bt349.2.1 bt349.2.2 20).bind fun bt352 => (if bt352.1 = true then ((spec_l1Cur_pick.f s0_0 bt352.2.1 bt352.2.2 2).bind fun bt355 => (spec_l1Cur_cells.j0 k ([] : List (S25)) (wrap64 (90 + bt355.1)) s0_0 bt355.2.1 bt355.2.2)) else (spec_l1Cur_cells.j0 k ([] : List (S25)) bt349.1 s0_0 bt352.2.1 bt352.2.2)))) = some (r1, r2, r3) := h
 clear h
 replace H := Option.bind_eq_some_iff.mp H
 obtain ⟨⟨As, AG, AH⟩, Bo, H⟩ := H
 replace H : ((spec_l1Cur_one.f s0_0 AG AH 20).bind fun bt352 => (if bt352.1 = true then ((spec_l1Cur_pick.f s0_0 bt352.2.1 bt352.2.2 2).bind fun bt355 => (spec_l1Cur_cells.j0 k ([] : List (S25)) (wrap64 (90 + bt355.1)) s0_0 bt355.2.1 bt355.2.2)) else (spec_l1Cur_cells.j0 k ([] : List (S25)) As s0_0 bt352.2.1 bt352.2.2))) = some (r1, r2, r3) := H
 have A2 := Z.m Bo
 clear Bo
 replace H := Option.bind_eq_some_iff.mp H
 obtain ⟨⟨AI, Ai, Aj⟩, Bp, H⟩ := H
 replace H : (if AI = true then ((spec_l1Cur_pick.f s0_0 Ai Aj 2).bind fun bt355 => (spec_l1Cur_cells.j0 k ([] : List (S25)) (wrap64 (90 + bt355.1)) s0_0 bt355.2.1 bt355.2.2)) else (spec_l1Cur_cells.j0 k ([] : List (S25)) As s0_0 Ai Aj)) = some (r1, r2, r3) := H
 have A3 := Z.m Bp
 clear Bp
 have Bf := Z.m H
 clear H
 go_enter Try.func50, Try.ntmps50
 go_upto_if 8 with (first | ((with_reducible refine gc (f := 47) rfl ?_); refine gA (some 6) _ #[.pointer (some ⟨g, 0, none⟩), .int .i64 9] ?_ Try.func47; (with_reducible refine (spec_l1Cur_pick.calls g s0_0 s0_1 s0_2 9 As AG AH w0 _ ?side1 ?side2 A2.o).mono ?_); (case side1 => repeat (first | (with_reducible first | exact HI0.o | apply IsS56.alloc | apply IsS56.drewN | apply IsS56.drew | apply IsS56.set_1 | apply IsS56.set_2) | exact HI0.o)); (case side2 => repeat (first | (with_reducible first | exact HB.o | apply qa | apply qn | apply qd | refine qx ?_ (IsS56.ge HI0.o)) | exact HB.o)); rintro e w5 ⟨rfl, hi, hb, hk⟩; refine ⟨_, rfl, ?_⟩; replace HK := Z.m (KeepBut.trans (by repeat (first | (with_reducible first | exact HK.o | apply KeepBut.set_ | apply keep_drewN | apply keep_drew | apply keep_alloc) | exact HK.o)) hk (.inl rfl)); replace HB := Z.m (hb); replace HI0 := Z.m (hi); (try clear hb); (try clear AS); (try clear hk); (try clear hi)) | ((with_reducible refine gc (f := 54) rfl ?_); refine gA (some 8) _ #[.pointer (some ⟨g, 0, none⟩), .int .i64 20] ?_ Try.func54; (with_reducible refine (spec_l1Cur_one.calls g s0_0 AG AH 20 AI Ai Aj w0 _ ?side1 ?side2 A3.o).mono ?_); (case side1 => repeat (first | (with_reducible first | exact HI0.o | apply IsS56.alloc | apply IsS56.drewN | apply IsS56.drew | apply IsS56.set_1 | apply IsS56.set_2) | exact HI0.o)); (case side2 => repeat (first | (with_reducible first | exact HB.o | apply qa | apply qn | apply qd | refine qx ?_ (IsS56.ge HI0.o)) | exact HB.o)); rintro e w6 ⟨rfl, hi, hb, hk⟩; refine ⟨_, rfl, ?_⟩; replace HK := Z.m (KeepBut.trans (by repeat (first | (with_reducible first | exact HK.o | apply KeepBut.set_ | apply keep_drewN | apply keep_drew | apply keep_alloc) | exact HK.o)) hk (.inl rfl)); replace HB := Z.m (hb); replace HI0 := Z.m (hi); (try clear hb); (try clear AS); (try clear hk); (try clear hi)))
 (try simp only [Act.put, q1, q2, q3])
 go_cut [4] (fun v4 wc => ∃ (kq : Nat) (Aa : Int) (Ab : Int) (Ac : Int), v4 = .int .i64 Aa ∧ Z (spec_l1Cur_cells.j0 kq ([] : List (S25)) Aa s0_0 Ab Ac = some (r1, r2, r3)) ∧ Z (kq ≤ k) ∧ Z (Kd.R k25 25 wc w.heap.size (fun _ => True) (.slice none 0 0) ([] : List (S25))) ∧ Z (IsS56 w0 wc g s0_0 Ab Ac) ∧ Z (KeepBut w wc g none) ∧ Z (Below w0.heap.size w0 wc))
 case first =>
  have H := Bf.o
  clear Bf
  by_cases c7 : AI = true
  ·subst c7
   have H1 : ((spec_l1Cur_pick.f s0_0 Ai Aj 2).bind fun bt355 => (spec_l1Cur_cells.j0 k ([] : List (S25)) (wrap64 (90 + bt355.1)) s0_0 bt355.2.1 bt355.2.2)) = some (r1, r2, r3) := by rw [if_pos rfl] at H; exact H
   clear H
   have H := H1
   clear H1
   replace H := Option.bind_eq_some_iff.mp H
   obtain ⟨⟨AJ, AK, AL⟩, Bq, H⟩ := H
   replace H : (spec_l1Cur_cells.j0 k ([] : List (S25)) (wrap64 (90 + AJ)) s0_0 AK AL) = some (r1, r2, r3) := H
   have A8 := Z.m Bq
   clear Bq
   have H' := Z.m H
   clear H
   go_wp2_with (first | ((with_reducible refine gc (f := 47) rfl ?_); refine gA (some 10) _ #[.pointer (some ⟨g, 0, none⟩), .int .i64 2] ?_ Try.func47; (with_reducible refine (spec_l1Cur_pick.calls g s0_0 Ai Aj 2 AJ AK AL w0 _ ?side1 ?side2 A8.o).mono ?_); (case side1 => repeat (first | (with_reducible first | exact HI0.o | apply IsS56.alloc | apply IsS56.drewN | apply IsS56.drew | apply IsS56.set_1 | apply IsS56.set_2) | exact HI0.o)); (case side2 => repeat (first | (with_reducible first | exact HB.o | apply qa | apply qn | apply qd | refine qx ?_ (IsS56.ge HI0.o)) | exact HB.o)); rintro e w9 ⟨rfl, hi, hb, hk⟩; refine ⟨_, rfl, ?_⟩; replace HK := Z.m (KeepBut.trans (by repeat (first | (with_reducible first | exact HK.o | apply KeepBut.set_ | apply keep_drewN | apply keep_drew | apply keep_alloc) | exact HK.o)) hk (.inl rfl)); replace HB := Z.m (hb); replace HI0 := Z.m (hi); (try clear hb); (try clear AS); (try clear hk); (try clear hi)))
   go_meet
   case rel => exact ⟨_, (wrap64 (90 + AJ)), (AK), (AL), (by first | rfl | (simp; done) | (simp [*]; done)), H', ⟨by first | omega | exact Nat.le_refl _⟩, ⟨by first | exact Kd.R_nil _ _ _ _ _ | exact Kd.N_nil _ _ _ _ _ | exact Kd.V_nil _ _ _ _ _ | exact Kd.Q_nil _ _ _ _ _ | exact Kd.S_nil _ _ _ _ _⟩, ⟨by repeat (first | (with_reducible first | exact HI0.o | apply IsS56.alloc | apply IsS56.drewN | apply IsS56.drew | apply IsS56.set_1 | apply IsS56.set_2) | exact HI0.o)⟩, ⟨by repeat (first | (with_reducible first | exact HK.o | apply KeepBut.set_ | apply keep_drewN | apply keep_drew | apply keep_alloc) | exact HK.o)⟩, ⟨by repeat (first | (with_reducible first | exact HB.o | apply qa | apply qn | apply qd | refine qx ?_ (IsS56.ge HI0.o)) | exact HB.o)⟩⟩
  ·replace c7 := Bool.eq_false_iff.mpr c7
   subst c7
   have H1 : (spec_l1Cur_cells.j0 k ([] : List (S25)) As s0_0 Ai Aj) = some (r1, r2, r3) := by rw [if_neg (show ¬ (false = true) by decide)] at H; exact H
   clear H
   have H := H1
   clear H1
   have H' := Z.m H
   clear H
   go_wp2
   go_meet
   case rel => exact ⟨_, (As), (Ai), (Aj), (by first | rfl | (simp; done) | (simp [*]; done)), H', ⟨by first | omega | exact Nat.le_refl _⟩, ⟨by first | exact Kd.R_nil _ _ _ _ _ | exact Kd.N_nil _ _ _ _ _ | exact Kd.V_nil _ _ _ _ _ | exact Kd.Q_nil _ _ _ _ _ | exact Kd.S_nil _ _ _ _ _⟩, ⟨by repeat (first | (with_reducible first | exact HI0.o | apply IsS56.alloc | apply IsS56.drewN | apply IsS56.drew | apply IsS56.set_1 | apply IsS56.set_2) | exact HI0.o)⟩, ⟨by repeat (first | (with_reducible first | exact HK.o | apply KeepBut.set_ | apply keep_drewN | apply keep_drew | apply keep_alloc) | exact HK.o)⟩, ⟨by repeat (first | (with_reducible first | exact HB.o | apply qa | apply qn | apply qd | refine qx ?_ (IsS56.ge HI0.o)) | exact HB.o)⟩⟩
 case rest =>
  clear Bf
  obtain ⟨kq, Aa, Ab, Ac, rfl, HA, Bb, A1, HI0, HK, HB⟩ := hcut
  cases kq with
  | zero => exact absurd HA.o (by simp [spec_l1Cur_cells.j0])
  | succ kj3 =>
   have H := HA.o
   clear HA
   simp only [spec_l1Cur_cells.j0] at H
   have H' := Z.m H
   clear H
   go_wp2
   go_loopg [3] kj3 (fun kq v3 w' => ∃ (A0 : List (S25)) (A7 : Int) (A9 : Int), Z (spec_l1Cur_cells.l0 kq A0 Aa s0_0 A7 A9 = some (r1, r2, r3)) ∧ Z (kq ≤ kj3) ∧ Z (Kd.R k25 25 w' w.heap.size (fun _ => True) v3 A0) ∧ Z (IsS56 w0 w' g s0_0 A7 A9) ∧ Z (KeepBut w w' g none) ∧ Z (Below w0.heap.size w0 w'))
   case atStart => exact ⟨(([] : List (S25))), (Ab), (Ac), H', ⟨Nat.le_refl _⟩, ⟨vR A1⟩, ⟨by repeat (first | (with_reducible first | exact HI0.o | apply IsS56.alloc | apply IsS56.drewN | apply IsS56.drew | apply IsS56.set_1 | apply IsS56.set_2) | exact HI0.o)⟩, ⟨by repeat (first | (with_reducible first | exact HK.o | apply KeepBut.set_ | apply keep_drewN | apply keep_drew | apply keep_alloc) | exact HK.o)⟩, ⟨by repeat (first | (with_reducible first | exact HB.o | apply qa | apply qn | apply qd | refine qx ?_ (IsS56.ge HI0.o)) | exact HB.o)⟩⟩
   case round =>
    clear H'
    obtain ⟨A0, A7, A9, HA, Bc, A1, HI0, HK, HB⟩ := hrel
    cases gk with
    | zero => exact absurd HA.o (by simp [spec_l1Cur_cells.l0])
    | succ k2 =>
     have H := HA.o
     clear HA
     simp only [spec_l1Cur_cells.l0] at H
     by_cases c10 : (A0.length : Int) < Aa
     ·rw [if_pos c10] at H
      have Ax := decide_eq_true c10
      clear c10
      replace H := Option.bind_eq_some_iff.mp H
      obtain ⟨⟨An, Ao, At, Au⟩, AT, H⟩ := H
      replace H : (if A0.length < 8796093022208 then (spec_l1Cur_cells.l0 k2 (A0 ++ [(⟨An, Ao⟩ : S25)]) Aa s0_0 At Au) else (none)) = some (r1, r2, r3) := H
      have Bt := Z.m AT
      clear AT
      by_cases c12 : A0.length < 8796093022208
      ·rw [if_pos c12] at H
       have B1 := Z.m c12
       clear c12
       obtain ⟨B9, Ag⟩ : ∃ y_ : List (S25), y_ = (A0 ++ [(⟨An, Ao⟩ : S25)]) := ⟨_, rfl⟩
       replace H : (spec_l1Cur_cells.l0 k2 B9 Aa s0_0 At Au) = some (r1, r2, r3) := by first | (rw [Ag]; with_reducible exact H) | (have H2_ := (Option.bind_some _ _).symm.trans H; rw [Ag]; with_reducible exact H2_) | (have H2_ := (Option.bind_some _ _).symm.trans H; with_reducible exact H2_) | with_reducible exact H | (rw [Ag]; exact H) | exact H
       have B2 := Z.m Ag
       clear Ag
       have H' := Z.m H
       clear H
       obtain ⟨Bd, Bg, Bh⟩ := Kd.R_slice A1.o
       subst Bh
       go_wp2_with (first | ((with_reducible refine gc (f := 57) rfl ?_); refine gA (some 18) _ #[.pointer (some ⟨g, 0, none⟩)] ?_ Try.func57; (with_reducible refine (spec_l1Cur_cell.calls k2 g s0_0 A7 A9 An Ao At Au w0 _ ?side1 ?side2 Bt.o).mono ?_); (case side1 => repeat (first | (with_reducible first | exact HI0.o | apply IsS56.alloc | apply IsS56.drewN | apply IsS56.drew | apply IsS56.set_1 | apply IsS56.set_2) | exact HI0.o)); (case side2 => repeat (first | (with_reducible first | exact HB.o | apply qa | apply qn | apply qd | refine qx ?_ (IsS56.ge HI0.o)) | exact HB.o)); rintro e BE ⟨rfl, hi, hb, hk⟩; refine ⟨_, rfl, ?_⟩; replace A1 := Z.m (Kd.Rm (Kd.R_keep (IsS56.apart (show IsS56 w0 _ g s0_0 A7 A9 from by repeat (first | (with_reducible first | exact HI0.o | apply IsS56.alloc | apply IsS56.drewN | apply IsS56.drew | apply IsS56.set_1 | apply IsS56.set_2) | exact HI0.o)) (vR A1) (by decide)) hk (fun _ h => h.2)) (fun _ h => h.1)); replace HK := Z.m (KeepBut.trans (by repeat (first | (with_reducible first | exact HK.o | apply KeepBut.set_ | apply keep_drewN | apply keep_drew | apply keep_alloc) | exact HK.o)) hk (.inl rfl)); replace HB := Z.m (hb); replace HI0 := Z.m (hi); (try clear hb); (try clear AS); (try clear hk); (try clear hi)) | ((with_reducible refine gu (b := .append) (xs := #[.tmp 16, .tmp 19]) rfl ?_); at_builtin; refine Kd.R_append k25 w.heap.size rfl (.tmp 16) (.tmp 19) 40 25 (.agg #[(.int .i64 0), (.int .i64 0)]) 16 rfl Try.underlying40 info25 rfl (by decide) (by omega) (.slice Bd A0.length Bg) A0 (⟨An, Ao⟩ : S25) [.int .i64 An, .int .i64 Ao] (fun _ => True) (fun _ => False) rfl rfl ?aP (fun _ hk => hk.elim) ?aF ?aO (Below.refl _ _) ?aS ?aL ?_; (case aP => exact k25_mkM _ _ _ (⟨An, Ao⟩ : S25)); (case aF => exact (fun _ _ => trivial)); (case aO => exact (vR A1)); (case aS => exact (keep_size (w := w) (g := g) (row := none) (by repeat (first | (with_reducible first | exact HK.o | apply KeepBut.set_ | apply keep_drewN | apply keep_drew | apply keep_alloc) | exact HK.o)))); (case aL => have := B1.o; omega); intro BD BF ho hb hg hat; rw [← B2.o] at ho; have AZ := Z.m (ho); replace HB := Z.m (below_weaken (by repeat (first | (with_reducible first | exact HB.o | apply qa | apply qn | apply qd | refine qx ?_ (IsS56.ge HI0.o)) | exact HB.o)) HL.o hb); replace HI0 := Z.m (IsS56.grown (by repeat (first | (with_reducible first | exact HI0.o | apply IsS56.alloc | apply IsS56.drewN | apply IsS56.drew | apply IsS56.set_1 | apply IsS56.set_2) | exact HI0.o)) hg (IsS56.own_ne HI0.o A1.o (by decide))); replace HK := Z.m (KeepBut.trans (by repeat (first | (with_reducible first | exact HK.o | apply KeepBut.set_ | apply keep_drewN | apply keep_drew | apply keep_alloc) | exact HK.o)) (KeepBut.of_grown hg g) (Kd.R_base2 A1.o)); clear A1; clear ho hb hg hat))
       go_roundg k2
       case measure => have := Bb.o; have := Bc.o; omega
       case rel => exact ⟨(B9), (At), (Au), H', ⟨by have := Bb.o; have := Bc.o; omega⟩, ⟨vR AZ⟩, ⟨by repeat (first | (with_reducible first | exact HI0.o | apply IsS56.alloc | apply IsS56.drewN | apply IsS56.drew | apply IsS56.set_1 | apply IsS56.set_2) | exact HI0.o)⟩, ⟨by repeat (first | (with_reducible first | exact HK.o | apply KeepBut.set_ | apply keep_drewN | apply keep_drew | apply keep_alloc) | exact HK.o)⟩, ⟨by repeat (first | (with_reducible first | exact HB.o | apply qa | apply qn | apply qd | refine qx ?_ (IsS56.ge HI0.o)) | exact HB.o)⟩⟩
      ·rw [if_neg c12] at H
       exact absurd H (by simp)
     ·rw [if_neg c10] at H
      have Ax := decide_eq_false c10
      clear c10
      have Az := Z.m H
      clear H
      obtain ⟨Be, AB, Bi⟩ := Kd.R_slice A1.o
      subst Bi
      go_upto_region 7 with (fail)
      go_cut [26] (fun v26 wc => ∃ (kq : Nat) (Ae : Bool) (A5 : Int) (A6 : Int), v26 = .bool Ae ∧ Z (spec_l1Cur_cells.j2 kq A0 Aa Ae s0_0 A5 A6 = some (r1, r2, r3)) ∧ Z (kq ≤ k2) ∧ Z (Kd.R k25 25 wc w.heap.size (fun _ => True) (.slice Be A0.length AB) A0) ∧ Z (IsS56 w0 wc g s0_0 A5 A6) ∧ Z (KeepBut w wc g none) ∧ Z (Below w0.heap.size w0 wc))
      case first =>
       have H := Az.o
       clear Az
       by_cases c18 : Aa > 0
       ·rw [if_pos c18] at H
        have Af := decide_eq_true c18
        clear c18
        (first | rw [Af] | (simp only [i64_w, i32_w]; rw [Af]) | skip)
        replace H := Option.bind_eq_some_iff.mp H
        obtain ⟨⟨AM, AN, AO⟩, AU, H⟩ := H
        replace H : (spec_l1Cur_cells.j2 k2 A0 Aa AM s0_0 AN AO) = some (r1, r2, r3) := H
        have Bu := Z.m AU
        clear AU
        have H' := Z.m H
        clear H
        go_wp2_with (first | (go_at_call 54; (with_reducible refine (spec_l1Cur_one.calls g s0_0 A7 A9 16 AM AN AO w0 _ ?side1 ?side2 Bu.o).mono ?_); (case side1 => repeat (first | (with_reducible first | exact HI0.o | apply IsS56.alloc | apply IsS56.drewN | apply IsS56.drew | apply IsS56.set_1 | apply IsS56.set_2) | exact HI0.o)); (case side2 => repeat (first | (with_reducible first | exact HB.o | apply qa | apply qn | apply qd | refine qx ?_ (IsS56.ge HI0.o)) | exact HB.o)); rintro e BG ⟨rfl, hi, hb, hk⟩; replace A1 := Z.m (Kd.Rm (Kd.R_keep (IsS56.apart (show IsS56 w0 _ g s0_0 A7 A9 from by repeat (first | (with_reducible first | exact HI0.o | apply IsS56.alloc | apply IsS56.drewN | apply IsS56.drew | apply IsS56.set_1 | apply IsS56.set_2) | exact HI0.o)) (vR A1) (by decide)) hk (fun _ h => h.2)) (fun _ h => h.1)); replace HK := Z.m (KeepBut.trans (by repeat (first | (with_reducible first | exact HK.o | apply KeepBut.set_ | apply keep_drewN | apply keep_drew | apply keep_alloc) | exact HK.o)) hk (.inl rfl)); replace HB := Z.m (hb); replace HI0 := Z.m (hi); (try clear hb); (try clear AS); (try clear hk); (try clear hi)))
        go_meet
        case rel => exact ⟨_, (AM), (AN), (AO), (by first | rfl | (simp; done) | (simp [*]; done)), H', ⟨by have := Bb.o; have := Bc.o; first | omega | exact Nat.le_refl _⟩, ⟨vR A1⟩, ⟨by repeat (first | (with_reducible first | exact HI0.o | apply IsS56.alloc | apply IsS56.drewN | apply IsS56.drew | apply IsS56.set_1 | apply IsS56.set_2) | exact HI0.o)⟩, ⟨by repeat (first | (with_reducible first | exact HK.o | apply KeepBut.set_ | apply keep_drewN | apply keep_drew | apply keep_alloc) | exact HK.o)⟩, ⟨by repeat (first | (with_reducible first | exact HB.o | apply qa | apply qn | apply qd | refine qx ?_ (IsS56.ge HI0.o)) | exact HB.o)⟩⟩
       ·rw [if_neg c18] at H
        have Af := decide_eq_false c18
        clear c18
        (first | rw [Af] | (simp only [i64_w, i32_w]; rw [Af]) | skip)
        have H' := Z.m H
        clear H
        go_wp2
        go_meet
        case rel => exact ⟨_, (false), (A7), (A9), (by first | rfl | (simp; done) | (simp [*]; done)), H', ⟨by have := Bb.o; have := Bc.o; first | omega | exact Nat.le_refl _⟩, ⟨vR A1⟩, ⟨by repeat (first | (with_reducible first | exact HI0.o | apply IsS56.alloc | apply IsS56.drewN | apply IsS56.drew | apply IsS56.set_1 | apply IsS56.set_2) | exact HI0.o)⟩, ⟨by repeat (first | (with_reducible first | exact HK.o | apply KeepBut.set_ | apply keep_drewN | apply keep_drew | apply keep_alloc) | exact HK.o)⟩, ⟨by repeat (first | (with_reducible first | exact HB.o | apply qa | apply qn | apply qd | refine qx ?_ (IsS56.ge HI0.o)) | exact HB.o)⟩⟩
      case rest =>
       clear Az
       (try clear Ax)
       obtain ⟨kq, Ae, A5, A6, rfl, HA, By, A1, HI0, HK, HB⟩ := hcut
       cases kq with
       | zero => exact absurd HA.o (by simp [spec_l1Cur_cells.j2])
       | succ kj15 =>
        have H := HA.o
        clear HA
        simp only [spec_l1Cur_cells.j2] at H
        by_cases c21 : Ae = true
        ·subst c21
         have H1 : ((spec_l1Cur_pick.f s0_0 A5 A6 Aa).bind fun bt368 => ((spec_l1Cur_anyCell.f kj15 s0_0 bt368.2.1 bt368.2.2).bind fun bt371 => (if 0 ≤ bt368.1 then (if bt368.1 < (A0.length : Int) then (some ((A0.set (bt368.1 : Int).toNat (⟨bt371.1, bt371.2.1⟩ : S25)), bt371.2.2.1, bt371.2.2.2)) else (none)) else (none)))) = some (r1, r2, r3) := by rw [if_pos rfl] at H; exact H
         clear H
         have H := H1
         clear H1
         replace H := Option.bind_eq_some_iff.mp H
         obtain ⟨⟨A4, Av, Aw⟩, AV, H⟩ := H
         replace H : ((spec_l1Cur_anyCell.f kj15 s0_0 Av Aw).bind fun bt371 => (if 0 ≤ A4 then (if A4 < (A0.length : Int) then (some ((A0.set (A4 : Int).toNat (⟨bt371.1, bt371.2.1⟩ : S25)), bt371.2.2.1, bt371.2.2.2)) else (none)) else (none))) = some (r1, r2, r3) := H
         have Bv := Z.m AV
         clear AV
         replace H := Option.bind_eq_some_iff.mp H
         obtain ⟨⟨Ak, Al, AP, AQ⟩, AW, H⟩ := H
         replace H : (if 0 ≤ A4 then (if A4 < (A0.length : Int) then (some ((A0.set (A4 : Int).toNat (⟨Ak, Al⟩ : S25)), AP, AQ)) else (none)) else (none)) = some (r1, r2, r3) := H
         have Bw := Z.m AW
         clear AW
         by_cases c24 : 0 ≤ A4
         ·rw [if_pos c24] at H
          have Br := decide_eq_true c24
          clear c24
          by_cases c25 : A4 < (A0.length : Int)
          ·rw [if_pos c25] at H
           have Bs := decide_eq_true c25
           clear c25
           obtain ⟨Ba, Ah⟩ : ∃ y_ : List (S25), y_ = (A0.set (A4 : Int).toNat (⟨Ak, Al⟩ : S25)) := ⟨_, rfl⟩
           replace H : (some (Ba, AP, AQ)) = some (r1, r2, r3) := by first | (rw [Ah]; with_reducible exact H) | (have H2_ := (Option.bind_some _ _).symm.trans H; rw [Ah]; with_reducible exact H2_) | (have H2_ := (Option.bind_some _ _).symm.trans H; with_reducible exact H2_) | with_reducible exact H | (rw [Ah]; exact H) | exact H
           have B3 := Z.m Ah
           clear Ah
           simp only [Option.some.injEq, Prod.mk.injEq] at H
           obtain ⟨rfl, rfl, rfl⟩ := H
           go_wp2_with (first | ((with_reducible refine gc (f := 47) rfl ?_); refine gA (some 30) _ #[.pointer (some ⟨g, 0, none⟩), .int .i64 Aa] ?_ Try.func47; (with_reducible refine (spec_l1Cur_pick.calls g s0_0 A5 A6 Aa A4 Av Aw w0 _ ?side1 ?side2 Bv.o).mono ?_); (case side1 => repeat (first | (with_reducible first | exact HI0.o | apply IsS56.alloc | apply IsS56.drewN | apply IsS56.drew | apply IsS56.set_1 | apply IsS56.set_2) | exact HI0.o)); (case side2 => repeat (first | (with_reducible first | exact HB.o | apply qa | apply qn | apply qd | refine qx ?_ (IsS56.ge HI0.o)) | exact HB.o)); rintro e BH ⟨rfl, hi, hb, hk⟩; refine ⟨_, rfl, ?_⟩; replace A1 := Z.m (Kd.Rm (Kd.R_keep (IsS56.apart (show IsS56 w0 _ g s0_0 A5 A6 from by repeat (first | (with_reducible first | exact HI0.o | apply IsS56.alloc | apply IsS56.drewN | apply IsS56.drew | apply IsS56.set_1 | apply IsS56.set_2) | exact HI0.o)) (vR A1) (by decide)) hk (fun _ h => h.2)) (fun _ h => h.1)); replace HK := Z.m (KeepBut.trans (by repeat (first | (with_reducible first | exact HK.o | apply KeepBut.set_ | apply keep_drewN | apply keep_drew | apply keep_alloc) | exact HK.o)) hk (.inl rfl)); replace HB := Z.m (hb); replace HI0 := Z.m (hi); (try clear hb); (try clear AS); (try clear hk); (try clear hi)) | ((with_reducible refine gc (f := 43) rfl ?_); refine gA (some 32) _ #[.pointer (some ⟨g, 0, none⟩)] ?_ Try.func43; (with_reducible refine (spec_l1Cur_anyCell.calls kj15 g s0_0 Av Aw Ak Al AP AQ w0 _ ?side1 ?side2 Bw.o).mono ?_); (case side1 => repeat (first | (with_reducible first | exact HI0.o | apply IsS56.alloc | apply IsS56.drewN | apply IsS56.drew | apply IsS56.set_1 | apply IsS56.set_2) | exact HI0.o)); (case side2 => repeat (first | (with_reducible first | exact HB.o | apply qa | apply qn | apply qd | refine qx ?_ (IsS56.ge HI0.o)) | exact HB.o)); rintro e AR ⟨rfl, hi, hb, hk⟩; refine ⟨_, rfl, ?_⟩; replace A1 := Z.m (Kd.Rm (Kd.R_keep (IsS56.apart (show IsS56 w0 _ g s0_0 Av Aw from by repeat (first | (with_reducible first | exact HI0.o | apply IsS56.alloc | apply IsS56.drewN | apply IsS56.drew | apply IsS56.set_1 | apply IsS56.set_2) | exact HI0.o)) (vR A1) (by decide)) hk (fun _ h => h.2)) (fun _ h => h.1)); replace HK := Z.m (KeepBut.trans (by repeat (first | (with_reducible first | exact HK.o | apply KeepBut.set_ | apply keep_drewN | apply keep_drew | apply keep_alloc) | exact HK.o)) hk (.inl rfl)); replace HB := Z.m (hb); replace HI0 := Z.m (hi); (try clear hb); (try clear AS); (try clear hk); (try clear hi); have p26 : 0 ≤ (A4 : Int) := ofD; have q26 : (A4 : Int) < ((A0.length : Int) : Int) := ofD; obtain ⟨Ad, BB, B4, B5, gl26, cl26, AY⟩ := Kd.R_form A1.o (by omega); (first | cases B4 | (injection B4 with ea_ en_ ec_; (first | subst ea_ | (injection ea_ with ea_; subst ea_)); subst ec_; clear en_)); have AX := Z.m B5; have Bx := Z.m AY; clear B5 gl26 AY; obtain ⟨Bz, B8, B6, Ap, Aq⟩ := Kd.R_elem A1.o z25 (A4 : Int) p26 q26; obtain rfl := k25_openM B6; have Bl : AR.cell? ⟨Ad, (A4 : Int).toNat * 2, none⟩ = some (.int .i64 ((rd_T25 A0 A4).f0)) := Ap 0 _ rfl; have Bm : AR.cell? ⟨Ad, (A4 : Int).toNat * 2 + 1, none⟩ = some (.int .i64 ((rd_T25 A0 A4).f1)) := Ap 1 _ rfl; have Bj : AR.frozen? ⟨Ad, (A4 : Int).toNat * 2, none⟩ = false := Aq 0; have Bk : AR.frozen? ⟨Ad, (A4 : Int).toNat * 2 + 1, none⟩ = false := Aq 1; (try clear B8); (try clear Ap); (try clear Aq); (try clear B6); replace p26 := eq_true p26; replace q26 := eq_true q26; have B0 := Z.m (show Kd.R k25 25 AR w.heap.size (fun _ => True) (.slice (some ⟨Ad, 0, none⟩) A0.length AB) A0 from (vR A1)); obtain ⟨BA, Ay, B7, Am, Ar⟩ := Kd.R_elem B0.o z25 (A4 : Int) (ofD) (by have h_ : (A4 : Int) < ((A0.length : Int) : Int) := ofD; first | exact h_ | (have e_ := (Kd.RrZ A1.o).1; omega) | simpa using h_); obtain rfl := k25_openM B7; have AA := Kd.R_seg B0.o (A4 : Int) (ofD) (by have h_ : (A4 : Int) < ((A0.length : Int) : Int) := ofD; first | exact h_ | (have e_ := (Kd.RrZ A1.o).1; omega) | simpa using h_) (seg := [.int .i64 Ak, .int .i64 Al]) (j := 0) Ay Am (show 2 ≤ 2 from by decide) (x' := (⟨Ak, Al⟩ : S25)) (k25_mkM _ _ _ (⟨Ak, Al⟩ : S25) ) (fun _ hk => hk); have AE := Am 0 _ rfl; (try simp only [show (k25).sz = 2 from rfl, Nat.mul_one, Nat.add_zero] at AE); have AC := Ar 0; (try simp only [show (k25).sz = 2 from rfl, Nat.mul_one, Nat.add_zero] at AC); have AF := Am 1 _ rfl; (try simp only [show (k25).sz = 2 from rfl, Nat.mul_one, Nat.add_zero] at AF); have AD := Ar 1; (try simp only [show (k25).sz = 2 from rfl, Nat.mul_one, Nat.add_zero] at AD); (try clear Ay); (try clear Am); (try clear Ar); (try clear B7)) | ((with_reducible refine gt (t := 25) (p := 33) rfl ?_); refine store_event (t := 25) (p := 33) (v := ?vo_w30) (w1 := ((AR.setCell ⟨Ad, (A4 : Int).toNat * 2, none⟩ (.int .i64 Ak)).setCell ⟨Ad, (A4 : Int).toNat * 2 + 1, none⟩ (.int .i64 Al))) ?hg ?ho ?hn ?hr ?_; (case ho => rfl); (case hg => rfl); (case hn => rfl); (case hr => first | (go_simp; done) | (go_simp; rfl)); intro Bn hw; have hg : AR.grownBy Bn (some Ad) := (by rw [hw]; exact AA.2); have hp_ : Kd.R k25 25 Bn w.heap.size (fun _ => True) (.slice (some ⟨Ad, 0, none⟩) A0.length AB) Ba := (by rw [hw, B3.o]; exact AA.1); clear AA; replace HI0 := Z.m (IsS56.grown (by repeat (first | (with_reducible first | exact HI0.o | apply IsS56.alloc | apply IsS56.drewN | apply IsS56.drew | apply IsS56.set_1 | apply IsS56.set_2) | exact HI0.o)) hg (IsS56.own_ne HI0.o A1.o (by decide))); replace HB := Z.m ((by rw [hw]; exact qx (qx (HB.o) (Nat.le_trans HL.o AX.o)) (Nat.le_trans HL.o AX.o) : Below w0.heap.size w0 Bn)); replace HK := Z.m (KeepBut.trans (by repeat (first | (with_reducible first | exact HK.o | apply KeepBut.set_ | apply keep_drewN | apply keep_drew | apply keep_alloc) | exact HK.o)) (KeepBut.of_grown hg g) (Kd.R_base2 A1.o)); replace A1 := Z.m (hp_); clear hg hw hp_))
           go_ret
           exact ⟨_, by first | rfl | (simp [eN, eS] <;> rfl) | (simp [*, eN, eS] <;> rfl), vR A1, by repeat (first | (with_reducible first | exact HI0.o | apply IsS56.alloc | apply IsS56.drewN | apply IsS56.drew | apply IsS56.set_1 | apply IsS56.set_2) | exact HI0.o), by repeat (first | (with_reducible first | exact HB.o | apply qa | apply qn | apply qd | refine qx ?_ (IsS56.ge HI0.o)) | exact HB.o), by repeat (first | (with_reducible first | exact HK.o | apply KeepBut.set_ | apply keep_drewN | apply keep_drew | apply keep_alloc) | exact HK.o)⟩
          ·rw [if_neg c25] at H
           exact absurd H (by simp)
         ·rw [if_neg c24] at H
          exact absurd H (by simp)
        ·replace c21 := Bool.eq_false_iff.mpr c21
         subst c21
         have H1 : (some (A0, A5, A6)) = some (r1, r2, r3) := by rw [if_neg (show ¬ (false = true) by decide)] at H; exact H
         clear H
         have H := H1
         clear H1
         simp only [Option.some.injEq, Prod.mk.injEq] at H
         obtain ⟨rfl, rfl, rfl⟩ := H
         go_wp2
         go_ret
         exact ⟨_, by first | rfl | (simp [eN, eS] <;> rfl) | (simp [*, eN, eS] <;> rfl), vR A1, by repeat (first | (with_reducible first | exact HI0.o | apply IsS56.alloc | apply IsS56.drewN | apply IsS56.drew | apply IsS56.set_1 | apply IsS56.set_2) | exact HI0.o), by repeat (first | (with_reducible first | exact HB.o | apply qa | apply qn | apply qd | refine qx ?_ (IsS56.ge HI0.o)) | exact HB.o), by repeat (first | (with_reducible first | exact HK.o | apply KeepBut.set_ | apply keep_drewN | apply keep_drew | apply keep_alloc) | exact HK.o)⟩

/-! ### spec_DrawCellsText: function 24 -/
def spec_DrawCellsText.f (k : Nat) (l0 : List Int) : Option ((List (S25))) := (spec_mkCur.f l0).bind fun bt376 => ((spec_l1Cur_cells.f k bt376.1 bt376.2.1 bt376.2.2).bind fun bt380 => (some bt380.1))
set_option maxHeartbeats 8000000 in
set_option maxRecDepth 100000 in
theorem spec_DrawCellsText.calls (k : Nat) (A0 : Option Addr) (c0 : Nat) (l0 : List Int) (r : List (S25)) (w : World) (hr0 : Kd.C (Kd.int .u8) w A0 l0.length l0) (hc0 : l0.length ≤ c0) (h : spec_DrawCellsText.f k l0 = some r) :
 Calls Try.prog 24 #[.slice A0 l0.length c0] w fun e w' => ∃ v0_ : Value, e = .returned (v0_) ∧ Kd.R k25 25 w' w.heap.size (fun _ => True) v0_ r ∧ Below w.heap.size w w' := by
 have Af := Try.underlying56
 have Ae := Z.m hr0
 have Ah := Z.m hc0
 clear hr0 hc0
 have HB := Z.m (Below.refl w.heap.size w)
 have H : ((spec_mkCur.f l0).bind fun bt376 => ((spec_l1Cur_cells.f k bt376.1 bt376.2.1 bt376.2.2).bind fun bt380 => (some bt380.1))) = some r := h
 clear h
 replace H := Option.bind_eq_some_iff.mp H
 obtain ⟨⟨A1, A4, A5⟩, Ab, H⟩ := H
 replace H : ((spec_l1Cur_cells.f k A1 A4 A5).bind fun bt380 => (some bt380.1)) = some r := H
 have A2 := Z.m Ab
 clear Ab
 replace H := Option.bind_eq_some_iff.mp H
 obtain ⟨⟨A7, A9, Aa⟩, Ac, H⟩ := H
 replace H : (some A7) = some r := H
 have A3 := Z.m Ac
 clear Ac
 obtain rfl := Option.some.inj H
 go_enter Try.func24, Try.ntmps24
 go_wp2_with (first | ((with_reducible refine gq (N := 6) rfl ?_); refine be (N := 6) (cs := #[.slice A0 l0.length c0, .int .i64 0, .int .u64 0]) (t := 56) ?_; intro g379 hgq w4 hboxq A8; have hb : Below w.heap.size w w4 := below_step (vB HB) A8; have hi : IsS56 w w4 g379 A1 A4 A5 := IsS56.made A2.o hboxq (by rw [hgq]; exact (below_size (vB HB))) Ae.o; clear hgq hboxq; have HI379 := Z.m (hi); replace HB := Z.m (hb); (try clear hb); (try clear A8); (try clear hk); (try clear hi)) | ((with_reducible refine gc (f := 50) rfl ?_); refine gA (some 8) _ #[.pointer (some ⟨g379, 0, none⟩)] ?_ Try.func50; (with_reducible refine (spec_l1Cur_cells.calls k g379 A1 A4 A5 A7 A9 Aa w _ ?side1 ?side2 A3.o).mono ?_); (case side1 => repeat (first | (with_reducible first | exact HI379.o | apply IsS56.alloc | apply IsS56.drewN | apply IsS56.drew | apply IsS56.set_1 | apply IsS56.set_2) | exact HI379.o)); (case side2 => repeat (first | (with_reducible first | exact HB.o | apply qa | apply qn | apply qd | refine qx ?_ (IsS56.ge HI379.o)) | exact HB.o)); rintro e w5 ⟨Ag, rfl, Ad, hi, hb, hk⟩; refine ⟨_, rfl, ?_⟩; have A6 := Z.m (Kd.R_lower Ad (below_size (by repeat (first | (with_reducible first | exact HB.o | apply qa | apply qn | apply qd | refine qx ?_ (IsS56.ge HI379.o)) | exact HB.o)))); replace HB := Z.m (hb); replace HI379 := Z.m (hi); (try clear hb); (try clear A8); (try clear hk); (try clear hi); (try clear Ad)))
 go_ret
 exact ⟨_, by first | rfl | (simp [eN, eS] <;> rfl) | (simp [*, eN, eS] <;> rfl), vR A6, by repeat (first | (with_reducible first | exact HB.o | apply qa | apply qn | apply qd | refine qx ?_ (IsS56.ge HI379.o)) | exact HB.o)⟩

/-! ### impl_validCells: function 51 -/
def impl_validCells.l0 : Nat → List (S25) → Int → Int → Option (Bool)
 | 0, _, _, _ => none
 | k + 1, x8, x9, x10 => if x10 < x9 then (if 0 ≤ x10 then (if x10 < (x8.length : Int) then ((impl_IsCell.f ((rd_T25 x8 x10).f0) ((rd_T25 x8 x10).f1)).bind fun t387 => (if t387 = true then (impl_validCells.l0 k x8 x9 (wrap64 (x10 + 1))) else (some false))) else (none)) else (none)) else (some true)
def impl_validCells.f (k : Nat) (l0 : List (S25)) : Option (Bool) := if (l0.length : Int) > 90 then (some false) else (impl_validCells.l0 k l0 (l0.length : Int) 0)
set_option maxHeartbeats 8000000 in
set_option maxRecDepth 100000 in
theorem impl_validCells.calls (k : Nat) (A0 : Option Addr) (c0 : Nat) (l0 : List (S25)) (r : Bool) (w : World) (hr0 : Kd.C k25 w A0 l0.length l0) (hc0 : l0.length ≤ c0) (h : impl_validCells.f k l0 = some r) :
 Calls Try.prog 51 #[.slice A0 l0.length c0] w fun e w' => e = .returned (.bool r) ∧ Below w.heap.size w w' := by
 have As := Try.underlying25
 have Ao := Z.m hr0
 have At := Z.m hc0
 clear hr0 hc0
 have HB := Z.m (Below.refl w.heap.size w)
 have H : (if (l0.length : Int) > 90 then (some false) else (impl_validCells.l0 k l0 (l0.length : Int) 0)) = some r := h
 clear h
 by_cases c2 : (l0.length : Int) > 90
 ·rw [if_pos c2] at H
  have Aa := decide_eq_true c2
  have Ab : decide (90 < l0.length) = true := decide_eq_true (by omega)
  clear c2
  obtain rfl := Option.some.inj H
  go_enter Try.func51, Try.ntmps51
  go_wp2
  go_ret
  exact ⟨by first | rfl | (simp [eN, eS] <;> rfl) | (simp [*, eN, eS] <;> rfl), vB HB⟩
 ·rw [if_neg c2] at H
  have Aa := decide_eq_false c2
  have Ab : decide (90 < l0.length) = false := decide_eq_false (by omega)
  clear c2
  have H' := Z.m H
  clear H
  go_enter Try.func51, Try.ntmps51
  go_wp2
  go_loopg [10] k (fun kq v10 w' => ∃ (A1 : Int), v10 = .int .i64 A1 ∧ Z (impl_validCells.l0 kq l0 (l0.length : Int) A1 = some r) ∧ Z (kq ≤ k) ∧ Z (Below w.heap.size w w'))
  case atStart => exact ⟨(0), (by first | rfl | (simp; done) | (simp [*]; done)), H', ⟨Nat.le_refl _⟩, ⟨vB HB⟩⟩
  case round =>
   clear H'
   (try clear Aa); (try clear Ab)
   obtain ⟨A1, rfl, HA, An, HB⟩ := hrel
   cases gk with
   | zero => exact absurd HA.o (by simp [impl_validCells.l0])
   | succ k1 =>
    have H := HA.o
    clear HA
    simp only [impl_validCells.l0] at H
    by_cases c3 : A1 < (l0.length : Int)
    ·rw [if_pos c3] at H
     have Ah := decide_eq_true c3
     clear c3
     by_cases c4 : 0 ≤ A1
     ·rw [if_pos c4] at H
      have Ap := decide_eq_true c4
      clear c4
      by_cases c5 : A1 < (l0.length : Int)
      ·rw [if_pos c5] at H
       have Aq := decide_eq_true c5
       clear c5
       replace H := Option.bind_eq_some_iff.mp H
       obtain ⟨Ac, Am, H⟩ := H
       replace H : (if Ac = true then (impl_validCells.l0 k1 l0 (l0.length : Int) (wrap64 (A1 + 1))) else (some false)) = some r := H
       have A6 := Z.m Am
       clear Am
       by_cases c7 : Ac = true
       ·subst c7
        have H1 : (impl_validCells.l0 k1 l0 (l0.length : Int) (wrap64 (A1 + 1))) = some r := by rw [if_pos rfl] at H; exact H
        clear H
        have H := H1
        clear H1
        have H' := Z.m H
        clear H
        have p385 : 0 ≤ (A1 : Int) := ofD
        have q385 : A1 < (l0.length : Int) := ofD
        obtain ⟨A9, e385, A3, A4⟩ := at_T25 Ao.o A1 p385 q385
        cases e385
        replace A3 := (HB.o.cell (World.block_lt_of_cell? w _ A3)).trans A3
        replace A4 := (HB.o.cell (World.block_lt_of_cell? w _ A4)).trans A4
        replace p385 := eq_true p385
        replace q385 := eq_true q385
        go_wp2_with (first | ((with_reducible refine gq (N := 4) rfl ?_); refine be (N := 4) (cs := #[.int .i64 0, .int .i64 0]) (t := 25) ?_; intro A7 hg w8 hbox hb; have A2 := Z.m (hbox); have A5 := gW (w := w) HB hg; have A8 := A5; replace HB := bB HB hb; clear hb hbox hg; have Ai := bc0 A2; have Aj := bc1 A2; have Ak := qz A2.o 0; have Al := qz A2.o 1) | ((with_reducible refine gc (f := 13) rfl ?_); refine gA (some 15) _ #[.agg #[.int .i64 ((rd_T25 l0 A1).f0), .int .i64 ((rd_T25 l0 A1).f1)]] ?_ Try.func13; (with_reducible refine (impl_IsCell.calls ((rd_T25 l0 A1).f0) ((rd_T25 l0 A1).f1) true _ A6.o).mono ?_); rintro e Au ⟨rfl, hb⟩; refine ⟨_, rfl, ?_⟩; replace A2 := Z.m (qb (g := A7) (o := .cells #[.int .i64 ((rd_T25 l0 A1).f0), .int .i64 ((rd_T25 l0 A1).f1)] 25 (0, 0)) (by refine bK ?_; refine qp (cs := #[iV ((rd_T25 l0 A1).f0), iV 0]) ?_ 1 _ rfl; refine bK ?_; refine qp (cs := #[iV 0, iV 0]) ?_ 0 _ rfl; refine bK ?_; exact A2.o) hb); replace HB := bB HB hb; (try clear hb); (try clear Ar); (try clear hk); (try clear hi)))
        go_roundg k1
        case measure => have := An.o; omega
        case rel => exact ⟨(wrap64 (A1 + 1)), (by first | rfl | (simp; done) | (simp [*]; done)), H', ⟨by have := An.o; omega⟩, ⟨vB HB⟩⟩
       ·replace c7 := Bool.eq_false_iff.mpr c7
        subst c7
        have H1 : (some false) = some r := by rw [if_neg (show ¬ (false = true) by decide)] at H; exact H
        clear H
        have H := H1
        clear H1
        obtain rfl := Option.some.inj H
        have p385 : 0 ≤ (A1 : Int) := ofD
        have q385 : A1 < (l0.length : Int) := ofD
        obtain ⟨A9, e385, A3, A4⟩ := at_T25 Ao.o A1 p385 q385
        cases e385
        replace A3 := (HB.o.cell (World.block_lt_of_cell? w _ A3)).trans A3
        replace A4 := (HB.o.cell (World.block_lt_of_cell? w _ A4)).trans A4
        replace p385 := eq_true p385
        replace q385 := eq_true q385
        go_wp2_with (first | ((with_reducible refine gq (N := 4) rfl ?_); refine be (N := 4) (cs := #[.int .i64 0, .int .i64 0]) (t := 25) ?_; intro A7 hg Av hbox hb; have A2 := Z.m (hbox); have A5 := gW (w := w) HB hg; have A8 := A5; replace HB := bB HB hb; clear hb hbox hg; have Ad := bc0 A2; have Ae := bc1 A2; have Af := qz A2.o 0; have Ag := qz A2.o 1) | ((with_reducible refine gc (f := 13) rfl ?_); refine gA (some 15) _ #[.agg #[.int .i64 ((rd_T25 l0 A1).f0), .int .i64 ((rd_T25 l0 A1).f1)]] ?_ Try.func13; (with_reducible refine (impl_IsCell.calls ((rd_T25 l0 A1).f0) ((rd_T25 l0 A1).f1) false _ A6.o).mono ?_); rintro e Aw ⟨rfl, hb⟩; refine ⟨_, rfl, ?_⟩; replace A2 := Z.m (qb (g := A7) (o := .cells #[.int .i64 ((rd_T25 l0 A1).f0), .int .i64 ((rd_T25 l0 A1).f1)] 25 (0, 0)) (by refine bK ?_; refine qp (cs := #[iV ((rd_T25 l0 A1).f0), iV 0]) ?_ 1 _ rfl; refine bK ?_; refine qp (cs := #[iV 0, iV 0]) ?_ 0 _ rfl; refine bK ?_; exact A2.o) hb); replace HB := bB HB hb; (try clear hb); (try clear Ar); (try clear hk); (try clear hi)))
        go_ret
        exact ⟨by first | rfl | (simp [eN, eS] <;> rfl) | (simp [*, eN, eS] <;> rfl), vB HB⟩
      ·rw [if_neg c5] at H
       exact absurd H (by simp)
     ·rw [if_neg c4] at H
      exact absurd H (by simp)
    ·rw [if_neg c3] at H
     have Ah := decide_eq_false c3
     clear c3
     obtain rfl := Option.some.inj H
     go_wp2
     go_ret
     exact ⟨by first | rfl | (simp [eN, eS] <;> rfl) | (simp [*, eN, eS] <;> rfl), vB HB⟩

/-! ### impl_CellsText: function 25 -/
def impl_CellsText.l0 : Nat → List Int → List (S25) → Int → Int → Option (ByteArray × Bool)
 | 0, _, _, _, _ => none
 | k + 1, x4, x13, x14, x15 => if x15 < x14 then (if 0 ≤ x15 then (if x15 < (x13.length : Int) then ((impl_CellLetter.f ((rd_T25 x13 x15).f0) ((rd_T25 x13 x15).f1)).bind fun bt394 => (if x4.length + bt394.1.size < 140737488355328 then (impl_CellsText.l0 k (x4 ++ bytesOf bt394.1) x13 x14 (wrap64 (x15 + 1))) else (none))) else (none)) else (none)) else (some (strOfNums x4, true))
def impl_CellsText.f (k : Nat) (l0 : List (S25)) : Option (ByteArray × Bool) := (impl_validCells.f k l0).bind fun t388 => (if t388 = true then (impl_CellsText.l0 k (([] : List Int)) l0 (l0.length : Int) 0) else (some ((⟨#[]⟩ : ByteArray), false)))
set_option maxHeartbeats 8000000 in
set_option maxRecDepth 100000 in
theorem impl_CellsText.calls (k : Nat) (A0 : Option Addr) (c0 : Nat) (l0 : List (S25)) (r1 : ByteArray) (r2 : Bool) (w : World) (hr0 : Kd.C k25 w A0 l0.length l0) (hc0 : l0.length ≤ c0) (h : impl_CellsText.f k l0 = some (r1, r2)) :
 Calls Try.prog 25 #[.slice A0 l0.length c0] w fun e w' => e = .returned (.tuple #[.string r1, .bool r2]) ∧ Below w.heap.size w w' := by
 have AF := Try.underlying25
 have Ar := Z.m hr0
 have Ax := Z.m hc0
 clear hr0 hc0
 have HB := Z.m (Below.refl w.heap.size w)
 have H : ((impl_validCells.f k l0).bind fun Ab => (if Ab = true then (impl_CellsText.l0 k (([] : List Int)) l0 (l0.length : Int) 0) else (some ((⟨#[]⟩ : ByteArray), false)))) = some (r1, r2) := h
 clear h
 replace H := Option.bind_eq_some_iff.mp H
 obtain ⟨Ab, Av, H⟩ := H
 replace H : (if Ab = true then (impl_CellsText.l0 k (([] : List Int)) l0 (l0.length : Int) 0) else (some ((⟨#[]⟩ : ByteArray), false))) = some (r1, r2) := H
 have A2 := Z.m Av
 clear Av
 by_cases c3 : Ab = true
 ·subst c3
  have H1 : (impl_CellsText.l0 k (([] : List Int)) l0 (l0.length : Int) 0) = some (r1, r2) := by rw [if_pos rfl] at H; exact H
  clear H
  have H := H1
  clear H1
  obtain ⟨Am, A7⟩ : ∃ y_ : List Int, y_ = (([] : List Int)) := ⟨_, rfl⟩
  replace H : (impl_CellsText.l0 k Am l0 (l0.length : Int) 0) = some (r1, r2) := by first | (rw [A7]; with_reducible exact H) | (have H2_ := (Option.bind_some _ _).symm.trans H; rw [A7]; with_reducible exact H2_) | (have H2_ := (Option.bind_some _ _).symm.trans H; with_reducible exact H2_) | with_reducible exact H | (rw [A7]; exact H) | exact H
  have Ac := Z.m A7
  clear A7
  have H' := Z.m H
  clear H
  go_enter Try.func25, Try.ntmps25
  go_wp2_with (first | ((with_reducible refine gc (f := 51) rfl ?_); refine gA (some 10) _ #[.slice A0 l0.length c0] ?_ Try.func51; (with_reducible refine (impl_validCells.calls k _ _ l0 true _ ?side1 ?side2 A2.o).mono ?_); (case side1 => repeat (first | exact Ar.o | (with_reducible refine Kd.C_alloc ?_ _) | (with_reducible refine Kd.C_drewN ?_ _) | (with_reducible refine Kd.C_drew ?_))); (case side2 => exact Ax.o); rintro e w4 ⟨rfl, hb⟩; refine ⟨_, rfl, ?_⟩; replace HB := bB HB hb; (try clear hb); (try clear AA); (try clear hk); (try clear hi)) | ((with_reducible refine gq (N := 12) rfl ?_); refine Kd.R_lit (Kd.int .u8) _ 5 ?hg (N := 12) ?hd (xs := ([] : List Int)) (inner := []) (ok := fun _ => True) (okp := fun _ => True) ?hr ?hp (fun _ hk => hk) trivial (Below.refl _ _) (Nat.le_refl _) (by simp) ?_; (case hd => rfl); (case hg => rfl); (case hr => first | (go_simp; done) | (go_simp; rfl)); (case hp => exact (Reps.none _ _)); intro AG w5 Al hb hg_ hnew_; clear hg_ hnew_; (first | rw [← Ac.o] at Al | (simp only [Int.reduceToNat] at Al; rw [← Ac.o] at Al)); have Ah := Z.m (Kd.R_lower Al (below_size (vB HB))); replace HB := bB HB hb; clear hb Al))
  go_loopg [4, 15] k (fun kq v4 v15 w' => ∃ (A9 : List Int) (A1 : Int), v15 = .int .i64 A1 ∧ Z (impl_CellsText.l0 kq A9 l0 (l0.length : Int) A1 = some (r1, r2)) ∧ Z (kq ≤ k) ∧ Z (Kd.R (Kd.int .u8) 5 w' w.heap.size (fun _ => True) v4 A9) ∧ Z (Below w.heap.size w w'))
  case atStart => exact ⟨(Am), (0), (by first | rfl | (simp; done) | (simp [*]; done)), H', ⟨Nat.le_refl _⟩, ⟨vR Ah⟩, ⟨vB HB⟩⟩
  case round =>
   clear H'
   (try clear c3)
   obtain ⟨A9, A1, rfl, HA, Ay, A6, HB⟩ := hrel
   cases gk with
   | zero => exact absurd HA.o (by simp [impl_CellsText.l0])
   | succ k1 =>
    have H := HA.o
    clear HA
    simp only [impl_CellsText.l0] at H
    by_cases c7 : A1 < (l0.length : Int)
    ·rw [if_pos c7] at H
     have As := decide_eq_true c7
     clear c7
     by_cases c8 : 0 ≤ A1
     ·rw [if_pos c8] at H
      have AD := decide_eq_true c8
      clear c8
      by_cases c9 : A1 < (l0.length : Int)
      ·rw [if_pos c9] at H
       have AE := decide_eq_true c9
       clear c9
       replace H := Option.bind_eq_some_iff.mp H
       obtain ⟨⟨Aa, At⟩, Af, H⟩ := H
       replace H : (if A9.length + Aa.size < 140737488355328 then (impl_CellsText.l0 k1 (A9 ++ bytesOf Aa) l0 (l0.length : Int) (wrap64 (A1 + 1))) else (none)) = some (r1, r2) := H
       have AC := Z.m Af
       clear Af
       by_cases c11 : A9.length + Aa.size < 140737488355328
       ·rw [if_pos c11] at H
        have Aj := Z.m c11
        clear c11
        obtain ⟨Ae, A8⟩ : ∃ y_ : List Int, y_ = (A9 ++ bytesOf Aa) := ⟨_, rfl⟩
        replace H : (impl_CellsText.l0 k1 Ae l0 (l0.length : Int) (wrap64 (A1 + 1))) = some (r1, r2) := by first | (rw [A8]; with_reducible exact H) | (have H2_ := (Option.bind_some _ _).symm.trans H; rw [A8]; with_reducible exact H2_) | (have H2_ := (Option.bind_some _ _).symm.trans H; with_reducible exact H2_) | with_reducible exact H | (rw [A8]; exact H) | exact H
        have Ak := Z.m A8
        clear A8
        have H' := Z.m H
        clear H
        have p392 : 0 ≤ (A1 : Int) := ofD
        have q392 : A1 < (l0.length : Int) := ofD
        obtain ⟨Az, e392, A4, A5⟩ := at_T25 Ar.o A1 p392 q392
        cases e392
        replace A4 := (HB.o.cell (World.block_lt_of_cell? w _ A4)).trans A4
        replace A5 := (HB.o.cell (World.block_lt_of_cell? w _ A5)).trans A5
        replace p392 := eq_true p392
        replace q392 := eq_true q392
        go_wp2_with (first | ((with_reducible refine gq (N := 6) rfl ?_); refine be (N := 6) (cs := #[.int .i64 0, .int .i64 0]) (t := 25) ?_; intro Ad hg AI hbox hb; have A3 := Z.m (hbox); have Ag := gW (w := w) HB hg; have Aw := Ag; replace A6 := Z.m (Kd.Rb (vR A6) hb); replace HB := bB HB hb; clear hb hbox hg; have An := bc0 A3; have Ao := bc1 A3; have Ap := qz A3.o 0; have Aq := qz A3.o 1) | ((with_reducible refine gc (f := 7) rfl ?_); refine gA (some 21) _ #[.agg #[.int .i64 ((rd_T25 l0 A1).f0), .int .i64 ((rd_T25 l0 A1).f1)]] ?_ Try.func7; (with_reducible refine (impl_CellLetter.calls ((rd_T25 l0 A1).f0) ((rd_T25 l0 A1).f1) Aa At _ AC.o).mono ?_); rintro e AJ ⟨rfl, hb⟩; refine ⟨_, rfl, ?_⟩; replace A6 := Z.m (Kd.Rb (by refine rK ?_; exact (Kd.Rm (rf (rf (Kd.Ry A6.o A3.o (by decide)))) (fun _ h_ => h_.1))) hb); replace A3 := Z.m (qb (g := Ad) (o := .cells #[.int .i64 ((rd_T25 l0 A1).f0), .int .i64 ((rd_T25 l0 A1).f1)] 25 (0, 0)) (by refine bK ?_; refine qp (cs := #[iV ((rd_T25 l0 A1).f0), iV 0]) ?_ 1 _ rfl; refine bK ?_; refine qp (cs := #[iV 0, iV 0]) ?_ 0 _ rfl; refine bK ?_; exact A3.o) hb); replace HB := bB HB hb; (try clear hb); (try clear AA); (try clear hk); (try clear hi)) | (at_builtin; refine print_append_str (w0 := w) w.heap.size rfl (.tmp 24) _ 22 9 5 rfl Try.underlying22 Try.underlying9 info5 u4 A9 Aa rfl rfl ?aO ?aB ?aS ?aL ?_; (case aB => exact (vB HB)); (case aO => exact (Kd.own_of_R (vR A6))); (case aS => exact (below_size (vB HB))); (case aL => have := Aj.o; omega); intro Au AH AB hb hg; have ho := Kd.R_of_own (h1 := fun _ => rfl) (ok := fun _ => True) AB (fun _ _ => trivial); clear AB; have hat := True.intro; rw [← Ak.o] at ho; change Kd.R (Kd.int .u8) 5 AH w.heap.size (fun _ => True) Au Ae at ho; have Ai := Z.m (ho); replace A3 := Z.m (qg (g := Ad) (o := .cells #[.int .i64 ((rd_T25 l0 A1).f0), .int .i64 ((rd_T25 l0 A1).f1)] 25 (0, 0)) (vK A3) hg (Kd.R_ne A6.o A3.o (by decide))); replace HB := Z.m (hb); clear A6; clear ho hb hg hat))
        go_roundg k1
        case measure => have := Ay.o; omega
        case rel => exact ⟨(Ae), (wrap64 (A1 + 1)), (by first | rfl | (simp; done) | (simp [*]; done)), H', ⟨by have := Ay.o; omega⟩, ⟨vR Ai⟩, ⟨vB HB⟩⟩
       ·rw [if_neg c11] at H
        exact absurd H (by simp)
      ·rw [if_neg c9] at H
       exact absurd H (by simp)
     ·rw [if_neg c8] at H
      exact absurd H (by simp)
    ·rw [if_neg c7] at H
     have As := decide_eq_false c7
     clear c7
     simp only [Option.some.injEq, Prod.mk.injEq] at H
     obtain ⟨rfl, rfl⟩ := H
     have hcv16 := own_string (P := Try.prog) Try.underlying22 Try.underlying5 Try.underlying9 (Kd.own_of_R A6.o)
     go_wp2
     go_ret2
     exact ⟨by first | rfl | (simp [eN, eS] <;> rfl) | (simp [*, eN, eS] <;> rfl), vB HB⟩
 ·replace c3 := Bool.eq_false_iff.mpr c3
  subst c3
  have H1 : (some ((⟨#[]⟩ : ByteArray), false)) = some (r1, r2) := by rw [if_neg (show ¬ (false = true) by decide)] at H; exact H
  clear H
  have H := H1
  clear H1
  simp only [Option.some.injEq, Prod.mk.injEq] at H
  obtain ⟨rfl, rfl⟩ := H
  go_enter Try.func25, Try.ntmps25
  go_wp2_with (first | ((with_reducible refine gc (f := 51) rfl ?_); refine gA (some 10) _ #[.slice A0 l0.length c0] ?_ Try.func51; (with_reducible refine (impl_validCells.calls k _ _ l0 false _ ?side1 ?side2 A2.o).mono ?_); (case side1 => repeat (first | exact Ar.o | (with_reducible refine Kd.C_alloc ?_ _) | (with_reducible refine Kd.C_drewN ?_ _) | (with_reducible refine Kd.C_drew ?_))); (case side2 => exact Ax.o); rintro e AK ⟨rfl, hb⟩; refine ⟨_, rfl, ?_⟩; replace HB := bB HB hb; (try clear hb); (try clear AA); (try clear hk); (try clear hi)))
  go_ret2
  exact ⟨by first | rfl | (simp [eN, eS] <;> rfl) | (simp [*, eN, eS] <;> rfl), vB HB⟩

/-! ### spec_paList: function 52 -/
def spec_paList.l0 : Nat → List (S25) → List (S25) → Int → Int → Option (Bool)
 | 0, _, _, _, _ => none
 | k + 1, x0, x5, x6, x7 => if x7 < x6 then (if 0 ≤ x7 then (if x7 < (x5.length : Int) then ((spec_paGood.f ((rd_T25 x5 x7).f0) ((rd_T25 x5 x7).f1)).bind fun t401 => (if t401 = true then (spec_paList.l0 k x0 x5 x6 (wrap64 (x7 + 1))) else (some false))) else (none)) else (none)) else (some (decide ((x0.length : Int) ≤ 90)))
def spec_paList.f (k : Nat) (l0 : List (S25)) : Option (Bool) := spec_paList.l0 k l0 l0 (l0.length : Int) 0
set_option maxHeartbeats 8000000 in
set_option maxRecDepth 100000 in
theorem spec_paList.calls (k : Nat) (A0 : Option Addr) (c0 : Nat) (l0 : List (S25)) (r : Bool) (w : World) (hr0 : Kd.C k25 w A0 l0.length l0) (hc0 : l0.length ≤ c0) (h : spec_paList.f k l0 = some r) :
 Calls Try.prog 52 #[.slice A0 l0.length c0] w fun e w' => e = .returned (.bool r) ∧ Below w.heap.size w w' := by
 have Aq := Try.underlying25
 have Am := Z.m hr0
 have Ar := Z.m hc0
 clear hr0 hc0
 have HB := Z.m (Below.refl w.heap.size w)
 have H : (spec_paList.l0 k l0 l0 (l0.length : Int) 0) = some r := h
 clear h
 have H' := Z.m H
 clear H
 go_enter Try.func52, Try.ntmps52
 go_wp2
 go_loopg [7] k (fun kq v7 w' => ∃ (A1 : Int), v7 = .int .i64 A1 ∧ Z (spec_paList.l0 kq l0 l0 (l0.length : Int) A1 = some r) ∧ Z (kq ≤ k) ∧ Z (Below w.heap.size w w'))
 case atStart => exact ⟨(0), (by first | rfl | (simp; done) | (simp [*]; done)), H', ⟨Nat.le_refl _⟩, ⟨vB HB⟩⟩
 case round =>
  clear H'
  obtain ⟨A1, rfl, HA, Al, HB⟩ := hrel
  cases gk with
  | zero => exact absurd HA.o (by simp [spec_paList.l0])
  | succ k1 =>
   have H := HA.o
   clear HA
   simp only [spec_paList.l0] at H
   by_cases c2 : A1 < (l0.length : Int)
   ·rw [if_pos c2] at H
    have Af := decide_eq_true c2
    clear c2
    by_cases c3 : 0 ≤ A1
    ·rw [if_pos c3] at H
     have An := decide_eq_true c3
     clear c3
     by_cases c4 : A1 < (l0.length : Int)
     ·rw [if_pos c4] at H
      have Ao := decide_eq_true c4
      clear c4
      replace H := Option.bind_eq_some_iff.mp H
      obtain ⟨Aa, Ak, H⟩ := H
      replace H : (if Aa = true then (spec_paList.l0 k1 l0 l0 (l0.length : Int) (wrap64 (A1 + 1))) else (some false)) = some r := H
      have A5 := Z.m Ak
      clear Ak
      by_cases c6 : Aa = true
      ·subst c6
       have H1 : (spec_paList.l0 k1 l0 l0 (l0.length : Int) (wrap64 (A1 + 1))) = some r := by rw [if_pos rfl] at H; exact H
       clear H
       have H := H1
       clear H1
       have H' := Z.m H
       clear H
       have p399 : 0 ≤ (A1 : Int) := ofD
       have q399 : A1 < (l0.length : Int) := ofD
       obtain ⟨A9, e399, A3, A4⟩ := at_T25 Am.o A1 p399 q399
       cases e399
       replace A3 := (HB.o.cell (World.block_lt_of_cell? w _ A3)).trans A3
       replace A4 := (HB.o.cell (World.block_lt_of_cell? w _ A4)).trans A4
       replace p399 := eq_true p399
       replace q399 := eq_true q399
       go_wp2_with (first | ((with_reducible refine gq (N := 4) rfl ?_); refine be (N := 4) (cs := #[.int .i64 0, .int .i64 0]) (t := 25) ?_; intro A7 hg w7 hbox hb; have A2 := Z.m (hbox); have A6 := gW (w := w) HB hg; have A8 := A6; replace HB := bB HB hb; clear hb hbox hg; have Ag := bc0 A2; have Ah := bc1 A2; have Ai := qz A2.o 0; have Aj := qz A2.o 1) | ((with_reducible refine gc (f := 38) rfl ?_); refine gA (some 12) _ #[.agg #[.int .i64 ((rd_T25 l0 A1).f0), .int .i64 ((rd_T25 l0 A1).f1)]] ?_ Try.func38; (with_reducible refine (spec_paGood.calls ((rd_T25 l0 A1).f0) ((rd_T25 l0 A1).f1) true _ A5.o).mono ?_); rintro e w9 ⟨rfl, hb⟩; refine ⟨_, rfl, ?_⟩; replace A2 := Z.m (qb (g := A7) (o := .cells #[.int .i64 ((rd_T25 l0 A1).f0), .int .i64 ((rd_T25 l0 A1).f1)] 25 (0, 0)) (by refine bK ?_; refine qp (cs := #[iV ((rd_T25 l0 A1).f0), iV 0]) ?_ 1 _ rfl; refine bK ?_; refine qp (cs := #[iV 0, iV 0]) ?_ 0 _ rfl; refine bK ?_; exact A2.o) hb); replace HB := bB HB hb; (try clear hb); (try clear Ap); (try clear hk); (try clear hi)))
       go_roundg k1
       case measure => have := Al.o; omega
       case rel => exact ⟨(wrap64 (A1 + 1)), (by first | rfl | (simp; done) | (simp [*]; done)), H', ⟨by have := Al.o; omega⟩, ⟨vB HB⟩⟩
      ·replace c6 := Bool.eq_false_iff.mpr c6
       subst c6
       have H1 : (some false) = some r := by rw [if_neg (show ¬ (false = true) by decide)] at H; exact H
       clear H
       have H := H1
       clear H1
       obtain rfl := Option.some.inj H
       have p399 : 0 ≤ (A1 : Int) := ofD
       have q399 : A1 < (l0.length : Int) := ofD
       obtain ⟨A9, e399, A3, A4⟩ := at_T25 Am.o A1 p399 q399
       cases e399
       replace A3 := (HB.o.cell (World.block_lt_of_cell? w _ A3)).trans A3
       replace A4 := (HB.o.cell (World.block_lt_of_cell? w _ A4)).trans A4
       replace p399 := eq_true p399
       replace q399 := eq_true q399
       go_wp2_with (first | ((with_reducible refine gq (N := 4) rfl ?_); refine be (N := 4) (cs := #[.int .i64 0, .int .i64 0]) (t := 25) ?_; intro A7 hg As hbox hb; have A2 := Z.m (hbox); have A6 := gW (w := w) HB hg; have A8 := A6; replace HB := bB HB hb; clear hb hbox hg; have Ab := bc0 A2; have Ac := bc1 A2; have Ad := qz A2.o 0; have Ae := qz A2.o 1) | ((with_reducible refine gc (f := 38) rfl ?_); refine gA (some 12) _ #[.agg #[.int .i64 ((rd_T25 l0 A1).f0), .int .i64 ((rd_T25 l0 A1).f1)]] ?_ Try.func38; (with_reducible refine (spec_paGood.calls ((rd_T25 l0 A1).f0) ((rd_T25 l0 A1).f1) false _ A5.o).mono ?_); rintro e At ⟨rfl, hb⟩; refine ⟨_, rfl, ?_⟩; replace A2 := Z.m (qb (g := A7) (o := .cells #[.int .i64 ((rd_T25 l0 A1).f0), .int .i64 ((rd_T25 l0 A1).f1)] 25 (0, 0)) (by refine bK ?_; refine qp (cs := #[iV ((rd_T25 l0 A1).f0), iV 0]) ?_ 1 _ rfl; refine bK ?_; refine qp (cs := #[iV 0, iV 0]) ?_ 0 _ rfl; refine bK ?_; exact A2.o) hb); replace HB := bB HB hb; (try clear hb); (try clear Ap); (try clear hk); (try clear hi)))
       go_ret
       exact ⟨by first | rfl | (simp [eN, eS] <;> rfl) | (simp [*, eN, eS] <;> rfl), vB HB⟩
     ·rw [if_neg c4] at H
      exact absurd H (by simp)
    ·rw [if_neg c3] at H
     exact absurd H (by simp)
   ·rw [if_neg c2] at H
    have Af := decide_eq_false c2
    clear c2
    obtain rfl := Option.some.inj H
    go_wp2
    go_ret
    exact ⟨by first | rfl | (simp [eN, eS] <;> rfl) | (simp [*, eN, eS] <;> rfl), vB HB⟩

end Go.Proofs.Ytklmdnlambinaaa.PAll
