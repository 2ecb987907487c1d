/- Began as a text that print.sh wrote (of the functions named below); turned and shortened by this session. -/
import Derived.Test.YtklmdnlambinaaaDoorG0
import Derived.Test.YtklmdnlambinaaaDoorG4
namespace Go.Proofs.YtklmdnlambinaaaDoor.PAll
open Go.RowKit Go.Proofs.YtklmdnlambinaaaDoorW.PrintWords Go.Proofs.YtklmdnlambinaaaDoorW.PrintLast Go.Proofs.YtklmdnlambinaaaDoorW.PrintMore
attribute [local go_sem] max2_int min2_int max_two min_two max_three min_three max_four min_four   -- for this text's walks alone
set_option linter.unusedVariables false
set_option linter.unusedSimpArgs false

/-! ### impl_MachineText: function 13 -/
def impl_MachineText.l0 : Nat → ByteArray → ByteArray → List Int → Int → Int → Option (ByteArray × Bool)
 | 0, _, _, _, _, _ => none
 | k + 1, x4, x6, x28, x29, x30 => if x30 < x29 then (if 0 ≤ x30 then (if x30 < (x28.length : Int) then (if x30 > 0 then (if x6.size + 1 ≤ 9223372036854775807 then ((strconv_Itoa_28.f (rd x28 x30)).bind fun t238 => (if (x6 ++ (⟨#[32]⟩ : ByteArray)).size + t238.size ≤ 9223372036854775807 then (impl_MachineText.l0 k x4 ((x6 ++ (⟨#[32]⟩ : ByteArray)) ++ t238) x28 x29 (wrap64 (x30 + 1))) else (none))) else (none)) else ((strconv_Itoa_28.f (rd x28 x30)).bind fun t239 => (if x6.size + t239.size ≤ 9223372036854775807 then (impl_MachineText.l0 k x4 (x6 ++ t239) x28 x29 (wrap64 (x30 + 1))) else (none)))) else (none)) else (none)) else (if x6.size + 1 ≤ 9223372036854775807 then (if (x6 ++ (⟨#[10]⟩ : ByteArray)).size + x4.size ≤ 9223372036854775807 then (some ((x6 ++ (⟨#[10]⟩ : ByteArray)) ++ x4, true)) else (none)) else (none))
def impl_MachineText.f (k : Nat) (a0_0 : Int) (a0_1 : Int) (l0_2 : List (S62)) (a0_3 : Int) (a0_4 : Int) (a0_5 : Int) (a0_6 : Int) (a0_7 : Int) : Option (ByteArray × Bool) := (impl_IsMachine.f k a0_0 a0_1 l0_2 a0_3 a0_4 a0_5 a0_6 a0_7).bind fun t231 => (if t231 = true then ((impl_BoardText.f k a0_0 a0_1 l0_2).bind fun bt232 => ((some (([a0_3, a0_4, a0_5, a0_6, a0_7] : List Int) : List Int)).bind fun y234 => (impl_MachineText.l0 k bt232.1 (⟨#[]⟩ : ByteArray) y234 (y234.length : Int) 0))) else (some ((⟨#[]⟩ : ByteArray), false)))
set_option maxHeartbeats 8000000 in
set_option maxRecDepth 100000 in
theorem impl_MachineText.calls (k : Nat) (a0_0 : Int) (a0_1 : Int) (A0_2 : Option Addr) (c0_2 : Nat) (l0_2 : List (S62)) (a0_3 : Int) (a0_4 : Int) (a0_5 : Int) (a0_6 : Int) (a0_7 : Int) (r1 : ByteArray) (r2 : Bool) (w : World) (hr0_2 : Kd.C k62 w A0_2 l0_2.length l0_2) (hc0_2 : l0_2.length ≤ c0_2) (h : impl_MachineText.f k a0_0 a0_1 l0_2 a0_3 a0_4 a0_5 a0_6 a0_7 = some (r1, r2)) :
 Calls Tryd.prog 13 #[.agg #[.int .i64 a0_0, .int .i64 a0_1, .slice A0_2 l0_2.length c0_2, .int .i64 a0_3, .int .i64 a0_4, .int .i64 a0_5, .int .i64 a0_6, .int .i64 a0_7]] w fun e w' => e = .returned (.tuple #[.string r1, .bool r2]) ∧ Below w.heap.size w w' := by
 have BW := Tryd.underlying39
 have BV := Tryd.underlying24
 have Ad := Z.m hr0_2
 have Ac := Z.m hc0_2
 clear hr0_2 hc0_2
 have HB := Z.m (Below.refl w.heap.size w)
 have H : ((impl_IsMachine.f k a0_0 a0_1 l0_2 a0_3 a0_4 a0_5 a0_6 a0_7).bind fun Aw => (if Aw = true then ((impl_BoardText.f k a0_0 a0_1 l0_2).bind fun bt232 => ((some (([a0_3, a0_4, a0_5, a0_6, a0_7] : List Int) : List Int)).bind fun A3 => (impl_MachineText.l0 k bt232.1 (⟨#[]⟩ : ByteArray) A3 (A3.length : Int) 0))) else (some ((⟨#[]⟩ : ByteArray), false)))) = some (r1, r2) := h
 clear h
 replace H := Option.bind_eq_some_iff.mp H
 obtain ⟨Aw, Bz, H⟩ := H
 replace H : (if Aw = true then ((impl_BoardText.f k a0_0 a0_1 l0_2).bind fun bt232 => ((some (([a0_3, a0_4, a0_5, a0_6, a0_7] : List Int) : List Int)).bind fun A3 => (impl_MachineText.l0 k bt232.1 (⟨#[]⟩ : ByteArray) A3 (A3.length : Int) 0))) else (some ((⟨#[]⟩ : ByteArray), false))) = some (r1, r2) := H
 have A2 := Z.m Bz
 clear Bz
 by_cases c3 : Aw = true
 ·subst c3
  have H1 : ((impl_BoardText.f k a0_0 a0_1 l0_2).bind fun bt232 => ((some (([a0_3, a0_4, a0_5, a0_6, a0_7] : List Int) : List Int)).bind fun A3 => (impl_MachineText.l0 k bt232.1 (⟨#[]⟩ : ByteArray) A3 (A3.length : Int) 0))) = some (r1, r2) := by rw [if_pos rfl] at H; exact H
  clear H
  have H := H1
  clear H1
  replace H := Option.bind_eq_some_iff.mp H
  obtain ⟨⟨A6, By⟩, BA, H⟩ := H
  replace H : ((some (([a0_3, a0_4, a0_5, a0_6, a0_7] : List Int) : List Int)).bind fun A3 => (impl_MachineText.l0 k A6 (⟨#[]⟩ : ByteArray) A3 (A3.length : Int) 0)) = some (r1, r2) := H
  have A4 := Z.m BA
  clear BA
  obtain ⟨A3, A7⟩ : ∃ y_ : List Int, y_ = (([a0_3, a0_4, a0_5, a0_6, a0_7] : List Int)) := ⟨_, rfl⟩
  replace H : (impl_MachineText.l0 k A6 (⟨#[]⟩ : ByteArray) A3 (A3.length : Int) 0) = some (r1, r2) := by first | (rw [A7]; with_reducible exact H) | (have H2_ := (Option.bind_some _ _).symm.trans H; rw [A7]; with_reducible exact H2_) | (have H2_ := (Option.bind_some _ _).symm.trans H; with_reducible exact H2_) | with_reducible exact H | (rw [A7]; exact H) | exact H
  have Ay := Z.m A7
  clear A7
  have H' := Z.m H
  clear H
  go_enter Tryd.func13, Tryd.ntmps13
  go_wp2_with (first | ((with_reducible refine gq (N := 1) rfl ?_); refine be (N := 1) (cs := #[.int .i64 a0_0, .int .i64 a0_1, .slice A0_2 l0_2.length c0_2, .int .i64 a0_3, .int .i64 a0_4, .int .i64 a0_5, .int .i64 a0_6, .int .i64 a0_7]) (t := 39) ?_; intro Az hg w5 hbox hb; have A0 := Z.m (hbox); have Ab := gW (w := w) HB hg; have Ba := Ab; replace HB := bB HB hb; clear hb hbox hg; have AA := bc0 A0; have AB := bc1 A0; have AC := bc2 A0; have AD := bc3 A0; have AE := bc4 A0; have AF := bc5 A0; have AG := bc6 A0; have AH := bc7 A0; have AQ := qz A0.o 0; have AR := qz A0.o 1; have AS := qz A0.o 2; have AT := qz A0.o 3; have AU := qz A0.o 4; have AV := qz A0.o 5; have AW := qz A0.o 6; have AX := qz A0.o 7) | ((with_reducible refine gc (f := 26) rfl ?_); refine gA (some 10) _ #[.agg #[.int .i64 a0_0, .int .i64 a0_1, .slice A0_2 l0_2.length c0_2, .int .i64 a0_3, .int .i64 a0_4, .int .i64 a0_5, .int .i64 a0_6, .int .i64 a0_7]] ?_ Tryd.func26; (with_reducible refine (impl_IsMachine.calls k a0_0 a0_1 _ _ l0_2 a0_3 a0_4 a0_5 a0_6 a0_7 true _ ?side1 ?side2 A2.o).mono ?_); (case side1 => repeat (first | exact (Kd.C_below Ad.o HB.o) | (with_reducible refine Kd.C_alloc ?_ _) | (with_reducible refine Kd.C_drewN ?_ _) | (with_reducible refine Kd.C_drew ?_))); (case side2 => exact Ac.o); rintro e w7 ⟨rfl, hb⟩; refine ⟨_, rfl, ?_⟩; replace A0 := kB A0 hb; replace HB := bB HB hb; (try clear hb); (try clear BS); (try clear hk); (try clear hi); have AI := bc0 A0; have AJ := bc1 A0; have AK := bc2 A0; have AL := bc3 A0; have AM := bc4 A0; have AN := bc5 A0; have AO := bc6 A0; have AP := bc7 A0; have AY := qz A0.o 0; have AZ := qz A0.o 1; have B0 := qz A0.o 2; have B1 := qz A0.o 3; have B2 := qz A0.o 4; have B4 := qz A0.o 5; have B5 := qz A0.o 6; have B7 := qz A0.o 7) | ((with_reducible refine gc (f := 27) rfl ?_); refine gA (some 15) _ #[.agg #[.int .i64 a0_0, .int .i64 a0_1, .slice A0_2 l0_2.length c0_2]] ?_ Tryd.func27; (with_reducible refine (impl_BoardText.calls k a0_0 a0_1 _ _ l0_2 A6 By _ ?side1 ?side2 A4.o).mono ?_); (case side1 => repeat (first | exact (Kd.C_below Ad.o HB.o) | (with_reducible refine Kd.C_alloc ?_ _) | (with_reducible refine Kd.C_drewN ?_ _) | (with_reducible refine Kd.C_drew ?_))); (case side2 => exact Ac.o); rintro e w9 ⟨rfl, hb⟩; refine ⟨_, rfl, ?_⟩; replace A0 := kB A0 hb; replace HB := bB HB hb; (try clear hb); (try clear BS); (try clear hk); (try clear hi); have Af := bc0 A0; have Ag := bc1 A0; have Ah := bc2 A0; have Ai := bc3 A0; have Aj := bc4 A0; have Ak := bc5 A0; have Al := bc6 A0; have Am := bc7 A0; have An := qz A0.o 0; have Ao := qz A0.o 1; have Ap := qz A0.o 2; have Aq := qz A0.o 3; have Ar := qz A0.o 4; have As := qz A0.o 5; have At := qz A0.o 6; have Au := qz A0.o 7) | ((with_reducible refine gq (N := 28) rfl ?_); refine Kd.R_lit (Kd.int .i64) _ 3 ?hg (N := 28) ?hd (xs := ([a0_3, a0_4, a0_5, a0_6, a0_7] : List Int)) (inner := [.int .i64 a0_3, .int .i64 a0_4, .int .i64 a0_5, .int .i64 a0_6, .int .i64 a0_7]) (ok := fun _ => True) (okp := fun _ => True) ?hr ?hp (fun _ hk => hk) trivial (Below.refl _ _) (Nat.le_refl _) (by simp) ?_; (case hd => rfl); (case hg => rfl); (case hr => first | (go_simp; done) | (go_simp; rfl)); (case hp => exact (Reps.one (show Kd.M (Kd.int .i64) _ _ _ a0_3 [.int .i64 a0_3] from rfl) (Reps.one (show Kd.M (Kd.int .i64) _ _ _ a0_4 [.int .i64 a0_4] from rfl) (Reps.one (show Kd.M (Kd.int .i64) _ _ _ a0_5 [.int .i64 a0_5] from rfl) (Reps.one (show Kd.M (Kd.int .i64) _ _ _ a0_6 [.int .i64 a0_6] from rfl) (Reps.one (show Kd.M (Kd.int .i64) _ _ _ a0_7 [.int .i64 a0_7] from rfl) (Reps.none _ _))))))); intro BX BY Ae hb hg_ hnew_; clear hg_ hnew_; (first | rw [← Ay.o] at Ae | (simp only [Int.reduceToNat] at Ae; rw [← Ay.o] at Ae)); have Ax := Z.m (Kd.R_lower Ae (below_size (vB HB))); replace A0 := kB A0 hb; replace HB := bB HB hb; clear hb Ae; obtain ⟨Bv, Bw, Bx⟩ := Kd.R_slice Ax.o; subst Bx))
  go_loopg [6, 30] k (fun kq v6 v30 w' => ∃ (A5 : ByteArray) (A1 : Int), v6 = .string A5 ∧ v30 = .int .i64 A1 ∧ Z (impl_MachineText.l0 kq A6 A5 A3 (A3.length : Int) A1 = some (r1, r2)) ∧ Z (kq ≤ k) ∧ Z (Kd.R (Kd.int .i64) 3 w' w.heap.size (fun _ => True) (.slice Bv A3.length Bw) A3) ∧ Z (w'.heap[Az]? = some (.cells #[.int .i64 a0_0, .int .i64 a0_1, (.slice A0_2 l0_2.length c0_2), .int .i64 a0_3, .int .i64 a0_4, .int .i64 a0_5, .int .i64 a0_6, .int .i64 a0_7] 39 (0, 0))) ∧ Z (Below w.heap.size w w'))
  case atStart => exact ⟨((⟨#[]⟩ : ByteArray)), (0), (by first | rfl | (simp; done) | (simp [*]; done)), (by first | rfl | (simp; done) | (simp [*]; done)), H', ⟨Nat.le_refl _⟩, ⟨vR Ax⟩, ⟨vK A0⟩, ⟨vB HB⟩⟩
  case round =>
   clear H'
   (try clear c3)
   (try clear Af); (try clear Ag); (try clear Ah); (try clear Ai); (try clear Aj); (try clear Ak); (try clear Al); (try clear Am)
   (try clear AA); (try clear AB); (try clear AC); (try clear AD); (try clear AE); (try clear AF); (try clear AG); (try clear AH)
   (try clear AI); (try clear AJ); (try clear AK); (try clear AL); (try clear AM); (try clear AN); (try clear AO); (try clear AP)
   (try clear An); (try clear Ao); (try clear Ap); (try clear Aq); (try clear Ar); (try clear As); (try clear At); (try clear Au)
   (try clear AQ); (try clear AR); (try clear AS); (try clear AT); (try clear AU); (try clear AV); (try clear AW); (try clear AX)
   (try clear AY); (try clear AZ); (try clear B0); (try clear B1); (try clear B2); (try clear B4); (try clear B5); (try clear B7)
   obtain ⟨A5, A1, rfl, rfl, HA, Be, A9, A0, HB⟩ := hrel
   cases gk with
   | zero => exact absurd HA.o (by simp [impl_MachineText.l0])
   | succ k1 =>
    have H := HA.o
    clear HA
    simp only [impl_MachineText.l0] at H
    by_cases c14 : A1 < (A3.length : Int)
    ·rw [if_pos c14] at H
     have Bc := decide_eq_true c14
     clear c14
     by_cases c15 : 0 ≤ A1
     ·rw [if_pos c15] at H
      have BB := decide_eq_true c15
      clear c15
      by_cases c16 : A1 < (A3.length : Int)
      ·rw [if_pos c16] at H
       have BC := decide_eq_true c16
       clear c16
       by_cases c17 : A1 > 0
       ·rw [if_pos c17] at H
        have Bd := decide_eq_true c17
        clear c17
        by_cases c18 : A5.size + 1 ≤ 9223372036854775807
        ·rw [if_pos c18] at H
         have BD := eq_true c18
         have BE := decide_eq_true c18
         try have BF : (9223372036854775807 < A5.size + 1) = False := eq_false (Nat.not_lt.2 c18)
         replace H := Option.bind_eq_some_iff.mp H
         obtain ⟨A8, B8, H⟩ := H
         replace H : (if (A5 ++ (⟨#[32]⟩ : ByteArray)).size + A8.size ≤ 9223372036854775807 then (impl_MachineText.l0 k1 A6 ((A5 ++ (⟨#[32]⟩ : ByteArray)) ++ A8) A3 (A3.length : Int) (wrap64 (A1 + 1))) else (none)) = some (r1, r2) := H
         have BT := Z.m B8
         clear B8
         by_cases c20 : (A5 ++ (⟨#[32]⟩ : ByteArray)).size + A8.size ≤ 9223372036854775807
         ·rw [if_pos c20] at H
          have BG := eq_true c20
          have BH := decide_eq_true c20
          try have BI : (9223372036854775807 < (A5 ++ (⟨#[32]⟩ : ByteArray)).size + A8.size) = False := eq_false (Nat.not_lt.2 c20)
          try have c20b2x : (9223372036854775807 < A5.size + 1 + A8.size) = False := eq_false (by rw [ByteArray.size_append, show (⟨#[32]⟩ : ByteArray).size = 1 from rfl] at c20; omega)
          have H' := Z.m H
          clear H
          have p237 : 0 ≤ (A1 : Int) := ofD
          have q237 : A1 < (A3.length : Int) := ofD
          obtain ⟨Bb, e237, Av⟩ := Kd.at_int (Kd.Rr A9.o).2.2 A1 p237 q237
          cases e237
          replace p237 := eq_true p237
          replace q237 := eq_true q237
          go_wp2_with (first | ((with_reducible refine gc (f := 28) rfl ?_); refine gA (some 41) _ #[.int .i64 (rd A3 A1)] ?_ Tryd.func28; (with_reducible refine (strconv_Itoa_28.calls (rd A3 A1) A8 _ BT.o).mono ?_); rintro e w' ⟨rfl, ⟨nd, rfl⟩⟩; refine ⟨_, rfl, ?_⟩))
          go_roundg k1
          case measure => have := Be.o; omega
          case rel => exact ⟨((A5 ++ (⟨#[32]⟩ : ByteArray)) ++ A8), (wrap64 (A1 + 1)), (by first | rfl | (simp; done) | (simp [*]; done)), (by first | rfl | (simp; done) | (simp [*]; done)), H', ⟨by have := Be.o; omega⟩, ⟨vR A9⟩, ⟨vK A0⟩, ⟨vB HB⟩⟩
         ·rw [if_neg c20] at H
          exact absurd H (by simp)
        ·rw [if_neg c18] at H
         exact absurd H (by simp)
       ·rw [if_neg c17] at H
        have Bd := decide_eq_false c17
        clear c17
        replace H := Option.bind_eq_some_iff.mp H
        obtain ⟨Aa, B9, H⟩ := H
        replace H : (if A5.size + Aa.size ≤ 9223372036854775807 then (impl_MachineText.l0 k1 A6 (A5 ++ Aa) A3 (A3.length : Int) (wrap64 (A1 + 1))) else (none)) = some (r1, r2) := H
        have BU := Z.m B9
        clear B9
        by_cases c22 : A5.size + Aa.size ≤ 9223372036854775807
        ·rw [if_pos c22] at H
         have BJ := eq_true c22
         have BK := decide_eq_true c22
         try have BL : (9223372036854775807 < A5.size + Aa.size) = False := eq_false (Nat.not_lt.2 c22)
         have H' := Z.m H
         clear H
         have p237 : 0 ≤ (A1 : Int) := ofD
         have q237 : A1 < (A3.length : Int) := ofD
         obtain ⟨Bb, e237, Av⟩ := Kd.at_int (Kd.Rr A9.o).2.2 A1 p237 q237
         cases e237
         replace p237 := eq_true p237
         replace q237 := eq_true q237
         go_wp2_with (first | ((with_reducible refine gc (f := 28) rfl ?_); refine gA (some 41) _ #[.int .i64 (rd A3 A1)] ?_ Tryd.func28; (with_reducible refine (strconv_Itoa_28.calls (rd A3 A1) Aa _ BU.o).mono ?_); rintro e w' ⟨rfl, ⟨nd, rfl⟩⟩; refine ⟨_, rfl, ?_⟩))
         go_roundg k1
         case measure => have := Be.o; omega
         case rel => exact ⟨(A5 ++ Aa), (wrap64 (A1 + 1)), (by first | rfl | (simp; done) | (simp [*]; done)), (by first | rfl | (simp; done) | (simp [*]; done)), H', ⟨by have := Be.o; omega⟩, ⟨vR A9⟩, ⟨vK A0⟩, ⟨vB HB⟩⟩
        ·rw [if_neg c22] at H
         exact absurd H (by simp)
      ·rw [if_neg c16] at H
       exact absurd H (by simp)
     ·rw [if_neg c15] at H
      exact absurd H (by simp)
    ·rw [if_neg c14] at H
     have Bc := decide_eq_false c14
     clear c14
     by_cases c23 : A5.size + 1 ≤ 9223372036854775807
     ·rw [if_pos c23] at H
      have BM := eq_true c23
      have BN := decide_eq_true c23
      try have BO : (9223372036854775807 < A5.size + 1) = False := eq_false (Nat.not_lt.2 c23)
      by_cases c24 : (A5 ++ (⟨#[10]⟩ : ByteArray)).size + A6.size ≤ 9223372036854775807
      ·rw [if_pos c24] at H
       have BP := eq_true c24
       have BQ := decide_eq_true c24
       try have BR : (9223372036854775807 < (A5 ++ (⟨#[10]⟩ : ByteArray)).size + A6.size) = False := eq_false (Nat.not_lt.2 c24)
       try have c24b2x : (9223372036854775807 < A5.size + 1 + A6.size) = False := eq_false (by rw [ByteArray.size_append, show (⟨#[10]⟩ : ByteArray).size = 1 from rfl] at c24; omega)
       simp only [Option.some.injEq, Prod.mk.injEq] at H
       obtain ⟨rfl, rfl⟩ := H
       go_wp2
       go_ret2
       exact ⟨by first | rfl | (simp [eN, eS] <;> rfl) | (simp [*, eN, eS] <;> rfl), vB HB⟩
      ·rw [if_neg c24] at H
       exact absurd H (by simp)
     ·rw [if_neg c23] at H
      exact absurd H (by simp)
 ·replace c3 := Bool.eq_false_iff.mpr c3
  subst c3
  have H1 : (some ((⟨#[]⟩ : ByteArray), false)) = some (r1, r2) := by rw [if_neg (show ¬ (false = true) by decide)] at H; exact H
  clear H
  have H := H1
  clear H1
  simp only [Option.some.injEq, Prod.mk.injEq] at H
  obtain ⟨rfl, rfl⟩ := H
  go_enter Tryd.func13, Tryd.ntmps13
  go_wp2_with (first | ((with_reducible refine gq (N := 1) rfl ?_); refine be (N := 1) (cs := #[.int .i64 a0_0, .int .i64 a0_1, .slice A0_2 l0_2.length c0_2, .int .i64 a0_3, .int .i64 a0_4, .int .i64 a0_5, .int .i64 a0_6, .int .i64 a0_7]) (t := 39) ?_; intro Az hg BZ hbox hb; have A0 := Z.m (hbox); have Ab := gW (w := w) HB hg; have Ba := Ab; replace HB := bB HB hb; clear hb hbox hg; have Bf := bc0 A0; have Bg := bc1 A0; have Bh := bc2 A0; have Bi := bc3 A0; have Bj := bc4 A0; have Bk := bc5 A0; have Bl := bc6 A0; have Bm := bc7 A0; have Bn := qz A0.o 0; have Bo := qz A0.o 1; have Bp := qz A0.o 2; have Bq := qz A0.o 3; have Br := qz A0.o 4; have Bs := qz A0.o 5; have Bt := qz A0.o 6; have Bu := qz A0.o 7) | ((with_reducible refine gc (f := 26) rfl ?_); refine gA (some 10) _ #[.agg #[.int .i64 a0_0, .int .i64 a0_1, .slice A0_2 l0_2.length c0_2, .int .i64 a0_3, .int .i64 a0_4, .int .i64 a0_5, .int .i64 a0_6, .int .i64 a0_7]] ?_ Tryd.func26; (with_reducible refine (impl_IsMachine.calls k a0_0 a0_1 _ _ l0_2 a0_3 a0_4 a0_5 a0_6 a0_7 false _ ?side1 ?side2 A2.o).mono ?_); (case side1 => repeat (first | exact (Kd.C_below Ad.o HB.o) | (with_reducible refine Kd.C_alloc ?_ _) | (with_reducible refine Kd.C_drewN ?_ _) | (with_reducible refine Kd.C_drew ?_))); (case side2 => exact Ac.o); rintro e C0 ⟨rfl, hb⟩; refine ⟨_, rfl, ?_⟩; replace A0 := kB A0 hb; replace HB := bB HB hb; (try clear hb); (try clear BS); (try clear hk); (try clear hi)))
  go_ret2
  exact ⟨by first | rfl | (simp [eN, eS] <;> rfl) | (simp [*, eN, eS] <;> rfl), vB HB⟩

/-! ### laws_eqCell: function 35 -/
def laws_eqCell.f (a0_0 : Int) (a0_1 : Int) (a1_0 : Int) (a1_1 : Int) : Option (Bool) := if a0_0 = a1_0 then (if a0_1 = a1_1 then (some true) else (some false)) else (some false)
set_option maxHeartbeats 8000000 in
set_option maxRecDepth 100000 in
theorem laws_eqCell.calls (a0_0 : Int) (a0_1 : Int) (a1_0 : Int) (a1_1 : Int) (r : Bool) (w : World) (h : laws_eqCell.f a0_0 a0_1 a1_0 a1_1 = some r) :
 Calls Tryd.prog 35 #[.agg #[.int .i64 a0_0, .int .i64 a0_1], .agg #[.int .i64 a1_0, .int .i64 a1_1]] w fun e w' => e = .returned (.bool r) ∧ Below w.heap.size w w' := by
 have AI := Tryd.underlying62
 have HB := Z.m (Below.refl w.heap.size w)
 have H : (if a0_0 = a1_0 then (if a0_1 = a1_1 then (some true) else (some false)) else (some false)) = some r := h
 clear h
 by_cases c3 : a0_0 = a1_0
 ·rw [if_pos c3] at H
  have Aq := beq_iff_eq.mpr c3
  have Ar := bne_eq_false_iff_eq.mpr c3
  clear c3
  by_cases c4 : a0_1 = a1_1
  ·rw [if_pos c4] at H
   have As := beq_iff_eq.mpr c4
   have At := bne_eq_false_iff_eq.mpr c4
   clear c4
   obtain rfl := Option.some.inj H
   go_enter Tryd.func35, Tryd.ntmps35
   go_wp2_with (first | ((with_reducible refine gq (N := 2) rfl ?_); refine be (N := 2) (cs := #[.int .i64 a0_0, .int .i64 a0_1]) (t := 62) ?_; intro A8 hg w5 hbox hb; have A0 := Z.m (hbox); have A4 := gW (w := w) HB hg; have A6 := A4; replace HB := bB HB hb; clear hb hbox hg) | ((with_reducible refine gq (N := 3) rfl ?_); refine be (N := 3) (cs := #[.int .i64 a1_0, .int .i64 a1_1]) (t := 62) ?_; intro A9 hg w6 hbox hb; have A1 := Z.m (hbox); have A5 := gW (w := w) HB hg; have A7 := A5; have A2 := neL A0 hg; have A3 := neG A0 hg; replace A0 := kB A0 hb; replace HB := bB HB hb; clear hb hbox hg; have AG := A2.o; have AH := A3.o; have Au := bc0 A0; have Av := bc1 A0; have Ay := qz A0.o 0; have Az := qz A0.o 1; have Aw := bc0 A1; have Ax := bc1 A1; have AA := qz A1.o 0; have AB := qz A1.o 1))
   go_ret
   exact ⟨by first | rfl | (simp [eN, eS] <;> rfl) | (simp [*, eN, eS] <;> rfl), vB HB⟩
  ·rw [if_neg c4] at H
   have As := beq_eq_false_iff_ne.mpr c4
   have At := bne_iff_ne.mpr c4
   obtain rfl := Option.some.inj H
   go_enter Tryd.func35, Tryd.ntmps35
   go_wp2_with (first | ((with_reducible refine gq (N := 2) rfl ?_); refine be (N := 2) (cs := #[.int .i64 a0_0, .int .i64 a0_1]) (t := 62) ?_; intro A8 hg AJ hbox hb; have A0 := Z.m (hbox); have A4 := gW (w := w) HB hg; have A6 := A4; replace HB := bB HB hb; clear hb hbox hg) | ((with_reducible refine gq (N := 3) rfl ?_); refine be (N := 3) (cs := #[.int .i64 a1_0, .int .i64 a1_1]) (t := 62) ?_; intro A9 hg AK hbox hb; have A1 := Z.m (hbox); have A5 := gW (w := w) HB hg; have A7 := A5; have A2 := neL A0 hg; have A3 := neG A0 hg; replace A0 := kB A0 hb; replace HB := bB HB hb; clear hb hbox hg; have AC := A2.o; have AE := A3.o; have Aa := bc0 A0; have Ab := bc1 A0; have Ai := qz A0.o 0; have Aj := qz A0.o 1; have Ac := bc0 A1; have Ad := bc1 A1; have Ak := qz A1.o 0; have Al := qz A1.o 1))
   go_ret
   exact ⟨by first | rfl | (simp [eN, eS] <;> rfl) | (simp [*, eN, eS] <;> rfl), vB HB⟩
 ·rw [if_neg c3] at H
  have Aq := beq_eq_false_iff_ne.mpr c3
  have Ar := bne_iff_ne.mpr c3
  obtain rfl := Option.some.inj H
  go_enter Tryd.func35, Tryd.ntmps35
  go_wp2_with (first | ((with_reducible refine gq (N := 2) rfl ?_); refine be (N := 2) (cs := #[.int .i64 a0_0, .int .i64 a0_1]) (t := 62) ?_; intro A8 hg AL hbox hb; have A0 := Z.m (hbox); have A4 := gW (w := w) HB hg; have A6 := A4; replace HB := bB HB hb; clear hb hbox hg) | ((with_reducible refine gq (N := 3) rfl ?_); refine be (N := 3) (cs := #[.int .i64 a1_0, .int .i64 a1_1]) (t := 62) ?_; intro A9 hg AM hbox hb; have A1 := Z.m (hbox); have A5 := gW (w := w) HB hg; have A7 := A5; have A2 := neL A0 hg; have A3 := neG A0 hg; replace A0 := kB A0 hb; replace HB := bB HB hb; clear hb hbox hg; have AD := A2.o; have AF := A3.o; have Ae := bc0 A0; have Af := bc1 A0; have Am := qz A0.o 0; have An := qz A0.o 1; have Ag := bc0 A1; have Ah := bc1 A1; have Ao := qz A1.o 0; have Ap := qz A1.o 1))
  go_ret
  exact ⟨by first | rfl | (simp [eN, eS] <;> rfl) | (simp [*, eN, eS] <;> rfl), vB HB⟩

/-! ### laws_eqCellS: function 18 -/
def laws_eqCellS.l0 : Nat → List (S62) → List (S62) → Int → Option (Bool)
 | 0, _, _, _ => none
 | k + 1, x0, x1, x5 => if x5 < (x0.length : Int) then (if 0 ≤ x5 then (if x5 < (x1.length : Int) then ((laws_eqCell.f ((rd_T62 x0 x5).f0) ((rd_T62 x0 x5).f1) ((rd_T62 x1 x5).f0) ((rd_T62 x1 x5).f1)).bind fun t244 => (if t244 = true then (laws_eqCellS.l0 k x0 x1 (wrap64 (x5 + 1))) else (some false))) else (none)) else (none)) else (some true)
def laws_eqCellS.f (k : Nat) (l0 : List (S62)) (l1 : List (S62)) : Option (Bool) := if (l0.length : Int) = (l1.length : Int) then (laws_eqCellS.l0 k l0 l1 0) else (some false)
def laws_eqCellS.T6 : Bool × List (List Nat × List Nat) := (true, [([], []), ([], []), ([0, 1], [0, 1]), ([2], [2]), ([], []), ([], []), ([4, 5], [4, 5]), ([6], [6]), ([3, 7], [3, 7]), ([8], [8])])
def laws_eqCellS.B6 : List Nat := [0, 0, 3, 7, 0, 0, 48, 112, 255, 511]
theorem laws_eqCellS.tab6 : rtab .any (opsOf Tryd.f18 6) = laws_eqCellS.T6 := by kernel_rfl
theorem laws_eqCellS.bits6 : waitsOk laws_eqCellS.T6.2 laws_eqCellS.B6 = true := by kernel_rfl
set_option maxHeartbeats 8000000 in
set_option maxRecDepth 100000 in
theorem laws_eqCellS.calls (k : Nat) (A0 : Option Addr) (c0 : Nat) (l0 : List (S62)) (A1 : Option Addr) (c1 : Nat) (l1 : List (S62)) (r : Bool) (w : World) (hr0 : Kd.C k62 w A0 l0.length l0) (hc0 : l0.length ≤ c0) (hr1 : Kd.C k62 w A1 l1.length l1) (hc1 : l1.length ≤ c1) (h : laws_eqCellS.f k l0 l1 = some r) :
 Calls Tryd.prog 18 #[.slice A0 l0.length c0, .slice A1 l1.length c1] w fun e w' => e = .returned (.bool r) ∧ Below w.heap.size w w' := by
 have Al := Tryd.underlying62
 have Ah := Z.m hr0
 have Am := Z.m hc0
 clear hr0 hc0
 have Ai := Z.m hr1
 have An := Z.m hc1
 clear hr1 hc1
 have HB := Z.m (Below.refl w.heap.size w)
 have H : (if (l0.length : Int) = (l1.length : Int) then (laws_eqCellS.l0 k l0 l1 0) else (some false)) = some r := h
 clear h
 by_cases c3 : (l0.length : Int) = (l1.length : Int)
 ·rw [if_pos c3] at H
  have Aa := beq_iff_eq.mpr c3
  have Ab := bne_eq_false_iff_eq.mpr c3
  have Ac : (l0.length == l1.length) = true := by first | simpa using c3 | (simp at c3 ⊢; omega)
  clear c3
  have H' := Z.m H
  clear H
  go_enter Tryd.func18, Tryd.ntmps18
  go_wp2
  go_loopg [5] k (fun kq v5 w' => ∃ (A2 : Int), v5 = .int .i64 A2 ∧ Z (laws_eqCellS.l0 kq l0 l1 A2 = some r) ∧ Z (kq ≤ k) ∧ Z (Below w.heap.size w w'))
  case atStart => exact ⟨(0), (by first | rfl | (simp; done) | (simp [*]; done)), H', ⟨Nat.le_refl _⟩, ⟨vB HB⟩⟩
  case round =>
   clear H'
   (try clear Aa); (try clear Ab); (try clear Ac)
   obtain ⟨A2, rfl, HA, Ag, HB⟩ := hrel
   cases gk with
   | zero => exact absurd HA.o (by simp [laws_eqCellS.l0])
   | succ k1 =>
    have H := HA.o
    clear HA
    simp only [laws_eqCellS.l0] at H
    by_cases c4 : A2 < (l0.length : Int)
    ·rw [if_pos c4] at H
     have Ae := decide_eq_true c4
     clear c4
     by_cases c5 : 0 ≤ A2
     ·rw [if_pos c5] at H
      have Aj := decide_eq_true c5
      clear c5
      by_cases c6 : A2 < (l1.length : Int)
      ·rw [if_pos c6] at H
       have Ak := decide_eq_true c6
       clear c6
       replace H := Option.bind_eq_some_iff.mp H
       obtain ⟨Ad, Af, H⟩ := H
       replace H : (if Ad = true then (laws_eqCellS.l0 k1 l0 l1 (wrap64 (A2 + 1))) else (some false)) = some r := H
       have A7 := Z.m Af
       clear Af
       by_cases c8 : Ad = true
       ·subst c8
        have H1 : (laws_eqCellS.l0 k1 l0 l1 (wrap64 (A2 + 1))) = some r := by rw [if_pos rfl] at H; exact H
        clear H
        have H := H1
        clear H1
        have H' := Z.m H
        clear H
        try go_wp2
        replace HB := Z.m (qd HB.o)
        have p242 : 0 ≤ (A2 : Int) := ofD
        have q242 : A2 < (l0.length : Int) := ofD
        obtain ⟨A8, e242, A3, A4⟩ := at_T62 Ah.o A2 p242 q242
        have hw242_1 := A4
        have hw242_0 := A3
        cases e242
        replace A3 := (HB.o.cell (World.block_lt_of_cell? w _ A3)).trans A3
        replace A4 := (HB.o.cell (World.block_lt_of_cell? w _ A4)).trans A4
        replace p242 := eq_true p242
        replace q242 := eq_true q242
        have p243 : 0 ≤ (A2 : Int) := ofD
        have q243 : A2 < (l1.length : Int) := ofD
        obtain ⟨A9, e243, A5, A6⟩ := at_T62 Ai.o A2 p243 q243
        have hw243_1 := A6
        have hw243_0 := A5
        cases e243
        replace A5 := (HB.o.cell (World.block_lt_of_cell? w _ A5)).trans A5
        replace A6 := (HB.o.cell (World.block_lt_of_cell? w _ A6)).trans A6
        replace p243 := eq_true p243
        replace q243 := eq_true q243
        refine start_ (n := 10) (S := fun w' => w'.cell? (A8.add ((A2).toNat * 2)) = some (.int .i64 ((rd_T62 l0 A2).f0)) ∧ w'.cell? ⟨(A8.add ((A2).toNat * 2)).block, (A8.add ((A2).toNat * 2)).off + 1, none⟩ = some (.int .i64 ((rd_T62 l0 A2).f1)) ∧ w'.cell? (A9.add ((A2).toNat * 2)) = some (.int .i64 ((rd_T62 l1 A2).f0)) ∧ w'.cell? ⟨(A9.add ((A2).toNat * 2)).block, (A9.add ((A2).toNat * 2)).off + 1, none⟩ = some (.int .i64 ((rd_T62 l1 A2).f1))) (ds := []) #[false, false, false, false, false, false, false, false, false, false] (by kernel_rfl) rfl rfl ⟨((HB.o.cell (World.block_lt_of_cell? w _ hw242_0)).trans hw242_0), ((HB.o.cell (World.block_lt_of_cell? w _ hw242_1)).trans hw242_1), ((HB.o.cell (World.block_lt_of_cell? w _ hw243_0)).trans hw243_0), ((HB.o.cell (World.block_lt_of_cell? w _ hw243_1)).trans hw243_1)⟩ (fun hHeld => ?_); refine with_tabW laws_eqCellS.tab6 laws_eqCellS.bits6 (fun HT_ HW_ => ?_)
        generalize wr.drew = w9 at HB A3 A4 A5 A6 hHeld ⊢
        refine pure_ (i := 0) (N := some 17) (v := ?_) (a' := ?_) #[true, false, false, false, false, false, false, false, false, false] rfl rfl (any_of HT_.o (by kernel_rfl)) (fun _ _ _ h => h) (Or.inl ⟨by rfl, ?_⟩) ?_ ?_
        rotate_left
        ·intro w'
         go_simp
         with_reducible rfl
        rotate_left
        ·simp only [Act.put, q1, q2, q3, i64_w, i32_w]
         rfl
        refine pure_ (i := 1) (N := some 18) (v := ?_) (a' := ?_) #[true, true, false, false, false, false, false, false, false, false] rfl rfl (any_of HT_.o (by kernel_rfl)) (fun _ _ _ h => h) (Or.inl ⟨by rfl, ?_⟩) ?_ ?_
        rotate_left
        ·intro w'
         go_simp
         with_reducible rfl
        rotate_left
        ·simp only [Act.put, q1, q2, q3, i64_w, i32_w]
         rfl
        refine pure_ (i := 2) (N := some 19) (v := ?_) (a' := ?_) #[true, true, true, false, false, false, false, false, false, false] rfl rfl (any_of HT_.o (by kernel_rfl)) (fun _ _ _ h => h) (Or.inl ⟨by rfl, ?_⟩) ?_ ?_
        rotate_left
        ·intro w'
         go_simp
         with_reducible rfl
        rotate_left
        ·simp only [Act.put, q1, q2, q3, i64_w, i32_w]
         rfl
        refine pure_ (i := 4) (N := some 21) (v := ?_) (a' := ?_) #[true, true, true, false, true, false, false, false, false, false] rfl rfl (any_of HT_.o (by kernel_rfl)) (fun _ _ _ h => h) (Or.inl ⟨by rfl, ?_⟩) ?_ ?_
        rotate_left
        ·intro w'
         go_simp
         with_reducible rfl
        rotate_left
        ·simp only [Act.put, q1, q2, q3, i64_w, i32_w]
         rfl
        refine pure_ (i := 5) (N := some 22) (v := ?_) (a' := ?_) #[true, true, true, false, true, true, false, false, false, false] rfl rfl (any_of HT_.o (by kernel_rfl)) (fun _ _ _ h => h) (Or.inl ⟨by rfl, ?_⟩) ?_ ?_
        rotate_left
        ·intro w'
         go_simp
         with_reducible rfl
        rotate_left
        ·simp only [Act.put, q1, q2, q3, i64_w, i32_w]
         rfl
        refine pure_ (i := 6) (N := some 23) (v := ?_) (a' := ?_) #[true, true, true, false, true, true, true, false, false, false] rfl rfl (any_of HT_.o (by kernel_rfl)) (fun _ _ _ h => h) (Or.inl ⟨by rfl, ?_⟩) ?_ ?_
        rotate_left
        ·intro w'
         go_simp
         with_reducible rfl
        rotate_left
        ·simp only [Act.put, q1, q2, q3, i64_w, i32_w]
         rfl
        refine take_ (i := 3) (N := some 20) (v := ?_) (a' := ?_) #[true, true, true, true, true, true, true, false, false, false] rfl rfl (take_ofW HT_.o HW_.o (by kernel_rfl)) (fun _ _ _ h => h) (Or.inl ⟨by rfl, ?_⟩) hHeld ?_ ?_
        rotate_left
        ·rintro w' ⟨s0, s1, s2, s3⟩
         go_simp
         with_reducible rfl
        rotate_left
        ·simp only [Act.put, q1, q2, q3, i64_w, i32_w]
         rfl
        refine take_ (i := 7) (N := some 24) (v := ?_) (a' := ?_) #[true, true, true, true, true, true, true, true, false, false] rfl rfl (take_ofW HT_.o HW_.o (by kernel_rfl)) (fun _ _ _ h => h) (Or.inl ⟨by rfl, ?_⟩) hHeld ?_ ?_
        rotate_left
        ·rintro w' ⟨s0, s1, s2, s3⟩
         go_simp
         with_reducible rfl
        rotate_left
        ·simp only [Act.put, q1, q2, q3, i64_w, i32_w]
         rfl
        refine one_ (i := 8) (N := some 25) #[true, true, true, true, true, true, true, true, true, false] rfl rfl (one_of HT_.o (by kernel_rfl)) (by decide) (fun K hK => ?_)
        refine goes_ Tryd.func35 (by kernel_rfl) rfl #[.agg #[.int .i64 ((rd_T62 l0 A2).f0), .int .i64 ((rd_T62 l0 A2).f1)], .agg #[.int .i64 ((rd_T62 l1 A2).f0), .int .i64 ((rd_T62 l1 A2).f1)]] (by rfl) rfl rfl (by (try simp only [List.map_toArray, List.map_cons, List.map_nil]); first | done | rfl | (simp only [List.length_drop, List.length_take]; rfl)) ?_
        with_reducible refine (laws_eqCell.calls ((rd_T62 l0 A2).f0) ((rd_T62 l0 A2).f1) ((rd_T62 l1 A2).f0) ((rd_T62 l1 A2).f1) true _ A7.o).mono ?_
        rintro e Ao ⟨rfl, hb⟩
        refine ⟨_, rfl, ?_⟩
        replace HB := bB HB hb
        (try clear hb)
        refine hK.out _ _ ⟨((HB.o.cell (World.block_lt_of_cell? w _ hw242_0)).trans hw242_0), ((HB.o.cell (World.block_lt_of_cell? w _ hw242_1)).trans hw242_1), ((HB.o.cell (World.block_lt_of_cell? w _ hw243_0)).trans hw243_0), ((HB.o.cell (World.block_lt_of_cell? w _ hw243_1)).trans hw243_1)⟩ (fun hHeld => ?_)
        clear hK K
        refine norm_ (a' := ?_) ?_ ?_
        rotate_left
        ·show Act.put _ (some 25) _ = _
         simp only [Act.put, q1, q2, q3, i64_w, i32_w]
         rfl
        refine pure_ (i := 9) (N := some 26) (v := ?_) (a' := ?_) #[true, true, true, true, true, true, true, true, true, true] rfl rfl (any_of HT_.o (by kernel_rfl)) (fun _ _ _ h => h) (Or.inl ⟨by rfl, ?_⟩) ?_ ?_
        rotate_left
        ·intro w'
         go_simp
         with_reducible rfl
        rotate_left
        ·simp only [Act.put, q1, q2, q3, i64_w, i32_w]
         rfl
        refine done_ (done_of HT_.o (by kernel_rfl)) ?_
        try go_wp2
        go_roundg k1
        case measure => have := Ag.o; omega
        case rel => exact ⟨(wrap64 (A2 + 1)), (by first | rfl | (simp; done) | (simp [*]; done)), H', ⟨by have := Ag.o; omega⟩, ⟨vB HB⟩⟩
       ·replace c8 := Bool.eq_false_iff.mpr c8
        subst c8
        have H1 : (some false) = some r := by rw [if_neg (show ¬ (false = true) by decide)] at H; exact H
        clear H
        have H := H1
        clear H1
        obtain rfl := Option.some.inj H
        try go_wp2
        replace HB := Z.m (qd HB.o)
        have p242 : 0 ≤ (A2 : Int) := ofD
        have q242 : A2 < (l0.length : Int) := ofD
        obtain ⟨A8, e242, A3, A4⟩ := at_T62 Ah.o A2 p242 q242
        have hw242_1 := A4
        have hw242_0 := A3
        cases e242
        replace A3 := (HB.o.cell (World.block_lt_of_cell? w _ A3)).trans A3
        replace A4 := (HB.o.cell (World.block_lt_of_cell? w _ A4)).trans A4
        replace p242 := eq_true p242
        replace q242 := eq_true q242
        have p243 : 0 ≤ (A2 : Int) := ofD
        have q243 : A2 < (l1.length : Int) := ofD
        obtain ⟨A9, e243, A5, A6⟩ := at_T62 Ai.o A2 p243 q243
        have hw243_1 := A6
        have hw243_0 := A5
        cases e243
        replace A5 := (HB.o.cell (World.block_lt_of_cell? w _ A5)).trans A5
        replace A6 := (HB.o.cell (World.block_lt_of_cell? w _ A6)).trans A6
        replace p243 := eq_true p243
        replace q243 := eq_true q243
        refine start_ (n := 10) (S := fun w' => w'.cell? (A8.add ((A2).toNat * 2)) = some (.int .i64 ((rd_T62 l0 A2).f0)) ∧ w'.cell? ⟨(A8.add ((A2).toNat * 2)).block, (A8.add ((A2).toNat * 2)).off + 1, none⟩ = some (.int .i64 ((rd_T62 l0 A2).f1)) ∧ w'.cell? (A9.add ((A2).toNat * 2)) = some (.int .i64 ((rd_T62 l1 A2).f0)) ∧ w'.cell? ⟨(A9.add ((A2).toNat * 2)).block, (A9.add ((A2).toNat * 2)).off + 1, none⟩ = some (.int .i64 ((rd_T62 l1 A2).f1))) (ds := []) #[false, false, false, false, false, false, false, false, false, false] (by kernel_rfl) rfl rfl ⟨((HB.o.cell (World.block_lt_of_cell? w _ hw242_0)).trans hw242_0), ((HB.o.cell (World.block_lt_of_cell? w _ hw242_1)).trans hw242_1), ((HB.o.cell (World.block_lt_of_cell? w _ hw243_0)).trans hw243_0), ((HB.o.cell (World.block_lt_of_cell? w _ hw243_1)).trans hw243_1)⟩ (fun hHeld => ?_); refine with_tabW laws_eqCellS.tab6 laws_eqCellS.bits6 (fun HT_ HW_ => ?_)
        generalize wr.drew = Ap at HB A3 A4 A5 A6 hHeld ⊢
        refine pure_ (i := 0) (N := some 17) (v := ?_) (a' := ?_) #[true, false, false, false, false, false, false, false, false, false] rfl rfl (any_of HT_.o (by kernel_rfl)) (fun _ _ _ h => h) (Or.inl ⟨by rfl, ?_⟩) ?_ ?_
        rotate_left
        ·intro w'
         go_simp
         with_reducible rfl
        rotate_left
        ·simp only [Act.put, q1, q2, q3, i64_w, i32_w]
         rfl
        refine pure_ (i := 1) (N := some 18) (v := ?_) (a' := ?_) #[true, true, false, false, false, false, false, false, false, false] rfl rfl (any_of HT_.o (by kernel_rfl)) (fun _ _ _ h => h) (Or.inl ⟨by rfl, ?_⟩) ?_ ?_
        rotate_left
        ·intro w'
         go_simp
         with_reducible rfl
        rotate_left
        ·simp only [Act.put, q1, q2, q3, i64_w, i32_w]
         rfl
        refine pure_ (i := 2) (N := some 19) (v := ?_) (a' := ?_) #[true, true, true, false, false, false, false, false, false, false] rfl rfl (any_of HT_.o (by kernel_rfl)) (fun _ _ _ h => h) (Or.inl ⟨by rfl, ?_⟩) ?_ ?_
        rotate_left
        ·intro w'
         go_simp
         with_reducible rfl
        rotate_left
        ·simp only [Act.put, q1, q2, q3, i64_w, i32_w]
         rfl
        refine pure_ (i := 4) (N := some 21) (v := ?_) (a' := ?_) #[true, true, true, false, true, false, false, false, false, false] rfl rfl (any_of HT_.o (by kernel_rfl)) (fun _ _ _ h => h) (Or.inl ⟨by rfl, ?_⟩) ?_ ?_
        rotate_left
        ·intro w'
         go_simp
         with_reducible rfl
        rotate_left
        ·simp only [Act.put, q1, q2, q3, i64_w, i32_w]
         rfl
        refine pure_ (i := 5) (N := some 22) (v := ?_) (a' := ?_) #[true, true, true, false, true, true, false, false, false, false] rfl rfl (any_of HT_.o (by kernel_rfl)) (fun _ _ _ h => h) (Or.inl ⟨by rfl, ?_⟩) ?_ ?_
        rotate_left
        ·intro w'
         go_simp
         with_reducible rfl
        rotate_left
        ·simp only [Act.put, q1, q2, q3, i64_w, i32_w]
         rfl
        refine pure_ (i := 6) (N := some 23) (v := ?_) (a' := ?_) #[true, true, true, false, true, true, true, false, false, false] rfl rfl (any_of HT_.o (by kernel_rfl)) (fun _ _ _ h => h) (Or.inl ⟨by rfl, ?_⟩) ?_ ?_
        rotate_left
        ·intro w'
         go_simp
         with_reducible rfl
        rotate_left
        ·simp only [Act.put, q1, q2, q3, i64_w, i32_w]
         rfl
        refine take_ (i := 3) (N := some 20) (v := ?_) (a' := ?_) #[true, true, true, true, true, true, true, false, false, false] rfl rfl (take_ofW HT_.o HW_.o (by kernel_rfl)) (fun _ _ _ h => h) (Or.inl ⟨by rfl, ?_⟩) hHeld ?_ ?_
        rotate_left
        ·rintro w' ⟨s0, s1, s2, s3⟩
         go_simp
         with_reducible rfl
        rotate_left
        ·simp only [Act.put, q1, q2, q3, i64_w, i32_w]
         rfl
        refine take_ (i := 7) (N := some 24) (v := ?_) (a' := ?_) #[true, true, true, true, true, true, true, true, false, false] rfl rfl (take_ofW HT_.o HW_.o (by kernel_rfl)) (fun _ _ _ h => h) (Or.inl ⟨by rfl, ?_⟩) hHeld ?_ ?_
        rotate_left
        ·rintro w' ⟨s0, s1, s2, s3⟩
         go_simp
         with_reducible rfl
        rotate_left
        ·simp only [Act.put, q1, q2, q3, i64_w, i32_w]
         rfl
        refine one_ (i := 8) (N := some 25) #[true, true, true, true, true, true, true, true, true, false] rfl rfl (one_of HT_.o (by kernel_rfl)) (by decide) (fun K hK => ?_)
        refine goes_ Tryd.func35 (by kernel_rfl) rfl #[.agg #[.int .i64 ((rd_T62 l0 A2).f0), .int .i64 ((rd_T62 l0 A2).f1)], .agg #[.int .i64 ((rd_T62 l1 A2).f0), .int .i64 ((rd_T62 l1 A2).f1)]] (by rfl) rfl rfl (by (try simp only [List.map_toArray, List.map_cons, List.map_nil]); first | done | rfl | (simp only [List.length_drop, List.length_take]; rfl)) ?_
        with_reducible refine (laws_eqCell.calls ((rd_T62 l0 A2).f0) ((rd_T62 l0 A2).f1) ((rd_T62 l1 A2).f0) ((rd_T62 l1 A2).f1) false _ A7.o).mono ?_
        rintro e Aq ⟨rfl, hb⟩
        refine ⟨_, rfl, ?_⟩
        replace HB := bB HB hb
        (try clear hb)
        refine hK.out _ _ ⟨((HB.o.cell (World.block_lt_of_cell? w _ hw242_0)).trans hw242_0), ((HB.o.cell (World.block_lt_of_cell? w _ hw242_1)).trans hw242_1), ((HB.o.cell (World.block_lt_of_cell? w _ hw243_0)).trans hw243_0), ((HB.o.cell (World.block_lt_of_cell? w _ hw243_1)).trans hw243_1)⟩ (fun hHeld => ?_)
        clear hK K
        refine norm_ (a' := ?_) ?_ ?_
        rotate_left
        ·show Act.put _ (some 25) _ = _
         simp only [Act.put, q1, q2, q3, i64_w, i32_w]
         rfl
        refine pure_ (i := 9) (N := some 26) (v := ?_) (a' := ?_) #[true, true, true, true, true, true, true, true, true, true] rfl rfl (any_of HT_.o (by kernel_rfl)) (fun _ _ _ h => h) (Or.inl ⟨by rfl, ?_⟩) ?_ ?_
        rotate_left
        ·intro w'
         go_simp
         with_reducible rfl
        rotate_left
        ·simp only [Act.put, q1, q2, q3, i64_w, i32_w]
         rfl
        refine done_ (done_of HT_.o (by kernel_rfl)) ?_
        try go_wp2
        go_ret
        exact ⟨by first | rfl | (simp [eN, eS] <;> rfl) | (simp [*, eN, eS] <;> rfl), vB HB⟩
      ·rw [if_neg c6] at H
       exact absurd H (by simp)
     ·rw [if_neg c5] at H
      exact absurd H (by simp)
    ·rw [if_neg c4] at H
     have Ae := decide_eq_false c4
     clear c4
     obtain rfl := Option.some.inj H
     go_wp2
     go_ret
     exact ⟨by first | rfl | (simp [eN, eS] <;> rfl) | (simp [*, eN, eS] <;> rfl), vB HB⟩
 ·rw [if_neg c3] at H
  have Aa := beq_eq_false_iff_ne.mpr c3
  have Ab := bne_iff_ne.mpr c3
  have Ac : (l0.length == l1.length) = false := by first | simpa using c3 | (simp at c3 ⊢; omega)
  obtain rfl := Option.some.inj H
  go_enter Tryd.func18, Tryd.ntmps18
  go_wp2
  go_ret
  exact ⟨by first | rfl | (simp [eN, eS] <;> rfl) | (simp [*, eN, eS] <;> rfl), vB HB⟩

/-! ### laws_eqBoard: function 7 -/
def laws_eqBoard.f (k : Nat) (a0_0 : Int) (a0_1 : Int) (l0_2 : List (S62)) (a1_0 : Int) (a1_1 : Int) (l1_2 : List (S62)) : Option (Bool) := if a0_0 = a1_0 then (if a0_1 = a1_1 then ((laws_eqCellS.f k l0_2 l1_2).bind fun t247 => (if t247 = true then (some true) else (some false))) else (some false)) else (some false)
set_option maxHeartbeats 8000000 in
set_option maxRecDepth 100000 in
theorem laws_eqBoard.calls (k : Nat) (a0_0 : Int) (a0_1 : Int) (A0_2 : Option Addr) (c0_2 : Nat) (l0_2 : List (S62)) (a1_0 : Int) (a1_1 : Int) (A1_2 : Option Addr) (c1_2 : Nat) (l1_2 : List (S62)) (r : Bool) (w : World) (hr0_2 : Kd.C k62 w A0_2 l0_2.length l0_2) (hc0_2 : l0_2.length ≤ c0_2) (hr1_2 : Kd.C k62 w A1_2 l1_2.length l1_2) (hc1_2 : l1_2.length ≤ c1_2) (h : laws_eqBoard.f k a0_0 a0_1 l0_2 a1_0 a1_1 l1_2 = some r) :
 Calls Tryd.prog 7 #[.agg #[.int .i64 a0_0, .int .i64 a0_1, .slice A0_2 l0_2.length c0_2], .agg #[.int .i64 a1_0, .int .i64 a1_1, .slice A1_2 l1_2.length c1_2]] w fun e w' => e = .returned (.bool r) ∧ Below w.heap.size w w' := by
 have Bi := Tryd.underlying24
 have Ae := Z.m hr0_2
 have Ac := Z.m hc0_2
 clear hr0_2 hc0_2
 have Af := Z.m hr1_2
 have Ad := Z.m hc1_2
 clear hr1_2 hc1_2
 have HB := Z.m (Below.refl w.heap.size w)
 have H : (if a0_0 = a1_0 then (if a0_1 = a1_1 then ((laws_eqCellS.f k l0_2 l1_2).bind fun Ab => (if Ab = true then (some true) else (some false))) else (some false)) else (some false)) = some r := h
 clear h
 by_cases c3 : a0_0 = a1_0
 ·rw [if_pos c3] at H
  have B2 := beq_iff_eq.mpr c3
  have B4 := bne_eq_false_iff_eq.mpr c3
  clear c3
  by_cases c4 : a0_1 = a1_1
  ·rw [if_pos c4] at H
   have B5 := beq_iff_eq.mpr c4
   have B7 := bne_eq_false_iff_eq.mpr c4
   clear c4
   replace H := Option.bind_eq_some_iff.mp H
   obtain ⟨Ab, B8, H⟩ := H
   replace H : (if Ab = true then (some true) else (some false)) = some r := H
   have A5 := Z.m B8
   clear B8
   by_cases c6 : Ab = true
   ·subst c6
    have H1 : (some true) = some r := by rw [if_pos rfl] at H; exact H
    clear H
    have H := H1
    clear H1
    obtain rfl := Option.some.inj H
    go_enter Tryd.func7, Tryd.ntmps7
    go_wp2_with (first | ((with_reducible refine gq (N := 2) rfl ?_); refine be (N := 2) (cs := #[.int .i64 a0_0, .int .i64 a0_1, .slice A0_2 l0_2.length c0_2]) (t := 24) ?_; intro A9 hg w7 hbox hb; have A0 := Z.m (hbox); have A4 := gW (w := w) HB hg; have A7 := A4; replace HB := bB HB hb; clear hb hbox hg) | ((with_reducible refine gq (N := 3) rfl ?_); refine be (N := 3) (cs := #[.int .i64 a1_0, .int .i64 a1_1, .slice A1_2 l1_2.length c1_2]) (t := 24) ?_; intro Aa hg w8 hbox hb; have A1 := Z.m (hbox); have A6 := gW (w := w) HB hg; have A8 := A6; have A2 := neL A0 hg; have A3 := neG A0 hg; replace A0 := kB A0 hb; replace HB := bB HB hb; clear hb hbox hg; have Bg := A2.o; have Bh := A3.o; have Ag := bc0 A0; have Ah := bc1 A0; have Ai := bc2 A0; have AE := qz A0.o 0; have AF := qz A0.o 1; have AG := qz A0.o 2; have Aj := bc0 A1; have Ak := bc1 A1; have Al := bc2 A1; have AH := qz A1.o 0; have AI := qz A1.o 1; have AJ := qz A1.o 2) | ((with_reducible refine gc (f := 18) rfl ?_); refine gA (some 19) _ #[.slice A0_2 l0_2.length c0_2, .slice A1_2 l1_2.length c1_2] ?_ Tryd.func18; (with_reducible refine (laws_eqCellS.calls k _ _ l0_2 _ _ l1_2 true _ ?side1 ?side2 ?side3 ?side4 A5.o).mono ?_); (case side1 => repeat (first | exact (Kd.C_below Ae.o HB.o) | (with_reducible refine Kd.C_alloc ?_ _) | (with_reducible refine Kd.C_drewN ?_ _) | (with_reducible refine Kd.C_drew ?_))); (case side2 => exact Ac.o); (case side3 => repeat (first | exact (Kd.C_below Af.o HB.o) | (with_reducible refine Kd.C_alloc ?_ _) | (with_reducible refine Kd.C_drewN ?_ _) | (with_reducible refine Kd.C_drew ?_))); (case side4 => exact Ad.o); rintro e Bj ⟨rfl, hb⟩; refine ⟨_, rfl, ?_⟩; replace A0 := kB A0 hb; replace A1 := kB A1 hb; replace HB := bB HB hb; (try clear hb); (try clear Bf); (try clear hk); (try clear hi)))
    go_ret
    exact ⟨by first | rfl | (simp [eN, eS] <;> rfl) | (simp [*, eN, eS] <;> rfl), vB HB⟩
   ·replace c6 := Bool.eq_false_iff.mpr c6
    subst c6
    have H1 : (some false) = some r := by rw [if_neg (show ¬ (false = true) by decide)] at H; exact H
    clear H
    have H := H1
    clear H1
    obtain rfl := Option.some.inj H
    go_enter Tryd.func7, Tryd.ntmps7
    go_wp2_with (first | ((with_reducible refine gq (N := 2) rfl ?_); refine be (N := 2) (cs := #[.int .i64 a0_0, .int .i64 a0_1, .slice A0_2 l0_2.length c0_2]) (t := 24) ?_; intro A9 hg Bk hbox hb; have A0 := Z.m (hbox); have A4 := gW (w := w) HB hg; have A7 := A4; replace HB := bB HB hb; clear hb hbox hg) | ((with_reducible refine gq (N := 3) rfl ?_); refine be (N := 3) (cs := #[.int .i64 a1_0, .int .i64 a1_1, .slice A1_2 l1_2.length c1_2]) (t := 24) ?_; intro Aa hg Bl hbox hb; have A1 := Z.m (hbox); have A6 := gW (w := w) HB hg; have A8 := A6; have A2 := neL A0 hg; have A3 := neG A0 hg; replace A0 := kB A0 hb; replace HB := bB HB hb; clear hb hbox hg; have B9 := A2.o; have Bc := A3.o; have Am := bc0 A0; have An := bc1 A0; have Ao := bc2 A0; have AK := qz A0.o 0; have AL := qz A0.o 1; have AM := qz A0.o 2; have Ap := bc0 A1; have Aq := bc1 A1; have Ar := bc2 A1; have AN := qz A1.o 0; have AO := qz A1.o 1; have AP := qz A1.o 2) | ((with_reducible refine gc (f := 18) rfl ?_); refine gA (some 19) _ #[.slice A0_2 l0_2.length c0_2, .slice A1_2 l1_2.length c1_2] ?_ Tryd.func18; (with_reducible refine (laws_eqCellS.calls k _ _ l0_2 _ _ l1_2 false _ ?side1 ?side2 ?side3 ?side4 A5.o).mono ?_); (case side1 => repeat (first | exact (Kd.C_below Ae.o HB.o) | (with_reducible refine Kd.C_alloc ?_ _) | (with_reducible refine Kd.C_drewN ?_ _) | (with_reducible refine Kd.C_drew ?_))); (case side2 => exact Ac.o); (case side3 => repeat (first | exact (Kd.C_below Af.o HB.o) | (with_reducible refine Kd.C_alloc ?_ _) | (with_reducible refine Kd.C_drewN ?_ _) | (with_reducible refine Kd.C_drew ?_))); (case side4 => exact Ad.o); rintro e Bm ⟨rfl, hb⟩; refine ⟨_, rfl, ?_⟩; replace A0 := kB A0 hb; replace A1 := kB A1 hb; replace HB := bB HB hb; (try clear hb); (try clear Bf); (try clear hk); (try clear hi)))
    go_ret
    exact ⟨by first | rfl | (simp [eN, eS] <;> rfl) | (simp [*, eN, eS] <;> rfl), vB HB⟩
  ·rw [if_neg c4] at H
   have B5 := beq_eq_false_iff_ne.mpr c4
   have B7 := bne_iff_ne.mpr c4
   obtain rfl := Option.some.inj H
   go_enter Tryd.func7, Tryd.ntmps7
   go_wp2_with (first | ((with_reducible refine gq (N := 2) rfl ?_); refine be (N := 2) (cs := #[.int .i64 a0_0, .int .i64 a0_1, .slice A0_2 l0_2.length c0_2]) (t := 24) ?_; intro A9 hg Bn hbox hb; have A0 := Z.m (hbox); have A4 := gW (w := w) HB hg; have A7 := A4; replace HB := bB HB hb; clear hb hbox hg) | ((with_reducible refine gq (N := 3) rfl ?_); refine be (N := 3) (cs := #[.int .i64 a1_0, .int .i64 a1_1, .slice A1_2 l1_2.length c1_2]) (t := 24) ?_; intro Aa hg Bo hbox hb; have A1 := Z.m (hbox); have A6 := gW (w := w) HB hg; have A8 := A6; have A2 := neL A0 hg; have A3 := neG A0 hg; replace A0 := kB A0 hb; replace HB := bB HB hb; clear hb hbox hg; have Ba := A2.o; have Bd := A3.o; have As := bc0 A0; have At := bc1 A0; have Au := bc2 A0; have AQ := qz A0.o 0; have AR := qz A0.o 1; have AS := qz A0.o 2; have Av := bc0 A1; have Aw := bc1 A1; have Ax := bc2 A1; have AT := qz A1.o 0; have AU := qz A1.o 1; have AV := qz A1.o 2))
   go_ret
   exact ⟨by first | rfl | (simp [eN, eS] <;> rfl) | (simp [*, eN, eS] <;> rfl), vB HB⟩
 ·rw [if_neg c3] at H
  have B2 := beq_eq_false_iff_ne.mpr c3
  have B4 := bne_iff_ne.mpr c3
  obtain rfl := Option.some.inj H
  go_enter Tryd.func7, Tryd.ntmps7
  go_wp2_with (first | ((with_reducible refine gq (N := 2) rfl ?_); refine be (N := 2) (cs := #[.int .i64 a0_0, .int .i64 a0_1, .slice A0_2 l0_2.length c0_2]) (t := 24) ?_; intro A9 hg Bp hbox hb; have A0 := Z.m (hbox); have A4 := gW (w := w) HB hg; have A7 := A4; replace HB := bB HB hb; clear hb hbox hg) | ((with_reducible refine gq (N := 3) rfl ?_); refine be (N := 3) (cs := #[.int .i64 a1_0, .int .i64 a1_1, .slice A1_2 l1_2.length c1_2]) (t := 24) ?_; intro Aa hg Bq hbox hb; have A1 := Z.m (hbox); have A6 := gW (w := w) HB hg; have A8 := A6; have A2 := neL A0 hg; have A3 := neG A0 hg; replace A0 := kB A0 hb; replace HB := bB HB hb; clear hb hbox hg; have Bb := A2.o; have Be := A3.o; have Ay := bc0 A0; have Az := bc1 A0; have AA := bc2 A0; have AW := qz A0.o 0; have AX := qz A0.o 1; have AY := qz A0.o 2; have AB := bc0 A1; have AC := bc1 A1; have AD := bc2 A1; have AZ := qz A1.o 0; have B0 := qz A1.o 1; have B1 := qz A1.o 2))
  go_ret
  exact ⟨by first | rfl | (simp [eN, eS] <;> rfl) | (simp [*, eN, eS] <;> rfl), vB HB⟩

end Go.Proofs.YtklmdnlambinaaaDoor.PAll
