/- Began as a text that print.sh wrote (of the functions named below); turned and shortened by this session. -/
import Derived.Test.YtklmdnlambinaaaDoorSplit
import Derived.Test.YtklmdnlambinaaaDoorG0
namespace Go.Proofs.YtklmdnlambinaaaDoor.PAll
open Go.RowKit Go.Proofs.YtklmdnlambinaaaDoorW.PrintWords Go.Proofs.YtklmdnlambinaaaDoorW.PrintLast Go.Proofs.YtklmdnlambinaaaDoorW.PrintMore
attribute [local go_sem] max2_int min2_int max_two min_two max_three min_three max_four min_four   -- for this text's walks alone
set_option linter.unusedVariables false
set_option linter.unusedSimpArgs false

/-! ### stringslite_HasSuffix: function 48 -/
def stringslite_HasSuffix.f (a0 : ByteArray) (a1 : ByteArray) : Option (Bool) := if (a0.size : Int) ≥ (a1.size : Int) then (if 0 ≤ (wrap64 ((a0.size : Int) - (a1.size : Int))) then (if (wrap64 ((a0.size : Int) - (a1.size : Int))) ≤ (a0.size : Int) then (some ((a0.extract ((wrap64 ((a0.size : Int) - (a1.size : Int))) : Int).toNat a0.size).toList == a1.toList)) else (none)) else (none)) else (some false)
set_option maxHeartbeats 8000000 in
set_option maxRecDepth 100000 in
theorem stringslite_HasSuffix.calls (a0 : ByteArray) (a1 : ByteArray) (r : Bool) (w : World) (h : stringslite_HasSuffix.f a0 a1 = some r) :
 Calls Tryd.prog 48 #[.string a0, .string a1] w fun e w' => e = .returned (.bool r) ∧ Drawn0 w w' := by
 have H : (if (a0.size : Int) ≥ (a1.size : Int) then (if 0 ≤ (wrap64 ((a0.size : Int) - (a1.size : Int))) then (if (wrap64 ((a0.size : Int) - (a1.size : Int))) ≤ (a0.size : Int) then (some ((a0.extract ((wrap64 ((a0.size : Int) - (a1.size : Int))) : Int).toNat a0.size).toList == a1.toList)) else (none)) else (none)) else (some false)) = some r := h
 clear h
 by_cases c3 : (a0.size : Int) ≥ (a1.size : Int)
 ·rw [if_pos c3] at H
  have A2 := decide_eq_true c3
  have A3 : decide (a1.size ≤ a0.size) = true := decide_eq_true (Int.ofNat_le.mp c3)
  clear c3
  obtain ⟨A1, A0⟩ : ∃ j_ : Int, (wrap64 ((a0.size : Int) - (a1.size : Int))) = j_ := ⟨_, rfl⟩
  replace H : (if 0 ≤ (A1) then (if (A1) ≤ (a0.size : Int) then (some ((a0.extract ((A1) : Int).toNat a0.size).toList == a1.toList)) else (none)) else (none)) = some r := by first | (rw [A0] at H; exact H) | (simp only [A0] at H ⊢; exact H)
  have hji4w : (IntKind.i64.wrap ((a0.size : Int) - (a1.size : Int))) = A1 := (i64_w _).trans A0
  by_cases c5 : 0 ≤ (A1)
  ·rw [if_pos c5] at H
   have A4 := eq_true c5
   have A5 := decide_eq_true c5
   clear c5
   by_cases c6 : (A1) ≤ (a0.size : Int)
   ·rw [if_pos c6] at H
    have A6 := eq_true c6
    have A7 := decide_eq_true c6
    clear c6
    obtain rfl := Option.some.inj H
    go_enter Tryd.func48, Tryd.ntmps48
    go_wp2
    go_ret
    exact ⟨by first | rfl | (simp; done) | (simp only [← A0] <;> (first | rfl | simp)) | (simp [*]; done), by repeat (first | exact Drawn0.refl _ | apply Drawn0.step)⟩
   ·rw [if_neg c6] at H
    exact absurd H (by simp)
  ·rw [if_neg c5] at H
   exact absurd H (by simp)
 ·rw [if_neg c3] at H
  have A2 := decide_eq_false c3
  have A3 : decide (a1.size ≤ a0.size) = false := decide_eq_false (fun h => c3 (Int.ofNat_le.mpr h))
  clear c3
  obtain rfl := Option.some.inj H
  go_enter Tryd.func48, Tryd.ntmps48
  go_wp2
  go_ret
  exact ⟨by first | rfl | (simp; done) | (simp [*]; done), by repeat (first | exact Drawn0.refl _ | apply Drawn0.step)⟩

/-! ### strings_HasSuffix: function 32 -/
def strings_HasSuffix.f (a0 : ByteArray) (a1 : ByteArray) : Option (Bool) := (stringslite_HasSuffix.f a0 a1).bind fun t182 => (some t182)
set_option maxHeartbeats 8000000 in
set_option maxRecDepth 100000 in
theorem strings_HasSuffix.calls (a0 : ByteArray) (a1 : ByteArray) (r : Bool) (w : World) (h : strings_HasSuffix.f a0 a1 = some r) :
 Calls Tryd.prog 32 #[.string a0, .string a1] w fun e w' => e = .returned (.bool r) ∧ Drawn0 w w' := by
 have H : ((stringslite_HasSuffix.f a0 a1).bind fun A0 => (some A0)) = some r := h
 clear h
 replace H := Option.bind_eq_some_iff.mp H
 obtain ⟨A0, A1, H⟩ := H
 replace H : (some A0) = some r := H
 have A3 := Z.m A1
 clear A1
 obtain rfl := Option.some.inj H
 go_enter Tryd.func32, Tryd.ntmps32
 go_wp2_with (first | ((with_reducible refine gc (f := 48) rfl ?_); refine gA (some 7) _ #[.string a0, .string a1] ?_ Tryd.func48; (with_reducible refine (stringslite_HasSuffix.calls a0 a1 A0 _ A3.o).mono ?_); rintro e w' ⟨rfl, ⟨nd, rfl⟩⟩; refine ⟨_, rfl, ?_⟩))
 go_ret
 exact ⟨by first | rfl | (simp; done) | (simp [*]; done), by repeat (first | exact Drawn0.refl _ | apply Drawn0.step)⟩

/-! ### strings_Split: function 33 -/
def strings_Split.f (a0 : ByteArray) (a1 : ByteArray) : Option (List ByteArray) := if a0.size < 4294967281 then (if 1 ≤ a1.size then (some (Lib.splitB a1 0 (Lib.countB a0 a1) a0)) else (none)) else (none)
theorem strings_Split.calls (a0 : ByteArray) (a1 : ByteArray) (r : List ByteArray) (w : World) (h : strings_Split.f a0 a1 = some r) {m1_ : Int} (hm1_ : w.cell? ⟨1, 0, none⟩ = some (.int .i64 m1_)) :
 Calls Tryd.prog 33 #[.string a0, .string a1] w fun e w' => ∃ v0_ : Value, e = .returned (v0_) ∧ Kd.R Kd.string 9 w' w.heap.size (fun _ => True) v0_ r ∧ Below w.heap.size w w' := by
 unfold strings_Split.f at h
 by_cases h0 : a0.size < 4294967281
 case neg => rw [if_neg h0] at h; exact absurd h (by simp)
 rw [if_pos h0] at h
 by_cases h1 : 1 ≤ a1.size
 case neg => rw [if_neg h1] at h; exact absurd h (by simp)
 rw [if_pos h1] at h
 obtain rfl := Option.some.inj h
 have hl : (Lib.splitB a1 0 (Lib.countB a0 a1) a0).length = Lib.countB a0 a1 + 1 := Lib.splitB_all a1 h1 0 _ a0 rfl
 have hc := Lib.countB_le a1 h1 a0.size a0 (Nat.le_refl _)
 refine (Tryd.strings_Split a0 a1 m1_ w h0 hm1_ h1).mono ?_
 rintro e w' ⟨rfl, rfl⟩
 refine ⟨_, rfl, Kd.R_of_own (h1 := fun _ => rfl) ?_ (fun _ _ => trivial), qa (Below.refl _ _) _⟩
 have h2 := World.ownsRow_lit (base := w.heap.size) (e := 9) (size := 1) w ((Lib.splitB a1 0 (Lib.countB a0 a1) a0).map Value.string).toArray (Lib.countB a0 a1 + 1) (Nat.le_refl _) (by simp [maxLen]; omega) (by simp [hl])
 rw [hl]
 unfold encs
 simpa using h2

/-! ### impl_linesOf: function 16 -/
def impl_linesOf.f (a0 : ByteArray) : Option (List ByteArray × Bool) := if a0.toList = ([] : List UInt8) then (some (([] : List ByteArray), true)) else ((strings_HasSuffix.f a0 (⟨#[10]⟩ : ByteArray)).bind fun t188 => (if t188 = true then (if 0 ≤ (wrap64 ((a0.size : Int) - 1)) then (if (wrap64 ((a0.size : Int) - 1)) ≤ (a0.size : Int) then ((strings_Split.f (a0.extract 0 ((wrap64 ((a0.size : Int) - 1)) : Int).toNat) (⟨#[10]⟩ : ByteArray)).bind fun t189 => (some (t189, true))) else (none)) else (none)) else (some (([] : List ByteArray), false))))
set_option maxHeartbeats 8000000 in
set_option maxRecDepth 100000 in
theorem impl_linesOf.calls (a0 : ByteArray) (r1 : List ByteArray) (r2 : Bool) (w : World) (h : impl_linesOf.f a0 = some (r1, r2)) {m1_ : Int} (hm1_ : w.cell? ⟨1, 0, none⟩ = some (.int .i64 m1_)) :
 Calls Tryd.prog 16 #[.string a0] w fun e w' => ∃ v0_ : Value, e = .returned (.tuple #[v0_, .bool r2]) ∧ Kd.R Kd.string 9 w' w.heap.size (fun _ => True) v0_ r1 ∧ Below w.heap.size w w' := by
 have HB := Z.m (Below.refl w.heap.size w)
 have H : (if a0.toList = ([] : List UInt8) then (some (([] : List ByteArray), true)) else ((strings_HasSuffix.f a0 (⟨#[10]⟩ : ByteArray)).bind fun A2 => (if A2 = true then (if 0 ≤ (wrap64 ((a0.size : Int) - 1)) then (if (wrap64 ((a0.size : Int) - 1)) ≤ (a0.size : Int) then ((strings_Split.f (a0.extract 0 ((wrap64 ((a0.size : Int) - 1)) : Int).toNat) (⟨#[10]⟩ : ByteArray)).bind fun A0 => (some (A0, true))) else (none)) else (none)) else (some (([] : List ByteArray), false))))) = some (r1, r2) := h
 clear h
 by_cases c2 : a0.toList = ([] : List UInt8)
 ·rw [if_pos c2] at H
  have A6 := beq_iff_eq.mpr c2
  have A7 := bne_eq_false_iff_eq.mpr c2
  clear c2
  simp only [Option.some.injEq, Prod.mk.injEq] at H
  obtain ⟨rfl, rfl⟩ := H
  go_enter Tryd.func16, Tryd.ntmps16
  go_wp2
  go_ret2
  exact ⟨_, by first | rfl | (simp [eN, eS] <;> rfl) | (simp [*, eN, eS] <;> rfl), by first | exact Kd.R_nil _ _ _ _ _ | exact Kd.N_nil _ _ _ _ _ | exact Kd.V_nil _ _ _ _ _ | exact Kd.Q_nil _ _ _ _ _ | exact Kd.S_nil _ _ _ _ _, vB HB⟩
 ·rw [if_neg c2] at H
  have A6 := beq_eq_false_iff_ne.mpr c2
  have A7 := bne_iff_ne.mpr c2
  replace H := Option.bind_eq_some_iff.mp H
  obtain ⟨A2, A9, H⟩ := H
  replace H : (if A2 = true then (if 0 ≤ (wrap64 ((a0.size : Int) - 1)) then (if (wrap64 ((a0.size : Int) - 1)) ≤ (a0.size : Int) then ((strings_Split.f (a0.extract 0 ((wrap64 ((a0.size : Int) - 1)) : Int).toNat) (⟨#[10]⟩ : ByteArray)).bind fun A0 => (some (A0, true))) else (none)) else (none)) else (some (([] : List ByteArray), false))) = some (r1, r2) := H
  have A3 := Z.m A9
  clear A9
  by_cases c4 : A2 = true
  ·subst c4
   have H1 : (if 0 ≤ (wrap64 ((a0.size : Int) - 1)) then (if (wrap64 ((a0.size : Int) - 1)) ≤ (a0.size : Int) then ((strings_Split.f (a0.extract 0 ((wrap64 ((a0.size : Int) - 1)) : Int).toNat) (⟨#[10]⟩ : ByteArray)).bind fun A0 => (some (A0, true))) else (none)) else (none)) = some (r1, r2) := by rw [if_pos rfl] at H; exact H
   clear H
   have H := H1
   clear H1
   obtain ⟨A4, A1⟩ : ∃ j_ : Int, (wrap64 ((a0.size : Int) - 1)) = j_ := ⟨_, rfl⟩
   replace H : (if 0 ≤ (A4) then (if (A4) ≤ (a0.size : Int) then ((strings_Split.f (a0.extract 0 ((A4) : Int).toNat) (⟨#[10]⟩ : ByteArray)).bind fun A0 => (some (A0, true))) else (none)) else (none)) = some (r1, r2) := by first | (rw [A1] at H; exact H) | (simp only [A1] at H ⊢; exact H)
   (try rw [A1] at A3)
   have hji5w : (IntKind.i64.wrap ((a0.size : Int) - 1)) = A4 := (i64_w _).trans A1
   by_cases c6 : 0 ≤ (A4)
   ·rw [if_pos c6] at H
    have Ac := eq_true c6
    have Ad := decide_eq_true c6
    clear c6
    by_cases c7 : (A4) ≤ (a0.size : Int)
    ·rw [if_pos c7] at H
     have Ae := eq_true c7
     have Af := decide_eq_true c7
     clear c7
     replace H := Option.bind_eq_some_iff.mp H
     obtain ⟨A0, Aa, H⟩ := H
     replace H : (some (A0, true)) = some (r1, r2) := H
     have A8 := Z.m Aa
     clear Aa
     simp only [Option.some.injEq, Prod.mk.injEq] at H
     obtain ⟨rfl, rfl⟩ := H
     go_enter Tryd.func16, Tryd.ntmps16
     go_wp2_with (first | ((with_reducible refine gc (f := 32) rfl ?_); refine gA (some 7) _ #[.string a0, .string (⟨#[10]⟩ : ByteArray)] ?_ Tryd.func32; (with_reducible refine (strings_HasSuffix.calls a0 (⟨#[10]⟩ : ByteArray) true _ A3.o).mono ?_); rintro e w' ⟨rfl, ⟨nd, rfl⟩⟩; refine ⟨_, rfl, ?_⟩) | ((with_reducible refine gc (f := 33) rfl ?_); refine goesL_ (some 14) rfl rfl Tryd.func33 (by kernel_rfl) rfl #[.string (a0.extract 0 ((A4) : Int).toNat), .string (⟨#[10]⟩ : ByteArray)] rfl (by (try simp only [List.map_toArray, List.map_cons, List.map_nil]); first | done | (simp only [A1]; rfl) | rfl | (simp only [List.length_drop, List.length_take]; rfl)) ?_; (with_reducible refine (strings_Split.calls (a0.extract 0 ((A4) : Int).toNat) (⟨#[10]⟩ : ByteArray) A0 _ A8.o (pw_cell_below (vB HB) hm1_)).mono ?_); rintro e w9 ⟨Ag, rfl, Ab, hb⟩; refine ⟨_, rfl, ?_⟩; have A5 := Z.m (Kd.R_lower Ab (below_size (vB HB))); replace HB := bB HB hb; (try clear hb); (try clear Ah); (try clear hk); (try clear hi); (try clear Ab)))
     go_ret2
     exact ⟨_, by first | rfl | (simp [eN, eS] <;> rfl) | (simp only [← A1]; first | rfl | (simp [eN, eS] <;> rfl)) | (simp [*, eN, eS] <;> rfl), vR A5, vB HB⟩
    ·rw [if_neg c7] at H
     exact absurd H (by simp)
   ·rw [if_neg c6] at H
    exact absurd H (by simp)
  ·replace c4 := Bool.eq_false_iff.mpr c4
   subst c4
   have H1 : (some (([] : List ByteArray), false)) = some (r1, r2) := by rw [if_neg (show ¬ (false = true) by decide)] at H; exact H
   clear H
   have H := H1
   clear H1
   simp only [Option.some.injEq, Prod.mk.injEq] at H
   obtain ⟨rfl, rfl⟩ := H
   go_enter Tryd.func16, Tryd.ntmps16
   go_wp2_with (first | ((with_reducible refine gc (f := 32) rfl ?_); refine gA (some 7) _ #[.string a0, .string (⟨#[10]⟩ : ByteArray)] ?_ Tryd.func32; (with_reducible refine (strings_HasSuffix.calls a0 (⟨#[10]⟩ : ByteArray) false _ A3.o).mono ?_); rintro e w' ⟨rfl, ⟨nd, rfl⟩⟩; refine ⟨_, rfl, ?_⟩))
   go_ret2
   exact ⟨_, by first | rfl | (simp [eN, eS] <;> rfl) | (simp [*, eN, eS] <;> rfl), by first | exact Kd.R_nil _ _ _ _ _ | exact Kd.N_nil _ _ _ _ _ | exact Kd.V_nil _ _ _ _ _ | exact Kd.Q_nil _ _ _ _ _ | exact Kd.S_nil _ _ _ _ _, vB HB⟩

/-! ### impl_IsCell: function 60 -/
def impl_IsCell.f (a0_0 : Int) (a0_1 : Int) : Option (Bool) := if a0_0 < 0 then (some false) else (if a0_0 > 7 then (some false) else (if a0_1 < 0 then (some false) else (if a0_1 > 1 then (some false) else (if a0_1 = 0 then (some true) else (if a0_0 = 3 then (some true) else (some (a0_0 == 6)))))))
set_option maxHeartbeats 8000000 in
set_option maxRecDepth 100000 in
theorem impl_IsCell.calls (a0_0 : Int) (a0_1 : Int) (r : Bool) (w : World) (h : impl_IsCell.f a0_0 a0_1 = some r) :
 Calls Tryd.prog 60 #[.agg #[.int .i64 a0_0, .int .i64 a0_1]] w fun e w' => e = .returned (.bool r) ∧ Below w.heap.size w w' := by
 have AE := Tryd.underlying62
 have HB := Z.m (Below.refl w.heap.size w)
 have H : (if a0_0 < 0 then (some false) else (if a0_0 > 7 then (some false) else (if a0_1 < 0 then (some false) else (if a0_1 > 1 then (some false) else (if a0_1 = 0 then (some true) else (if a0_0 = 3 then (some true) else (some (a0_0 == 6)))))))) = some r := h
 clear h
 by_cases c2 : a0_0 < 0
 ·rw [if_pos c2] at H
  have At := decide_eq_true c2
  clear c2
  obtain rfl := Option.some.inj H
  go_enter Tryd.func60, Tryd.ntmps60
  go_wp2_with (first | ((with_reducible refine gq (N := 1) rfl ?_); refine be (N := 1) (cs := #[.int .i64 a0_0, .int .i64 a0_1]) (t := 62) ?_; intro A3 hg w3 hbox hb; have A0 := Z.m (hbox); have A1 := gW (w := w) HB hg; have A2 := A1; replace HB := bB HB hb; clear hb hbox hg; have Aw := bc0 A0; have Ax := bc1 A0; have AA := qz A0.o 0; have AB := qz A0.o 1))
  go_ret
  exact ⟨by first | rfl | (simp [eN, eS] <;> rfl) | (simp [*, eN, eS] <;> rfl), vB HB⟩
 ·rw [if_neg c2] at H
  have At := decide_eq_false c2
  clear c2
  by_cases c5 : a0_0 > 7
  ·rw [if_pos c5] at H
   have Au := decide_eq_true c5
   clear c5
   obtain rfl := Option.some.inj H
   go_enter Tryd.func60, Tryd.ntmps60
   go_wp2_with (first | ((with_reducible refine gq (N := 1) rfl ?_); refine be (N := 1) (cs := #[.int .i64 a0_0, .int .i64 a0_1]) (t := 62) ?_; intro A3 hg w6 hbox hb; have A0 := Z.m (hbox); have A1 := gW (w := w) HB hg; have A2 := A1; replace HB := bB HB hb; clear hb hbox hg; have Ay := bc0 A0; have Az := bc1 A0; have AC := qz A0.o 0; have AD := qz A0.o 1))
   go_ret
   exact ⟨by first | rfl | (simp [eN, eS] <;> rfl) | (simp [*, eN, eS] <;> rfl), vB HB⟩
  ·rw [if_neg c5] at H
   have Au := decide_eq_false c5
   clear c5
   by_cases c8 : a0_1 < 0
   ·rw [if_pos c8] at H
    have Av := decide_eq_true c8
    clear c8
    obtain rfl := Option.some.inj H
    go_enter Tryd.func60, Tryd.ntmps60
    go_wp2_with (first | ((with_reducible refine gq (N := 1) rfl ?_); refine be (N := 1) (cs := #[.int .i64 a0_0, .int .i64 a0_1]) (t := 62) ?_; intro A3 hg w9 hbox hb; have A0 := Z.m (hbox); have A1 := gW (w := w) HB hg; have A2 := A1; replace HB := bB HB hb; clear hb hbox hg; have A9 := bc0 A0; have Aa := bc1 A0; have Aj := qz A0.o 0; have Ak := qz A0.o 1))
    go_ret
    exact ⟨by first | rfl | (simp [eN, eS] <;> rfl) | (simp [*, eN, eS] <;> rfl), vB HB⟩
   ·rw [if_neg c8] at H
    have Av := decide_eq_false c8
    clear c8
    by_cases c11 : a0_1 > 1
    ·rw [if_pos c11] at H
     have A4 := decide_eq_true c11
     clear c11
     obtain rfl := Option.some.inj H
     go_enter Tryd.func60, Tryd.ntmps60
     go_wp2_with (first | ((with_reducible refine gq (N := 1) rfl ?_); refine be (N := 1) (cs := #[.int .i64 a0_0, .int .i64 a0_1]) (t := 62) ?_; intro A3 hg AF hbox hb; have A0 := Z.m (hbox); have A1 := gW (w := w) HB hg; have A2 := A1; replace HB := bB HB hb; clear hb hbox hg; have Ab := bc0 A0; have Ac := bc1 A0; have Al := qz A0.o 0; have Am := qz A0.o 1))
     go_ret
     exact ⟨by first | rfl | (simp [eN, eS] <;> rfl) | (simp [*, eN, eS] <;> rfl), vB HB⟩
    ·rw [if_neg c11] at H
     have A4 := decide_eq_false c11
     clear c11
     by_cases c14 : a0_1 = 0
     ·rw [if_pos c14] at H
      have A5 := beq_iff_eq.mpr c14
      have A6 := bne_eq_false_iff_eq.mpr c14
      clear c14
      obtain rfl := Option.some.inj H
      go_enter Tryd.func60, Tryd.ntmps60
      go_wp2_with (first | ((with_reducible refine gq (N := 1) rfl ?_); refine be (N := 1) (cs := #[.int .i64 a0_0, .int .i64 a0_1]) (t := 62) ?_; intro A3 hg AG hbox hb; have A0 := Z.m (hbox); have A1 := gW (w := w) HB hg; have A2 := A1; replace HB := bB HB hb; clear hb hbox hg; have Ad := bc0 A0; have Ae := bc1 A0; have An := qz A0.o 0; have Ao := qz A0.o 1))
      go_ret
      exact ⟨by first | rfl | (simp [eN, eS] <;> rfl) | (simp [*, eN, eS] <;> rfl), vB HB⟩
     ·rw [if_neg c14] at H
      have A5 := beq_eq_false_iff_ne.mpr c14
      have A6 := bne_iff_ne.mpr c14
      by_cases c17 : a0_0 = 3
      ·rw [if_pos c17] at H
       have A7 := beq_iff_eq.mpr c17
       have A8 := bne_eq_false_iff_eq.mpr c17
       clear c17
       obtain rfl := Option.some.inj H
       go_enter Tryd.func60, Tryd.ntmps60
       go_wp2_with (first | ((with_reducible refine gq (N := 1) rfl ?_); refine be (N := 1) (cs := #[.int .i64 a0_0, .int .i64 a0_1]) (t := 62) ?_; intro A3 hg AH hbox hb; have A0 := Z.m (hbox); have A1 := gW (w := w) HB hg; have A2 := A1; replace HB := bB HB hb; clear hb hbox hg; have Af := bc0 A0; have Ag := bc1 A0; have Ap := qz A0.o 0; have Aq := qz A0.o 1))
       go_ret
       exact ⟨by first | rfl | (simp [eN, eS] <;> rfl) | (simp [*, eN, eS] <;> rfl), vB HB⟩
      ·rw [if_neg c17] at H
       have A7 := beq_eq_false_iff_ne.mpr c17
       have A8 := bne_iff_ne.mpr c17
       obtain rfl := Option.some.inj H
       go_enter Tryd.func60, Tryd.ntmps60
       go_wp2_with (first | ((with_reducible refine gq (N := 1) rfl ?_); refine be (N := 1) (cs := #[.int .i64 a0_0, .int .i64 a0_1]) (t := 62) ?_; intro A3 hg AI hbox hb; have A0 := Z.m (hbox); have A1 := gW (w := w) HB hg; have A2 := A1; replace HB := bB HB hb; clear hb hbox hg; have Ah := bc0 A0; have Ai := bc1 A0; have Ar := qz A0.o 0; have As := qz A0.o 1))
       go_ret
       exact ⟨by first | rfl | (simp [eN, eS] <;> rfl) | (simp [*, eN, eS] <;> rfl), vB HB⟩

/-! ### impl_CellLetter: function 50 -/
def impl_CellLetter.f (a0_0 : Int) (a0_1 : Int) : Option (ByteArray × Bool) := (impl_IsCell.f a0_0 a0_1).bind fun t194 => (if t194 = true then (if a0_1 = 1 then (if 0 ≤ a0_0 then (if a0_0 ≤ (wrap64 (a0_0 + 1)) then (if (wrap64 (a0_0 + 1)) ≤ 8 then (some ((⟨#[46, 108, 114, 70, 120, 111, 71, 99]⟩ : ByteArray).extract (a0_0 : Int).toNat ((wrap64 (a0_0 + 1)) : Int).toNat, true)) else (none)) else (none)) else (none)) else (if 0 ≤ a0_0 then (if a0_0 ≤ (wrap64 (a0_0 + 1)) then (if (wrap64 (a0_0 + 1)) ≤ 8 then (some ((⟨#[46, 108, 114, 102, 120, 111, 103, 99]⟩ : ByteArray).extract (a0_0 : Int).toNat ((wrap64 (a0_0 + 1)) : Int).toNat, true)) else (none)) else (none)) else (none))) else (some ((⟨#[]⟩ : ByteArray), false)))
set_option maxHeartbeats 8000000 in
set_option maxRecDepth 100000 in
theorem impl_CellLetter.calls (a0_0 : Int) (a0_1 : Int) (r1 : ByteArray) (r2 : Bool) (w : World) (h : impl_CellLetter.f a0_0 a0_1 = some (r1, r2)) :
 Calls Tryd.prog 50 #[.agg #[.int .i64 a0_0, .int .i64 a0_1]] w fun e w' => e = .returned (.tuple #[.string r1, .bool r2]) ∧ Below w.heap.size w w' := by
 have AG := Tryd.underlying62
 have HB := Z.m (Below.refl w.heap.size w)
 have H : ((impl_IsCell.f a0_0 a0_1).bind fun A3 => (if A3 = true then (if a0_1 = 1 then (if 0 ≤ a0_0 then (if a0_0 ≤ (wrap64 (a0_0 + 1)) then (if (wrap64 (a0_0 + 1)) ≤ 8 then (some ((⟨#[46, 108, 114, 70, 120, 111, 71, 99]⟩ : ByteArray).extract (a0_0 : Int).toNat ((wrap64 (a0_0 + 1)) : Int).toNat, true)) else (none)) else (none)) else (none)) else (if 0 ≤ a0_0 then (if a0_0 ≤ (wrap64 (a0_0 + 1)) then (if (wrap64 (a0_0 + 1)) ≤ 8 then (some ((⟨#[46, 108, 114, 102, 120, 111, 103, 99]⟩ : ByteArray).extract (a0_0 : Int).toNat ((wrap64 (a0_0 + 1)) : Int).toNat, true)) else (none)) else (none)) else (none))) else (some ((⟨#[]⟩ : ByteArray), false)))) = some (r1, r2) := h
 clear h
 replace H := Option.bind_eq_some_iff.mp H
 obtain ⟨A3, As, H⟩ := H
 replace H : (if A3 = true then (if a0_1 = 1 then (if 0 ≤ a0_0 then (if a0_0 ≤ (wrap64 (a0_0 + 1)) then (if (wrap64 (a0_0 + 1)) ≤ 8 then (some ((⟨#[46, 108, 114, 70, 120, 111, 71, 99]⟩ : ByteArray).extract (a0_0 : Int).toNat ((wrap64 (a0_0 + 1)) : Int).toNat, true)) else (none)) else (none)) else (none)) else (if 0 ≤ a0_0 then (if a0_0 ≤ (wrap64 (a0_0 + 1)) then (if (wrap64 (a0_0 + 1)) ≤ 8 then (some ((⟨#[46, 108, 114, 102, 120, 111, 103, 99]⟩ : ByteArray).extract (a0_0 : Int).toNat ((wrap64 (a0_0 + 1)) : Int).toNat, true)) else (none)) else (none)) else (none))) else (some ((⟨#[]⟩ : ByteArray), false))) = some (r1, r2) := H
 have A2 := Z.m As
 clear As
 by_cases c3 : A3 = true
 ·subst c3
  have H1 : (if a0_1 = 1 then (if 0 ≤ a0_0 then (if a0_0 ≤ (wrap64 (a0_0 + 1)) then (if (wrap64 (a0_0 + 1)) ≤ 8 then (some ((⟨#[46, 108, 114, 70, 120, 111, 71, 99]⟩ : ByteArray).extract (a0_0 : Int).toNat ((wrap64 (a0_0 + 1)) : Int).toNat, true)) else (none)) else (none)) else (none)) else (if 0 ≤ a0_0 then (if a0_0 ≤ (wrap64 (a0_0 + 1)) then (if (wrap64 (a0_0 + 1)) ≤ 8 then (some ((⟨#[46, 108, 114, 102, 120, 111, 103, 99]⟩ : ByteArray).extract (a0_0 : Int).toNat ((wrap64 (a0_0 + 1)) : Int).toNat, true)) else (none)) else (none)) else (none))) = some (r1, r2) := by rw [if_pos rfl] at H; exact H
  clear H
  have H := H1
  clear H1
  by_cases c4 : a0_1 = 1
  ·rw [if_pos c4] at H
   have Am := beq_iff_eq.mpr c4
   have An := bne_eq_false_iff_eq.mpr c4
   clear c4
   by_cases c5 : 0 ≤ a0_0
   ·rw [if_pos c5] at H
    have AA := eq_true c5
    have AB := decide_eq_true c5
    clear c5
    by_cases c6 : a0_0 ≤ (wrap64 (a0_0 + 1))
    ·rw [if_pos c6] at H
     have AC := eq_true c6
     have AD := decide_eq_true c6
     by_cases c7 : (wrap64 (a0_0 + 1)) ≤ 8
     ·rw [if_pos c7] at H
      have AE := eq_true c7
      have AF := decide_eq_true c7
      simp only [Option.some.injEq, Prod.mk.injEq] at H
      obtain ⟨rfl, rfl⟩ := H
      go_enter Tryd.func50, Tryd.ntmps50
      go_wp2_with (first | ((with_reducible refine gq (N := 1) rfl ?_); refine be (N := 1) (cs := #[.int .i64 a0_0, .int .i64 a0_1]) (t := 62) ?_; intro A5 hg w8 hbox hb; have A0 := Z.m (hbox); have A1 := gW (w := w) HB hg; have A4 := A1; replace HB := bB HB hb; clear hb hbox hg; have Ao := bc0 A0; have Ap := bc1 A0; have Aq := qz A0.o 0; have Ar := qz A0.o 1) | ((with_reducible refine gc (f := 60) rfl ?_); refine gA (some 6) _ #[.agg #[.int .i64 a0_0, .int .i64 a0_1]] ?_ Tryd.func60; (with_reducible refine (impl_IsCell.calls a0_0 a0_1 true _ A2.o).mono ?_); rintro e AH ⟨rfl, hb⟩; refine ⟨_, rfl, ?_⟩; replace A0 := kB A0 hb; replace HB := bB HB hb; (try clear hb); (try clear Az); (try clear hk); (try clear hi); have A6 := bc0 A0; have A7 := bc1 A0; have Ae := qz A0.o 0; have Af := qz A0.o 1))
      go_ret2
      exact ⟨by first | rfl | (simp [eN, eS] <;> rfl) | (simp [*, eN, eS] <;> rfl), vB HB⟩
     ·rw [if_neg c7] at H
      exact absurd H (by simp)
    ·rw [if_neg c6] at H
     exact absurd H (by simp)
   ·rw [if_neg c5] at H
    exact absurd H (by simp)
  ·rw [if_neg c4] at H
   have Am := beq_eq_false_iff_ne.mpr c4
   have An := bne_iff_ne.mpr c4
   by_cases c12 : 0 ≤ a0_0
   ·rw [if_pos c12] at H
    have At := eq_true c12
    have Au := decide_eq_true c12
    clear c12
    by_cases c13 : a0_0 ≤ (wrap64 (a0_0 + 1))
    ·rw [if_pos c13] at H
     have Av := eq_true c13
     have Aw := decide_eq_true c13
     by_cases c14 : (wrap64 (a0_0 + 1)) ≤ 8
     ·rw [if_pos c14] at H
      have Ax := eq_true c14
      have Ay := decide_eq_true c14
      simp only [Option.some.injEq, Prod.mk.injEq] at H
      obtain ⟨rfl, rfl⟩ := H
      go_enter Tryd.func50, Tryd.ntmps50
      go_wp2_with (first | ((with_reducible refine gq (N := 1) rfl ?_); refine be (N := 1) (cs := #[.int .i64 a0_0, .int .i64 a0_1]) (t := 62) ?_; intro A5 hg AI hbox hb; have A0 := Z.m (hbox); have A1 := gW (w := w) HB hg; have A4 := A1; replace HB := bB HB hb; clear hb hbox hg; have A8 := bc0 A0; have A9 := bc1 A0; have Ag := qz A0.o 0; have Ah := qz A0.o 1) | ((with_reducible refine gc (f := 60) rfl ?_); refine gA (some 6) _ #[.agg #[.int .i64 a0_0, .int .i64 a0_1]] ?_ Tryd.func60; (with_reducible refine (impl_IsCell.calls a0_0 a0_1 true _ A2.o).mono ?_); rintro e AJ ⟨rfl, hb⟩; refine ⟨_, rfl, ?_⟩; replace A0 := kB A0 hb; replace HB := bB HB hb; (try clear hb); (try clear Az); (try clear hk); (try clear hi); have Aa := bc0 A0; have Ab := bc1 A0; have Ai := qz A0.o 0; have Aj := qz A0.o 1))
      go_ret2
      exact ⟨by first | rfl | (simp [eN, eS] <;> rfl) | (simp [*, eN, eS] <;> rfl), vB HB⟩
     ·rw [if_neg c14] at H
      exact absurd H (by simp)
    ·rw [if_neg c13] at H
     exact absurd H (by simp)
   ·rw [if_neg c12] at H
    exact absurd H (by simp)
 ·replace c3 := Bool.eq_false_iff.mpr c3
  subst c3
  have H1 : (some ((⟨#[]⟩ : ByteArray), false)) = some (r1, r2) := by rw [if_neg (show ¬ (false = true) by decide)] at H; exact H
  clear H
  have H := H1
  clear H1
  simp only [Option.some.injEq, Prod.mk.injEq] at H
  obtain ⟨rfl, rfl⟩ := H
  go_enter Tryd.func50, Tryd.ntmps50
  go_wp2_with (first | ((with_reducible refine gq (N := 1) rfl ?_); refine be (N := 1) (cs := #[.int .i64 a0_0, .int .i64 a0_1]) (t := 62) ?_; intro A5 hg AK hbox hb; have A0 := Z.m (hbox); have A1 := gW (w := w) HB hg; have A4 := A1; replace HB := bB HB hb; clear hb hbox hg; have Ac := bc0 A0; have Ad := bc1 A0; have Ak := qz A0.o 0; have Al := qz A0.o 1) | ((with_reducible refine gc (f := 60) rfl ?_); refine gA (some 6) _ #[.agg #[.int .i64 a0_0, .int .i64 a0_1]] ?_ Tryd.func60; (with_reducible refine (impl_IsCell.calls a0_0 a0_1 false _ A2.o).mono ?_); rintro e AL ⟨rfl, hb⟩; refine ⟨_, rfl, ?_⟩; replace A0 := kB A0 hb; replace HB := bB HB hb; (try clear hb); (try clear Az); (try clear hk); (try clear hi)))
  go_ret2
  exact ⟨by first | rfl | (simp [eN, eS] <;> rfl) | (simp [*, eN, eS] <;> rfl), vB HB⟩

/-! ### impl_ReadCell: function 34 -/
mutual
def impl_ReadCell.l0 : Nat → ByteArray → Int → Option (Int × Int × Bool)
 | 0, _, _ => none
 | k + 1, x0, x4 => if x4 ≤ 7 then (impl_ReadCell.l1 k x0 x4 0) else (some (0, 0, false))
def impl_ReadCell.l1 : Nat → ByteArray → Int → Int → Option (Int × Int × Bool)
 | 0, _, _, _ => none
 | k + 1, x0, x4, x5 => if x5 < 2 then ((impl_CellLetter.f x4 x5).bind fun bt197 => (if bt197.2 = true then (if bt197.1.toList = x0.toList then (some (x4, x5, true)) else (impl_ReadCell.l1 k x0 x4 (wrap64 (x5 + 1)))) else (impl_ReadCell.l1 k x0 x4 (wrap64 (x5 + 1))))) else (impl_ReadCell.l0 k x0 (wrap64 (x4 + 1)))
end
def impl_ReadCell.f (k : Nat) (a0 : ByteArray) : Option (Int × Int × Bool) := impl_ReadCell.l0 k a0 0
set_option maxHeartbeats 8000000 in
set_option maxRecDepth 100000 in
theorem impl_ReadCell.calls (k : Nat) (a0 : ByteArray) (r1 : Int) (r2 : Int) (r3 : Bool) (w : World) (h : impl_ReadCell.f k a0 = some (r1, r2, r3)) :
 Calls Tryd.prog 34 #[.string a0] w fun e w' => e = .returned (.tuple #[.agg #[.int .i64 r1, .int .i64 r2], .bool r3]) ∧ Below w.heap.size w w' := by
 have AV := Tryd.underlying62
 have HB := Z.m (Below.refl w.heap.size w)
 have H : (impl_ReadCell.l0 k a0 0) = some (r1, r2, r3) := h
 clear h
 have H' := Z.m H
 clear H
 go_enter Tryd.func34, Tryd.ntmps34
 go_wp2_with (first | ((with_reducible refine gq (N := 2) rfl ?_); refine be (N := 2) (cs := #[.int .i64 0, .int .i64 0]) (t := 62) ?_; intro Ab hg w2 hbox hb; have A0 := Z.m (hbox); have Ai := gW (w := w) HB hg; have AN := Ai; replace HB := bB HB hb; clear hb hbox hg))
 go_loopg [4] k (fun kq v4 w' => ∃ (A6 : Int) (Aa : Int) (A9 : Int), v4 = .int .i64 A6 ∧ Z (impl_ReadCell.l0 kq a0 A6 = some (r1, r2, r3)) ∧ Z (kq ≤ k) ∧ Z (w'.heap[Ab]? = some (.cells #[.int .i64 Aa, .int .i64 A9] 62 (0, 0))) ∧ Z (Below w.heap.size w w'))
 case atStart => exact ⟨(0), (0), (0), (by first | rfl | (simp; done) | (simp [*]; done)), H', ⟨Nat.le_refl _⟩, ⟨vK A0⟩, ⟨vB HB⟩⟩
 case round =>
  clear H'
  obtain ⟨A6, Aa, A9, rfl, HA, Ag, A0, HB⟩ := hrel
  cases gk with
  | zero => exact absurd HA.o (by simp [impl_ReadCell.l0])
  | succ k1 =>
   have H := HA.o
   clear HA
   simp only [impl_ReadCell.l0] at H
   by_cases c3 : A6 ≤ 7
   ·rw [if_pos c3] at H
    have Aj := decide_eq_true c3
    clear c3
    have H' := Z.m H
    clear H
    go_wp2
    go_loopg [5] k1 (fun kq v5 w' => ∃ (A7 : Int) (A3 : Int) (A1 : Int), v5 = .int .i64 A7 ∧ Z (impl_ReadCell.l1 kq a0 A6 A7 = some (r1, r2, r3)) ∧ Z (kq ≤ k1) ∧ Z (w'.heap[Ab]? = some (.cells #[.int .i64 A3, .int .i64 A1] 62 (0, 0))) ∧ Z (Below w.heap.size w w'))
    case atStart => exact ⟨(0), (Aa), (A9), (by first | rfl | (simp; done) | (simp [*]; done)), H', ⟨Nat.le_refl _⟩, ⟨vK A0⟩, ⟨vB HB⟩⟩
    case round =>
     clear H'
     (try clear Aj)
     obtain ⟨A7, A3, A1, rfl, HA, Ah, A0, HB⟩ := hrel
     cases gk with
     | zero => exact absurd HA.o (by simp [impl_ReadCell.l1])
     | succ k2 =>
      have H := HA.o
      clear HA
      simp only [impl_ReadCell.l1] at H
      by_cases c4 : A7 < 2
      ·rw [if_pos c4] at H
       have AJ := decide_eq_true c4
       clear c4
       replace H := Option.bind_eq_some_iff.mp H
       obtain ⟨⟨Ae, Ak⟩, AM, H⟩ := H
       replace H : (if Ak = true then (if Ae.toList = a0.toList then (some (A6, A7, true)) else (impl_ReadCell.l1 k2 a0 A6 (wrap64 (A7 + 1)))) else (impl_ReadCell.l1 k2 a0 A6 (wrap64 (A7 + 1)))) = some (r1, r2, r3) := H
       have A5 := Z.m AM
       clear AM
       by_cases c6 : Ak = true
       ·subst c6
        have H1 : (if Ae.toList = a0.toList then (some (A6, A7, true)) else (impl_ReadCell.l1 k2 a0 A6 (wrap64 (A7 + 1)))) = some (r1, r2, r3) := by rw [if_pos rfl] at H; exact H
        clear H
        have H := H1
        clear H1
        by_cases c7 : Ae.toList = a0.toList
        ·rw [if_pos c7] at H
         have AK := beq_iff_eq.mpr c7
         have AL := bne_eq_false_iff_eq.mpr c7
         clear c7
         simp only [Option.some.injEq, Prod.mk.injEq] at H
         obtain ⟨rfl, rfl, rfl⟩ := H
         go_wp2_with (first | ((with_reducible refine gq (N := 6) rfl ?_); refine be (N := 6) (cs := #[.int .i64 0, .int .i64 0]) (t := 62) ?_; intro Ad hg w8 hbox hb; have A2 := Z.m (hbox); have Ac := gW (w := w) HB hg; have Af := Ac; have A4 := neL A0 hg; have A8 := neG A0 hg; replace A0 := kB A0 hb; replace HB := bB HB hb; clear hb hbox hg; have AT := A8.o; have AU := A4.o; have Al := bc0 A2; have Am := bc1 A2; have Ax := qz A2.o 0; have Ay := qz A2.o 1) | ((with_reducible refine gc (f := 50) rfl ?_); refine gA (some 22) _ #[.agg #[.int .i64 A6, .int .i64 A7]] ?_ Tryd.func50; (with_reducible refine (impl_CellLetter.calls A6 A7 Ae true _ A5.o).mono ?_); rintro e AW ⟨rfl, hb⟩; refine ⟨_, rfl, ?_⟩; replace A0 := Z.m (qb (g := Ab) (o := .cells #[.int .i64 A3, .int .i64 A1] 62 (0, 0)) (by refine bK ?_; (iterate 2 refine qF ?_ A4); exact A0.o) hb); replace A2 := Z.m (qb (g := Ad) (o := .cells #[.int .i64 A6, .int .i64 A7] 62 (0, 0)) (by refine bK ?_; refine qp (cs := #[iV A6, iV 0]) ?_ 1 _ rfl; refine bK ?_; refine qp (cs := #[iV 0, iV 0]) ?_ 0 _ rfl; refine bK ?_; exact A2.o) hb); replace HB := bB HB hb; (try clear hb); (try clear AO); (try clear hk); (try clear hi); have An := bc0 A2; have Ao := bc1 A2; have Az := qz A2.o 0; have AA := qz A2.o 1; have Ap := bc0 A0; have Aq := bc1 A0; have AB := qz A0.o 0; have AC := qz A0.o 1))
         refine bodyPost_ret (results_ct rfl _ _ Ab 62 #[.int .i64 A6, .int .i64 A7] (0, 0) _ rfl (by refine bK ?_; refine qp (cs := #[iV A6, iV A1]) ?_ 1 _ rfl; refine bK ?_; refine qp (cs := #[iV A3, iV A1]) ?_ 0 _ rfl; refine bK ?_; exact A0.o) Tryd.underlying62 rfl (by kernel_rfl)) rfl ?_
         exact ⟨by first | rfl | (simp [eN, eS] <;> rfl) | (simp [*, eN, eS] <;> rfl), vB HB⟩
        ·rw [if_neg c7] at H
         have AK := beq_eq_false_iff_ne.mpr c7
         have AL := bne_iff_ne.mpr c7
         have H' := Z.m H
         clear H
         go_wp2_with (first | ((with_reducible refine gq (N := 6) rfl ?_); refine be (N := 6) (cs := #[.int .i64 0, .int .i64 0]) (t := 62) ?_; intro Ad hg AX hbox hb; have A2 := Z.m (hbox); have Ac := gW (w := w) HB hg; have Af := Ac; have A4 := neL A0 hg; have A8 := neG A0 hg; replace A0 := kB A0 hb; replace HB := bB HB hb; clear hb hbox hg; have AP := A8.o; have AR := A4.o; have Ar := bc0 A2; have As := bc1 A2; have AD := qz A2.o 0; have AE := qz A2.o 1) | ((with_reducible refine gc (f := 50) rfl ?_); refine gA (some 22) _ #[.agg #[.int .i64 A6, .int .i64 A7]] ?_ Tryd.func50; (with_reducible refine (impl_CellLetter.calls A6 A7 Ae true _ A5.o).mono ?_); rintro e AY ⟨rfl, hb⟩; refine ⟨_, rfl, ?_⟩; replace A0 := Z.m (qb (g := Ab) (o := .cells #[.int .i64 A3, .int .i64 A1] 62 (0, 0)) (by refine bK ?_; (iterate 2 refine qF ?_ A4); exact A0.o) hb); replace A2 := Z.m (qb (g := Ad) (o := .cells #[.int .i64 A6, .int .i64 A7] 62 (0, 0)) (by refine bK ?_; refine qp (cs := #[iV A6, iV 0]) ?_ 1 _ rfl; refine bK ?_; refine qp (cs := #[iV 0, iV 0]) ?_ 0 _ rfl; refine bK ?_; exact A2.o) hb); replace HB := bB HB hb; (try clear hb); (try clear AO); (try clear hk); (try clear hi)))
         go_roundg k2
         case measure => have := Ag.o; have := Ah.o; omega
         case rel => exact ⟨(wrap64 (A7 + 1)), (A3), (A1), (by first | rfl | (simp; done) | (simp [*]; done)), H', ⟨by have := Ag.o; have := Ah.o; omega⟩, ⟨vK A0⟩, ⟨vB HB⟩⟩
       ·replace c6 := Bool.eq_false_iff.mpr c6
        subst c6
        have H1 : (impl_ReadCell.l1 k2 a0 A6 (wrap64 (A7 + 1))) = some (r1, r2, r3) := by rw [if_neg (show ¬ (false = true) by decide)] at H; exact H
        clear H
        have H := H1
        clear H1
        have H' := Z.m H
        clear H
        go_wp2_with (first | ((with_reducible refine gq (N := 6) rfl ?_); refine be (N := 6) (cs := #[.int .i64 0, .int .i64 0]) (t := 62) ?_; intro Ad hg AZ hbox hb; have A2 := Z.m (hbox); have Ac := gW (w := w) HB hg; have Af := Ac; have A4 := neL A0 hg; have A8 := neG A0 hg; replace A0 := kB A0 hb; replace HB := bB HB hb; clear hb hbox hg; have AQ := A8.o; have AS := A4.o; have At := bc0 A2; have Au := bc1 A2; have AF := qz A2.o 0; have AG := qz A2.o 1) | ((with_reducible refine gc (f := 50) rfl ?_); refine gA (some 22) _ #[.agg #[.int .i64 A6, .int .i64 A7]] ?_ Tryd.func50; (with_reducible refine (impl_CellLetter.calls A6 A7 Ae false _ A5.o).mono ?_); rintro e B0 ⟨rfl, hb⟩; refine ⟨_, rfl, ?_⟩; replace A0 := Z.m (qb (g := Ab) (o := .cells #[.int .i64 A3, .int .i64 A1] 62 (0, 0)) (by refine bK ?_; (iterate 2 refine qF ?_ A4); exact A0.o) hb); replace A2 := Z.m (qb (g := Ad) (o := .cells #[.int .i64 A6, .int .i64 A7] 62 (0, 0)) (by refine bK ?_; refine qp (cs := #[iV A6, iV 0]) ?_ 1 _ rfl; refine bK ?_; refine qp (cs := #[iV 0, iV 0]) ?_ 0 _ rfl; refine bK ?_; exact A2.o) hb); replace HB := bB HB hb; (try clear hb); (try clear AO); (try clear hk); (try clear hi)))
        go_roundg k2
        case measure => have := Ag.o; have := Ah.o; omega
        case rel => exact ⟨(wrap64 (A7 + 1)), (A3), (A1), (by first | rfl | (simp; done) | (simp [*]; done)), H', ⟨by have := Ag.o; have := Ah.o; omega⟩, ⟨vK A0⟩, ⟨vB HB⟩⟩
      ·rw [if_neg c4] at H
       have AJ := decide_eq_false c4
       clear c4
       have H' := Z.m H
       clear H
       go_wp2
       go_roundg k2
       case measure => have := Ag.o; have := Ah.o; omega
       case rel => exact ⟨(wrap64 (A6 + 1)), (A3), (A1), (by first | rfl | (simp; done) | (simp [*]; done)), H', ⟨by have := Ag.o; have := Ah.o; omega⟩, ⟨vK A0⟩, ⟨vB HB⟩⟩
   ·rw [if_neg c3] at H
    have Aj := decide_eq_false c3
    clear c3
    simp only [Option.some.injEq, Prod.mk.injEq] at H
    obtain ⟨rfl, rfl, rfl⟩ := H
    have Av := bc0 A0
    have Aw := bc1 A0
    have AH := qz A0.o 0
    have AI := qz A0.o 1
    go_wp2
    refine bodyPost_ret (results_ct rfl _ _ Ab 62 #[.int .i64 0, .int .i64 0] (0, 0) _ rfl (by refine bK ?_; refine qp (cs := #[iV 0, iV A9]) ?_ 1 _ rfl; refine bK ?_; refine qp (cs := #[iV Aa, iV A9]) ?_ 0 _ rfl; refine bK ?_; exact A0.o) Tryd.underlying62 rfl (by kernel_rfl)) rfl ?_
    exact ⟨by first | rfl | (simp [eN, eS] <;> rfl) | (simp [*, eN, eS] <;> rfl), vB HB⟩

/-! ### impl_ReadCells: function 17 -/
def impl_ReadCells.l0 : Nat → ByteArray → List (S62) → Int → Option ((List (S62)) × Bool)
 | 0, _, _, _ => none
 | k + 1, x0, x4, x5 => if x5 < (x0.size : Int) then (if 0 ≤ x5 then (if x5 ≤ (wrap64 (x5 + 1)) then (if (wrap64 (x5 + 1)) ≤ (x0.size : Int) then ((impl_ReadCell.f k (x0.extract (x5 : Int).toNat ((wrap64 (x5 + 1)) : Int).toNat)).bind fun bt202 => (if bt202.2.2 = true then (if x4.length < 8796093022208 then (impl_ReadCells.l0 k x0 (x4 ++ [(⟨bt202.1, bt202.2.1⟩ : S62)]) (wrap64 (x5 + 1))) else (none)) else (some (([] : List (S62)), false)))) else (none)) else (none)) else (none)) else (some (x4, true))
def impl_ReadCells.f (k : Nat) (a0 : ByteArray) : Option ((List (S62)) × Bool) := if (a0.size : Int) > 90 then (some (([] : List (S62)), false)) else (impl_ReadCells.l0 k a0 (([] : List (S62))) 0)
set_option maxHeartbeats 8000000 in
set_option maxRecDepth 100000 in
theorem impl_ReadCells.calls (k : Nat) (a0 : ByteArray) (r1 : List (S62)) (r2 : Bool) (w : World) (h : impl_ReadCells.f k a0 = some (r1, r2)) :
 Calls Tryd.prog 17 #[.string a0] w fun e w' => ∃ v0_ : Value, e = .returned (.tuple #[v0_, .bool r2]) ∧ Kd.R k62 62 w' w.heap.size (fun _ => True) v0_ r1 ∧ Below w.heap.size w w' := by
 have AF := Tryd.underlying62
 have HB := Z.m (Below.refl w.heap.size w)
 have H : (if (a0.size : Int) > 90 then (some (([] : List (S62)), false)) else (impl_ReadCells.l0 k a0 (([] : List (S62))) 0)) = some (r1, r2) := h
 clear h
 by_cases c2 : (a0.size : Int) > 90
 ·rw [if_pos c2] at H
  have Ah := decide_eq_true c2
  have Ai : decide (90 < a0.size) = true := decide_eq_true (by omega)
  clear c2
  simp only [Option.some.injEq, Prod.mk.injEq] at H
  obtain ⟨rfl, rfl⟩ := H
  go_enter Tryd.func17, Tryd.ntmps17
  go_wp2
  go_ret2
  exact ⟨_, by first | rfl | (simp [eN, eS] <;> rfl) | (simp [*, eN, eS] <;> rfl), by first | exact Kd.R_nil _ _ _ _ _ | exact Kd.N_nil _ _ _ _ _ | exact Kd.V_nil _ _ _ _ _ | exact Kd.Q_nil _ _ _ _ _ | exact Kd.S_nil _ _ _ _ _, vB HB⟩
 ·rw [if_neg c2] at H
  have Ah := decide_eq_false c2
  have Ai : decide (90 < a0.size) = false := decide_eq_false (by omega)
  clear c2
  obtain ⟨Al, A7⟩ : ∃ y_ : List (S62), y_ = (([] : List (S62))) := ⟨_, rfl⟩
  replace H : (impl_ReadCells.l0 k a0 Al 0) = some (r1, r2) := by first | (rw [A7]; with_reducible exact H) | (have H2_ := (Option.bind_some _ _).symm.trans H; rw [A7]; with_reducible exact H2_) | (have H2_ := (Option.bind_some _ _).symm.trans H; with_reducible exact H2_) | with_reducible exact H | (rw [A7]; exact H) | exact H
  have Ab := Z.m A7
  clear A7
  have H' := Z.m H
  clear H
  go_enter Tryd.func17, Tryd.ntmps17
  go_wp2_with (first | ((with_reducible refine gq (N := 11) rfl ?_); refine Kd.R_lit k62 _ 62 ?hg (N := 11) ?hd (xs := ([] : List (S62))) (inner := []) (ok := fun _ => True) (okp := fun _ => True) ?hr ?hp (fun _ hk => hk) trivial (Below.refl _ _) (Nat.le_refl _) (by simp) ?_; (case hd => rfl); (case hg => rfl); (case hr => first | (go_simp; done) | (go_simp; rfl)); (case hp => exact (Reps.none _ _)); intro AG w3 Aj hb hg_ hnew_; clear hg_ hnew_; (first | rw [← Ab.o] at Aj | (simp only [Int.reduceToNat] at Aj; rw [← Ab.o] at Aj)); have Ad := Z.m (Kd.R_lower Aj (below_size (vB HB))); replace HB := bB HB hb; clear hb Aj))
  go_loopg [4, 5] k (fun kq v4 v5 w' => ∃ (A6 : List (S62)) (A0 : Int), v5 = .int .i64 A0 ∧ Z (impl_ReadCells.l0 kq a0 A6 A0 = some (r1, r2)) ∧ Z (kq ≤ k) ∧ Z (Kd.R k62 62 w' w.heap.size (fun _ => True) v4 A6) ∧ Z (Below w.heap.size w w'))
  case atStart => exact ⟨(Al), (0), (by first | rfl | (simp; done) | (simp [*]; done)), H', ⟨Nat.le_refl _⟩, ⟨vR Ad⟩, ⟨vB HB⟩⟩
  case round =>
   clear H'
   (try clear Ah); (try clear Ai)
   obtain ⟨A6, A0, rfl, HA, Ax, A2, HB⟩ := hrel
   cases gk with
   | zero => exact absurd HA.o (by simp [impl_ReadCells.l0])
   | succ k1 =>
    have H := HA.o
    clear HA
    simp only [impl_ReadCells.l0] at H
    by_cases c5 : A0 < (a0.size : Int)
    ·rw [if_pos c5] at H
     have Av := decide_eq_true c5
     clear c5
     by_cases c6 : 0 ≤ A0
     ·rw [if_pos c6] at H
      have Ay := eq_true c6
      have Az := decide_eq_true c6
      clear c6
      by_cases c7 : A0 ≤ (wrap64 (A0 + 1))
      ·rw [if_pos c7] at H
       have AA := eq_true c7
       have AB := decide_eq_true c7
       by_cases c8 : (wrap64 (A0 + 1)) ≤ (a0.size : Int)
       ·rw [if_pos c8] at H
        have AC := eq_true c8
        have AD := decide_eq_true c8
        replace H := Option.bind_eq_some_iff.mp H
        obtain ⟨⟨A3, A5, Ak⟩, Aw, H⟩ := H
        replace H : (if Ak = true then (if A6.length < 8796093022208 then (impl_ReadCells.l0 k1 a0 (A6 ++ [(⟨A3, A5⟩ : S62)]) (wrap64 (A0 + 1))) else (none)) else (some (([] : List (S62)), false))) = some (r1, r2) := H
        have A9 := Z.m Aw
        clear Aw
        by_cases c10 : Ak = true
        ·subst c10
         have H1 : (if A6.length < 8796093022208 then (impl_ReadCells.l0 k1 a0 (A6 ++ [(⟨A3, A5⟩ : S62)]) (wrap64 (A0 + 1))) else (none)) = some (r1, r2) := by rw [if_pos rfl] at H; exact H
         clear H
         have H := H1
         clear H1
         by_cases c11 : A6.length < 8796093022208
         ·rw [if_pos c11] at H
          have Af := Z.m c11
          clear c11
          obtain ⟨Am, A8⟩ : ∃ y_ : List (S62), y_ = (A6 ++ [(⟨A3, A5⟩ : S62)]) := ⟨_, rfl⟩
          replace H : (impl_ReadCells.l0 k1 a0 Am (wrap64 (A0 + 1))) = some (r1, r2) := by first | (rw [A8]; with_reducible exact H) | (have H2_ := (Option.bind_some _ _).symm.trans H; rw [A8]; with_reducible exact H2_) | (have H2_ := (Option.bind_some _ _).symm.trans H; with_reducible exact H2_) | with_reducible exact H | (rw [A8]; exact H) | exact H
          have Ag := Z.m A8
          clear A8
          have H' := Z.m H
          clear H
          go_wp2_with (first | ((with_reducible refine gc (f := 34) rfl ?_); refine gA (some 24) _ #[.string (a0.extract (A0 : Int).toNat ((wrap64 (A0 + 1)) : Int).toNat)] ?_ Tryd.func34; (with_reducible refine (impl_ReadCell.calls k1 (a0.extract (A0 : Int).toNat ((wrap64 (A0 + 1)) : Int).toNat) A3 A5 true _ A9.o).mono ?_); rintro e AI ⟨rfl, hb⟩; refine ⟨_, rfl, ?_⟩; replace A2 := Z.m (Kd.Rb (vR A2) hb); replace HB := bB HB hb; (try clear hb); (try clear AE); (try clear hk); (try clear hi)) | ((with_reducible refine gq (N := 6) rfl ?_); refine be (N := 6) (cs := #[.int .i64 0, .int .i64 0]) (t := 62) ?_; intro A4 hg AJ hbox hb; have A1 := Z.m (hbox); have Aa := gW (w := w) HB hg; have Ac := Aa; replace A2 := Z.m (Kd.Rb (Kd.R_elderB (vR A2) A4 (Nat.le_of_eq hg.symm)) hb); replace HB := bB HB hb; clear hb hbox hg; have An := bc0 A1; have Ao := bc1 A1; have Ar := qz A1.o 0; have As := qz A1.o 1) | ((with_reducible refine gu (b := .append) (xs := #[.tmp 29, .tmp 31]) rfl ?_); at_builtin; refine Kd.R_append k62 (w0 := w) w.heap.size rfl (.tmp 29) (.tmp 31) 22 62 (.agg #[(.int .i64 0), (.int .i64 0)]) 16 rfl Tryd.underlying22 info62 rfl (by decide) (by omega) u4 A6 (⟨A3, A5⟩ : S62) [.int .i64 A3, .int .i64 A5] (fun k_ => k_ ≠ A4) (fun _ => False) rfl (by first | (go_simp; done) | (go_simp; rfl)) ?aP (fun _ hk => hk.elim) ?aF ?aO ?aB ?aS ?aL ?_; (case aP => exact k62_mkM _ _ _ (⟨A3, A5⟩ : S62)); (case aB => exact (vB HB)); (case aF => exact (fun k_ hk => Kd.freshB (g := A4) (o := .cells #[.int .i64 A3, .int .i64 A5] 62 (0, 0)) (by refine bK ?_; refine qp (cs := #[iV A3, iV 0]) ?_ 1 _ rfl; refine bK ?_; refine qp (cs := #[iV 0, iV 0]) ?_ 0 _ rfl; refine bK ?_; exact A1.o) k_ hk)); (case aO => exact (by refine rK ?_; exact Kd.Rm (rf (rf (Kd.Rm A2.o (fun k_ hk => (⟨hk, hk.2⟩ : _ ∧ k_ ≠ A4))))) (fun _ hk => hk.1.2))); (case aS => exact (below_size (vB HB))); (case aL => have := Af.o; omega); intro AH AK ho hb hg hat; rw [← Ag.o] at ho; have Ae := Z.m (ho); replace A1 := Z.m (qg (g := A4) (o := .cells #[.int .i64 A3, .int .i64 A5] 62 (0, 0)) (by refine bK ?_; refine qp (cs := #[iV A3, iV 0]) ?_ 1 _ rfl; refine bK ?_; refine qp (cs := #[iV 0, iV 0]) ?_ 0 _ rfl; refine bK ?_; exact A1.o) hg (Kd.R_away A2.o (fun _ hk => hk.2))); replace HB := Z.m (hb); clear A2; clear ho hb hg hat))
          go_roundg k1
          case measure => have := Ax.o; omega
          case rel => exact ⟨(Am), (wrap64 (A0 + 1)), (by first | rfl | (simp; done) | (simp [*]; done)), H', ⟨by have := Ax.o; omega⟩, ⟨by refine rK ?_; exact Kd.Rm Ae.o (fun _ hk => trivial)⟩, ⟨vB HB⟩⟩
         ·rw [if_neg c11] at H
          exact absurd H (by simp)
        ·replace c10 := Bool.eq_false_iff.mpr c10
         subst c10
         have H1 : (some (([] : List (S62)), false)) = some (r1, r2) := by rw [if_neg (show ¬ (false = true) by decide)] at H; exact H
         clear H
         have H := H1
         clear H1
         simp only [Option.some.injEq, Prod.mk.injEq] at H
         obtain ⟨rfl, rfl⟩ := H
         go_wp2_with (first | ((with_reducible refine gc (f := 34) rfl ?_); refine gA (some 24) _ #[.string (a0.extract (A0 : Int).toNat ((wrap64 (A0 + 1)) : Int).toNat)] ?_ Tryd.func34; (with_reducible refine (impl_ReadCell.calls k1 (a0.extract (A0 : Int).toNat ((wrap64 (A0 + 1)) : Int).toNat) A3 A5 false _ A9.o).mono ?_); rintro e AL ⟨rfl, hb⟩; refine ⟨_, rfl, ?_⟩; replace A2 := Z.m (Kd.Rb (vR A2) hb); replace HB := bB HB hb; (try clear hb); (try clear AE); (try clear hk); (try clear hi)) | ((with_reducible refine gq (N := 6) rfl ?_); refine be (N := 6) (cs := #[.int .i64 0, .int .i64 0]) (t := 62) ?_; intro A4 hg AM hbox hb; have A1 := Z.m (hbox); have Aa := gW (w := w) HB hg; have Ac := Aa; replace A2 := Z.m (Kd.Rb (Kd.R_elderB (vR A2) A4 (Nat.le_of_eq hg.symm)) hb); replace HB := bB HB hb; clear hb hbox hg; have Ap := bc0 A1; have Aq := bc1 A1; have At := qz A1.o 0; have Au := qz A1.o 1))
         go_ret2
         exact ⟨_, by first | rfl | (simp [eN, eS] <;> rfl) | (simp [*, eN, eS] <;> rfl), by first | exact Kd.R_nil _ _ _ _ _ | exact Kd.N_nil _ _ _ _ _ | exact Kd.V_nil _ _ _ _ _ | exact Kd.Q_nil _ _ _ _ _ | exact Kd.S_nil _ _ _ _ _, vB HB⟩
       ·rw [if_neg c8] at H
        exact absurd H (by simp)
      ·rw [if_neg c7] at H
       exact absurd H (by simp)
     ·rw [if_neg c6] at H
      exact absurd H (by simp)
    ·rw [if_neg c5] at H
     have Av := decide_eq_false c5
     clear c5
     simp only [Option.some.injEq, Prod.mk.injEq] at H
     obtain ⟨rfl, rfl⟩ := H
     go_wp2
     go_ret2
     exact ⟨_, by first | rfl | (simp [eN, eS] <;> rfl) | (simp [*, eN, eS] <;> rfl), vR A2, vB HB⟩

end Go.Proofs.YtklmdnlambinaaaDoor.PAll
