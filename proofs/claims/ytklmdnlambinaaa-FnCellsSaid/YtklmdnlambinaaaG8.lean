/- Began as a text that print.sh wrote (of the functions named below); turned and shortened by this session. -/
import Derived.Test.YtklmdnlambinaaaG0
import Derived.Test.YtklmdnlambinaaaG4
namespace Go.Proofs.Ytklmdnlambinaaa.PAll
open Go.RowKit Go.Proofs.YtklmdnlambinaaaW.PrintWords Go.Proofs.YtklmdnlambinaaaW.PrintLast Go.Proofs.YtklmdnlambinaaaW.PrintMore
attribute [local go_sem] max2_int min2_int max_two min_two max_three min_three max_four min_four   -- for this text's walks alone
set_option linter.unusedVariables false
set_option linter.unusedSimpArgs false

/-! ### impl_ReadCell: function 15 -/
mutual
def impl_ReadCell.l0 : Nat → ByteArray → Int → Option (Int × Int × Bool)
 | 0, _, _ => none
 | k + 1, x0, x4 => if x4 ≤ 7 then (impl_ReadCell.l1 k x0 x4 0) else (some (0, 0, false))
def impl_ReadCell.l1 : Nat → ByteArray → Int → Int → Option (Int × Int × Bool)
 | 0, _, _, _ => none
 | k + 1, x0, x4, x5 => if x5 < 2 then ((impl_CellLetter.f x4 x5).bind fun bt202 => (if bt202.2 = true then (if bt202.1.toList = x0.toList then (some (x4, x5, true)) else (impl_ReadCell.l1 k x0 x4 (wrap64 (x5 + 1)))) else (impl_ReadCell.l1 k x0 x4 (wrap64 (x5 + 1))))) else (impl_ReadCell.l0 k x0 (wrap64 (x4 + 1)))
end
def impl_ReadCell.f (k : Nat) (a0 : ByteArray) : Option (Int × Int × Bool) := impl_ReadCell.l0 k a0 0
set_option maxHeartbeats 8000000 in
set_option maxRecDepth 100000 in
theorem impl_ReadCell.calls (k : Nat) (a0 : ByteArray) (r1 : Int) (r2 : Int) (r3 : Bool) (w : World) (h : impl_ReadCell.f k a0 = some (r1, r2, r3)) :
 Calls Try.prog 15 #[.string a0] w fun e w' => e = .returned (.tuple #[.agg #[.int .i64 r1, .int .i64 r2], .bool r3]) ∧ Below w.heap.size w w' := by
 have AV := Try.underlying25
 have HB := Z.m (Below.refl w.heap.size w)
 have H : (impl_ReadCell.l0 k a0 0) = some (r1, r2, r3) := h
 clear h
 have H' := Z.m H
 clear H
 go_enter Try.func15, Try.ntmps15
 go_wp2_with (first | ((with_reducible refine gq (N := 2) rfl ?_); refine be (N := 2) (cs := #[.int .i64 0, .int .i64 0]) (t := 25) ?_; intro Ab hg w2 hbox hb; have A0 := Z.m (hbox); have Ai := gW (w := w) HB hg; have AN := Ai; replace HB := bB HB hb; clear hb hbox hg))
 go_loopg [4] k (fun kq v4 w' => ∃ (A6 : Int) (Aa : Int) (A9 : Int), v4 = .int .i64 A6 ∧ Z (impl_ReadCell.l0 kq a0 A6 = some (r1, r2, r3)) ∧ Z (kq ≤ k) ∧ Z (w'.heap[Ab]? = some (.cells #[.int .i64 Aa, .int .i64 A9] 25 (0, 0))) ∧ Z (Below w.heap.size w w'))
 case atStart => exact ⟨(0), (0), (0), (by first | rfl | (simp; done) | (simp [*]; done)), H', ⟨Nat.le_refl _⟩, ⟨vK A0⟩, ⟨vB HB⟩⟩
 case round =>
  clear H'
  obtain ⟨A6, Aa, A9, rfl, HA, Ag, A0, HB⟩ := hrel
  cases gk with
  | zero => exact absurd HA.o (by simp [impl_ReadCell.l0])
  | succ k1 =>
   have H := HA.o
   clear HA
   simp only [impl_ReadCell.l0] at H
   by_cases c3 : A6 ≤ 7
   ·rw [if_pos c3] at H
    have Aj := decide_eq_true c3
    clear c3
    have H' := Z.m H
    clear H
    go_wp2
    go_loopg [5] k1 (fun kq v5 w' => ∃ (A7 : Int) (A3 : Int) (A1 : Int), v5 = .int .i64 A7 ∧ Z (impl_ReadCell.l1 kq a0 A6 A7 = some (r1, r2, r3)) ∧ Z (kq ≤ k1) ∧ Z (w'.heap[Ab]? = some (.cells #[.int .i64 A3, .int .i64 A1] 25 (0, 0))) ∧ Z (Below w.heap.size w w'))
    case atStart => exact ⟨(0), (Aa), (A9), (by first | rfl | (simp; done) | (simp [*]; done)), H', ⟨Nat.le_refl _⟩, ⟨vK A0⟩, ⟨vB HB⟩⟩
    case round =>
     clear H'
     (try clear Aj)
     obtain ⟨A7, A3, A1, rfl, HA, Ah, A0, HB⟩ := hrel
     cases gk with
     | zero => exact absurd HA.o (by simp [impl_ReadCell.l1])
     | succ k2 =>
      have H := HA.o
      clear HA
      simp only [impl_ReadCell.l1] at H
      by_cases c4 : A7 < 2
      ·rw [if_pos c4] at H
       have AJ := decide_eq_true c4
       clear c4
       replace H := Option.bind_eq_some_iff.mp H
       obtain ⟨⟨Ae, Ak⟩, AM, H⟩ := H
       replace H : (if Ak = true then (if Ae.toList = a0.toList then (some (A6, A7, true)) else (impl_ReadCell.l1 k2 a0 A6 (wrap64 (A7 + 1)))) else (impl_ReadCell.l1 k2 a0 A6 (wrap64 (A7 + 1)))) = some (r1, r2, r3) := H
       have A5 := Z.m AM
       clear AM
       by_cases c6 : Ak = true
       ·subst c6
        have H1 : (if Ae.toList = a0.toList then (some (A6, A7, true)) else (impl_ReadCell.l1 k2 a0 A6 (wrap64 (A7 + 1)))) = some (r1, r2, r3) := by rw [if_pos rfl] at H; exact H
        clear H
        have H := H1
        clear H1
        by_cases c7 : Ae.toList = a0.toList
        ·rw [if_pos c7] at H
         have AK := beq_iff_eq.mpr c7
         have AL := bne_eq_false_iff_eq.mpr c7
         clear c7
         simp only [Option.some.injEq, Prod.mk.injEq] at H
         obtain ⟨rfl, rfl, rfl⟩ := H
         go_wp2_with (first | ((with_reducible refine gq (N := 6) rfl ?_); refine be (N := 6) (cs := #[.int .i64 0, .int .i64 0]) (t := 25) ?_; intro Ad hg w8 hbox hb; have A2 := Z.m (hbox); have Ac := gW (w := w) HB hg; have Af := Ac; have A4 := neL A0 hg; have A8 := neG A0 hg; replace A0 := kB A0 hb; replace HB := bB HB hb; clear hb hbox hg; have AT := A8.o; have AU := A4.o; have Al := bc0 A2; have Am := bc1 A2; have Ax := qz A2.o 0; have Ay := qz A2.o 1) | ((with_reducible refine gc (f := 7) rfl ?_); refine gA (some 22) _ #[.agg #[.int .i64 A6, .int .i64 A7]] ?_ Try.func7; (with_reducible refine (impl_CellLetter.calls A6 A7 Ae true _ A5.o).mono ?_); rintro e AW ⟨rfl, hb⟩; refine ⟨_, rfl, ?_⟩; replace A0 := Z.m (qb (g := Ab) (o := .cells #[.int .i64 A3, .int .i64 A1] 25 (0, 0)) (by refine bK ?_; (iterate 2 refine qF ?_ A4); exact A0.o) hb); replace A2 := Z.m (qb (g := Ad) (o := .cells #[.int .i64 A6, .int .i64 A7] 25 (0, 0)) (by refine bK ?_; refine qp (cs := #[iV A6, iV 0]) ?_ 1 _ rfl; refine bK ?_; refine qp (cs := #[iV 0, iV 0]) ?_ 0 _ rfl; refine bK ?_; exact A2.o) hb); replace HB := bB HB hb; (try clear hb); (try clear AO); (try clear hk); (try clear hi); have An := bc0 A2; have Ao := bc1 A2; have Az := qz A2.o 0; have AA := qz A2.o 1; have Ap := bc0 A0; have Aq := bc1 A0; have AB := qz A0.o 0; have AC := qz A0.o 1))
         refine bodyPost_ret (results_ct rfl _ _ Ab 25 #[.int .i64 A6, .int .i64 A7] (0, 0) _ rfl (by refine bK ?_; refine qp (cs := #[iV A6, iV A1]) ?_ 1 _ rfl; refine bK ?_; refine qp (cs := #[iV A3, iV A1]) ?_ 0 _ rfl; refine bK ?_; exact A0.o) Try.underlying25 rfl (by kernel_rfl)) rfl ?_
         exact ⟨by first | rfl | (simp [eN, eS] <;> rfl) | (simp [*, eN, eS] <;> rfl), vB HB⟩
        ·rw [if_neg c7] at H
         have AK := beq_eq_false_iff_ne.mpr c7
         have AL := bne_iff_ne.mpr c7
         have H' := Z.m H
         clear H
         go_wp2_with (first | ((with_reducible refine gq (N := 6) rfl ?_); refine be (N := 6) (cs := #[.int .i64 0, .int .i64 0]) (t := 25) ?_; intro Ad hg AX hbox hb; have A2 := Z.m (hbox); have Ac := gW (w := w) HB hg; have Af := Ac; have A4 := neL A0 hg; have A8 := neG A0 hg; replace A0 := kB A0 hb; replace HB := bB HB hb; clear hb hbox hg; have AP := A8.o; have AR := A4.o; have Ar := bc0 A2; have As := bc1 A2; have AD := qz A2.o 0; have AE := qz A2.o 1) | ((with_reducible refine gc (f := 7) rfl ?_); refine gA (some 22) _ #[.agg #[.int .i64 A6, .int .i64 A7]] ?_ Try.func7; (with_reducible refine (impl_CellLetter.calls A6 A7 Ae true _ A5.o).mono ?_); rintro e AY ⟨rfl, hb⟩; refine ⟨_, rfl, ?_⟩; replace A0 := Z.m (qb (g := Ab) (o := .cells #[.int .i64 A3, .int .i64 A1] 25 (0, 0)) (by refine bK ?_; (iterate 2 refine qF ?_ A4); exact A0.o) hb); replace A2 := Z.m (qb (g := Ad) (o := .cells #[.int .i64 A6, .int .i64 A7] 25 (0, 0)) (by refine bK ?_; refine qp (cs := #[iV A6, iV 0]) ?_ 1 _ rfl; refine bK ?_; refine qp (cs := #[iV 0, iV 0]) ?_ 0 _ rfl; refine bK ?_; exact A2.o) hb); replace HB := bB HB hb; (try clear hb); (try clear AO); (try clear hk); (try clear hi)))
         go_roundg k2
         case measure => have := Ag.o; have := Ah.o; omega
         case rel => exact ⟨(wrap64 (A7 + 1)), (A3), (A1), (by first | rfl | (simp; done) | (simp [*]; done)), H', ⟨by have := Ag.o; have := Ah.o; omega⟩, ⟨vK A0⟩, ⟨vB HB⟩⟩
       ·replace c6 := Bool.eq_false_iff.mpr c6
        subst c6
        have H1 : (impl_ReadCell.l1 k2 a0 A6 (wrap64 (A7 + 1))) = some (r1, r2, r3) := by rw [if_neg (show ¬ (false = true) by decide)] at H; exact H
        clear H
        have H := H1
        clear H1
        have H' := Z.m H
        clear H
        go_wp2_with (first | ((with_reducible refine gq (N := 6) rfl ?_); refine be (N := 6) (cs := #[.int .i64 0, .int .i64 0]) (t := 25) ?_; intro Ad hg AZ hbox hb; have A2 := Z.m (hbox); have Ac := gW (w := w) HB hg; have Af := Ac; have A4 := neL A0 hg; have A8 := neG A0 hg; replace A0 := kB A0 hb; replace HB := bB HB hb; clear hb hbox hg; have AQ := A8.o; have AS := A4.o; have At := bc0 A2; have Au := bc1 A2; have AF := qz A2.o 0; have AG := qz A2.o 1) | ((with_reducible refine gc (f := 7) rfl ?_); refine gA (some 22) _ #[.agg #[.int .i64 A6, .int .i64 A7]] ?_ Try.func7; (with_reducible refine (impl_CellLetter.calls A6 A7 Ae false _ A5.o).mono ?_); rintro e B0 ⟨rfl, hb⟩; refine ⟨_, rfl, ?_⟩; replace A0 := Z.m (qb (g := Ab) (o := .cells #[.int .i64 A3, .int .i64 A1] 25 (0, 0)) (by refine bK ?_; (iterate 2 refine qF ?_ A4); exact A0.o) hb); replace A2 := Z.m (qb (g := Ad) (o := .cells #[.int .i64 A6, .int .i64 A7] 25 (0, 0)) (by refine bK ?_; refine qp (cs := #[iV A6, iV 0]) ?_ 1 _ rfl; refine bK ?_; refine qp (cs := #[iV 0, iV 0]) ?_ 0 _ rfl; refine bK ?_; exact A2.o) hb); replace HB := bB HB hb; (try clear hb); (try clear AO); (try clear hk); (try clear hi)))
        go_roundg k2
        case measure => have := Ag.o; have := Ah.o; omega
        case rel => exact ⟨(wrap64 (A7 + 1)), (A3), (A1), (by first | rfl | (simp; done) | (simp [*]; done)), H', ⟨by have := Ag.o; have := Ah.o; omega⟩, ⟨vK A0⟩, ⟨vB HB⟩⟩
      ·rw [if_neg c4] at H
       have AJ := decide_eq_false c4
       clear c4
       have H' := Z.m H
       clear H
       go_wp2
       go_roundg k2
       case measure => have := Ag.o; have := Ah.o; omega
       case rel => exact ⟨(wrap64 (A6 + 1)), (A3), (A1), (by first | rfl | (simp; done) | (simp [*]; done)), H', ⟨by have := Ag.o; have := Ah.o; omega⟩, ⟨vK A0⟩, ⟨vB HB⟩⟩
   ·rw [if_neg c3] at H
    have Aj := decide_eq_false c3
    clear c3
    simp only [Option.some.injEq, Prod.mk.injEq] at H
    obtain ⟨rfl, rfl, rfl⟩ := H
    have Av := bc0 A0
    have Aw := bc1 A0
    have AH := qz A0.o 0
    have AI := qz A0.o 1
    go_wp2
    refine bodyPost_ret (results_ct rfl _ _ Ab 25 #[.int .i64 0, .int .i64 0] (0, 0) _ rfl (by refine bK ?_; refine qp (cs := #[iV 0, iV A9]) ?_ 1 _ rfl; refine bK ?_; refine qp (cs := #[iV Aa, iV A9]) ?_ 0 _ rfl; refine bK ?_; exact A0.o) Try.underlying25 rfl (by kernel_rfl)) rfl ?_
    exact ⟨by first | rfl | (simp [eN, eS] <;> rfl) | (simp [*, eN, eS] <;> rfl), vB HB⟩

end Go.Proofs.Ytklmdnlambinaaa.PAll
