/- Began as a text that print.sh wrote (of the functions named below); turned and shortened by this session. -/
import Derived.Test.YtklmdnlambinaaaG0
import Derived.Test.YtklmdnlambinaaaG1
import Derived.Test.YtklmdnlambinaaaG4
namespace Go.Proofs.Ytklmdnlambinaaa.PAll
open Go.RowKit Go.Proofs.YtklmdnlambinaaaW.PrintWords Go.Proofs.YtklmdnlambinaaaW.PrintLast Go.Proofs.YtklmdnlambinaaaW.PrintMore
attribute [local go_sem] max2_int min2_int max_two min_two max_three min_three max_four min_four   -- for this text's walks alone
set_option linter.unusedVariables false
set_option linter.unusedSimpArgs false

/-! ### spec_paRead: function 49 -/
def spec_paRead.l0 : Nat → ByteArray → List (S25) → Int → Int → Option (Int × Int × Bool)
 | 0, _, _, _, _ => none
 | k + 1, x0, x6, x7, x8 => if x8 < x7 then (if 0 ≤ x8 then (if x8 < (x6.length : Int) then ((spec_paLetter.f ((rd_T25 x6 x8).f0) ((rd_T25 x6 x8).f1)).bind fun t271 => (if t271.toList = x0.toList then (some ((rd_T25 x6 x8).f0, (rd_T25 x6 x8).f1, true)) else (spec_paRead.l0 k x0 x6 x7 (wrap64 (x8 + 1))))) else (none)) else (none)) else (some (0, 0, false))
def spec_paRead.f (k : Nat) (a0 : ByteArray) : Option (Int × Int × Bool) := (spec_paAll.f k).bind fun t266 => (spec_paRead.l0 k a0 t266 (t266.length : Int) 0)
set_option maxHeartbeats 8000000 in
set_option maxRecDepth 100000 in
theorem spec_paRead.calls (k : Nat) (a0 : ByteArray) (r1 : Int) (r2 : Int) (r3 : Bool) (w : World) (h : spec_paRead.f k a0 = some (r1, r2, r3)) :
 Calls Try.prog 49 #[.string a0] w fun e w' => e = .returned (.tuple #[.agg #[.int .i64 r1, .int .i64 r2], .bool r3]) ∧ Below w.heap.size w w' := by
 have AX := Try.underlying25
 have HB := Z.m (Below.refl w.heap.size w)
 have H : ((spec_paAll.f k).bind fun A1 => (spec_paRead.l0 k a0 A1 (A1.length : Int) 0)) = some (r1, r2, r3) := h
 clear h
 replace H := Option.bind_eq_some_iff.mp H
 obtain ⟨A1, AI, H⟩ := H
 replace H : (spec_paRead.l0 k a0 A1 (A1.length : Int) 0) = some (r1, r2, r3) := H
 have A2 := Z.m AI
 clear AI
 have H' := Z.m H
 clear H
 go_enter Try.func49, Try.ntmps49
 go_wp2_with (first | ((with_reducible refine gq (N := 2) rfl ?_); refine be (N := 2) (cs := #[.int .i64 0, .int .i64 0]) (t := 25) ?_; intro Ab hg w3 hbox hb; have A0 := Z.m (hbox); have Aj := gW (w := w) HB hg; have AK := Aj; replace HB := bB HB hb; clear hb hbox hg) | ((with_reducible refine gc (f := 59) rfl ?_); refine gA (some 6) _ #[] ?_ Try.func59; (with_reducible refine (spec_paAll.calls k  A1 _ A2.o).mono ?_); rintro e w4 ⟨AY, rfl, AR, hb⟩; refine ⟨_, rfl, ?_⟩; have Ah := Z.m (Kd.R_lower (Kd.R_newB AR (g := Ab) (o := .cells #[.int .i64 0, .int .i64 0] 25 (0, 0)) (vK A0)) (below_size (vB HB))); replace A0 := kB A0 hb; replace HB := bB HB hb; (try clear hb); (try clear AM); (try clear hk); (try clear hi); (try clear AR); obtain ⟨AS, AV, AW⟩ := Kd.R_slice Ah.o; subst AW))
 go_loopg [8] k (fun kq v8 w' => ∃ (A4 : Int) (A5 : Int) (A3 : Int), v8 = .int .i64 A4 ∧ Z (spec_paRead.l0 kq a0 A1 (A1.length : Int) A4 = some (r1, r2, r3)) ∧ Z (kq ≤ k) ∧ Z (Kd.R k25 25 w' w.heap.size (fun k_ => k_ ≠ Ab) (.slice AS A1.length AV) A1) ∧ Z (w'.heap[Ab]? = some (.cells #[.int .i64 A5, .int .i64 A3] 25 (0, 0))) ∧ Z (Below w.heap.size w w'))
 case atStart => exact ⟨(0), (0), (0), (by first | rfl | (simp; done) | (simp [*]; done)), H', ⟨Nat.le_refl _⟩, ⟨by refine rK ?_; exact Kd.Rm Ah.o (fun _ hk => hk.2)⟩, ⟨vK A0⟩, ⟨vB HB⟩⟩
 case round =>
  clear H'
  obtain ⟨A4, A5, A3, rfl, HA, AL, Aa, A0, HB⟩ := hrel
  cases gk with
  | zero => exact absurd HA.o (by simp [spec_paRead.l0])
  | succ k1 =>
   have H := HA.o
   clear HA
   simp only [spec_paRead.l0] at H
   by_cases c6 : A4 < (A1.length : Int)
   ·rw [if_pos c6] at H
    have AH := decide_eq_true c6
    clear c6
    by_cases c7 : 0 ≤ A4
    ·rw [if_pos c7] at H
     have AT := decide_eq_true c7
     clear c7
     by_cases c8 : A4 < (A1.length : Int)
     ·rw [if_pos c8] at H
      have AU := decide_eq_true c8
      clear c8
      replace H := Option.bind_eq_some_iff.mp H
      obtain ⟨Ag, AJ, H⟩ := H
      replace H : (if Ag.toList = a0.toList then (some ((rd_T25 A1 A4).f0, (rd_T25 A1 A4).f1, true)) else (spec_paRead.l0 k1 a0 A1 (A1.length : Int) (wrap64 (A4 + 1)))) = some (r1, r2, r3) := H
      have A9 := Z.m AJ
      clear AJ
      by_cases c10 : Ag.toList = a0.toList
      ·rw [if_pos c10] at H
       have Al := beq_iff_eq.mpr c10
       have Am := bne_eq_false_iff_eq.mpr c10
       clear c10
       simp only [Option.some.injEq, Prod.mk.injEq] at H
       obtain ⟨rfl, rfl, rfl⟩ := H
       have p269 : 0 ≤ (A4 : Int) := ofD
       have q269 : A4 < (A1.length : Int) := ofD
       obtain ⟨Ak, e269, Ae, Af⟩ := at_T25 (Kd.RrZ Aa.o).2.2 A4 p269 q269
       cases e269
       replace p269 := eq_true p269
       replace q269 := eq_true q269
       go_wp2_with (first | ((with_reducible refine gq (N := 5) rfl ?_); refine be (N := 5) (cs := #[.int .i64 0, .int .i64 0]) (t := 25) ?_; intro Ac hg AZ hbox hb; have A6 := Z.m (hbox); have Ad := gW (w := w) HB hg; have Ai := Ad; have A7 := neL A0 hg; have A8 := neG A0 hg; replace Aa := Z.m (Kd.Rb (Kd.R_elderB (vR Aa) Ac (Nat.le_of_eq hg.symm)) hb); replace A0 := kB A0 hb; replace HB := bB HB hb; clear hb hbox hg; have AN := A8.o; have AP := A7.o; have An := bc0 A6; have Ao := bc1 A6; have Ax := qz A6.o 0; have Ay := qz A6.o 1) | ((with_reducible refine gc (f := 39) rfl ?_); refine gA (some 13) _ #[.agg #[.int .i64 ((rd_T25 A1 A4).f0), .int .i64 ((rd_T25 A1 A4).f1)]] ?_ Try.func39; (with_reducible refine (spec_paLetter.calls ((rd_T25 A1 A4).f0) ((rd_T25 A1 A4).f1) Ag _ A9.o).mono ?_); rintro e B0 ⟨rfl, hb⟩; refine ⟨_, rfl, ?_⟩; replace Aa := Z.m (Kd.Rb (by refine rK ?_; exact (Kd.Rm (rf (rf (Kd.Rm Aa.o (fun k_ hk => (⟨hk, hk.2⟩ : _ ∧ k_ ≠ Ac))))) (fun _ h_ => h_.1))) hb); replace A0 := Z.m (qb (g := Ab) (o := .cells #[.int .i64 A5, .int .i64 A3] 25 (0, 0)) (by refine bK ?_; (iterate 2 refine qF ?_ A7); exact A0.o) hb); replace A6 := Z.m (qb (g := Ac) (o := .cells #[.int .i64 ((rd_T25 A1 A4).f0), .int .i64 ((rd_T25 A1 A4).f1)] 25 (0, 0)) (by refine bK ?_; refine qp (cs := #[iV ((rd_T25 A1 A4).f0), iV 0]) ?_ 1 _ rfl; refine bK ?_; refine qp (cs := #[iV 0, iV 0]) ?_ 0 _ rfl; refine bK ?_; exact A6.o) hb); replace HB := bB HB hb; (try clear hb); (try clear AM); (try clear hk); (try clear hi); have Ap := bc0 A6; have Aq := bc1 A6; have Az := qz A6.o 0; have AA := qz A6.o 1; have Ar := bc0 A0; have As := bc1 A0; have AB := qz A0.o 0; have AC := qz A0.o 1))
       refine bodyPost_ret (results_ct rfl _ _ Ab 25 #[.int .i64 ((rd_T25 A1 A4).f0), .int .i64 ((rd_T25 A1 A4).f1)] (0, 0) _ rfl (by refine bK ?_; refine qp (cs := #[iV ((rd_T25 A1 A4).f0), iV A3]) ?_ 1 _ rfl; refine bK ?_; refine qp (cs := #[iV A5, iV A3]) ?_ 0 _ rfl; refine bK ?_; exact A0.o) Try.underlying25 rfl (by kernel_rfl)) rfl ?_
       exact ⟨by first | rfl | (simp [eN, eS] <;> rfl) | (simp [*, eN, eS] <;> rfl), vB HB⟩
      ·rw [if_neg c10] at H
       have Al := beq_eq_false_iff_ne.mpr c10
       have Am := bne_iff_ne.mpr c10
       have H' := Z.m H
       clear H
       have p269 : 0 ≤ (A4 : Int) := ofD
       have q269 : A4 < (A1.length : Int) := ofD
       obtain ⟨Ak, e269, Ae, Af⟩ := at_T25 (Kd.RrZ Aa.o).2.2 A4 p269 q269
       cases e269
       replace p269 := eq_true p269
       replace q269 := eq_true q269
       go_wp2_with (first | ((with_reducible refine gq (N := 5) rfl ?_); refine be (N := 5) (cs := #[.int .i64 0, .int .i64 0]) (t := 25) ?_; intro Ac hg B1 hbox hb; have A6 := Z.m (hbox); have Ad := gW (w := w) HB hg; have Ai := Ad; have A7 := neL A0 hg; have A8 := neG A0 hg; replace Aa := Z.m (Kd.Rb (Kd.R_elderB (vR Aa) Ac (Nat.le_of_eq hg.symm)) hb); replace A0 := kB A0 hb; replace HB := bB HB hb; clear hb hbox hg; have AO := A8.o; have AQ := A7.o; have At := bc0 A6; have Au := bc1 A6; have AD := qz A6.o 0; have AE := qz A6.o 1) | ((with_reducible refine gc (f := 39) rfl ?_); refine gA (some 13) _ #[.agg #[.int .i64 ((rd_T25 A1 A4).f0), .int .i64 ((rd_T25 A1 A4).f1)]] ?_ Try.func39; (with_reducible refine (spec_paLetter.calls ((rd_T25 A1 A4).f0) ((rd_T25 A1 A4).f1) Ag _ A9.o).mono ?_); rintro e B2 ⟨rfl, hb⟩; refine ⟨_, rfl, ?_⟩; replace Aa := Z.m (Kd.Rb (by refine rK ?_; exact (Kd.Rm (rf (rf (Kd.Rm Aa.o (fun k_ hk => (⟨hk, hk.2⟩ : _ ∧ k_ ≠ Ac))))) (fun _ h_ => h_.1))) hb); replace A0 := Z.m (qb (g := Ab) (o := .cells #[.int .i64 A5, .int .i64 A3] 25 (0, 0)) (by refine bK ?_; (iterate 2 refine qF ?_ A7); exact A0.o) hb); replace A6 := Z.m (qb (g := Ac) (o := .cells #[.int .i64 ((rd_T25 A1 A4).f0), .int .i64 ((rd_T25 A1 A4).f1)] 25 (0, 0)) (by refine bK ?_; refine qp (cs := #[iV ((rd_T25 A1 A4).f0), iV 0]) ?_ 1 _ rfl; refine bK ?_; refine qp (cs := #[iV 0, iV 0]) ?_ 0 _ rfl; refine bK ?_; exact A6.o) hb); replace HB := bB HB hb; (try clear hb); (try clear AM); (try clear hk); (try clear hi)))
       go_roundg k1
       case measure => have := AL.o; omega
       case rel => exact ⟨(wrap64 (A4 + 1)), (A5), (A3), (by first | rfl | (simp; done) | (simp [*]; done)), H', ⟨by have := AL.o; omega⟩, ⟨by refine rK ?_; exact Kd.Rm Aa.o (fun _ hk => hk.1)⟩, ⟨vK A0⟩, ⟨vB HB⟩⟩
     ·rw [if_neg c8] at H
      exact absurd H (by simp)
    ·rw [if_neg c7] at H
     exact absurd H (by simp)
   ·rw [if_neg c6] at H
    have AH := decide_eq_false c6
    clear c6
    simp only [Option.some.injEq, Prod.mk.injEq] at H
    obtain ⟨rfl, rfl, rfl⟩ := H
    have Av := bc0 A0
    have Aw := bc1 A0
    have AF := qz A0.o 0
    have AG := qz A0.o 1
    go_wp2
    refine bodyPost_ret (results_ct rfl _ _ Ab 25 #[.int .i64 0, .int .i64 0] (0, 0) _ rfl (by refine bK ?_; refine qp (cs := #[iV 0, iV A3]) ?_ 1 _ rfl; refine bK ?_; refine qp (cs := #[iV A5, iV A3]) ?_ 0 _ rfl; refine bK ?_; exact A0.o) Try.underlying25 rfl (by kernel_rfl)) rfl ?_
    exact ⟨by first | rfl | (simp [eN, eS] <;> rfl) | (simp [*, eN, eS] <;> rfl), vB HB⟩

end Go.Proofs.Ytklmdnlambinaaa.PAll
