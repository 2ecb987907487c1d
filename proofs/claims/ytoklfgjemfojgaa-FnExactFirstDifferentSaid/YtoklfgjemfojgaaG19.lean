/- Began as a text that print.sh wrote (of the functions named below); turned and shortened by this session. -/
import Derived.Test.YtoklfgjemfojgaaG0
import Derived.Test.YtoklfgjemfojgaaG1
import Derived.Test.YtoklfgjemfojgaaG18
namespace Go.Proofs.Ytoklfgjemfojgaa.PAll
open Go.RowKit Go.Proofs.YtoklfgjemfojgaaW.PrintWords Go.Proofs.YtoklfgjemfojgaaW.PrintLast Go.Proofs.YtoklfgjemfojgaaW.PrintMore
attribute [local go_sem] max2_int min2_int max_two min_two max_three min_three max_four min_four   -- for this text's walks alone
set_option linter.unusedVariables false
set_option linter.unusedSimpArgs false

attribute [local go_sem high] eqA27
/-! ### impl_FirstDifferent: function 34 -/
mutual
def impl_FirstDifferent.j0 : Nat → List Int → Bool → Int → Int → List (S89) → Int → Int → List (S89) → Option (Int × Bool)
 | 0, _, _, _, _, _, _, _, _ => none
 | k + 1, x2, x29, x750000, x750001, x750002, x751000, x751001, x751002 => if x29 = true then (some (0, false)) else ((impl_dropAll.f k x750000 x750001 x750002 x2).bind fun bt753 => ((impl_dropAll.f k x751000 x751001 x751002 x2).bind fun bt762 => (impl_FirstDifferent.l0 k bt753.1 bt762.1 (bt753.1.length : Int) 0)))
def impl_FirstDifferent.l0 : Nat → List (S27) → List (S27) → Int → Int → Option (Int × Bool)
 | 0, _, _, _, _ => none
 | k + 1, x8, x10, x43, x44 => if x44 < x43 then (if 0 ≤ x44 then (if x44 < (x8.length : Int) then (if x44 < (x10.length : Int) then (if (!(((rd_T27 x8 x44).f0) == ((rd_T27 x10 x44).f0)) || (!(((rd_T27 x8 x44).f1) == ((rd_T27 x10 x44).f1)) || (!(((rd_T27 x8 x44).f2) == ((rd_T27 x10 x44).f2))))) = true then (some (x44, true)) else (impl_FirstDifferent.l0 k x8 x10 x43 (wrap64 (x44 + 1)))) else (none)) else (none)) else (none)) else (some (0, false))
end
def impl_FirstDifferent.f (k : Nat) (a0_0 : Int) (a0_1 : Int) (l0_2 : List (S89)) (a1_0 : Int) (a1_1 : Int) (l1_2 : List (S89)) (l2 : List Int) : Option (Int × Bool) := (impl_validEntries.f k a0_0 a0_1 l0_2 l2).bind fun t751 => (if t751 = true then ((impl_validEntries.f k a1_0 a1_1 l1_2 l2).bind fun t752 => (if t752 = true then (impl_FirstDifferent.j0 k l2 (a0_1 != a1_1) a0_0 a0_1 l0_2 a1_0 a1_1 l1_2) else (impl_FirstDifferent.j0 k l2 true a0_0 a0_1 l0_2 a1_0 a1_1 l1_2))) else (impl_FirstDifferent.j0 k l2 true a0_0 a0_1 l0_2 a1_0 a1_1 l1_2))
set_option maxHeartbeats 8000000 in
set_option maxRecDepth 100000 in
theorem impl_FirstDifferent.calls (k : Nat) (a0_0 : Int) (a0_1 : Int) (A0_2 : Option Addr) (c0_2 : Nat) (l0_2 : List (S89)) (a1_0 : Int) (a1_1 : Int) (A1_2 : Option Addr) (c1_2 : Nat) (l1_2 : List (S89)) (A2 : Option Addr) (c2 : Nat) (l2 : List Int) (r1 : Int) (r2 : Bool) (w : World) (hr0_2 : Kd.C k89 w A0_2 l0_2.length l0_2) (hc0_2 : l0_2.length ≤ c0_2) (hr1_2 : Kd.C k89 w A1_2 l1_2.length l1_2) (hc1_2 : l1_2.length ≤ c1_2) (hr2 : Kd.C (Kd.int .i64) w A2 l2.length l2) (hc2 : l2.length ≤ c2) (h : impl_FirstDifferent.f k a0_0 a0_1 l0_2 a1_0 a1_1 l1_2 l2 = some (r1, r2)) :
 Calls Try.prog 34 #[.agg #[.int .i64 a0_0, .int .i64 a0_1, .slice A0_2 l0_2.length c0_2], .agg #[.int .i64 a1_0, .int .i64 a1_1, .slice A1_2 l1_2.length c1_2], .slice A2 l2.length c2] w fun e w' => e = .returned (.tuple #[.int .i64 r1, .bool r2]) ∧ Below w.heap.size w w' := by
 have Dg := Try.underlying32
 have Df := Try.underlying27
 have Ap := Z.m hr0_2
 have An := Z.m hc0_2
 clear hr0_2 hc0_2
 have At := Z.m hr1_2
 have Ar := Z.m hc1_2
 clear hr1_2 hc1_2
 have Ax := Z.m hr2
 have Aw := Z.m hc2
 clear hr2 hc2
 have HB := Z.m (Below.refl w.heap.size w)
 have H : ((impl_validEntries.f k a0_0 a0_1 l0_2 l2).bind fun BW => (if BW = true then ((impl_validEntries.f k a1_0 a1_1 l1_2 l2).bind fun B3 => (if B3 = true then (impl_FirstDifferent.j0 k l2 (a0_1 != a1_1) a0_0 a0_1 l0_2 a1_0 a1_1 l1_2) else (impl_FirstDifferent.j0 k l2 true a0_0 a0_1 l0_2 a1_0 a1_1 l1_2))) else (impl_FirstDifferent.j0 k l2 true a0_0 a0_1 l0_2 a1_0 a1_1 l1_2))) = some (r1, r2) := h
 clear h
 have CK := Z.m H
 clear H
 go_enter Try.func34, Try.ntmps34
 go_upto_region 1 with (first | ((with_reducible refine gq (N := 3) rfl ?_); refine be (N := 3) (cs := #[.int .i64 a0_0, .int .i64 a0_1, .slice A0_2 l0_2.length c0_2]) (t := 32) ?_; intro Au hg w5 hbox hb; have A1 := Z.m (hbox); have AW := gW (w := w) HB hg; have C0 := AW; replace HB := bB HB hb; clear hb hbox hg) | ((with_reducible refine gq (N := 4) rfl ?_); refine be (N := 4) (cs := #[.int .i64 a1_0, .int .i64 a1_1, .slice A1_2 l1_2.length c1_2]) (t := 32) ?_; intro Av hg w6 hbox hb; have A0 := Z.m (hbox); have AX := gW (w := w) HB hg; have C1 := AX; have Ad := neL A1 hg; have Af := neG A1 hg; replace A1 := kB A1 hb; replace HB := bB HB hb; clear hb hbox hg))
 repeat (go_quiet (first | ((with_reducible refine gq (N := 3) rfl ?_); refine be (N := 3) (cs := #[.int .i64 a0_0, .int .i64 a0_1, .slice A0_2 l0_2.length c0_2]) (t := 32) ?_; intro Au hg w5 hbox hb; have A1 := Z.m (hbox); have AW := gW (w := w) HB hg; have C0 := AW; replace HB := bB HB hb; clear hb hbox hg) | ((with_reducible refine gq (N := 4) rfl ?_); refine be (N := 4) (cs := #[.int .i64 a1_0, .int .i64 a1_1, .slice A1_2 l1_2.length c1_2]) (t := 32) ?_; intro Av hg w6 hbox hb; have A0 := Z.m (hbox); have AX := gW (w := w) HB hg; have C1 := AX; have Ad := neL A1 hg; have Af := neG A1 hg; replace A1 := kB A1 hb; replace HB := bB HB hb; clear hb hbox hg)); go_upto_region 1 with (first | ((with_reducible refine gq (N := 3) rfl ?_); refine be (N := 3) (cs := #[.int .i64 a0_0, .int .i64 a0_1, .slice A0_2 l0_2.length c0_2]) (t := 32) ?_; intro Au hg w5 hbox hb; have A1 := Z.m (hbox); have AW := gW (w := w) HB hg; have C0 := AW; replace HB := bB HB hb; clear hb hbox hg) | ((with_reducible refine gq (N := 4) rfl ?_); refine be (N := 4) (cs := #[.int .i64 a1_0, .int .i64 a1_1, .slice A1_2 l1_2.length c1_2]) (t := 32) ?_; intro Av hg w6 hbox hb; have A0 := Z.m (hbox); have AX := gW (w := w) HB hg; have C1 := AX; have Ad := neL A1 hg; have Af := neG A1 hg; replace A1 := kB A1 hb; replace HB := bB HB hb; clear hb hbox hg)))
 (try simp only [Act.put, q1, q2, q3])
 go_cut [29] (fun v29 wc => ∃ (kq : Nat) (Bz : Bool), v29 = .bool Bz ∧ Z (impl_FirstDifferent.j0 kq l2 Bz a0_0 a0_1 l0_2 a1_0 a1_1 l1_2 = some (r1, r2)) ∧ Z (kq ≤ k) ∧ Z (wc.heap[Au]? = some (.cells #[.int .i64 a0_0, .int .i64 a0_1, (.slice A0_2 l0_2.length c0_2)] 32 (0, 0))) ∧ Z (wc.heap[Av]? = some (.cells #[.int .i64 a1_0, .int .i64 a1_1, (.slice A1_2 l1_2.length c1_2)] 32 (0, 0))) ∧ Z (Below w.heap.size w wc))
 case first =>
  have H := CK.o
  clear CK
  replace H := Option.bind_eq_some_iff.mp H
  obtain ⟨BW, CN, H⟩ := H
  replace H : (if BW = true then ((impl_validEntries.f k a1_0 a1_1 l1_2 l2).bind fun B3 => (if B3 = true then (impl_FirstDifferent.j0 k l2 (a0_1 != a1_1) a0_0 a0_1 l0_2 a1_0 a1_1 l1_2) else (impl_FirstDifferent.j0 k l2 true a0_0 a0_1 l0_2 a1_0 a1_1 l1_2))) else (impl_FirstDifferent.j0 k l2 true a0_0 a0_1 l0_2 a1_0 a1_1 l1_2)) = some (r1, r2) := H
  have A7 := Z.m CN
  clear CN
  by_cases c8 : BW = true
  ·subst c8
   have H1 : ((impl_validEntries.f k a1_0 a1_1 l1_2 l2).bind fun B3 => (if B3 = true then (impl_FirstDifferent.j0 k l2 (a0_1 != a1_1) a0_0 a0_1 l0_2 a1_0 a1_1 l1_2) else (impl_FirstDifferent.j0 k l2 true a0_0 a0_1 l0_2 a1_0 a1_1 l1_2))) = some (r1, r2) := by rw [if_pos rfl] at H; exact H
   clear H
   have H := H1
   clear H1
   replace H := Option.bind_eq_some_iff.mp H
   obtain ⟨B3, CO, H⟩ := H
   replace H : (if B3 = true then (impl_FirstDifferent.j0 k l2 (a0_1 != a1_1) a0_0 a0_1 l0_2 a1_0 a1_1 l1_2) else (impl_FirstDifferent.j0 k l2 true a0_0 a0_1 l0_2 a1_0 a1_1 l1_2)) = some (r1, r2) := H
   have A9 := Z.m CO
   clear CO
   by_cases c10 : B3 = true
   ·subst c10
    have H1 : (impl_FirstDifferent.j0 k l2 (a0_1 != a1_1) a0_0 a0_1 l0_2 a1_0 a1_1 l1_2) = some (r1, r2) := by rw [if_pos rfl] at H; exact H
    clear H
    have H := H1
    clear H1
    have H' := Z.m H
    clear H
    have CU := Ad.o
    have CY := Af.o
    have Cq := bc0 A1
    have Cr := bc1 A1
    have Cs := bc2 A1
    have Cz := qz A1.o 0
    have CA := qz A1.o 1
    have CB := qz A1.o 2
    go_wp2_with (first | (go_at_call 67; (with_reducible refine (impl_validEntries.calls k a0_0 a0_1 _ _ l0_2 _ _ l2 true _ ?side1 ?side2 ?side3 ?side4 A7.o).mono ?_); (case side1 => repeat (first | exact (Kd.C_below Ap.o HB.o) | (with_reducible refine Kd.C_alloc ?_ _) | (with_reducible refine Kd.C_drewN ?_ _) | (with_reducible refine Kd.C_drew ?_))); (case side2 => exact An.o); (case side3 => repeat (first | exact (Kd.C_below Ax.o HB.o) | (with_reducible refine Kd.C_alloc ?_ _) | (with_reducible refine Kd.C_drewN ?_ _) | (with_reducible refine Kd.C_drew ?_))); (case side4 => exact Aw.o); rintro e D2 ⟨rfl, hb⟩; replace A1 := kB A1 hb; replace A0 := kB A0 hb; replace HB := bB HB hb; (try clear hb); (try clear AA); (try clear hk); (try clear hi); have Bb := bc0 A0; have Bc := bc1 A0; have Bd := bc2 A0; have Bn := qz A0.o 0; have Bo := qz A0.o 1; have Bp := qz A0.o 2) | (go_at_call 67; (with_reducible refine (impl_validEntries.calls k a1_0 a1_1 _ _ l1_2 _ _ l2 true _ ?side1 ?side2 ?side3 ?side4 A9.o).mono ?_); (case side1 => repeat (first | exact (Kd.C_below At.o HB.o) | (with_reducible refine Kd.C_alloc ?_ _) | (with_reducible refine Kd.C_drewN ?_ _) | (with_reducible refine Kd.C_drew ?_))); (case side2 => exact Ar.o); (case side3 => repeat (first | exact (Kd.C_below Ax.o HB.o) | (with_reducible refine Kd.C_alloc ?_ _) | (with_reducible refine Kd.C_drewN ?_ _) | (with_reducible refine Kd.C_drew ?_))); (case side4 => exact Aw.o); rintro e D3 ⟨rfl, hb⟩; replace A1 := kB A1 hb; replace A0 := kB A0 hb; replace HB := bB HB hb; (try clear hb); (try clear AA); (try clear hk); (try clear hi); have Be := bc0 A1; have Bf := bc1 A1; have Bg := bc2 A1; have Bq := qz A1.o 0; have Br := qz A1.o 1; have Bs := qz A1.o 2; have Bh := bc0 A0; have Bi := bc1 A0; have Bj := bc2 A0; have Bt := qz A0.o 0; have Bu := qz A0.o 1; have Bv := qz A0.o 2))
    repeat (go_quiet (first | (go_at_call 67; (with_reducible refine (impl_validEntries.calls k a0_0 a0_1 _ _ l0_2 _ _ l2 true _ ?side1 ?side2 ?side3 ?side4 A7.o).mono ?_); (case side1 => repeat (first | exact (Kd.C_below Ap.o HB.o) | (with_reducible refine Kd.C_alloc ?_ _) | (with_reducible refine Kd.C_drewN ?_ _) | (with_reducible refine Kd.C_drew ?_))); (case side2 => exact An.o); (case side3 => repeat (first | exact (Kd.C_below Ax.o HB.o) | (with_reducible refine Kd.C_alloc ?_ _) | (with_reducible refine Kd.C_drewN ?_ _) | (with_reducible refine Kd.C_drew ?_))); (case side4 => exact Aw.o); rintro e D2 ⟨rfl, hb⟩; replace A1 := kB A1 hb; replace A0 := kB A0 hb; replace HB := bB HB hb; (try clear hb); (try clear AA); (try clear hk); (try clear hi); have Bb := bc0 A0; have Bc := bc1 A0; have Bd := bc2 A0; have Bn := qz A0.o 0; have Bo := qz A0.o 1; have Bp := qz A0.o 2) | (go_at_call 67; (with_reducible refine (impl_validEntries.calls k a1_0 a1_1 _ _ l1_2 _ _ l2 true _ ?side1 ?side2 ?side3 ?side4 A9.o).mono ?_); (case side1 => repeat (first | exact (Kd.C_below At.o HB.o) | (with_reducible refine Kd.C_alloc ?_ _) | (with_reducible refine Kd.C_drewN ?_ _) | (with_reducible refine Kd.C_drew ?_))); (case side2 => exact Ar.o); (case side3 => repeat (first | exact (Kd.C_below Ax.o HB.o) | (with_reducible refine Kd.C_alloc ?_ _) | (with_reducible refine Kd.C_drewN ?_ _) | (with_reducible refine Kd.C_drew ?_))); (case side4 => exact Aw.o); rintro e D3 ⟨rfl, hb⟩; replace A1 := kB A1 hb; replace A0 := kB A0 hb; replace HB := bB HB hb; (try clear hb); (try clear AA); (try clear hk); (try clear hi); have Be := bc0 A1; have Bf := bc1 A1; have Bg := bc2 A1; have Bq := qz A1.o 0; have Br := qz A1.o 1; have Bs := qz A1.o 2; have Bh := bc0 A0; have Bi := bc1 A0; have Bj := bc2 A0; have Bt := qz A0.o 0; have Bu := qz A0.o 1; have Bv := qz A0.o 2)); try go_wp2_with (first | (go_at_call 67; (with_reducible refine (impl_validEntries.calls k a0_0 a0_1 _ _ l0_2 _ _ l2 true _ ?side1 ?side2 ?side3 ?side4 A7.o).mono ?_); (case side1 => repeat (first | exact (Kd.C_below Ap.o HB.o) | (with_reducible refine Kd.C_alloc ?_ _) | (with_reducible refine Kd.C_drewN ?_ _) | (with_reducible refine Kd.C_drew ?_))); (case side2 => exact An.o); (case side3 => repeat (first | exact (Kd.C_below Ax.o HB.o) | (with_reducible refine Kd.C_alloc ?_ _) | (with_reducible refine Kd.C_drewN ?_ _) | (with_reducible refine Kd.C_drew ?_))); (case side4 => exact Aw.o); rintro e D2 ⟨rfl, hb⟩; replace A1 := kB A1 hb; replace A0 := kB A0 hb; replace HB := bB HB hb; (try clear hb); (try clear AA); (try clear hk); (try clear hi); have Bb := bc0 A0; have Bc := bc1 A0; have Bd := bc2 A0; have Bn := qz A0.o 0; have Bo := qz A0.o 1; have Bp := qz A0.o 2) | (go_at_call 67; (with_reducible refine (impl_validEntries.calls k a1_0 a1_1 _ _ l1_2 _ _ l2 true _ ?side1 ?side2 ?side3 ?side4 A9.o).mono ?_); (case side1 => repeat (first | exact (Kd.C_below At.o HB.o) | (with_reducible refine Kd.C_alloc ?_ _) | (with_reducible refine Kd.C_drewN ?_ _) | (with_reducible refine Kd.C_drew ?_))); (case side2 => exact Ar.o); (case side3 => repeat (first | exact (Kd.C_below Ax.o HB.o) | (with_reducible refine Kd.C_alloc ?_ _) | (with_reducible refine Kd.C_drewN ?_ _) | (with_reducible refine Kd.C_drew ?_))); (case side4 => exact Aw.o); rintro e D3 ⟨rfl, hb⟩; replace A1 := kB A1 hb; replace A0 := kB A0 hb; replace HB := bB HB hb; (try clear hb); (try clear AA); (try clear hk); (try clear hi); have Be := bc0 A1; have Bf := bc1 A1; have Bg := bc2 A1; have Bq := qz A1.o 0; have Br := qz A1.o 1; have Bs := qz A1.o 2; have Bh := bc0 A0; have Bi := bc1 A0; have Bj := bc2 A0; have Bt := qz A0.o 0; have Bu := qz A0.o 1; have Bv := qz A0.o 2)))
    go_meet
    case rel => exact ⟨_, ((a0_1 != a1_1)), (by first | rfl | (simp; done) | (simp [*]; done)), H', ⟨by first | omega | exact Nat.le_refl _⟩, ⟨vK A1⟩, ⟨vK A0⟩, ⟨vB HB⟩⟩
   ·replace c10 := Bool.eq_false_iff.mpr c10
    subst c10
    have H1 : (impl_FirstDifferent.j0 k l2 true a0_0 a0_1 l0_2 a1_0 a1_1 l1_2) = some (r1, r2) := by rw [if_neg (show ¬ (false = true) by decide)] at H; exact H
    clear H
    have H := H1
    clear H1
    have H' := Z.m H
    clear H
    have CV := Ad.o
    have CZ := Af.o
    have Ct := bc0 A1
    have Cu := bc1 A1
    have Cv := bc2 A1
    have CC := qz A1.o 0
    have CD := qz A1.o 1
    have CE := qz A1.o 2
    go_wp2_with (first | (go_at_call 67; (with_reducible refine (impl_validEntries.calls k a0_0 a0_1 _ _ l0_2 _ _ l2 true _ ?side1 ?side2 ?side3 ?side4 A7.o).mono ?_); (case side1 => repeat (first | exact (Kd.C_below Ap.o HB.o) | (with_reducible refine Kd.C_alloc ?_ _) | (with_reducible refine Kd.C_drewN ?_ _) | (with_reducible refine Kd.C_drew ?_))); (case side2 => exact An.o); (case side3 => repeat (first | exact (Kd.C_below Ax.o HB.o) | (with_reducible refine Kd.C_alloc ?_ _) | (with_reducible refine Kd.C_drewN ?_ _) | (with_reducible refine Kd.C_drew ?_))); (case side4 => exact Aw.o); rintro e D4 ⟨rfl, hb⟩; replace A1 := kB A1 hb; replace A0 := kB A0 hb; replace HB := bB HB hb; (try clear hb); (try clear AA); (try clear hk); (try clear hi); have Bk := bc0 A0; have Bl := bc1 A0; have Bm := bc2 A0; have Bw := qz A0.o 0; have Bx := qz A0.o 1; have By := qz A0.o 2) | (go_at_call 67; (with_reducible refine (impl_validEntries.calls k a1_0 a1_1 _ _ l1_2 _ _ l2 false _ ?side1 ?side2 ?side3 ?side4 A9.o).mono ?_); (case side1 => repeat (first | exact (Kd.C_below At.o HB.o) | (with_reducible refine Kd.C_alloc ?_ _) | (with_reducible refine Kd.C_drewN ?_ _) | (with_reducible refine Kd.C_drew ?_))); (case side2 => exact Ar.o); (case side3 => repeat (first | exact (Kd.C_below Ax.o HB.o) | (with_reducible refine Kd.C_alloc ?_ _) | (with_reducible refine Kd.C_drewN ?_ _) | (with_reducible refine Kd.C_drew ?_))); (case side4 => exact Aw.o); rintro e D5 ⟨rfl, hb⟩; replace A1 := kB A1 hb; replace A0 := kB A0 hb; replace HB := bB HB hb; (try clear hb); (try clear AA); (try clear hk); (try clear hi)))
    repeat (go_quiet (first | (go_at_call 67; (with_reducible refine (impl_validEntries.calls k a0_0 a0_1 _ _ l0_2 _ _ l2 true _ ?side1 ?side2 ?side3 ?side4 A7.o).mono ?_); (case side1 => repeat (first | exact (Kd.C_below Ap.o HB.o) | (with_reducible refine Kd.C_alloc ?_ _) | (with_reducible refine Kd.C_drewN ?_ _) | (with_reducible refine Kd.C_drew ?_))); (case side2 => exact An.o); (case side3 => repeat (first | exact (Kd.C_below Ax.o HB.o) | (with_reducible refine Kd.C_alloc ?_ _) | (with_reducible refine Kd.C_drewN ?_ _) | (with_reducible refine Kd.C_drew ?_))); (case side4 => exact Aw.o); rintro e D4 ⟨rfl, hb⟩; replace A1 := kB A1 hb; replace A0 := kB A0 hb; replace HB := bB HB hb; (try clear hb); (try clear AA); (try clear hk); (try clear hi); have Bk := bc0 A0; have Bl := bc1 A0; have Bm := bc2 A0; have Bw := qz A0.o 0; have Bx := qz A0.o 1; have By := qz A0.o 2) | (go_at_call 67; (with_reducible refine (impl_validEntries.calls k a1_0 a1_1 _ _ l1_2 _ _ l2 false _ ?side1 ?side2 ?side3 ?side4 A9.o).mono ?_); (case side1 => repeat (first | exact (Kd.C_below At.o HB.o) | (with_reducible refine Kd.C_alloc ?_ _) | (with_reducible refine Kd.C_drewN ?_ _) | (with_reducible refine Kd.C_drew ?_))); (case side2 => exact Ar.o); (case side3 => repeat (first | exact (Kd.C_below Ax.o HB.o) | (with_reducible refine Kd.C_alloc ?_ _) | (with_reducible refine Kd.C_drewN ?_ _) | (with_reducible refine Kd.C_drew ?_))); (case side4 => exact Aw.o); rintro e D5 ⟨rfl, hb⟩; replace A1 := kB A1 hb; replace A0 := kB A0 hb; replace HB := bB HB hb; (try clear hb); (try clear AA); (try clear hk); (try clear hi))); try go_wp2_with (first | (go_at_call 67; (with_reducible refine (impl_validEntries.calls k a0_0 a0_1 _ _ l0_2 _ _ l2 true _ ?side1 ?side2 ?side3 ?side4 A7.o).mono ?_); (case side1 => repeat (first | exact (Kd.C_below Ap.o HB.o) | (with_reducible refine Kd.C_alloc ?_ _) | (with_reducible refine Kd.C_drewN ?_ _) | (with_reducible refine Kd.C_drew ?_))); (case side2 => exact An.o); (case side3 => repeat (first | exact (Kd.C_below Ax.o HB.o) | (with_reducible refine Kd.C_alloc ?_ _) | (with_reducible refine Kd.C_drewN ?_ _) | (with_reducible refine Kd.C_drew ?_))); (case side4 => exact Aw.o); rintro e D4 ⟨rfl, hb⟩; replace A1 := kB A1 hb; replace A0 := kB A0 hb; replace HB := bB HB hb; (try clear hb); (try clear AA); (try clear hk); (try clear hi); have Bk := bc0 A0; have Bl := bc1 A0; have Bm := bc2 A0; have Bw := qz A0.o 0; have Bx := qz A0.o 1; have By := qz A0.o 2) | (go_at_call 67; (with_reducible refine (impl_validEntries.calls k a1_0 a1_1 _ _ l1_2 _ _ l2 false _ ?side1 ?side2 ?side3 ?side4 A9.o).mono ?_); (case side1 => repeat (first | exact (Kd.C_below At.o HB.o) | (with_reducible refine Kd.C_alloc ?_ _) | (with_reducible refine Kd.C_drewN ?_ _) | (with_reducible refine Kd.C_drew ?_))); (case side2 => exact Ar.o); (case side3 => repeat (first | exact (Kd.C_below Ax.o HB.o) | (with_reducible refine Kd.C_alloc ?_ _) | (with_reducible refine Kd.C_drewN ?_ _) | (with_reducible refine Kd.C_drew ?_))); (case side4 => exact Aw.o); rintro e D5 ⟨rfl, hb⟩; replace A1 := kB A1 hb; replace A0 := kB A0 hb; replace HB := bB HB hb; (try clear hb); (try clear AA); (try clear hk); (try clear hi))))
    go_meet
    case rel => exact ⟨_, (true), (by first | rfl | (simp; done) | (simp [*]; done)), H', ⟨by first | omega | exact Nat.le_refl _⟩, ⟨vK A1⟩, ⟨vK A0⟩, ⟨vB HB⟩⟩
  ·replace c8 := Bool.eq_false_iff.mpr c8
   subst c8
   have H1 : (impl_FirstDifferent.j0 k l2 true a0_0 a0_1 l0_2 a1_0 a1_1 l1_2) = some (r1, r2) := by rw [if_neg (show ¬ (false = true) by decide)] at H; exact H
   clear H
   have H := H1
   clear H1
   have H' := Z.m H
   clear H
   have CW := Ad.o
   have D0 := Af.o
   have Cw := bc0 A1
   have Cx := bc1 A1
   have Cy := bc2 A1
   have CF := qz A1.o 0
   have CG := qz A1.o 1
   have CH := qz A1.o 2
   go_wp2_with (first | (go_at_call 67; (with_reducible refine (impl_validEntries.calls k a0_0 a0_1 _ _ l0_2 _ _ l2 false _ ?side1 ?side2 ?side3 ?side4 A7.o).mono ?_); (case side1 => repeat (first | exact (Kd.C_below Ap.o HB.o) | (with_reducible refine Kd.C_alloc ?_ _) | (with_reducible refine Kd.C_drewN ?_ _) | (with_reducible refine Kd.C_drew ?_))); (case side2 => exact An.o); (case side3 => repeat (first | exact (Kd.C_below Ax.o HB.o) | (with_reducible refine Kd.C_alloc ?_ _) | (with_reducible refine Kd.C_drewN ?_ _) | (with_reducible refine Kd.C_drew ?_))); (case side4 => exact Aw.o); rintro e D6 ⟨rfl, hb⟩; replace A1 := kB A1 hb; replace A0 := kB A0 hb; replace HB := bB HB hb; (try clear hb); (try clear AA); (try clear hk); (try clear hi)))
   repeat (go_quiet (first | (go_at_call 67; (with_reducible refine (impl_validEntries.calls k a0_0 a0_1 _ _ l0_2 _ _ l2 false _ ?side1 ?side2 ?side3 ?side4 A7.o).mono ?_); (case side1 => repeat (first | exact (Kd.C_below Ap.o HB.o) | (with_reducible refine Kd.C_alloc ?_ _) | (with_reducible refine Kd.C_drewN ?_ _) | (with_reducible refine Kd.C_drew ?_))); (case side2 => exact An.o); (case side3 => repeat (first | exact (Kd.C_below Ax.o HB.o) | (with_reducible refine Kd.C_alloc ?_ _) | (with_reducible refine Kd.C_drewN ?_ _) | (with_reducible refine Kd.C_drew ?_))); (case side4 => exact Aw.o); rintro e D6 ⟨rfl, hb⟩; replace A1 := kB A1 hb; replace A0 := kB A0 hb; replace HB := bB HB hb; (try clear hb); (try clear AA); (try clear hk); (try clear hi))); try go_wp2_with (first | (go_at_call 67; (with_reducible refine (impl_validEntries.calls k a0_0 a0_1 _ _ l0_2 _ _ l2 false _ ?side1 ?side2 ?side3 ?side4 A7.o).mono ?_); (case side1 => repeat (first | exact (Kd.C_below Ap.o HB.o) | (with_reducible refine Kd.C_alloc ?_ _) | (with_reducible refine Kd.C_drewN ?_ _) | (with_reducible refine Kd.C_drew ?_))); (case side2 => exact An.o); (case side3 => repeat (first | exact (Kd.C_below Ax.o HB.o) | (with_reducible refine Kd.C_alloc ?_ _) | (with_reducible refine Kd.C_drewN ?_ _) | (with_reducible refine Kd.C_drew ?_))); (case side4 => exact Aw.o); rintro e D6 ⟨rfl, hb⟩; replace A1 := kB A1 hb; replace A0 := kB A0 hb; replace HB := bB HB hb; (try clear hb); (try clear AA); (try clear hk); (try clear hi))))
   go_meet
   case rel => exact ⟨_, (true), (by first | rfl | (simp; done) | (simp [*]; done)), H', ⟨by first | omega | exact Nat.le_refl _⟩, ⟨vK A1⟩, ⟨vK A0⟩, ⟨vB HB⟩⟩
 case rest =>
  clear CK
  obtain ⟨kq, Bz, rfl, HA, CP, A1, A0, HB⟩ := hcut
  cases kq with
  | zero => exact absurd HA.o (by simp [impl_FirstDifferent.j0])
  | succ kj3 =>
   have H := HA.o
   clear HA
   simp only [impl_FirstDifferent.j0] at H
   by_cases c26 : Bz = true
   ·subst c26
    have H1 : (some (0, false)) = some (r1, r2) := by rw [if_pos rfl] at H; exact H
    clear H
    have H := H1
    clear H1
    simp only [Option.some.injEq, Prod.mk.injEq] at H
    obtain ⟨rfl, rfl⟩ := H
    go_wp2
    repeat (go_quiet (fail); try go_wp2)
    go_ret2
    exact ⟨by first | rfl | (simp [eN, eS] <;> rfl) | (simp [*, eN, eS] <;> rfl), vB HB⟩
   ·replace c26 := Bool.eq_false_iff.mpr c26
    subst c26
    have H1 : ((impl_dropAll.f kj3 a0_0 a0_1 l0_2 l2).bind fun bt753 => ((impl_dropAll.f kj3 a1_0 a1_1 l1_2 l2).bind fun bt762 => (impl_FirstDifferent.l0 kj3 bt753.1 bt762.1 (bt753.1.length : Int) 0))) = some (r1, r2) := by rw [if_neg (show ¬ (false = true) by decide)] at H; exact H
    clear H
    have H := H1
    clear H1
    replace H := Option.bind_eq_some_iff.mp H
    obtain ⟨⟨Ac, B7, B8, Ay⟩, Cg, H⟩ := H
    replace H : ((impl_dropAll.f kj3 a1_0 a1_1 l1_2 l2).bind fun bt762 => (impl_FirstDifferent.l0 kj3 Ac bt762.1 (Ac.length : Int) 0)) = some (r1, r2) := H
    have CI := Z.m Cg
    clear Cg
    replace H := Option.bind_eq_some_iff.mp H
    obtain ⟨⟨Aq, BX, BY, Ba⟩, Ch, H⟩ := H
    replace H : (impl_FirstDifferent.l0 kj3 Ac Aq (Ac.length : Int) 0) = some (r1, r2) := H
    have CJ := Z.m Ch
    clear Ch
    have H' := Z.m H
    clear H
    have CX := Ad.o
    have D1 := Af.o
    have BK := bc0 A1
    have BL := bc1 A1
    have BM := bc2 A1
    have BN := qz A1.o 0
    have BO := qz A1.o 1
    have BP := qz A1.o 2
    go_wp2_with (first | (go_at_call 68; (with_reducible refine (impl_dropAll.calls kj3 a0_0 a0_1 _ _ l0_2 _ _ l2 Ac B7 B8 Ay _ ?side1 ?side2 ?side3 ?side4 CI.o).mono ?_); (case side1 => repeat (first | exact (Kd.C_below Ap.o HB.o) | (with_reducible refine Kd.C_alloc ?_ _) | (with_reducible refine Kd.C_drewN ?_ _) | (with_reducible refine Kd.C_drew ?_))); (case side2 => exact An.o); (case side3 => repeat (first | exact (Kd.C_below Ax.o HB.o) | (with_reducible refine Kd.C_alloc ?_ _) | (with_reducible refine Kd.C_drewN ?_ _) | (with_reducible refine Kd.C_drew ?_))); (case side4 => exact Aw.o); rintro e D7 ⟨Cn, Co, rfl, AB, AC, hb⟩; have A6 := Z.m (Kd.R_lower AB (below_size (vB HB))); have A8 := Z.m (Kd.R_lower AC (below_size (vB HB))); replace A1 := kB A1 hb; replace A0 := kB A0 hb; replace HB := bB HB hb; (try clear hb); (try clear AA); (try clear hk); (try clear hi); (try clear AB); (try clear AC)) | ((with_reducible refine gq (N := 9) rfl ?_); refine be (N := 9) (cs := #[.int .i64 0, .int .i64 0, .slice none 0 0]) (t := 32) ?_; intro Az hg D8 hbox hb; have A3 := Z.m (hbox); have AY := gW (w := w) HB hg; have C2 := AY; have Aa := neL A1 hg; have Ai := neG A1 hg; have Ab := neL A0 hg; have Aj := neG A0 hg; replace A6 := Z.m (Kd.Rb (vR A6) hb); replace A8 := Z.m (Kd.Rb (vR A8) hb); replace A1 := kB A1 hb; replace A0 := kB A0 hb; replace HB := bB HB hb; clear hb hbox hg; have C4 := Ai.o; have C9 := Aa.o; have C5 := Aj.o; have Ca := Ab.o; have AD := bc0 A3; have AE := bc1 A3; have AF := bc2 A3; have AM := qz A3.o 0; have AN := qz A3.o 1; have AO := qz A3.o 2; obtain ⟨AV, B2, BE⟩ := Kd.R_slice A8.o; subst BE; have AG := bc0 A0; have AH := bc1 A0; have AI := bc2 A0; have AP := qz A0.o 0; have AQ := qz A0.o 1; have AR := qz A0.o 2) | (go_at_call 68; (with_reducible refine (impl_dropAll.calls kj3 a1_0 a1_1 _ _ l1_2 _ _ l2 Aq BX BY Ba _ ?side1 ?side2 ?side3 ?side4 CJ.o).mono ?_); (case side1 => exact Kd.C_below At.o (vB HB)); (case side2 => exact Ar.o); (case side3 => exact Kd.C_below Ax.o (vB HB)); (case side4 => exact Aw.o); rintro e D9 ⟨BZ, Cp, rfl, AB, AC, hb⟩; have As := Z.m (Kd.R_lower (Kd.R_new' AB (Kd.R_lt (by refine rK ?_; exact (Kd.Rm (rf (rf (rf (Kd.Ry A6.o A3.o (by decide))))) (fun _ h_ => h_.1))))) (below_size (vB HB))); have Ao := Z.m (Kd.R_lower (Kd.R_new' AC (Kd.R_lt (by refine rK ?_; exact (Kd.Rm (rf (rf (rf (Kd.Ry A8.o A3.o (by decide))))) (fun _ h_ => h_.1))))) (below_size (vB HB))); replace A6 := Z.m (Kd.R_elder' (by refine rK ?_; exact (Kd.Rm (rf (rf (rf (Kd.Ry A6.o A3.o (by decide))))) (fun _ h_ => h_.1))) (Kd.R_base AB) hb); replace A8 := Z.m (Kd.R_elder' (by refine rK ?_; exact (Kd.Rm (rf (rf (rf (Kd.Ry A8.o A3.o (by decide))))) (fun _ h_ => h_.1))) (Kd.R_base AC) hb); replace A1 := Z.m (qb (g := Au) (o := .cells #[.int .i64 a0_0, .int .i64 a0_1, .slice A0_2 l0_2.length c0_2] 32 (0, 0)) (by refine bK ?_; (iterate 3 refine qF ?_ Aa); exact A1.o) hb); replace A0 := Z.m (qb (g := Av) (o := .cells #[.int .i64 a1_0, .int .i64 a1_1, .slice A1_2 l1_2.length c1_2] 32 (0, 0)) (by refine bK ?_; (iterate 3 refine qF ?_ Ab); exact A0.o) hb); replace A3 := Z.m (qb (g := Az) (o := .cells #[.int .i64 B7, .int .i64 B8, .slice AV Ay.length B2] 32 (0, 0)) (by refine bK ?_; apply st3; refine bK ?_; exact A3.o) hb); replace HB := bB HB hb; (try clear hb); (try clear AA); (try clear hk); (try clear hi); (try clear AB); (try clear AC)) | ((with_reducible refine gq (N := 11) rfl ?_); refine be (N := 11) (cs := #[.int .i64 0, .int .i64 0, .slice none 0 0]) (t := 32) ?_; intro BH hg Da hbox hb; have A5 := Z.m (hbox); have AZ := gW (w := w) HB hg; have C3 := AZ; have Ae := neL A1 hg; have Ak := neG A1 hg; have Ag := neL A0 hg; have Al := neG A0 hg; have Ah := neL A3 hg; have Am := neG A3 hg; replace A6 := Z.m (Kd.Rb (vR A6) hb); replace A8 := Z.m (Kd.Rb (vR A8) hb); replace As := Z.m (Kd.Rb (vR As) hb); replace Ao := Z.m (Kd.Rb (vR Ao) hb); replace A1 := kB A1 hb; replace A0 := kB A0 hb; replace A3 := kB A3 hb; replace HB := bB HB hb; clear hb hbox hg; have C6 := Ak.o; have Cb := Ae.o; have C7 := Al.o; have Cd := Ag.o; have C8 := Am.o; have Ce := Ah.o; have AJ := bc0 A5; have AK := bc1 A5; have AL := bc2 A5; have AS := qz A5.o 0; have AT := qz A5.o 1; have AU := qz A5.o 2; obtain ⟨BC, BD, BF⟩ := Kd.R_slice Ao.o; subst BF; obtain ⟨BI, BJ, BG⟩ := Kd.R_slice A6.o; subst BG))
    repeat (go_quiet (first | (go_at_call 68; (with_reducible refine (impl_dropAll.calls kj3 a0_0 a0_1 _ _ l0_2 _ _ l2 Ac B7 B8 Ay _ ?side1 ?side2 ?side3 ?side4 CI.o).mono ?_); (case side1 => repeat (first | exact (Kd.C_below Ap.o HB.o) | (with_reducible refine Kd.C_alloc ?_ _) | (with_reducible refine Kd.C_drewN ?_ _) | (with_reducible refine Kd.C_drew ?_))); (case side2 => exact An.o); (case side3 => repeat (first | exact (Kd.C_below Ax.o HB.o) | (with_reducible refine Kd.C_alloc ?_ _) | (with_reducible refine Kd.C_drewN ?_ _) | (with_reducible refine Kd.C_drew ?_))); (case side4 => exact Aw.o); rintro e D7 ⟨Cn, Co, rfl, AB, AC, hb⟩; have A6 := Z.m (Kd.R_lower AB (below_size (vB HB))); have A8 := Z.m (Kd.R_lower AC (below_size (vB HB))); replace A1 := kB A1 hb; replace A0 := kB A0 hb; replace HB := bB HB hb; (try clear hb); (try clear AA); (try clear hk); (try clear hi); (try clear AB); (try clear AC)) | ((with_reducible refine gq (N := 9) rfl ?_); refine be (N := 9) (cs := #[.int .i64 0, .int .i64 0, .slice none 0 0]) (t := 32) ?_; intro Az hg D8 hbox hb; have A3 := Z.m (hbox); have AY := gW (w := w) HB hg; have C2 := AY; have Aa := neL A1 hg; have Ai := neG A1 hg; have Ab := neL A0 hg; have Aj := neG A0 hg; replace A6 := Z.m (Kd.Rb (vR A6) hb); replace A8 := Z.m (Kd.Rb (vR A8) hb); replace A1 := kB A1 hb; replace A0 := kB A0 hb; replace HB := bB HB hb; clear hb hbox hg; have C4 := Ai.o; have C9 := Aa.o; have C5 := Aj.o; have Ca := Ab.o; have AD := bc0 A3; have AE := bc1 A3; have AF := bc2 A3; have AM := qz A3.o 0; have AN := qz A3.o 1; have AO := qz A3.o 2; obtain ⟨AV, B2, BE⟩ := Kd.R_slice A8.o; subst BE; have AG := bc0 A0; have AH := bc1 A0; have AI := bc2 A0; have AP := qz A0.o 0; have AQ := qz A0.o 1; have AR := qz A0.o 2) | (go_at_call 68; (with_reducible refine (impl_dropAll.calls kj3 a1_0 a1_1 _ _ l1_2 _ _ l2 Aq BX BY Ba _ ?side1 ?side2 ?side3 ?side4 CJ.o).mono ?_); (case side1 => exact Kd.C_below At.o (vB HB)); (case side2 => exact Ar.o); (case side3 => exact Kd.C_below Ax.o (vB HB)); (case side4 => exact Aw.o); rintro e D9 ⟨BZ, Cp, rfl, AB, AC, hb⟩; have As := Z.m (Kd.R_lower (Kd.R_new' AB (Kd.R_lt (by refine rK ?_; exact (Kd.Rm (rf (rf (rf (Kd.Ry A6.o A3.o (by decide))))) (fun _ h_ => h_.1))))) (below_size (vB HB))); have Ao := Z.m (Kd.R_lower (Kd.R_new' AC (Kd.R_lt (by refine rK ?_; exact (Kd.Rm (rf (rf (rf (Kd.Ry A8.o A3.o (by decide))))) (fun _ h_ => h_.1))))) (below_size (vB HB))); replace A6 := Z.m (Kd.R_elder' (by refine rK ?_; exact (Kd.Rm (rf (rf (rf (Kd.Ry A6.o A3.o (by decide))))) (fun _ h_ => h_.1))) (Kd.R_base AB) hb); replace A8 := Z.m (Kd.R_elder' (by refine rK ?_; exact (Kd.Rm (rf (rf (rf (Kd.Ry A8.o A3.o (by decide))))) (fun _ h_ => h_.1))) (Kd.R_base AC) hb); replace A1 := Z.m (qb (g := Au) (o := .cells #[.int .i64 a0_0, .int .i64 a0_1, .slice A0_2 l0_2.length c0_2] 32 (0, 0)) (by refine bK ?_; (iterate 3 refine qF ?_ Aa); exact A1.o) hb); replace A0 := Z.m (qb (g := Av) (o := .cells #[.int .i64 a1_0, .int .i64 a1_1, .slice A1_2 l1_2.length c1_2] 32 (0, 0)) (by refine bK ?_; (iterate 3 refine qF ?_ Ab); exact A0.o) hb); replace A3 := Z.m (qb (g := Az) (o := .cells #[.int .i64 B7, .int .i64 B8, .slice AV Ay.length B2] 32 (0, 0)) (by refine bK ?_; apply st3; refine bK ?_; exact A3.o) hb); replace HB := bB HB hb; (try clear hb); (try clear AA); (try clear hk); (try clear hi); (try clear AB); (try clear AC)) | ((with_reducible refine gq (N := 11) rfl ?_); refine be (N := 11) (cs := #[.int .i64 0, .int .i64 0, .slice none 0 0]) (t := 32) ?_; intro BH hg Da hbox hb; have A5 := Z.m (hbox); have AZ := gW (w := w) HB hg; have C3 := AZ; have Ae := neL A1 hg; have Ak := neG A1 hg; have Ag := neL A0 hg; have Al := neG A0 hg; have Ah := neL A3 hg; have Am := neG A3 hg; replace A6 := Z.m (Kd.Rb (vR A6) hb); replace A8 := Z.m (Kd.Rb (vR A8) hb); replace As := Z.m (Kd.Rb (vR As) hb); replace Ao := Z.m (Kd.Rb (vR Ao) hb); replace A1 := kB A1 hb; replace A0 := kB A0 hb; replace A3 := kB A3 hb; replace HB := bB HB hb; clear hb hbox hg; have C6 := Ak.o; have Cb := Ae.o; have C7 := Al.o; have Cd := Ag.o; have C8 := Am.o; have Ce := Ah.o; have AJ := bc0 A5; have AK := bc1 A5; have AL := bc2 A5; have AS := qz A5.o 0; have AT := qz A5.o 1; have AU := qz A5.o 2; obtain ⟨BC, BD, BF⟩ := Kd.R_slice Ao.o; subst BF; obtain ⟨BI, BJ, BG⟩ := Kd.R_slice A6.o; subst BG)); try go_wp2_with (first | (go_at_call 68; (with_reducible refine (impl_dropAll.calls kj3 a0_0 a0_1 _ _ l0_2 _ _ l2 Ac B7 B8 Ay _ ?side1 ?side2 ?side3 ?side4 CI.o).mono ?_); (case side1 => repeat (first | exact (Kd.C_below Ap.o HB.o) | (with_reducible refine Kd.C_alloc ?_ _) | (with_reducible refine Kd.C_drewN ?_ _) | (with_reducible refine Kd.C_drew ?_))); (case side2 => exact An.o); (case side3 => repeat (first | exact (Kd.C_below Ax.o HB.o) | (with_reducible refine Kd.C_alloc ?_ _) | (with_reducible refine Kd.C_drewN ?_ _) | (with_reducible refine Kd.C_drew ?_))); (case side4 => exact Aw.o); rintro e D7 ⟨Cn, Co, rfl, AB, AC, hb⟩; have A6 := Z.m (Kd.R_lower AB (below_size (vB HB))); have A8 := Z.m (Kd.R_lower AC (below_size (vB HB))); replace A1 := kB A1 hb; replace A0 := kB A0 hb; replace HB := bB HB hb; (try clear hb); (try clear AA); (try clear hk); (try clear hi); (try clear AB); (try clear AC)) | ((with_reducible refine gq (N := 9) rfl ?_); refine be (N := 9) (cs := #[.int .i64 0, .int .i64 0, .slice none 0 0]) (t := 32) ?_; intro Az hg D8 hbox hb; have A3 := Z.m (hbox); have AY := gW (w := w) HB hg; have C2 := AY; have Aa := neL A1 hg; have Ai := neG A1 hg; have Ab := neL A0 hg; have Aj := neG A0 hg; replace A6 := Z.m (Kd.Rb (vR A6) hb); replace A8 := Z.m (Kd.Rb (vR A8) hb); replace A1 := kB A1 hb; replace A0 := kB A0 hb; replace HB := bB HB hb; clear hb hbox hg; have C4 := Ai.o; have C9 := Aa.o; have C5 := Aj.o; have Ca := Ab.o; have AD := bc0 A3; have AE := bc1 A3; have AF := bc2 A3; have AM := qz A3.o 0; have AN := qz A3.o 1; have AO := qz A3.o 2; obtain ⟨AV, B2, BE⟩ := Kd.R_slice A8.o; subst BE; have AG := bc0 A0; have AH := bc1 A0; have AI := bc2 A0; have AP := qz A0.o 0; have AQ := qz A0.o 1; have AR := qz A0.o 2) | (go_at_call 68; (with_reducible refine (impl_dropAll.calls kj3 a1_0 a1_1 _ _ l1_2 _ _ l2 Aq BX BY Ba _ ?side1 ?side2 ?side3 ?side4 CJ.o).mono ?_); (case side1 => exact Kd.C_below At.o (vB HB)); (case side2 => exact Ar.o); (case side3 => exact Kd.C_below Ax.o (vB HB)); (case side4 => exact Aw.o); rintro e D9 ⟨BZ, Cp, rfl, AB, AC, hb⟩; have As := Z.m (Kd.R_lower (Kd.R_new' AB (Kd.R_lt (by refine rK ?_; exact (Kd.Rm (rf (rf (rf (Kd.Ry A6.o A3.o (by decide))))) (fun _ h_ => h_.1))))) (below_size (vB HB))); have Ao := Z.m (Kd.R_lower (Kd.R_new' AC (Kd.R_lt (by refine rK ?_; exact (Kd.Rm (rf (rf (rf (Kd.Ry A8.o A3.o (by decide))))) (fun _ h_ => h_.1))))) (below_size (vB HB))); replace A6 := Z.m (Kd.R_elder' (by refine rK ?_; exact (Kd.Rm (rf (rf (rf (Kd.Ry A6.o A3.o (by decide))))) (fun _ h_ => h_.1))) (Kd.R_base AB) hb); replace A8 := Z.m (Kd.R_elder' (by refine rK ?_; exact (Kd.Rm (rf (rf (rf (Kd.Ry A8.o A3.o (by decide))))) (fun _ h_ => h_.1))) (Kd.R_base AC) hb); replace A1 := Z.m (qb (g := Au) (o := .cells #[.int .i64 a0_0, .int .i64 a0_1, .slice A0_2 l0_2.length c0_2] 32 (0, 0)) (by refine bK ?_; (iterate 3 refine qF ?_ Aa); exact A1.o) hb); replace A0 := Z.m (qb (g := Av) (o := .cells #[.int .i64 a1_0, .int .i64 a1_1, .slice A1_2 l1_2.length c1_2] 32 (0, 0)) (by refine bK ?_; (iterate 3 refine qF ?_ Ab); exact A0.o) hb); replace A3 := Z.m (qb (g := Az) (o := .cells #[.int .i64 B7, .int .i64 B8, .slice AV Ay.length B2] 32 (0, 0)) (by refine bK ?_; apply st3; refine bK ?_; exact A3.o) hb); replace HB := bB HB hb; (try clear hb); (try clear AA); (try clear hk); (try clear hi); (try clear AB); (try clear AC)) | ((with_reducible refine gq (N := 11) rfl ?_); refine be (N := 11) (cs := #[.int .i64 0, .int .i64 0, .slice none 0 0]) (t := 32) ?_; intro BH hg Da hbox hb; have A5 := Z.m (hbox); have AZ := gW (w := w) HB hg; have C3 := AZ; have Ae := neL A1 hg; have Ak := neG A1 hg; have Ag := neL A0 hg; have Al := neG A0 hg; have Ah := neL A3 hg; have Am := neG A3 hg; replace A6 := Z.m (Kd.Rb (vR A6) hb); replace A8 := Z.m (Kd.Rb (vR A8) hb); replace As := Z.m (Kd.Rb (vR As) hb); replace Ao := Z.m (Kd.Rb (vR Ao) hb); replace A1 := kB A1 hb; replace A0 := kB A0 hb; replace A3 := kB A3 hb; replace HB := bB HB hb; clear hb hbox hg; have C6 := Ak.o; have Cb := Ae.o; have C7 := Al.o; have Cd := Ag.o; have C8 := Am.o; have Ce := Ah.o; have AJ := bc0 A5; have AK := bc1 A5; have AL := bc2 A5; have AS := qz A5.o 0; have AT := qz A5.o 1; have AU := qz A5.o 2; obtain ⟨BC, BD, BF⟩ := Kd.R_slice Ao.o; subst BF; obtain ⟨BI, BJ, BG⟩ := Kd.R_slice A6.o; subst BG)))
    go_loopg [44] kj3 (fun kq v44 w' => ∃ (A4 : Int), v44 = .int .i64 A4 ∧ Z (impl_FirstDifferent.l0 kq Ac Aq (Ac.length : Int) A4 = some (r1, r2)) ∧ Z (kq ≤ kj3) ∧ Z (Kd.R k27 27 w' w.heap.size (fun k_ => some k_ ≠ (BZ : Value).ownBlock) (.slice BI Ac.length BJ) Ac) ∧ Z (Kd.R k27 27 w' w.heap.size (fun k_ => some k_ ≠ ((.slice BI Ac.length BJ) : Value).ownBlock) BZ Aq) ∧ Z (Kd.R k89 89 w' w.heap.size (fun k_ => some k_ ≠ ((.slice BC Ba.length BD) : Value).ownBlock) (.slice AV Ay.length B2) Ay) ∧ Z (Kd.R k89 89 w' w.heap.size (fun k_ => some k_ ≠ ((.slice AV Ay.length B2) : Value).ownBlock) (.slice BC Ba.length BD) Ba) ∧ Z (w'.heap[Au]? = some (.cells #[.int .i64 a0_0, .int .i64 a0_1, (.slice A0_2 l0_2.length c0_2)] 32 (0, 0))) ∧ Z (w'.heap[Av]? = some (.cells #[.int .i64 a1_0, .int .i64 a1_1, (.slice A1_2 l1_2.length c1_2)] 32 (0, 0))) ∧ Z (w'.heap[Az]? = some (.cells #[.int .i64 B7, .int .i64 B8, (.slice AV Ay.length B2)] 32 (0, 0))) ∧ Z (w'.heap[BH]? = some (.cells #[.int .i64 BX, .int .i64 BY, (.slice BC Ba.length BD)] 32 (0, 0))) ∧ Z (Below w.heap.size w w'))
    case atStart => exact ⟨(0), (by first | rfl | (simp; done) | (simp [*]; done)), H', ⟨Nat.le_refl _⟩, ⟨by refine rK ?_; exact Kd.Rm (rf (rf (rf (Kd.Ry A6.o A5.o (by decide))))) (fun _ hk => hk.1.2)⟩, ⟨by refine rK ?_; exact Kd.Rm (rf (rf (rf (Kd.Ry As.o A5.o (by decide))))) (fun _ hk => hk.1.2)⟩, ⟨by refine rK ?_; exact Kd.Rm (rf (rf (rf (Kd.Ry A8.o A5.o (by decide))))) (fun _ hk => hk.1.2)⟩, ⟨by refine rK ?_; exact Kd.Rm (rf (rf (rf (Kd.Ry Ao.o A5.o (by decide))))) (fun _ hk => hk.1.2)⟩, ⟨by refine bK ?_; (iterate 3 refine qF ?_ Ae); exact A1.o⟩, ⟨by refine bK ?_; (iterate 3 refine qF ?_ Ag); exact A0.o⟩, ⟨by refine bK ?_; (iterate 3 refine qF ?_ Ah); exact A3.o⟩, ⟨by refine bK ?_; apply st3; refine bK ?_; exact A5.o⟩, ⟨vB HB⟩⟩
    case round =>
     clear H'
     (try clear c26)
     (try clear BK); (try clear BL); (try clear BM); (try clear AD); (try clear AE); (try clear AF); (try clear AG); (try clear AH)
     (try clear AI); (try clear AJ); (try clear AK); (try clear AL); (try clear BN); (try clear BO); (try clear BP); (try clear AM)
     (try clear AN); (try clear AO); (try clear AP); (try clear AQ); (try clear AR); (try clear AS); (try clear AT); (try clear AU)
     obtain ⟨A4, rfl, HA, CQ, Cf, B0, BA, BB, A1, A0, A3, A5, HB⟩ := hrel
     cases gk with
     | zero => exact absurd HA.o (by simp [impl_FirstDifferent.l0])
     | succ k2 =>
      have H := HA.o
      clear HA
      simp only [impl_FirstDifferent.l0] at H
      by_cases c46 : A4 < (Ac.length : Int)
      ·rw [if_pos c46] at H
       have Cl := decide_eq_true c46
       clear c46
       by_cases c47 : 0 ≤ A4
       ·rw [if_pos c47] at H
        have CR := decide_eq_true c47
        clear c47
        by_cases c48 : A4 < (Ac.length : Int)
        ·rw [if_pos c48] at H
         have CS := decide_eq_true c48
         clear c48
         by_cases c49 : A4 < (Aq.length : Int)
         ·rw [if_pos c49] at H
          have CT := decide_eq_true c49
          clear c49
          by_cases c50 : (!(((rd_T27 Ac A4).f0) == ((rd_T27 Aq A4).f0)) || (!(((rd_T27 Ac A4).f1) == ((rd_T27 Aq A4).f1)) || (!(((rd_T27 Ac A4).f2) == ((rd_T27 Aq A4).f2))))) = true
          ·rw [if_pos c50] at H
           have Cm : (!(((rd_T27 Ac A4).f0) == ((rd_T27 Aq A4).f0)) || (!(((rd_T27 Ac A4).f1) == ((rd_T27 Aq A4).f1)) || (!(((rd_T27 Ac A4).f2) == ((rd_T27 Aq A4).f2))))) = true := c50
           clear c50
           simp only [Option.some.injEq, Prod.mk.injEq] at H
           obtain ⟨rfl, rfl⟩ := H
           have p771 : 0 ≤ (A4 : Int) := ofD
           have q771 : A4 < (Ac.length : Int) := ofD
           obtain ⟨Ci, e771, BQ, BR, BS⟩ := at_T27 (Kd.RrZ Cf.o).2.2 A4 p771 q771
           cases e771
           replace p771 := eq_true p771
           replace q771 := eq_true q771
           obtain ⟨Db, Dd, CL⟩ := Kd.R_slice B0.o
           subst CL
           have p772 : 0 ≤ (A4 : Int) := ofD
           have q772 : A4 < (Aq.length : Int) := ofD
           obtain ⟨Cj, e772, BT, BU, BV⟩ := at_T27 (Kd.RrZ B0.o).2.2 A4 p772 q772
           cases e772
           replace p772 := eq_true p772
           replace q772 := eq_true q772
           go_wp2
           repeat (go_quiet (fail); try go_wp2)
           go_ret2
           exact ⟨by first | rfl | (simp [eN, eS] <;> rfl) | (simp [*, eN, eS] <;> rfl), vB HB⟩
          ·rw [if_neg c50] at H
           have Cm : (!(((rd_T27 Ac A4).f0) == ((rd_T27 Aq A4).f0)) || (!(((rd_T27 Ac A4).f1) == ((rd_T27 Aq A4).f1)) || (!(((rd_T27 Ac A4).f2) == ((rd_T27 Aq A4).f2))))) = false := by simpa using c50
           clear c50
           have H' := Z.m H
           clear H
           have p771 : 0 ≤ (A4 : Int) := ofD
           have q771 : A4 < (Ac.length : Int) := ofD
           obtain ⟨Ci, e771, BQ, BR, BS⟩ := at_T27 (Kd.RrZ Cf.o).2.2 A4 p771 q771
           cases e771
           replace p771 := eq_true p771
           replace q771 := eq_true q771
           obtain ⟨Dc, De, CM⟩ := Kd.R_slice B0.o
           subst CM
           have p772 : 0 ≤ (A4 : Int) := ofD
           have q772 : A4 < (Aq.length : Int) := ofD
           obtain ⟨Cj, e772, BT, BU, BV⟩ := at_T27 (Kd.RrZ B0.o).2.2 A4 p772 q772
           cases e772
           replace p772 := eq_true p772
           replace q772 := eq_true q772
           go_wp2
           repeat (go_quiet (fail); try go_wp2)
           go_roundg k2
           case measure => have := CP.o; have := CQ.o; omega
           case rel => exact ⟨(wrap64 (A4 + 1)), (by first | rfl | (simp; done) | (simp [*]; done)), H', ⟨by have := CP.o; have := CQ.o; omega⟩, ⟨vR Cf⟩, ⟨vR B0⟩, ⟨vR BA⟩, ⟨vR BB⟩, ⟨vK A1⟩, ⟨vK A0⟩, ⟨vK A3⟩, ⟨vK A5⟩, ⟨vB HB⟩⟩
         ·rw [if_neg c49] at H
          exact absurd H (by simp)
        ·rw [if_neg c48] at H
         exact absurd H (by simp)
       ·rw [if_neg c47] at H
        exact absurd H (by simp)
      ·rw [if_neg c46] at H
       have Cl := decide_eq_false c46
       clear c46
       simp only [Option.some.injEq, Prod.mk.injEq] at H
       obtain ⟨rfl, rfl⟩ := H
       go_wp2
       repeat (go_quiet (fail); try go_wp2)
       go_ret2
       exact ⟨by first | rfl | (simp [eN, eS] <;> rfl) | (simp [*, eN, eS] <;> rfl), vB HB⟩

end Go.Proofs.Ytoklfgjemfojgaa.PAll
