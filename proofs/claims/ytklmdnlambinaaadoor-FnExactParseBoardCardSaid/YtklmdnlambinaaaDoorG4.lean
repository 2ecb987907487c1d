/- Began as a text that print.sh wrote (of the functions named below); turned and shortened by this session. -/
import Derived.Test.YtklmdnlambinaaaDoorG0
import Derived.Test.YtklmdnlambinaaaDoorG3
namespace Go.Proofs.YtklmdnlambinaaaDoor.PAll
open Go.RowKit Go.Proofs.YtklmdnlambinaaaDoorW.PrintWords Go.Proofs.YtklmdnlambinaaaDoorW.PrintLast Go.Proofs.YtklmdnlambinaaaDoorW.PrintMore
attribute [local go_sem] max2_int min2_int max_two min_two max_three min_three max_four min_four   -- for this text's walks alone
set_option linter.unusedVariables false
set_option linter.unusedSimpArgs false

/-! ### impl_ParseBoard: function 6 -/
mutual
def impl_ParseBoard.j0 : Nat → List ByteArray → Bool → Option (Int × Int × (List (S62)) × Bool)
 | 0, _, _ => none
 | k + 1, x4, x27 => if x27 = true then (some (0, 0, ([] : List (S62)), false)) else (if 0 < (x4.length : Int) then (if ((rdOf ByteArray.empty x4 0).size : Int) < 1 then (impl_ParseBoard.j1 k x4 true (x4.length : Int) ((rdOf ByteArray.empty x4 0).size : Int)) else (impl_ParseBoard.j1 k x4 (decide (((rdOf ByteArray.empty x4 0).size : Int) > 9)) (x4.length : Int) ((rdOf ByteArray.empty x4 0).size : Int))) else (none))
def impl_ParseBoard.j1 : Nat → List ByteArray → Bool → Int → Int → Option (Int × Int × (List (S62)) × Bool)
 | 0, _, _, _, _ => none
 | k + 1, x4, x43, x216000, x216001 => if x43 = true then (some (0, 0, ([] : List (S62)), false)) else (impl_ParseBoard.l0 k x4 (x4.length : Int) 0 x216000 x216001 ([] : List (S62)))
def impl_ParseBoard.l0 : Nat → List ByteArray → Int → Int → Int → Int → List (S62) → Option (Int × Int × (List (S62)) × Bool)
 | 0, _, _, _, _, _, _ => none
 | k + 1, x45, x46, x47, x216000, x216001, x216002 => if x47 < x46 then (if 0 ≤ x47 then (if x47 < (x45.length : Int) then ((impl_ReadCells.f k (rdOf ByteArray.empty x45 x47)).bind fun bt217 => (if bt217.2 = true then (if (bt217.1.length : Int) = x216001 then (if x216002.length + bt217.1.length < 8796093022208 then (impl_ParseBoard.l0 k x45 x46 (wrap64 (x47 + 1)) x216000 x216001 (x216002 ++ bt217.1)) else (none)) else (some (0, 0, ([] : List (S62)), false))) else (some (0, 0, ([] : List (S62)), false)))) else (none)) else (none)) else (some (x216000, x216001, x216002, true))
end
def impl_ParseBoard.f (k : Nat) (a0 : ByteArray) : Option (Int × Int × (List (S62)) × Bool) := (impl_linesOf.f a0).bind fun bt210 => (if bt210.2 = true then (if (bt210.1.length : Int) < 1 then (impl_ParseBoard.j0 k bt210.1 true) else (impl_ParseBoard.j0 k bt210.1 (decide ((bt210.1.length : Int) > 10)))) else (impl_ParseBoard.j0 k bt210.1 true))
set_option maxHeartbeats 8000000 in
set_option maxRecDepth 100000 in
theorem impl_ParseBoard.calls (k : Nat) (a0 : ByteArray) (r1 : Int) (r2 : Int) (r3 : List (S62)) (r4 : Bool) (w : World) (h : impl_ParseBoard.f k a0 = some (r1, r2, r3, r4)) {m1_ : Int} (hm1_ : w.cell? ⟨1, 0, none⟩ = some (.int .i64 m1_)) :
 Calls Tryd.prog 6 #[.string a0] w fun e w' => ∃ v2_ : Value, e = .returned (.tuple #[.agg #[.int .i64 r1, .int .i64 r2, v2_], .bool r4]) ∧ Kd.R k62 62 w' w.heap.size (fun _ => True) v2_ r3 ∧ Below w.heap.size w w' := by
 have CH := Tryd.underlying24
 have HB := Z.m (Below.refl w.heap.size w)
 have H : ((impl_linesOf.f a0).bind fun bt210 => (if bt210.2 = true then (if (bt210.1.length : Int) < 1 then (impl_ParseBoard.j0 k bt210.1 true) else (impl_ParseBoard.j0 k bt210.1 (decide ((bt210.1.length : Int) > 10)))) else (impl_ParseBoard.j0 k bt210.1 true))) = some (r1, r2, r3, r4) := h
 clear h
 replace H := Option.bind_eq_some_iff.mp H
 obtain ⟨⟨A3, AA⟩, Cf, H⟩ := H
 replace H : (if AA = true then (if (A3.length : Int) < 1 then (impl_ParseBoard.j0 k A3 true) else (impl_ParseBoard.j0 k A3 (decide ((A3.length : Int) > 10)))) else (impl_ParseBoard.j0 k A3 true)) = some (r1, r2, r3, r4) := H
 have A2 := Z.m Cf
 clear Cf
 have C2 := Z.m H
 clear H
 go_enter Tryd.func6, Tryd.ntmps6
 go_upto_region 2 with (first | ((with_reducible refine gq (N := 2) rfl ?_); (try (refine gate_guard (by rfl) ?_; dsimp only)); refine be (N := 2) (cs := #[.int .i64 0, .int .i64 0, .slice none 0 0]) (t := 24) ?_; intro Ad hg w4 hbox hb; have A0 := Z.m (hbox); have AD := gW (w := w) HB hg; have Cg := AD; replace HB := bB HB hb; clear hb hbox hg) | ((with_reducible refine gc (f := 16) rfl ?_); refine gA (some 13) _ #[.string a0] ?_ Tryd.func16; (with_reducible refine (impl_linesOf.calls a0 A3 AA _ A2.o (pw_cell_below (vB HB) hm1_)).mono ?_); rintro e w5 ⟨Ce, rfl, An, hb⟩; refine ⟨_, rfl, ?_⟩; have Ah := Z.m (Kd.R_lower An (below_size (vB HB))); replace A0 := kB A0 hb; replace HB := bB HB hb; (try clear hb); (try clear Cd); (try clear hk); (try clear hi); (try clear An)))
 (try simp only [Act.put, q1, q2, q3])
 go_cut [27] (fun v27 wc => ∃ (kq : Nat) (Ap : Bool), v27 = .bool Ap ∧ Z (impl_ParseBoard.j0 kq A3 Ap = some (r1, r2, r3, r4)) ∧ Z (kq ≤ k) ∧ Z (Kd.R Kd.string 9 wc w.heap.size (fun _ => True) Ce A3) ∧ Z (wc.heap[Ad]? = some (.cells #[.int .i64 0, .int .i64 0, (.slice none 0 0)] 24 (0, 0))) ∧ Z (Below w.heap.size w wc))
 case first =>
  have H := C2.o
  clear C2
  by_cases c6 : AA = true
  ·subst c6
   have H1 : (if (A3.length : Int) < 1 then (impl_ParseBoard.j0 k A3 true) else (impl_ParseBoard.j0 k A3 (decide ((A3.length : Int) > 10)))) = some (r1, r2, r3, r4) := by rw [if_pos rfl] at H; exact H
   clear H
   have H := H1
   clear H1
   by_cases c7 : (A3.length : Int) < 1
   ·rw [if_pos c7] at H
    have Aq := decide_eq_true c7
    have C3 : decide (A3.length < 1) = true := decide_eq_true (by omega)
    clear c7
    (first | rw [Aq] | (simp only [i64_w, i32_w]; rw [Aq]) | skip)
    have H' := Z.m H
    clear H
    obtain ⟨CJ, CL, CF⟩ := Kd.R_slice Ah.o
    subst CF
    go_wp2
    go_meet
    case rel => exact ⟨_, (true), (by first | rfl | (simp; done) | (simp [*]; done)), H', ⟨by first | omega | exact Nat.le_refl _⟩, ⟨vR Ah⟩, ⟨vK A0⟩, ⟨vB HB⟩⟩
   ·rw [if_neg c7] at H
    have Aq := decide_eq_false c7
    have C3 : decide (A3.length < 1) = false := decide_eq_false (by omega)
    clear c7
    (first | rw [Aq] | (simp only [i64_w, i32_w]; rw [Aq]) | skip)
    have H' := Z.m H
    clear H
    obtain ⟨CK, CM, CG⟩ := Kd.R_slice Ah.o
    subst CG
    go_wp2
    go_meet
    case rel => exact ⟨_, (decide ((A3.length : Int) > 10)), (by first | rfl | (simp; done) | (simp [*]; done)), H', ⟨by first | omega | exact Nat.le_refl _⟩, ⟨vR Ah⟩, ⟨vK A0⟩, ⟨vB HB⟩⟩
  ·replace c6 := Bool.eq_false_iff.mpr c6
   subst c6
   have H1 : (impl_ParseBoard.j0 k A3 true) = some (r1, r2, r3, r4) := by rw [if_neg (show ¬ (false = true) by decide)] at H; exact H
   clear H
   have H := H1
   clear H1
   have H' := Z.m H
   clear H
   go_wp2
   go_meet
   case rel => exact ⟨_, (true), (by first | rfl | (simp; done) | (simp [*]; done)), H', ⟨by first | omega | exact Nat.le_refl _⟩, ⟨vR Ah⟩, ⟨vK A0⟩, ⟨vB HB⟩⟩
 case rest =>
  clear C2
  obtain ⟨kq, Ap, rfl, HA, AS, Ai, A0, HB⟩ := hcut
  cases kq with
  | zero => exact absurd HA.o (by simp [impl_ParseBoard.j0])
  | succ kj2 =>
   have H := HA.o
   clear HA
   simp only [impl_ParseBoard.j0] at H
   by_cases c10 : Ap = true
   ·subst c10
    have H1 : (some (0, 0, ([] : List (S62)), false)) = some (r1, r2, r3, r4) := by rw [if_pos rfl] at H; exact H
    clear H
    have H := H1
    clear H1
    simp only [Option.some.injEq, Prod.mk.injEq] at H
    obtain ⟨rfl, rfl, rfl, rfl⟩ := H
    have AT := bc0 A0
    have AU := bc1 A0
    have AV := bc2 A0
    have Br := qz A0.o 0
    have Bs := qz A0.o 1
    have Bt := qz A0.o 2
    go_wp2
    refine bodyPost_ret (results_ct rfl _ _ Ad 24 #[.int .i64 0, .int .i64 0, .slice none 0 0] (0, 0) _ rfl (by refine bK ?_; apply st3; refine bK ?_; exact A0.o) Tryd.underlying24 rfl (by kernel_rfl)) rfl ?_
    exact ⟨_, by first | rfl | (simp [eN, eS] <;> rfl) | (simp [*, eN, eS] <;> rfl), by first | exact Kd.R_nil _ _ _ _ _ | exact Kd.N_nil _ _ _ _ _ | exact Kd.V_nil _ _ _ _ _ | exact Kd.Q_nil _ _ _ _ _ | exact Kd.S_nil _ _ _ _ _, vB HB⟩
   ·replace c10 := Bool.eq_false_iff.mpr c10
    subst c10
    have H1 : (if 0 < (A3.length : Int) then (if ((rdOf ByteArray.empty A3 0).size : Int) < 1 then (impl_ParseBoard.j1 kj2 A3 true (A3.length : Int) ((rdOf ByteArray.empty A3 0).size : Int)) else (impl_ParseBoard.j1 kj2 A3 (decide (((rdOf ByteArray.empty A3 0).size : Int) > 9)) (A3.length : Int) ((rdOf ByteArray.empty A3 0).size : Int))) else (none)) = some (r1, r2, r3, r4) := by rw [if_neg (show ¬ (false = true) by decide)] at H; exact H
    clear H
    have H := H1
    clear H1
    by_cases c12 : 0 < (A3.length : Int)
    ·rw [if_pos c12] at H
     have AI := decide_eq_true c12
     have AJ : decide (0 < A3.length) = true := decide_eq_true (by omega)
     clear c12
     have Az := Z.m H
     clear H
     obtain ⟨CC, AP, C7⟩ := Kd.R_slice Ai.o
     subst C7
     have p214 : 0 ≤ (0 : Int) := (by omega)
     have q214 : 0 < (A3.length : Int) := ofD
     obtain ⟨Aj, e214, Af⟩ := Kd.at_string (Kd.RrZ Ai.o).2.2 0 p214 q214
     cases e214
     have qi214 : (0 < A3.length) = True := eq_true (by omega)
     (try rw [show ((0 : Int)).toNat = 0 from rfl] at Af)
     (try rw [Addr.add_zero'] at Af)
     replace p214 := eq_true p214
     replace q214 := eq_true q214
     go_upto_region 5 with (first | ((with_reducible refine gq (N := 6) rfl ?_); (try (refine gate_guard (by rfl) ?_; dsimp only)); refine be (N := 6) (cs := #[.int .i64 0, .int .i64 0, .slice none 0 0]) (t := 24) ?_; intro Ar hg CN hbox hb; have A1 := Z.m (hbox); have AE := gW (w := w) HB hg; have Ch := AE; have A5 := neL A0 hg; have A8 := neG A0 hg; replace Ai := Z.m (Kd.Rb (vR Ai) hb); replace A0 := kB A0 hb; replace HB := bB HB hb; clear hb hbox hg; have Cm := A8.o; have Cu := A5.o; have As := bc0 A1; have At := bc1 A1; have Au := bc2 A1; have Av := qz A1.o 0; have Aw := qz A1.o 1; have Ax := qz A1.o 2))
     (try simp only [Act.put, q1, q2, q3])
     go_cut [43] (fun v43 wc => ∃ (kq : Nat) (Ag : Bool), v43 = .bool Ag ∧ Z (impl_ParseBoard.j1 kq A3 Ag (A3.length : Int) ((rdOf ByteArray.empty A3 0).size : Int) = some (r1, r2, r3, r4)) ∧ Z (kq ≤ kj2) ∧ Z (Kd.R Kd.string 9 wc w.heap.size (fun _ => True) (.slice (some Aj) A3.length AP) A3) ∧ Z (wc.heap[Ad]? = some (.cells #[.int .i64 0, .int .i64 0, (.slice none 0 0)] 24 (0, 0))) ∧ Z (wc.heap[Ar]? = some (.cells #[.int .i64 (A3.length : Int), .int .i64 ((rdOf ByteArray.empty A3 0).size : Int), (.slice none 0 0)] 24 (0, 0))) ∧ Z (Below w.heap.size w wc))
     case first =>
      have H := Az.o
      clear Az
      by_cases c18 : ((rdOf ByteArray.empty A3 0).size : Int) < 1
      ·rw [if_pos c18] at H
       have Al := decide_eq_true c18
       have AK : decide ((rdOf ByteArray.empty A3 0).size < 1) = true := decide_eq_true (by omega)
       clear c18
       (first | rw [Al] | (simp only [i64_w, i32_w]; rw [Al]) | skip)
       have H' := Z.m H
       clear H
       have Cn := A8.o
       have Cv := A5.o
       have AW := bc0 A1
       have AX := bc1 A1
       have AY := bc2 A1
       have Bu := qz A1.o 0
       have Bv := qz A1.o 1
       have Bw := qz A1.o 2
       go_wp2
       go_meet
       case rel => exact ⟨_, (true), (by first | rfl | (simp; done) | (simp [*]; done)), H', ⟨by have := AS.o; first | omega | exact Nat.le_refl _⟩, ⟨by refine rK ?_; exact Kd.Rm (rf (rf (rf (Kd.Ry Ai.o A1.o (by decide))))) (fun _ hk => trivial)⟩, ⟨by refine bK ?_; (iterate 3 refine qF ?_ A5); exact A0.o⟩, ⟨by refine bK ?_; apply st3; refine bK ?_; exact A1.o⟩, ⟨vB HB⟩⟩
      ·rw [if_neg c18] at H
       have Al := decide_eq_false c18
       have AK : decide ((rdOf ByteArray.empty A3 0).size < 1) = false := decide_eq_false (by omega)
       clear c18
       (first | rw [Al] | (simp only [i64_w, i32_w]; rw [Al]) | skip)
       have H' := Z.m H
       clear H
       have Co := A8.o
       have Cw := A5.o
       have AZ := bc0 A1
       have B0 := bc1 A1
       have B1 := bc2 A1
       have Bx := qz A1.o 0
       have By := qz A1.o 1
       have Bz := qz A1.o 2
       go_wp2
       go_meet
       case rel => exact ⟨_, (decide (((rdOf ByteArray.empty A3 0).size : Int) > 9)), (by first | rfl | (simp; done) | (simp [*]; done)), H', ⟨by have := AS.o; first | omega | exact Nat.le_refl _⟩, ⟨by refine rK ?_; exact Kd.Rm (rf (rf (rf (Kd.Ry Ai.o A1.o (by decide))))) (fun _ hk => trivial)⟩, ⟨by refine bK ?_; (iterate 3 refine qF ?_ A5); exact A0.o⟩, ⟨by refine bK ?_; apply st3; refine bK ?_; exact A1.o⟩, ⟨vB HB⟩⟩
     case rest =>
      clear Az
      (try clear c10); (try clear AI); (try clear AJ)
      (try clear As); (try clear At); (try clear Au); (try clear Av); (try clear Aw); (try clear Ax); (try clear Af); (try clear p214); (try clear q214)
      obtain ⟨kq, Ag, rfl, HA, AF, Ai, A0, A1, HB⟩ := hcut
      cases kq with
      | zero => exact absurd HA.o (by simp [impl_ParseBoard.j1])
      | succ kj12 =>
       have H := HA.o
       clear HA
       simp only [impl_ParseBoard.j1] at H
       by_cases c23 : Ag = true
       ·subst c23
        have H1 : (some (0, 0, ([] : List (S62)), false)) = some (r1, r2, r3, r4) := by rw [if_pos rfl] at H; exact H
        clear H
        have H := H1
        clear H1
        simp only [Option.some.injEq, Prod.mk.injEq] at H
        obtain ⟨rfl, rfl, rfl, rfl⟩ := H
        have Cp := A5.o
        have Cx := A8.o
        have B2 := bc0 A0
        have B3 := bc1 A0
        have B4 := bc2 A0
        have BA := qz A0.o 0
        have BB := qz A0.o 1
        have BC := qz A0.o 2
        go_wp2
        refine bodyPost_ret (results_ct rfl _ _ Ad 24 #[.int .i64 0, .int .i64 0, .slice none 0 0] (0, 0) _ rfl (by refine bK ?_; apply st3; refine bK ?_; exact A0.o) Tryd.underlying24 rfl (by kernel_rfl)) rfl ?_
        exact ⟨_, by first | rfl | (simp [eN, eS] <;> rfl) | (simp [*, eN, eS] <;> rfl), by first | exact Kd.R_nil _ _ _ _ _ | exact Kd.N_nil _ _ _ _ _ | exact Kd.V_nil _ _ _ _ _ | exact Kd.Q_nil _ _ _ _ _ | exact Kd.S_nil _ _ _ _ _, vB HB⟩
       ·replace c23 := Bool.eq_false_iff.mpr c23
        subst c23
        have H1 : (impl_ParseBoard.l0 kj12 A3 (A3.length : Int) 0 (A3.length : Int) ((rdOf ByteArray.empty A3 0).size : Int) ([] : List (S62))) = some (r1, r2, r3, r4) := by rw [if_neg (show ¬ (false = true) by decide)] at H; exact H
        clear H
        have H := H1
        clear H1
        have H' := Z.m H
        clear H
        go_wp2
        go_loopg [47] kj12 (fun kq v47 w' => ∃ (A7 : Int) (Aa : Int) (Ab : Int) (A6 : List (S62)) (u216002 : Value), v47 = .int .i64 A7 ∧ Z (impl_ParseBoard.l0 kq A3 (A3.length : Int) A7 (A3.length : Int) ((rdOf ByteArray.empty A3 0).size : Int) A6 = some (r1, r2, r3, r4)) ∧ Z (kq ≤ kj12) ∧ Z (Kd.R Kd.string 9 w' w.heap.size (fun _ => True) (.slice (some Aj) A3.length AP) A3) ∧ Z (Kd.R k62 62 w' w.heap.size (fun _ => True) u216002 A6) ∧ Z (w'.heap[Ad]? = some (.cells #[.int .i64 Aa, .int .i64 Ab, (.slice none 0 0)] 24 (0, 0))) ∧ Z (w'.heap[Ar]? = some (.cells #[.int .i64 (A3.length : Int), .int .i64 ((rdOf ByteArray.empty A3 0).size : Int), u216002] 24 (0, 0))) ∧ Z (Below w.heap.size w w'))
        case atStart => exact ⟨(0), (0), (0), (([] : List (S62))), (.slice none 0 0), (by first | rfl | (simp; done) | (simp [*]; done)), H', ⟨Nat.le_refl _⟩, ⟨vR Ai⟩, ⟨by first | exact Kd.R_nil _ _ _ _ _ | exact Kd.N_nil _ _ _ _ _ | exact Kd.V_nil _ _ _ _ _ | exact Kd.Q_nil _ _ _ _ _ | exact Kd.S_nil _ _ _ _ _⟩, ⟨vK A0⟩, ⟨vK A1⟩, ⟨vB HB⟩⟩
        case round =>
         clear H'
         (try clear c23)
         obtain ⟨A7, Aa, Ab, A6, u216002, rfl, HA, Ci, A9, A4, A0, A1, HB⟩ := hrel
         cases gk with
         | zero => exact absurd HA.o (by simp [impl_ParseBoard.l0])
         | succ k3 =>
          have H := HA.o
          clear HA
          simp only [impl_ParseBoard.l0] at H
          by_cases c26 : A7 < (A3.length : Int)
          ·rw [if_pos c26] at H
           have AL := decide_eq_true c26
           clear c26
           by_cases c27 : 0 ≤ A7
           ·rw [if_pos c27] at H
            have Cj := decide_eq_true c27
            clear c27
            by_cases c28 : A7 < (A3.length : Int)
            ·rw [if_pos c28] at H
             have Cl := decide_eq_true c28
             clear c28
             replace H := Option.bind_eq_some_iff.mp H
             obtain ⟨⟨Ac, AQ⟩, AC, H⟩ := H
             replace H : (if AQ = true then (if (Ac.length : Int) = ((rdOf ByteArray.empty A3 0).size : Int) then (if A6.length + Ac.length < 8796093022208 then (impl_ParseBoard.l0 k3 A3 (A3.length : Int) (wrap64 (A7 + 1)) (A3.length : Int) ((rdOf ByteArray.empty A3 0).size : Int) (A6 ++ Ac)) else (none)) else (some (0, 0, ([] : List (S62)), false))) else (some (0, 0, ([] : List (S62)), false))) = some (r1, r2, r3, r4) := H
             have BY := Z.m AC
             clear AC
             by_cases c30 : AQ = true
             ·subst c30
              have H1 : (if (Ac.length : Int) = ((rdOf ByteArray.empty A3 0).size : Int) then (if A6.length + Ac.length < 8796093022208 then (impl_ParseBoard.l0 k3 A3 (A3.length : Int) (wrap64 (A7 + 1)) (A3.length : Int) ((rdOf ByteArray.empty A3 0).size : Int) (A6 ++ Ac)) else (none)) else (some (0, 0, ([] : List (S62)), false))) = some (r1, r2, r3, r4) := by rw [if_pos rfl] at H; exact H
              clear H
              have H := H1
              clear H1
              by_cases c31 : (Ac.length : Int) = ((rdOf ByteArray.empty A3 0).size : Int)
              ·rw [if_pos c31] at H
               have AM := beq_iff_eq.mpr c31
               have AN := bne_eq_false_iff_eq.mpr c31
               have AO : (Ac.length == (rdOf ByteArray.empty A3 0).size) = true := by first | simpa using c31 | (simp at c31 ⊢; omega)
               clear c31
               by_cases c32 : A6.length + Ac.length < 8796093022208
               ·rw [if_pos c32] at H
                have AG := Z.m c32
                clear c32
                obtain ⟨AB, Am⟩ : ∃ y_ : List (S62), y_ = (A6 ++ Ac) := ⟨_, rfl⟩
                replace H : (impl_ParseBoard.l0 k3 A3 (A3.length : Int) (wrap64 (A7 + 1)) (A3.length : Int) ((rdOf ByteArray.empty A3 0).size : Int) AB) = some (r1, r2, r3, r4) := by first | (rw [Am]; with_reducible exact H) | (have H2_ := (Option.bind_some _ _).symm.trans H; rw [Am]; with_reducible exact H2_) | (have H2_ := (Option.bind_some _ _).symm.trans H; with_reducible exact H2_) | with_reducible exact H | (rw [Am]; exact H) | exact H
                have AH := Z.m Am
                clear Am
                have H' := Z.m H
                clear H
                have p216 : 0 ≤ (A7 : Int) := ofD
                have q216 : A7 < (A3.length : Int) := ofD
                obtain ⟨Ak, e216, Ao⟩ := Kd.at_string (Kd.RrZ A9.o).2.2 A7 p216 q216
                obtain rfl : Aj = Ak := (by injection e216)
                replace p216 := eq_true p216
                replace q216 := eq_true q216
                go_wp2_with (first | ((with_reducible refine gc (f := 17) rfl ?_); refine gA (some 53) _ #[.string (rdOf ByteArray.empty A3 A7)] ?_ Tryd.func17; (with_reducible refine (impl_ReadCells.calls k3 (rdOf ByteArray.empty A3 A7) Ac true _ BY.o).mono ?_); rintro e CO ⟨AR, rfl, An, hb⟩; refine ⟨_, rfl, ?_⟩; have Ae := Z.m (Kd.R_lower (Kd.R_new' An (Kd.R_lt (vR A4))) (below_size (vB HB))); replace A9 := Z.m (Kd.Rb (vR A9) hb); replace A4 := Z.m (Kd.R_elder' (vR A4) (Kd.R_base An) hb); replace A0 := kB A0 hb; replace A1 := kB A1 hb; replace HB := bB HB hb; (try clear hb); (try clear Cd); (try clear hk); (try clear hi); (try clear An); obtain ⟨BZ, C4, C8⟩ := Kd.R_slice Ae.o; subst C8; have Cq := A8.o; have Cy := A5.o; have B5 := bc0 A1; have B7 := bc1 A1; have B8 := bc2 A1; have BD := qz A1.o 0; have BE := qz A1.o 1; have BF := qz A1.o 2) | ((with_reducible refine gu (b := .append) (xs := #[.tmp 67, .tmp 68]) rfl ?_); (try (refine gate_guard (by rfl) ?_; dsimp only)); at_builtin; refine Kd.R_append_rows k62 (w0 := w) w.heap.size rfl (.tmp 67) (.tmp 68) 22 62 (.agg #[(.int .i64 0), (.int .i64 0)]) 16 rfl Tryd.underlying22 info62 rfl (by decide) (by omega) u216002 A6 Ac _ _ _ (fun k_ => some k_ ≠ (.slice BZ Ac.length C4 : Value).ownBlock) (fun _ => False) rfl rfl ?aO ?aR (fun _ _ h => h) (fun _ h => h.elim) ?aF ?aB ?aS ?aL ?_; (case aR => repeat (first | exact (Kd.RrZ Ae.o).2.2 | (with_reducible refine Kd.C_alloc ?_ _) | (with_reducible refine Kd.C_drewN ?_ _) | (with_reducible refine Kd.C_drew ?_))); (case aB => exact (vB HB)); (case aF => exact (fun k_ hk => Kd.fresh' (Kd.R_lt (vR Ae)) k_ hk)); (case aO => exact (by refine rK ?_; exact Kd.Rm A4.o (fun _ hk => hk.2))); (case aS => exact (below_size (vB HB))); (case aL => have := AG.o; omega); intro CI CP ho hb hg hat; rw [← AH.o] at ho; have Ay := Z.m (ho); replace A9 := Z.m (Kd.Ro (vR A9) (Kd.Rt (vR A4)) (by decide) hg); replace A0 := Z.m (qg (g := Ad) (o := .cells #[.int .i64 Aa, .int .i64 Ab, .slice none 0 0] 24 (0, 0)) (vK A0) hg (Kd.R_ne A4.o A0.o (by decide))); replace A1 := Z.m (qg (g := Ar) (o := .cells #[.int .i64 (A3.length : Int), .int .i64 ((rdOf ByteArray.empty A3 0).size : Int), u216002] 24 (0, 0)) (vK A1) hg (Kd.R_ne A4.o A1.o (by decide))); replace Ae := Z.m (Kd.R_after (ok := (fun _ => True)) (vR Ae) hg hat); replace HB := Z.m (hb); clear A4; clear ho hb hg hat; obtain ⟨C0, C5, C9⟩ := Kd.R_slice Ay.o; subst C9; have B9 := bc0 A1; have Ba := bc1 A1; have Bb := bc2 A1; have BG := qz A1.o 0; have BH := qz A1.o 1; have BI := qz A1.o 2))
                go_roundg k3
                case measure => have := AS.o; have := AF.o; have := Ci.o; omega
                case rel => exact ⟨(wrap64 (A7 + 1)), (Aa), (Ab), (AB), (.slice C0 AB.length C5), (by first | rfl | (simp; done) | (simp [*]; done)), H', ⟨by have := AS.o; have := AF.o; have := Ci.o; omega⟩, ⟨by refine rK ?_; exact Kd.Rm (rf (Kd.Ry A9.o A1.o (by decide))) (fun _ hk => trivial)⟩, ⟨by refine rK ?_; exact Kd.Rm (rf (Kd.Ry Ay.o A1.o (by decide))) (fun _ hk => trivial)⟩, ⟨by refine bK ?_; refine qF ?_ A5; exact A0.o⟩, ⟨by refine bK ?_; refine qp (cs := #[iV (A3.length : Int), iV ((rdOf ByteArray.empty A3 0).size : Int), u216002]) ?_ 2 _ rfl; refine bK ?_; exact A1.o⟩, ⟨vB HB⟩⟩
               ·rw [if_neg c32] at H
                exact absurd H (by simp)
              ·rw [if_neg c31] at H
               have AM := beq_eq_false_iff_ne.mpr c31
               have AN := bne_iff_ne.mpr c31
               have AO : (Ac.length == (rdOf ByteArray.empty A3 0).size) = false := by first | simpa using c31 | (simp at c31 ⊢; omega)
               simp only [Option.some.injEq, Prod.mk.injEq] at H
               obtain ⟨rfl, rfl, rfl, rfl⟩ := H
               have p216 : 0 ≤ (A7 : Int) := ofD
               have q216 : A7 < (A3.length : Int) := ofD
               obtain ⟨Ak, e216, Ao⟩ := Kd.at_string (Kd.RrZ A9.o).2.2 A7 p216 q216
               obtain rfl : Aj = Ak := (by injection e216)
               replace p216 := eq_true p216
               replace q216 := eq_true q216
               go_wp2_with (first | ((with_reducible refine gc (f := 17) rfl ?_); refine gA (some 53) _ #[.string (rdOf ByteArray.empty A3 A7)] ?_ Tryd.func17; (with_reducible refine (impl_ReadCells.calls k3 (rdOf ByteArray.empty A3 A7) Ac true _ BY.o).mono ?_); rintro e CQ ⟨AR, rfl, An, hb⟩; refine ⟨_, rfl, ?_⟩; have Ae := Z.m (Kd.R_lower (Kd.R_new' An (Kd.R_lt (vR A4))) (below_size (vB HB))); replace A9 := Z.m (Kd.Rb (vR A9) hb); replace A4 := Z.m (Kd.R_elder' (vR A4) (Kd.R_base An) hb); replace A0 := kB A0 hb; replace A1 := kB A1 hb; replace HB := bB HB hb; (try clear hb); (try clear Cd); (try clear hk); (try clear hi); (try clear An); obtain ⟨CD, CE, Ca⟩ := Kd.R_slice Ae.o; subst Ca; have Cr := A8.o; have Cz := A5.o; have Bc := bc0 A1; have Bd := bc1 A1; have Be := bc2 A1; have BJ := qz A1.o 0; have BK := qz A1.o 1; have BL := qz A1.o 2; have Bf := bc0 A0; have Bg := bc1 A0; have Bh := bc2 A0; have BM := qz A0.o 0; have BN := qz A0.o 1; have BO := qz A0.o 2))
               refine bodyPost_ret (results_ct rfl _ _ Ad 24 #[.int .i64 0, .int .i64 0, .slice none 0 0] (0, 0) _ rfl (by refine bK ?_; apply st3; refine bK ?_; exact A0.o) Tryd.underlying24 rfl (by kernel_rfl)) rfl ?_
               exact ⟨_, by first | rfl | (simp [eN, eS] <;> rfl) | (simp [*, eN, eS] <;> rfl), by first | exact Kd.R_nil _ _ _ _ _ | exact Kd.N_nil _ _ _ _ _ | exact Kd.V_nil _ _ _ _ _ | exact Kd.Q_nil _ _ _ _ _ | exact Kd.S_nil _ _ _ _ _, vB HB⟩
             ·replace c30 := Bool.eq_false_iff.mpr c30
              subst c30
              have H1 : (some (0, 0, ([] : List (S62)), false)) = some (r1, r2, r3, r4) := by rw [if_neg (show ¬ (false = true) by decide)] at H; exact H
              clear H
              have H := H1
              clear H1
              simp only [Option.some.injEq, Prod.mk.injEq] at H
              obtain ⟨rfl, rfl, rfl, rfl⟩ := H
              have p216 : 0 ≤ (A7 : Int) := ofD
              have q216 : A7 < (A3.length : Int) := ofD
              obtain ⟨Ak, e216, Ao⟩ := Kd.at_string (Kd.RrZ A9.o).2.2 A7 p216 q216
              obtain rfl : Aj = Ak := (by injection e216)
              replace p216 := eq_true p216
              replace q216 := eq_true q216
              go_wp2_with (first | ((with_reducible refine gc (f := 17) rfl ?_); refine gA (some 53) _ #[.string (rdOf ByteArray.empty A3 A7)] ?_ Tryd.func17; (with_reducible refine (impl_ReadCells.calls k3 (rdOf ByteArray.empty A3 A7) Ac false _ BY.o).mono ?_); rintro e CR ⟨AR, rfl, An, hb⟩; refine ⟨_, rfl, ?_⟩; have Ae := Z.m (Kd.R_lower (Kd.R_new' An (Kd.R_lt (vR A4))) (below_size (vB HB))); replace A9 := Z.m (Kd.Rb (vR A9) hb); replace A4 := Z.m (Kd.R_elder' (vR A4) (Kd.R_base An) hb); replace A0 := kB A0 hb; replace A1 := kB A1 hb; replace HB := bB HB hb; (try clear hb); (try clear Cd); (try clear hk); (try clear hi); (try clear An); have Cs := A5.o; have CA := A8.o; have Bi := bc0 A0; have Bj := bc1 A0; have Bk := bc2 A0; have BP := qz A0.o 0; have BQ := qz A0.o 1; have BR := qz A0.o 2))
              refine bodyPost_ret (results_ct rfl _ _ Ad 24 #[.int .i64 0, .int .i64 0, .slice none 0 0] (0, 0) _ rfl (by refine bK ?_; apply st3; refine bK ?_; exact A0.o) Tryd.underlying24 rfl (by kernel_rfl)) rfl ?_
              exact ⟨_, by first | rfl | (simp [eN, eS] <;> rfl) | (simp [*, eN, eS] <;> rfl), by first | exact Kd.R_nil _ _ _ _ _ | exact Kd.N_nil _ _ _ _ _ | exact Kd.V_nil _ _ _ _ _ | exact Kd.Q_nil _ _ _ _ _ | exact Kd.S_nil _ _ _ _ _, vB HB⟩
            ·rw [if_neg c28] at H
             exact absurd H (by simp)
           ·rw [if_neg c27] at H
            exact absurd H (by simp)
          ·rw [if_neg c26] at H
           have AL := decide_eq_false c26
           clear c26
           simp only [Option.some.injEq, Prod.mk.injEq] at H
           obtain ⟨rfl, rfl, rfl, rfl⟩ := H
           have Ct := A8.o
           have CB := A5.o
           have Bl := bc0 A1
           have Bm := bc1 A1
           have Bn := bc2 A1
           have BS := qz A1.o 0
           have BT := qz A1.o 1
           have BU := qz A1.o 2
           have Bo := bc0 A0
           have Bp := bc1 A0
           have Bq := bc2 A0
           have BV := qz A0.o 0
           have BW := qz A0.o 1
           have BX := qz A0.o 2
           obtain ⟨C1, C6, Cb⟩ := Kd.R_slice A4.o
           subst Cb
           go_wp2
           refine bodyPost_ret (results_ct rfl _ _ Ad 24 #[.int .i64 (A3.length : Int), .int .i64 ((rdOf ByteArray.empty A3 0).size : Int), .slice C1 A6.length C6] (0, 0) _ rfl (by refine bK ?_; apply st3; refine bK ?_; exact A0.o) Tryd.underlying24 rfl (by kernel_rfl)) rfl ?_
           exact ⟨_, by first | rfl | (simp [eN, eS] <;> rfl) | (simp [*, eN, eS] <;> rfl), by refine rK ?_; exact Kd.Rm (rf (rf (rf (Kd.Ry A4.o A0.o (by decide))))) (fun _ hk => trivial), vB HB⟩
    ·rw [if_neg c12] at H
     exact absurd H (by simp)

/-! ### laws_eqCell: function 35 -/
def laws_eqCell.f (a0_0 : Int) (a0_1 : Int) (a1_0 : Int) (a1_1 : Int) : Option (Bool) := if a0_0 = a1_0 then (if a0_1 = a1_1 then (some true) else (some false)) else (some false)
set_option maxHeartbeats 8000000 in
set_option maxRecDepth 100000 in
theorem laws_eqCell.calls (a0_0 : Int) (a0_1 : Int) (a1_0 : Int) (a1_1 : Int) (r : Bool) (w : World) (h : laws_eqCell.f a0_0 a0_1 a1_0 a1_1 = some r) :
 Calls Tryd.prog 35 #[.agg #[.int .i64 a0_0, .int .i64 a0_1], .agg #[.int .i64 a1_0, .int .i64 a1_1]] w fun e w' => e = .returned (.bool r) ∧ Below w.heap.size w w' := by
 have AI := Tryd.underlying62
 have HB := Z.m (Below.refl w.heap.size w)
 have H : (if a0_0 = a1_0 then (if a0_1 = a1_1 then (some true) else (some false)) else (some false)) = some r := h
 clear h
 by_cases c3 : a0_0 = a1_0
 ·rw [if_pos c3] at H
  have Aq := beq_iff_eq.mpr c3
  have Ar := bne_eq_false_iff_eq.mpr c3
  clear c3
  by_cases c4 : a0_1 = a1_1
  ·rw [if_pos c4] at H
   have As := beq_iff_eq.mpr c4
   have At := bne_eq_false_iff_eq.mpr c4
   clear c4
   obtain rfl := Option.some.inj H
   go_enter Tryd.func35, Tryd.ntmps35
   go_wp2_with (first | ((with_reducible refine gq (N := 2) rfl ?_); refine be (N := 2) (cs := #[.int .i64 a0_0, .int .i64 a0_1]) (t := 62) ?_; intro A8 hg w5 hbox hb; have A0 := Z.m (hbox); have A4 := gW (w := w) HB hg; have A6 := A4; replace HB := bB HB hb; clear hb hbox hg) | ((with_reducible refine gq (N := 3) rfl ?_); refine be (N := 3) (cs := #[.int .i64 a1_0, .int .i64 a1_1]) (t := 62) ?_; intro A9 hg w6 hbox hb; have A1 := Z.m (hbox); have A5 := gW (w := w) HB hg; have A7 := A5; have A2 := neL A0 hg; have A3 := neG A0 hg; replace A0 := kB A0 hb; replace HB := bB HB hb; clear hb hbox hg; have AG := A2.o; have AH := A3.o; have Au := bc0 A0; have Av := bc1 A0; have Ay := qz A0.o 0; have Az := qz A0.o 1; have Aw := bc0 A1; have Ax := bc1 A1; have AA := qz A1.o 0; have AB := qz A1.o 1))
   go_ret
   exact ⟨by first | rfl | (simp [eN, eS] <;> rfl) | (simp [*, eN, eS] <;> rfl), vB HB⟩
  ·rw [if_neg c4] at H
   have As := beq_eq_false_iff_ne.mpr c4
   have At := bne_iff_ne.mpr c4
   obtain rfl := Option.some.inj H
   go_enter Tryd.func35, Tryd.ntmps35
   go_wp2_with (first | ((with_reducible refine gq (N := 2) rfl ?_); refine be (N := 2) (cs := #[.int .i64 a0_0, .int .i64 a0_1]) (t := 62) ?_; intro A8 hg AJ hbox hb; have A0 := Z.m (hbox); have A4 := gW (w := w) HB hg; have A6 := A4; replace HB := bB HB hb; clear hb hbox hg) | ((with_reducible refine gq (N := 3) rfl ?_); refine be (N := 3) (cs := #[.int .i64 a1_0, .int .i64 a1_1]) (t := 62) ?_; intro A9 hg AK hbox hb; have A1 := Z.m (hbox); have A5 := gW (w := w) HB hg; have A7 := A5; have A2 := neL A0 hg; have A3 := neG A0 hg; replace A0 := kB A0 hb; replace HB := bB HB hb; clear hb hbox hg; have AC := A2.o; have AE := A3.o; have Aa := bc0 A0; have Ab := bc1 A0; have Ai := qz A0.o 0; have Aj := qz A0.o 1; have Ac := bc0 A1; have Ad := bc1 A1; have Ak := qz A1.o 0; have Al := qz A1.o 1))
   go_ret
   exact ⟨by first | rfl | (simp [eN, eS] <;> rfl) | (simp [*, eN, eS] <;> rfl), vB HB⟩
 ·rw [if_neg c3] at H
  have Aq := beq_eq_false_iff_ne.mpr c3
  have Ar := bne_iff_ne.mpr c3
  obtain rfl := Option.some.inj H
  go_enter Tryd.func35, Tryd.ntmps35
  go_wp2_with (first | ((with_reducible refine gq (N := 2) rfl ?_); refine be (N := 2) (cs := #[.int .i64 a0_0, .int .i64 a0_1]) (t := 62) ?_; intro A8 hg AL hbox hb; have A0 := Z.m (hbox); have A4 := gW (w := w) HB hg; have A6 := A4; replace HB := bB HB hb; clear hb hbox hg) | ((with_reducible refine gq (N := 3) rfl ?_); refine be (N := 3) (cs := #[.int .i64 a1_0, .int .i64 a1_1]) (t := 62) ?_; intro A9 hg AM hbox hb; have A1 := Z.m (hbox); have A5 := gW (w := w) HB hg; have A7 := A5; have A2 := neL A0 hg; have A3 := neG A0 hg; replace A0 := kB A0 hb; replace HB := bB HB hb; clear hb hbox hg; have AD := A2.o; have AF := A3.o; have Ae := bc0 A0; have Af := bc1 A0; have Am := qz A0.o 0; have An := qz A0.o 1; have Ag := bc0 A1; have Ah := bc1 A1; have Ao := qz A1.o 0; have Ap := qz A1.o 1))
  go_ret
  exact ⟨by first | rfl | (simp [eN, eS] <;> rfl) | (simp [*, eN, eS] <;> rfl), vB HB⟩

/-! ### laws_eqCellS: function 18 -/
def laws_eqCellS.l0 : Nat → List (S62) → List (S62) → Int → Option (Bool)
 | 0, _, _, _ => none
 | k + 1, x0, x1, x5 => if x5 < (x0.length : Int) then (if 0 ≤ x5 then (if x5 < (x1.length : Int) then ((laws_eqCell.f ((rd_T62 x0 x5).f0) ((rd_T62 x0 x5).f1) ((rd_T62 x1 x5).f0) ((rd_T62 x1 x5).f1)).bind fun t228 => (if t228 = true then (laws_eqCellS.l0 k x0 x1 (wrap64 (x5 + 1))) else (some false))) else (none)) else (none)) else (some true)
def laws_eqCellS.f (k : Nat) (l0 : List (S62)) (l1 : List (S62)) : Option (Bool) := if (l0.length : Int) = (l1.length : Int) then (laws_eqCellS.l0 k l0 l1 0) else (some false)
def laws_eqCellS.T6 : Bool × List (List Nat × List Nat) := (true, [([], []), ([], []), ([0, 1], [0, 1]), ([2], [2]), ([], []), ([], []), ([4, 5], [4, 5]), ([6], [6]), ([3, 7], [3, 7]), ([8], [8])])
def laws_eqCellS.B6 : List Nat := [0, 0, 3, 7, 0, 0, 48, 112, 255, 511]
theorem laws_eqCellS.tab6 : rtab .any (opsOf Tryd.f18 6) = laws_eqCellS.T6 := by kernel_rfl
theorem laws_eqCellS.bits6 : waitsOk laws_eqCellS.T6.2 laws_eqCellS.B6 = true := by kernel_rfl
set_option maxHeartbeats 8000000 in
set_option maxRecDepth 100000 in
theorem laws_eqCellS.calls (k : Nat) (A0 : Option Addr) (c0 : Nat) (l0 : List (S62)) (A1 : Option Addr) (c1 : Nat) (l1 : List (S62)) (r : Bool) (w : World) (hr0 : Kd.C k62 w A0 l0.length l0) (hc0 : l0.length ≤ c0) (hr1 : Kd.C k62 w A1 l1.length l1) (hc1 : l1.length ≤ c1) (h : laws_eqCellS.f k l0 l1 = some r) :
 Calls Tryd.prog 18 #[.slice A0 l0.length c0, .slice A1 l1.length c1] w fun e w' => e = .returned (.bool r) ∧ Below w.heap.size w w' := by
 have Al := Tryd.underlying62
 have Ah := Z.m hr0
 have Am := Z.m hc0
 clear hr0 hc0
 have Ai := Z.m hr1
 have An := Z.m hc1
 clear hr1 hc1
 have HB := Z.m (Below.refl w.heap.size w)
 have H : (if (l0.length : Int) = (l1.length : Int) then (laws_eqCellS.l0 k l0 l1 0) else (some false)) = some r := h
 clear h
 by_cases c3 : (l0.length : Int) = (l1.length : Int)
 ·rw [if_pos c3] at H
  have Aa := beq_iff_eq.mpr c3
  have Ab := bne_eq_false_iff_eq.mpr c3
  have Ac : (l0.length == l1.length) = true := by first | simpa using c3 | (simp at c3 ⊢; omega)
  clear c3
  have H' := Z.m H
  clear H
  go_enter Tryd.func18, Tryd.ntmps18
  go_wp2
  go_loopg [5] k (fun kq v5 w' => ∃ (A2 : Int), v5 = .int .i64 A2 ∧ Z (laws_eqCellS.l0 kq l0 l1 A2 = some r) ∧ Z (kq ≤ k) ∧ Z (Below w.heap.size w w'))
  case atStart => exact ⟨(0), (by first | rfl | (simp; done) | (simp [*]; done)), H', ⟨Nat.le_refl _⟩, ⟨vB HB⟩⟩
  case round =>
   clear H'
   (try clear Aa); (try clear Ab); (try clear Ac)
   obtain ⟨A2, rfl, HA, Ag, HB⟩ := hrel
   cases gk with
   | zero => exact absurd HA.o (by simp [laws_eqCellS.l0])
   | succ k1 =>
    have H := HA.o
    clear HA
    simp only [laws_eqCellS.l0] at H
    by_cases c4 : A2 < (l0.length : Int)
    ·rw [if_pos c4] at H
     have Ae := decide_eq_true c4
     clear c4
     by_cases c5 : 0 ≤ A2
     ·rw [if_pos c5] at H
      have Aj := decide_eq_true c5
      clear c5
      by_cases c6 : A2 < (l1.length : Int)
      ·rw [if_pos c6] at H
       have Ak := decide_eq_true c6
       clear c6
       replace H := Option.bind_eq_some_iff.mp H
       obtain ⟨Ad, Af, H⟩ := H
       replace H : (if Ad = true then (laws_eqCellS.l0 k1 l0 l1 (wrap64 (A2 + 1))) else (some false)) = some r := H
       have A7 := Z.m Af
       clear Af
       by_cases c8 : Ad = true
       ·subst c8
        have H1 : (laws_eqCellS.l0 k1 l0 l1 (wrap64 (A2 + 1))) = some r := by rw [if_pos rfl] at H; exact H
        clear H
        have H := H1
        clear H1
        have H' := Z.m H
        clear H
        try go_wp2
        replace HB := Z.m (qd HB.o)
        have p226 : 0 ≤ (A2 : Int) := ofD
        have q226 : A2 < (l0.length : Int) := ofD
        obtain ⟨A8, e226, A3, A4⟩ := at_T62 Ah.o A2 p226 q226
        have hw226_1 := A4
        have hw226_0 := A3
        cases e226
        replace A3 := (HB.o.cell (World.block_lt_of_cell? w _ A3)).trans A3
        replace A4 := (HB.o.cell (World.block_lt_of_cell? w _ A4)).trans A4
        replace p226 := eq_true p226
        replace q226 := eq_true q226
        have p227 : 0 ≤ (A2 : Int) := ofD
        have q227 : A2 < (l1.length : Int) := ofD
        obtain ⟨A9, e227, A5, A6⟩ := at_T62 Ai.o A2 p227 q227
        have hw227_1 := A6
        have hw227_0 := A5
        cases e227
        replace A5 := (HB.o.cell (World.block_lt_of_cell? w _ A5)).trans A5
        replace A6 := (HB.o.cell (World.block_lt_of_cell? w _ A6)).trans A6
        replace p227 := eq_true p227
        replace q227 := eq_true q227
        refine start_ (n := 10) (S := fun w' => w'.cell? (A8.add ((A2).toNat * 2)) = some (.int .i64 ((rd_T62 l0 A2).f0)) ∧ w'.cell? ⟨(A8.add ((A2).toNat * 2)).block, (A8.add ((A2).toNat * 2)).off + 1, none⟩ = some (.int .i64 ((rd_T62 l0 A2).f1)) ∧ w'.cell? (A9.add ((A2).toNat * 2)) = some (.int .i64 ((rd_T62 l1 A2).f0)) ∧ w'.cell? ⟨(A9.add ((A2).toNat * 2)).block, (A9.add ((A2).toNat * 2)).off + 1, none⟩ = some (.int .i64 ((rd_T62 l1 A2).f1))) (ds := []) #[false, false, false, false, false, false, false, false, false, false] (by kernel_rfl) rfl rfl ⟨((HB.o.cell (World.block_lt_of_cell? w _ hw226_0)).trans hw226_0), ((HB.o.cell (World.block_lt_of_cell? w _ hw226_1)).trans hw226_1), ((HB.o.cell (World.block_lt_of_cell? w _ hw227_0)).trans hw227_0), ((HB.o.cell (World.block_lt_of_cell? w _ hw227_1)).trans hw227_1)⟩ (fun hHeld => ?_); refine with_tabW laws_eqCellS.tab6 laws_eqCellS.bits6 (fun HT_ HW_ => ?_)
        generalize wr.drew = w9 at HB A3 A4 A5 A6 hHeld ⊢
        refine pure_ (i := 0) (N := some 17) (v := ?_) (a' := ?_) #[true, false, false, false, false, false, false, false, false, false] rfl rfl (any_of HT_.o (by kernel_rfl)) (fun _ _ _ h => h) (Or.inl ⟨by rfl, ?_⟩) ?_ ?_
        rotate_left
        ·intro w'
         go_simp
         with_reducible rfl
        rotate_left
        ·simp only [Act.put, q1, q2, q3, i64_w, i32_w]
         rfl
        refine pure_ (i := 1) (N := some 18) (v := ?_) (a' := ?_) #[true, true, false, false, false, false, false, false, false, false] rfl rfl (any_of HT_.o (by kernel_rfl)) (fun _ _ _ h => h) (Or.inl ⟨by rfl, ?_⟩) ?_ ?_
        rotate_left
        ·intro w'
         go_simp
         with_reducible rfl
        rotate_left
        ·simp only [Act.put, q1, q2, q3, i64_w, i32_w]
         rfl
        refine pure_ (i := 2) (N := some 19) (v := ?_) (a' := ?_) #[true, true, true, false, false, false, false, false, false, false] rfl rfl (any_of HT_.o (by kernel_rfl)) (fun _ _ _ h => h) (Or.inl ⟨by rfl, ?_⟩) ?_ ?_
        rotate_left
        ·intro w'
         go_simp
         with_reducible rfl
        rotate_left
        ·simp only [Act.put, q1, q2, q3, i64_w, i32_w]
         rfl
        refine pure_ (i := 4) (N := some 21) (v := ?_) (a' := ?_) #[true, true, true, false, true, false, false, false, false, false] rfl rfl (any_of HT_.o (by kernel_rfl)) (fun _ _ _ h => h) (Or.inl ⟨by rfl, ?_⟩) ?_ ?_
        rotate_left
        ·intro w'
         go_simp
         with_reducible rfl
        rotate_left
        ·simp only [Act.put, q1, q2, q3, i64_w, i32_w]
         rfl
        refine pure_ (i := 5) (N := some 22) (v := ?_) (a' := ?_) #[true, true, true, false, true, true, false, false, false, false] rfl rfl (any_of HT_.o (by kernel_rfl)) (fun _ _ _ h => h) (Or.inl ⟨by rfl, ?_⟩) ?_ ?_
        rotate_left
        ·intro w'
         go_simp
         with_reducible rfl
        rotate_left
        ·simp only [Act.put, q1, q2, q3, i64_w, i32_w]
         rfl
        refine pure_ (i := 6) (N := some 23) (v := ?_) (a' := ?_) #[true, true, true, false, true, true, true, false, false, false] rfl rfl (any_of HT_.o (by kernel_rfl)) (fun _ _ _ h => h) (Or.inl ⟨by rfl, ?_⟩) ?_ ?_
        rotate_left
        ·intro w'
         go_simp
         with_reducible rfl
        rotate_left
        ·simp only [Act.put, q1, q2, q3, i64_w, i32_w]
         rfl
        refine take_ (i := 3) (N := some 20) (v := ?_) (a' := ?_) #[true, true, true, true, true, true, true, false, false, false] rfl rfl (take_ofW HT_.o HW_.o (by kernel_rfl)) (fun _ _ _ h => h) (Or.inl ⟨by rfl, ?_⟩) hHeld ?_ ?_
        rotate_left
        ·rintro w' ⟨s0, s1, s2, s3⟩
         go_simp
         with_reducible rfl
        rotate_left
        ·simp only [Act.put, q1, q2, q3, i64_w, i32_w]
         rfl
        refine take_ (i := 7) (N := some 24) (v := ?_) (a' := ?_) #[true, true, true, true, true, true, true, true, false, false] rfl rfl (take_ofW HT_.o HW_.o (by kernel_rfl)) (fun _ _ _ h => h) (Or.inl ⟨by rfl, ?_⟩) hHeld ?_ ?_
        rotate_left
        ·rintro w' ⟨s0, s1, s2, s3⟩
         go_simp
         with_reducible rfl
        rotate_left
        ·simp only [Act.put, q1, q2, q3, i64_w, i32_w]
         rfl
        refine one_ (i := 8) (N := some 25) #[true, true, true, true, true, true, true, true, true, false] rfl rfl (one_of HT_.o (by kernel_rfl)) (by decide) (fun K hK => ?_)
        refine goes_ Tryd.func35 (by kernel_rfl) rfl #[.agg #[.int .i64 ((rd_T62 l0 A2).f0), .int .i64 ((rd_T62 l0 A2).f1)], .agg #[.int .i64 ((rd_T62 l1 A2).f0), .int .i64 ((rd_T62 l1 A2).f1)]] (by rfl) rfl rfl (by (try simp only [List.map_toArray, List.map_cons, List.map_nil]); first | done | rfl | (simp only [List.length_drop, List.length_take]; rfl)) ?_
        with_reducible refine (laws_eqCell.calls ((rd_T62 l0 A2).f0) ((rd_T62 l0 A2).f1) ((rd_T62 l1 A2).f0) ((rd_T62 l1 A2).f1) true _ A7.o).mono ?_
        rintro e Ao ⟨rfl, hb⟩
        refine ⟨_, rfl, ?_⟩
        replace HB := bB HB hb
        (try clear hb)
        refine hK.out _ _ ⟨((HB.o.cell (World.block_lt_of_cell? w _ hw226_0)).trans hw226_0), ((HB.o.cell (World.block_lt_of_cell? w _ hw226_1)).trans hw226_1), ((HB.o.cell (World.block_lt_of_cell? w _ hw227_0)).trans hw227_0), ((HB.o.cell (World.block_lt_of_cell? w _ hw227_1)).trans hw227_1)⟩ (fun hHeld => ?_)
        clear hK K
        refine norm_ (a' := ?_) ?_ ?_
        rotate_left
        ·show Act.put _ (some 25) _ = _
         simp only [Act.put, q1, q2, q3, i64_w, i32_w]
         rfl
        refine pure_ (i := 9) (N := some 26) (v := ?_) (a' := ?_) #[true, true, true, true, true, true, true, true, true, true] rfl rfl (any_of HT_.o (by kernel_rfl)) (fun _ _ _ h => h) (Or.inl ⟨by rfl, ?_⟩) ?_ ?_
        rotate_left
        ·intro w'
         go_simp
         with_reducible rfl
        rotate_left
        ·simp only [Act.put, q1, q2, q3, i64_w, i32_w]
         rfl
        refine done_ (done_of HT_.o (by kernel_rfl)) ?_
        try go_wp2
        go_roundg k1
        case measure => have := Ag.o; omega
        case rel => exact ⟨(wrap64 (A2 + 1)), (by first | rfl | (simp; done) | (simp [*]; done)), H', ⟨by have := Ag.o; omega⟩, ⟨vB HB⟩⟩
       ·replace c8 := Bool.eq_false_iff.mpr c8
        subst c8
        have H1 : (some false) = some r := by rw [if_neg (show ¬ (false = true) by decide)] at H; exact H
        clear H
        have H := H1
        clear H1
        obtain rfl := Option.some.inj H
        try go_wp2
        replace HB := Z.m (qd HB.o)
        have p226 : 0 ≤ (A2 : Int) := ofD
        have q226 : A2 < (l0.length : Int) := ofD
        obtain ⟨A8, e226, A3, A4⟩ := at_T62 Ah.o A2 p226 q226
        have hw226_1 := A4
        have hw226_0 := A3
        cases e226
        replace A3 := (HB.o.cell (World.block_lt_of_cell? w _ A3)).trans A3
        replace A4 := (HB.o.cell (World.block_lt_of_cell? w _ A4)).trans A4
        replace p226 := eq_true p226
        replace q226 := eq_true q226
        have p227 : 0 ≤ (A2 : Int) := ofD
        have q227 : A2 < (l1.length : Int) := ofD
        obtain ⟨A9, e227, A5, A6⟩ := at_T62 Ai.o A2 p227 q227
        have hw227_1 := A6
        have hw227_0 := A5
        cases e227
        replace A5 := (HB.o.cell (World.block_lt_of_cell? w _ A5)).trans A5
        replace A6 := (HB.o.cell (World.block_lt_of_cell? w _ A6)).trans A6
        replace p227 := eq_true p227
        replace q227 := eq_true q227
        refine start_ (n := 10) (S := fun w' => w'.cell? (A8.add ((A2).toNat * 2)) = some (.int .i64 ((rd_T62 l0 A2).f0)) ∧ w'.cell? ⟨(A8.add ((A2).toNat * 2)).block, (A8.add ((A2).toNat * 2)).off + 1, none⟩ = some (.int .i64 ((rd_T62 l0 A2).f1)) ∧ w'.cell? (A9.add ((A2).toNat * 2)) = some (.int .i64 ((rd_T62 l1 A2).f0)) ∧ w'.cell? ⟨(A9.add ((A2).toNat * 2)).block, (A9.add ((A2).toNat * 2)).off + 1, none⟩ = some (.int .i64 ((rd_T62 l1 A2).f1))) (ds := []) #[false, false, false, false, false, false, false, false, false, false] (by kernel_rfl) rfl rfl ⟨((HB.o.cell (World.block_lt_of_cell? w _ hw226_0)).trans hw226_0), ((HB.o.cell (World.block_lt_of_cell? w _ hw226_1)).trans hw226_1), ((HB.o.cell (World.block_lt_of_cell? w _ hw227_0)).trans hw227_0), ((HB.o.cell (World.block_lt_of_cell? w _ hw227_1)).trans hw227_1)⟩ (fun hHeld => ?_); refine with_tabW laws_eqCellS.tab6 laws_eqCellS.bits6 (fun HT_ HW_ => ?_)
        generalize wr.drew = Ap at HB A3 A4 A5 A6 hHeld ⊢
        refine pure_ (i := 0) (N := some 17) (v := ?_) (a' := ?_) #[true, false, false, false, false, false, false, false, false, false] rfl rfl (any_of HT_.o (by kernel_rfl)) (fun _ _ _ h => h) (Or.inl ⟨by rfl, ?_⟩) ?_ ?_
        rotate_left
        ·intro w'
         go_simp
         with_reducible rfl
        rotate_left
        ·simp only [Act.put, q1, q2, q3, i64_w, i32_w]
         rfl
        refine pure_ (i := 1) (N := some 18) (v := ?_) (a' := ?_) #[true, true, false, false, false, false, false, false, false, false] rfl rfl (any_of HT_.o (by kernel_rfl)) (fun _ _ _ h => h) (Or.inl ⟨by rfl, ?_⟩) ?_ ?_
        rotate_left
        ·intro w'
         go_simp
         with_reducible rfl
        rotate_left
        ·simp only [Act.put, q1, q2, q3, i64_w, i32_w]
         rfl
        refine pure_ (i := 2) (N := some 19) (v := ?_) (a' := ?_) #[true, true, true, false, false, false, false, false, false, false] rfl rfl (any_of HT_.o (by kernel_rfl)) (fun _ _ _ h => h) (Or.inl ⟨by rfl, ?_⟩) ?_ ?_
        rotate_left
        ·intro w'
         go_simp
         with_reducible rfl
        rotate_left
        ·simp only [Act.put, q1, q2, q3, i64_w, i32_w]
         rfl
        refine pure_ (i := 4) (N := some 21) (v := ?_) (a' := ?_) #[true, true, true, false, true, false, false, false, false, false] rfl rfl (any_of HT_.o (by kernel_rfl)) (fun _ _ _ h => h) (Or.inl ⟨by rfl, ?_⟩) ?_ ?_
        rotate_left
        ·intro w'
         go_simp
         with_reducible rfl
        rotate_left
        ·simp only [Act.put, q1, q2, q3, i64_w, i32_w]
         rfl
        refine pure_ (i := 5) (N := some 22) (v := ?_) (a' := ?_) #[true, true, true, false, true, true, false, false, false, false] rfl rfl (any_of HT_.o (by kernel_rfl)) (fun _ _ _ h => h) (Or.inl ⟨by rfl, ?_⟩) ?_ ?_
        rotate_left
        ·intro w'
         go_simp
         with_reducible rfl
        rotate_left
        ·simp only [Act.put, q1, q2, q3, i64_w, i32_w]
         rfl
        refine pure_ (i := 6) (N := some 23) (v := ?_) (a' := ?_) #[true, true, true, false, true, true, true, false, false, false] rfl rfl (any_of HT_.o (by kernel_rfl)) (fun _ _ _ h => h) (Or.inl ⟨by rfl, ?_⟩) ?_ ?_
        rotate_left
        ·intro w'
         go_simp
         with_reducible rfl
        rotate_left
        ·simp only [Act.put, q1, q2, q3, i64_w, i32_w]
         rfl
        refine take_ (i := 3) (N := some 20) (v := ?_) (a' := ?_) #[true, true, true, true, true, true, true, false, false, false] rfl rfl (take_ofW HT_.o HW_.o (by kernel_rfl)) (fun _ _ _ h => h) (Or.inl ⟨by rfl, ?_⟩) hHeld ?_ ?_
        rotate_left
        ·rintro w' ⟨s0, s1, s2, s3⟩
         go_simp
         with_reducible rfl
        rotate_left
        ·simp only [Act.put, q1, q2, q3, i64_w, i32_w]
         rfl
        refine take_ (i := 7) (N := some 24) (v := ?_) (a' := ?_) #[true, true, true, true, true, true, true, true, false, false] rfl rfl (take_ofW HT_.o HW_.o (by kernel_rfl)) (fun _ _ _ h => h) (Or.inl ⟨by rfl, ?_⟩) hHeld ?_ ?_
        rotate_left
        ·rintro w' ⟨s0, s1, s2, s3⟩
         go_simp
         with_reducible rfl
        rotate_left
        ·simp only [Act.put, q1, q2, q3, i64_w, i32_w]
         rfl
        refine one_ (i := 8) (N := some 25) #[true, true, true, true, true, true, true, true, true, false] rfl rfl (one_of HT_.o (by kernel_rfl)) (by decide) (fun K hK => ?_)
        refine goes_ Tryd.func35 (by kernel_rfl) rfl #[.agg #[.int .i64 ((rd_T62 l0 A2).f0), .int .i64 ((rd_T62 l0 A2).f1)], .agg #[.int .i64 ((rd_T62 l1 A2).f0), .int .i64 ((rd_T62 l1 A2).f1)]] (by rfl) rfl rfl (by (try simp only [List.map_toArray, List.map_cons, List.map_nil]); first | done | rfl | (simp only [List.length_drop, List.length_take]; rfl)) ?_
        with_reducible refine (laws_eqCell.calls ((rd_T62 l0 A2).f0) ((rd_T62 l0 A2).f1) ((rd_T62 l1 A2).f0) ((rd_T62 l1 A2).f1) false _ A7.o).mono ?_
        rintro e Aq ⟨rfl, hb⟩
        refine ⟨_, rfl, ?_⟩
        replace HB := bB HB hb
        (try clear hb)
        refine hK.out _ _ ⟨((HB.o.cell (World.block_lt_of_cell? w _ hw226_0)).trans hw226_0), ((HB.o.cell (World.block_lt_of_cell? w _ hw226_1)).trans hw226_1), ((HB.o.cell (World.block_lt_of_cell? w _ hw227_0)).trans hw227_0), ((HB.o.cell (World.block_lt_of_cell? w _ hw227_1)).trans hw227_1)⟩ (fun hHeld => ?_)
        clear hK K
        refine norm_ (a' := ?_) ?_ ?_
        rotate_left
        ·show Act.put _ (some 25) _ = _
         simp only [Act.put, q1, q2, q3, i64_w, i32_w]
         rfl
        refine pure_ (i := 9) (N := some 26) (v := ?_) (a' := ?_) #[true, true, true, true, true, true, true, true, true, true] rfl rfl (any_of HT_.o (by kernel_rfl)) (fun _ _ _ h => h) (Or.inl ⟨by rfl, ?_⟩) ?_ ?_
        rotate_left
        ·intro w'
         go_simp
         with_reducible rfl
        rotate_left
        ·simp only [Act.put, q1, q2, q3, i64_w, i32_w]
         rfl
        refine done_ (done_of HT_.o (by kernel_rfl)) ?_
        try go_wp2
        go_ret
        exact ⟨by first | rfl | (simp [eN, eS] <;> rfl) | (simp [*, eN, eS] <;> rfl), vB HB⟩
      ·rw [if_neg c6] at H
       exact absurd H (by simp)
     ·rw [if_neg c5] at H
      exact absurd H (by simp)
    ·rw [if_neg c4] at H
     have Ae := decide_eq_false c4
     clear c4
     obtain rfl := Option.some.inj H
     go_wp2
     go_ret
     exact ⟨by first | rfl | (simp [eN, eS] <;> rfl) | (simp [*, eN, eS] <;> rfl), vB HB⟩
 ·rw [if_neg c3] at H
  have Aa := beq_eq_false_iff_ne.mpr c3
  have Ab := bne_iff_ne.mpr c3
  have Ac : (l0.length == l1.length) = false := by first | simpa using c3 | (simp at c3 ⊢; omega)
  obtain rfl := Option.some.inj H
  go_enter Tryd.func18, Tryd.ntmps18
  go_wp2
  go_ret
  exact ⟨by first | rfl | (simp [eN, eS] <;> rfl) | (simp [*, eN, eS] <;> rfl), vB HB⟩

end Go.Proofs.YtklmdnlambinaaaDoor.PAll
