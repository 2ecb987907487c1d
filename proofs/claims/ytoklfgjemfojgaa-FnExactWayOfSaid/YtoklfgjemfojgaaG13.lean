/- Began as a text that print.sh wrote (of the functions named below); turned and shortened by this session. -/
import Derived.Test.YtoklfgjemfojgaaG0
import Derived.Test.YtoklfgjemfojgaaG12
namespace Go.Proofs.Ytoklfgjemfojgaa.PAll
open Go.RowKit Go.Proofs.YtoklfgjemfojgaaW.PrintWords Go.Proofs.YtoklfgjemfojgaaW.PrintLast Go.Proofs.YtoklfgjemfojgaaW.PrintMore
attribute [local go_sem] max2_int min2_int max_two min_two max_three min_three max_four min_four   -- for this text's walks alone
set_option linter.unusedVariables false
set_option linter.unusedSimpArgs false

/-! ### impl_groupNumbers: function 56 -/
mutual
def impl_groupNumbers.l0 : Nat → List Int → Int → Int → Int → Int → List (S89) → Option (List Int)
 | 0, _, _, _, _, _, _ => none
 | k + 1, x3, x17, x18, x312000, x312001, x312002 => if x18 < x17 then (if 0 ≤ x18 then (if x18 < (x3.length : Int) then (impl_groupNumbers.l0 k (x3.set (x18 : Int).toNat (-1)) x17 (wrap64 (x18 + 1)) x312000 x312001 x312002) else (none)) else (none)) else (impl_groupNumbers.l1 k x3 0 x312002 (x312002.length : Int) 0 x312000 x312001 x312002)
def impl_groupNumbers.l1 : Nat → List Int → Int → List (S89) → Int → Int → Int → Int → List (S89) → Option (List Int)
 | 0, _, _, _, _, _, _, _, _ => none
 | k + 1, x3, x5, x26, x27, x28, x312000, x312001, x312002 => if x28 < x27 then (if 0 ≤ x28 then (if x28 < (x26.length : Int) then ((impl_isGeared.f ((rd_T89 x26 x28).f0) ((rd_T89 x26 x28).f1)).bind fun t318 => (if t318 = true then (if x28 < (x3.length : Int) then (impl_groupNumbers.j2 k x3 x5 x28 x26 x27 x28 (decide ((rd x3 x28) ≥ 0)) x312000 x312001 x312002) else (none)) else (impl_groupNumbers.j2 k x3 x5 x28 x26 x27 x28 true x312000 x312001 x312002))) else (none)) else (none)) else (some x3)
def impl_groupNumbers.j2 : Nat → List Int → Int → Int → List (S89) → Int → Int → Bool → Int → Int → List (S89) → Option (List Int)
 | 0, _, _, _, _, _, _, _, _, _, _ => none
 | k + 1, x3, x5, x6, x26, x27, x28, x42, x312000, x312001, x312002 => if x42 = true then (impl_groupNumbers.l1 k x3 x5 x26 x27 (wrap64 (x28 + 1)) x312000 x312001 x312002) else (if 0 ≤ x6 then (if x6 < (x3.length : Int) then (impl_groupNumbers.l2 k (x3.set (x6 : Int).toNat x5) x5 (([x6] : List Int)) x26 x27 x28 x312000 x312001 x312002) else (none)) else (none))
def impl_groupNumbers.l2 : Nat → List Int → Int → List Int → List (S89) → Int → Int → Int → Int → List (S89) → Option (List Int)
 | 0, _, _, _, _, _, _, _, _, _ => none
 | k + 1, x3, x5, x8, x26, x27, x28, x312000, x312001, x312002 => if (x8.length : Int) > 0 then (if 0 < (x8.length : Int) then (if 1 ≤ (x8.length : Int) then ((impl_besideOf.f k x312000 x312001 x312002 (rd x8 0)).bind fun t328 => (impl_groupNumbers.l3 k x3 x5 (x8.drop (1 : Int).toNat) x26 x27 x28 t328 (t328.length : Int) 0 x312000 x312001 x312002)) else (none)) else (none)) else (impl_groupNumbers.l1 k x3 (wrap64 (x5 + 1)) x26 x27 (wrap64 (x28 + 1)) x312000 x312001 x312002)
def impl_groupNumbers.l3 : Nat → List Int → Int → List Int → List (S89) → Int → Int → List Int → Int → Int → Int → Int → List (S89) → Option (List Int)
 | 0, _, _, _, _, _, _, _, _, _, _, _, _ => none
 | k + 1, x3, x5, x8, x26, x27, x28, x59, x60, x61, x312000, x312001, x312002 => if x61 < x60 then (if 0 ≤ x61 then (if x61 < (x59.length : Int) then (if 0 ≤ (rd x59 x61) then (if (rd x59 x61) < (x312002.length : Int) then ((impl_isGeared.f ((rd_T89 x312002 (rd x59 x61)).f0) ((rd_T89 x312002 (rd x59 x61)).f1)).bind fun t333 => (if t333 = true then (if (rd x59 x61) < (x3.length : Int) then (if (rd x3 (rd x59 x61)) < 0 then (if x8.length < 17592186044416 then (impl_groupNumbers.l3 k (x3.set ((rd x59 x61) : Int).toNat x5) x5 (x8 ++ [rd x59 x61]) x26 x27 x28 x59 x60 (wrap64 (x61 + 1)) x312000 x312001 x312002) else (none)) else (impl_groupNumbers.l3 k x3 x5 x8 x26 x27 x28 x59 x60 (wrap64 (x61 + 1)) x312000 x312001 x312002)) else (none)) else (impl_groupNumbers.l3 k x3 x5 x8 x26 x27 x28 x59 x60 (wrap64 (x61 + 1)) x312000 x312001 x312002))) else (none)) else (none)) else (none)) else (none)) else (impl_groupNumbers.l2 k x3 x5 x8 x26 x27 x28 x312000 x312001 x312002)
end
def impl_groupNumbers.f (k : Nat) (a0_0 : Int) (a0_1 : Int) (l0_2 : List (S89)) : Option (List Int) := if 0 ≤ (l0_2.length : Int) then (if ((l0_2.length : Int) : Int).toNat ≤ 35184372088832 then ((some (List.replicate ((l0_2.length : Int) : Int).toNat 0 : List Int)).bind fun y312 => (impl_groupNumbers.l0 k y312 (y312.length : Int) 0 a0_0 a0_1 l0_2)) else (none)) else (none)
set_option maxHeartbeats 8000000 in
set_option maxRecDepth 100000 in
theorem impl_groupNumbers.calls (k : Nat) (a0_0 : Int) (a0_1 : Int) (A0_2 : Option Addr) (c0_2 : Nat) (l0_2 : List (S89)) (r : List Int) (w : World) (hr0_2 : Kd.C k89 w A0_2 l0_2.length l0_2) (hc0_2 : l0_2.length ≤ c0_2) (h : impl_groupNumbers.f k a0_0 a0_1 l0_2 = some r) :
 Calls Try.prog 56 #[.agg #[.int .i64 a0_0, .int .i64 a0_1, .slice A0_2 l0_2.length c0_2]] w fun e w' => ∃ v0_ : Value, e = .returned (v0_) ∧ Kd.R (Kd.int .i64) 3 w' w.heap.size (fun _ => True) v0_ r ∧ Below w.heap.size w w' := by
 have DI := Try.underlying32
 have DJ := Try.underlying89
 have AF := Z.m hr0_2
 have BU := Z.m hc0_2
 clear hr0_2 hc0_2
 have HB := Z.m (Below.refl w.heap.size w)
 have H : (if 0 ≤ (l0_2.length : Int) then (if ((l0_2.length : Int) : Int).toNat ≤ 35184372088832 then ((some (List.replicate ((l0_2.length : Int) : Int).toNat 0 : List Int)).bind fun Aw => (impl_groupNumbers.l0 k Aw (Aw.length : Int) 0 a0_0 a0_1 l0_2)) else (none)) else (none)) = some r := h
 clear h
 by_cases c2 : 0 ≤ (l0_2.length : Int)
 ·rw [if_pos c2] at H
  have CU := eq_true c2
  have CV := decide_eq_true c2
  clear c2
  by_cases c3 : ((l0_2.length : Int) : Int).toNat ≤ 35184372088832
  ·rw [if_pos c3] at H
   have CW := eq_true c3
   have CX := decide_eq_true c3
   clear c3
   obtain ⟨Aw, AK⟩ : ∃ y_ : List Int, y_ = (List.replicate ((l0_2.length : Int) : Int).toNat 0) := ⟨_, rfl⟩
   replace H : (impl_groupNumbers.l0 k Aw (Aw.length : Int) 0 a0_0 a0_1 l0_2) = some r := by first | (rw [AK]; with_reducible exact H) | (have H2_ := (Option.bind_some _ _).symm.trans H; rw [AK]; with_reducible exact H2_) | (have H2_ := (Option.bind_some _ _).symm.trans H; with_reducible exact H2_) | with_reducible exact H | (rw [AK]; exact H) | exact H
   have Bu := Z.m AK
   clear AK
   have H' := Z.m H
   clear H
   go_enter Try.func56, Try.ntmps56
   go_wp2_with (first | ((with_reducible refine gq (N := 1) rfl ?_); refine be (N := 1) (cs := #[.int .i64 a0_0, .int .i64 a0_1, .slice A0_2 l0_2.length c0_2]) (t := 32) ?_; intro Aq hg w4 hbox hb; have A0 := Z.m (hbox); have BS := gW (w := w) HB hg; have Da := BS; replace HB := bB HB hb; clear hb hbox hg; have BF := bc0 A0; have BG := bc1 A0; have BH := bc2 A0; have BI := qz A0.o 0; have BJ := qz A0.o 1; have BK := qz A0.o 2) | ((with_reducible refine gq (N := 15) rfl ?_); refine Kd.R_make (Kd.int .i64) _ 3 rfl (N := 15) rfl 43 _ _ rfl (l0_2.length : Int) rfl rfl Try.underlying43 (.int .i64 0) 8 info3 rfl (by decide) (by omega) 0 (ok := fun _ => True) (okp := fun _ => True) rfl (fun _ hk => hk) trivial (ofD) (Nat.le_trans (Nat.mul_le_mul_right _ (ofD : (l0_2.length : Int).toNat ≤ 35184372088832)) (by omega)) (Below.refl _ _) (Nat.le_refl _) ?_; intro DK w6 Ci hb hg_ hnew_; clear hg_ hnew_; (first | rw [← Bu.o] at Ci | (simp only [Int.reduceToNat] at Ci; rw [← Bu.o] at Ci)); have Bs := Z.m (Kd.R_lower Ci (below_size (vB HB))); replace A0 := kB A0 hb; replace HB := bB HB hb; clear hb Ci; obtain ⟨CS, AE, DH⟩ := Kd.R_slice Bs.o; subst DH))
   go_loopg [18] k (fun kq v18 w' => ∃ (AC : List Int) (Ak : Int), v18 = .int .i64 Ak ∧ Z (impl_groupNumbers.l0 kq AC (Aw.length : Int) Ak a0_0 a0_1 l0_2 = some r) ∧ Z (kq ≤ k) ∧ Z (Kd.R (Kd.int .i64) 3 w' w.heap.size (fun _ => True) (.slice CS Aw.length AE) AC) ∧ Z (w'.heap[Aq]? = some (.cells #[.int .i64 a0_0, .int .i64 a0_1, (.slice A0_2 l0_2.length c0_2)] 32 (0, 0))) ∧ Z (Below w.heap.size w w'))
   case atStart => exact ⟨(Aw), (0), (by first | rfl | (simp; done) | (simp [*]; done)), H', ⟨Nat.le_refl _⟩, ⟨vR Bs⟩, ⟨vK A0⟩, ⟨vB HB⟩⟩
   case round =>
    clear H'
    (try clear CU); (try clear CV); (try clear CW); (try clear CX)
    (try clear BF); (try clear BG); (try clear BH); (try clear BI); (try clear BJ); (try clear BK)
    obtain ⟨AC, Ak, rfl, HA, AS, A8, A0, HB⟩ := hrel
    have A5 := (Kd.RrZ A8.o).1
    rw [A5] at A8
    (try simp only [A5])
    (try simp only [A5] at A0)
    cases gk with
    | zero => exact absurd HA.o (by simp [impl_groupNumbers.l0])
    | succ k1 =>
     have H := HA.o
     clear HA
     simp only [impl_groupNumbers.l0] at H
     by_cases c9 : Ak < (Aw.length : Int)
     ·rw [if_pos c9] at H
      have BD := decide_eq_true c9
      clear c9
      by_cases c10 : 0 ≤ Ak
      ·rw [if_pos c10] at H
       have Dd := decide_eq_true c10
       clear c10
       by_cases c11 : Ak < (AC.length : Int)
       ·rw [if_pos c11] at H
        have De := decide_eq_true c11
        clear c11
        obtain ⟨BN, AL⟩ : ∃ y_ : List Int, y_ = (AC.set (Ak : Int).toNat (-1)) := ⟨_, rfl⟩
        replace H : (impl_groupNumbers.l0 k1 BN (Aw.length : Int) (wrap64 (Ak + 1)) a0_0 a0_1 l0_2) = some r := by first | (rw [AL]; with_reducible exact H) | (have H2_ := (Option.bind_some _ _).symm.trans H; rw [AL]; with_reducible exact H2_) | (have H2_ := (Option.bind_some _ _).symm.trans H; with_reducible exact H2_) | with_reducible exact H | (rw [AL]; exact H) | exact H
        have C0 := Z.m AL
        clear AL
        have H' := Z.m H
        clear H
        have p12 : 0 ≤ (Ak : Int) := ofD
        have q12 : (Ak : Int) < ((AC.length : Int) : Int) := ofD
        obtain ⟨BE, DE, Cd, Cf, gl12, cl12, BV⟩ := Kd.R_form A8.o (by omega)
        (first | cases Cd | (injection Cd with ea_ en_ ec_; (first | subst ea_ | (injection ea_ with ea_; subst ea_)); subst ec_; clear en_))
        have CT := Z.m Cf
        have DC := Z.m BV
        clear Cf gl12 BV
        obtain ⟨D4, D1⟩ := Kd.R_celln 0 A8.o (Ak : Int) p12 q12
        replace p12 := eq_true p12
        replace q12 := eq_true q12
        have BA := Kd.R_putg A8.o (Ak : Int) (-1)
        go_wp2_with (first | ((with_reducible refine gt (t := 3) (p := 23) rfl ?_); refine store_event (t := 3) (p := 23) (v := ?vo_w14) (w1 := (wr.setCell ⟨BE, (Ak : Int).toNat, none⟩ (.int .i64 (-1)))) ?hg ?ho ?hn ?hr ?_; (case ho => rfl); (case hg => rfl); (case hn => rfl); (case hr => first | (go_simp; done) | (go_simp; rfl)); intro D6 hw; have hg : wr.grownBy D6 (some BE) := (by rw [hw]; exact BA.2); have hp_ : Kd.R (Kd.int .i64) 3 D6 w.heap.size (fun _ => True) (.slice (some ⟨BE, 0, none⟩) AC.length AE) BN := (by rw [hw, C0.o]; exact BA.1); clear BA; replace A0 := Z.m (qg (g := Aq) (o := .cells #[.int .i64 a0_0, .int .i64 a0_1, .slice A0_2 l0_2.length c0_2] 32 (0, 0)) (vK A0) hg (Kd.R_ne A8.o A0.o (by decide))); replace A8 := Z.m (hp_); replace HB := Z.m ((by rw [hw]; exact qx (HB.o) CT.o : Below w.heap.size w D6)); clear hg hw hp_))
        (try simp only [← A5])
        go_roundg k1
        case measure => have := AS.o; omega
        case rel => exact ⟨(BN), (wrap64 (Ak + 1)), (by first | rfl | (simp; done) | (simp [*]; done)), H', ⟨by have := AS.o; omega⟩, ⟨by (try simp only [A5]); refine rK ?_; exact A8.o⟩, ⟨by (try simp only [A5]); refine bK ?_; exact A0.o⟩, ⟨vB HB⟩⟩
       ·rw [if_neg c11] at H
        exact absurd H (by simp)
      ·rw [if_neg c10] at H
       exact absurd H (by simp)
     ·rw [if_neg c9] at H
      have BD := decide_eq_false c9
      (try simp only [A5] at BD)
      clear c9
      have H' := Z.m H
      clear H
      have B7 := bc0 A0
      have Ba := bc1 A0
      have Bb := bc2 A0
      have Bh := qz A0.o 0
      have Bi := qz A0.o 1
      have Bj := qz A0.o 2
      go_wp2
      go_loopg [5, 28] k1 (fun kq v5 v28 w' => ∃ (Ai : List Int) (Ab : Int) (A2 : Int), v5 = .int .i64 Ab ∧ v28 = .int .i64 A2 ∧ Z (impl_groupNumbers.l1 kq Ai Ab l0_2 (l0_2.length : Int) A2 a0_0 a0_1 l0_2 = some r) ∧ Z (kq ≤ k1) ∧ Z (Kd.R (Kd.int .i64) 3 w' w.heap.size (fun _ => True) (.slice CS AC.length AE) Ai) ∧ Z (w'.heap[Aq]? = some (.cells #[.int .i64 a0_0, .int .i64 a0_1, (.slice A0_2 l0_2.length c0_2)] 32 (0, 0))) ∧ Z (Below w.heap.size w w'))
      case atStart => exact ⟨(AC), (0), (0), (by first | rfl | (simp; done) | (simp [*]; done)), (by first | rfl | (simp; done) | (simp [*]; done)), H', ⟨Nat.le_refl _⟩, ⟨by (try simp only [A5]); refine rK ?_; exact A8.o⟩, ⟨by (try simp only [A5]); refine bK ?_; exact A0.o⟩, ⟨vB HB⟩⟩
      case round =>
       clear H'
       (try clear BD)
       (try clear B7); (try clear Ba); (try clear Bb); (try clear Bh); (try clear Bi); (try clear Bj)
       obtain ⟨Ai, Ab, A2, rfl, rfl, HA, AU, A8, A0, HB⟩ := hrel
       have A7 := (Kd.RrZ A8.o).1
       rw [A7] at A8
       (try simp only [A7])
       (try simp only [A7] at A0)
       cases gk with
       | zero => exact absurd HA.o (by simp [impl_groupNumbers.l1])
       | succ k2 =>
        have H := HA.o
        clear HA
        simp only [impl_groupNumbers.l1] at H
        by_cases c16 : A2 < (l0_2.length : Int)
        ·rw [if_pos c16] at H
         have Ay := decide_eq_true c16
         clear c16
         by_cases c17 : 0 ≤ A2
         ·rw [if_pos c17] at H
          have C4 := decide_eq_true c17
          clear c17
          by_cases c18 : A2 < (l0_2.length : Int)
          ·rw [if_pos c18] at H
           have C5 := decide_eq_true c18
           clear c18
           have Bz := Z.m H
           clear H
           have p316 : 0 ≤ (A2 : Int) := ofD
           have q316 : A2 < (l0_2.length : Int) := ofD
           obtain ⟨Ap, e316, At, Au⟩ := at_T89 AF.o A2 p316 q316
           cases e316
           replace At := (HB.o.cell (World.block_lt_of_cell? w _ At)).trans At
           replace Au := (HB.o.cell (World.block_lt_of_cell? w _ Au)).trans Au
           replace p316 := eq_true p316
           replace q316 := eq_true q316
           go_upto_region 11 with (first | ((with_reducible refine gq (N := 7) rfl ?_); refine be (N := 7) (cs := #[.int .i64 0, .int .i64 0]) (t := 89) ?_; intro Ar hg DO hbox hb; have A6 := Z.m (hbox); have BT := gW (w := w) HB hg; have Db := BT; have Ac := neL A0 hg; have Ah := neG A0 hg; replace A8 := Z.m (Kd.Rb (vR A8) hb); replace A0 := kB A0 hb; replace HB := bB HB hb; clear hb hbox hg; have Dk := Ah.o; have Dr := Ac.o; have Bc := bc0 A6; have Bd := bc1 A6; have Bk := qz A6.o 0; have Bl := qz A6.o 1))
           (try simp only [Act.put, q1, q2, q3])
           go_cut [42] (fun v42 wc => ∃ (kq : Nat) (AD : Bool), v42 = .bool AD ∧ Z (impl_groupNumbers.j2 kq Ai Ab A2 l0_2 (l0_2.length : Int) A2 AD a0_0 a0_1 l0_2 = some r) ∧ Z (kq ≤ k2) ∧ Z (Kd.R (Kd.int .i64) 3 wc w.heap.size (fun _ => True) (.slice CS Ai.length AE) Ai) ∧ Z (wc.heap[Aq]? = some (.cells #[.int .i64 a0_0, .int .i64 a0_1, (.slice (some Ap) l0_2.length c0_2)] 32 (0, 0))) ∧ Z (wc.heap[Ar]? = some (.cells #[.int .i64 ((rd_T89 l0_2 A2).f0), .int .i64 ((rd_T89 l0_2 A2).f1)] 89 (0, 0))) ∧ Z (Below w.heap.size w wc))
           case first =>
            have H := Bz.o
            clear Bz
            replace H := Option.bind_eq_some_iff.mp H
            obtain ⟨Cj, BO, H⟩ := H
            replace H : (if Cj = true then (if A2 < (Ai.length : Int) then (impl_groupNumbers.j2 k2 Ai Ab A2 l0_2 (l0_2.length : Int) A2 (decide ((rd Ai A2) ≥ 0)) a0_0 a0_1 l0_2) else (none)) else (impl_groupNumbers.j2 k2 Ai Ab A2 l0_2 (l0_2.length : Int) A2 true a0_0 a0_1 l0_2)) = some r := H
            have D9 := Z.m BO
            clear BO
            by_cases c24 : Cj = true
            ·subst c24
             have H1 : (if A2 < (Ai.length : Int) then (impl_groupNumbers.j2 k2 Ai Ab A2 l0_2 (l0_2.length : Int) A2 (decide ((rd Ai A2) ≥ 0)) a0_0 a0_1 l0_2) else (none)) = some r := by rw [if_pos rfl] at H; exact H
             clear H
             have H := H1
             clear H1
             by_cases c25 : A2 < (Ai.length : Int)
             ·rw [if_pos c25] at H
              have Bx := decide_eq_true c25
              clear c25
              (first | rw [Bx] | (simp only [i64_w, i32_w]; rw [Bx]) | skip)
              have H' := Z.m H
              clear H
              have Dl := Ah.o
              have Ds := Ac.o
              have Co := bc0 A6
              have Cp := bc1 A6
              have CB := qz A6.o 0
              have CC := qz A6.o 1
              go_wp2_with (first | ((with_reducible refine gc (f := 75) rfl ?_); refine gA (some 34) _ #[.agg #[.int .i64 ((rd_T89 l0_2 A2).f0), .int .i64 ((rd_T89 l0_2 A2).f1)]] ?_ Try.func75; (with_reducible refine (impl_isGeared.calls ((rd_T89 l0_2 A2).f0) ((rd_T89 l0_2 A2).f1) true _ D9.o).mono ?_); rintro e DP ⟨rfl, hb⟩; refine ⟨_, rfl, ?_⟩; replace A8 := Z.m (Kd.Rb (by refine rK ?_; exact (Kd.Rm (rf (rf (Kd.Ry A8.o A6.o (by decide)))) (fun _ h_ => h_.1))) hb); replace A0 := Z.m (qb (g := Aq) (o := .cells #[.int .i64 a0_0, .int .i64 a0_1, .slice (some Ap) l0_2.length c0_2] 32 (0, 0)) (by refine bK ?_; (iterate 2 refine qF ?_ Ac); exact A0.o) hb); replace A6 := Z.m (qb (g := Ar) (o := .cells #[.int .i64 ((rd_T89 l0_2 A2).f0), .int .i64 ((rd_T89 l0_2 A2).f1)] 89 (0, 0)) (by refine bK ?_; refine qp (cs := #[iV ((rd_T89 l0_2 A2).f0), iV 0]) ?_ 1 _ rfl; refine bK ?_; refine qp (cs := #[iV 0, iV 0]) ?_ 0 _ rfl; refine bK ?_; exact A6.o) hb); replace HB := bB HB hb; (try clear hb); (try clear Ch); (try clear hk); (try clear hi); have p319 : 0 ≤ (A2 : Int) := ofD; have q319 : A2 < (Ai.length : Int) := ofD; obtain ⟨Dc, e319, CP⟩ := Kd.at_int (Kd.RrZ A8.o).2.2 A2 p319 q319; cases e319; replace p319 := eq_true p319; replace q319 := eq_true q319))
              go_meet
              case rel => exact ⟨_, (decide ((rd Ai A2) ≥ 0)), (by first | rfl | (simp; done) | (simp [*]; done)), H', ⟨by have := AS.o; have := AU.o; first | omega | exact Nat.le_refl _⟩, ⟨by (try simp only [A5]); (try simp only [A7]); refine rK ?_; exact A8.o⟩, ⟨by (try simp only [A5]); (try simp only [A7]); refine bK ?_; exact A0.o⟩, ⟨by (try simp only [A5]); (try simp only [A7]); refine bK ?_; exact A6.o⟩, ⟨vB HB⟩⟩
             ·rw [if_neg c25] at H
              exact absurd H (by simp)
            ·replace c24 := Bool.eq_false_iff.mpr c24
             subst c24
             have H1 : (impl_groupNumbers.j2 k2 Ai Ab A2 l0_2 (l0_2.length : Int) A2 true a0_0 a0_1 l0_2) = some r := by rw [if_neg (show ¬ (false = true) by decide)] at H; exact H
             clear H
             have H := H1
             clear H1
             have H' := Z.m H
             clear H
             have Dm := Ah.o
             have Dt := Ac.o
             have Cq := bc0 A6
             have Cr := bc1 A6
             have CD := qz A6.o 0
             have CE := qz A6.o 1
             go_wp2_with (first | ((with_reducible refine gc (f := 75) rfl ?_); refine gA (some 34) _ #[.agg #[.int .i64 ((rd_T89 l0_2 A2).f0), .int .i64 ((rd_T89 l0_2 A2).f1)]] ?_ Try.func75; (with_reducible refine (impl_isGeared.calls ((rd_T89 l0_2 A2).f0) ((rd_T89 l0_2 A2).f1) false _ D9.o).mono ?_); rintro e DQ ⟨rfl, hb⟩; refine ⟨_, rfl, ?_⟩; replace A8 := Z.m (Kd.Rb (by refine rK ?_; exact (Kd.Rm (rf (rf (Kd.Ry A8.o A6.o (by decide)))) (fun _ h_ => h_.1))) hb); replace A0 := Z.m (qb (g := Aq) (o := .cells #[.int .i64 a0_0, .int .i64 a0_1, .slice (some Ap) l0_2.length c0_2] 32 (0, 0)) (by refine bK ?_; (iterate 2 refine qF ?_ Ac); exact A0.o) hb); replace A6 := Z.m (qb (g := Ar) (o := .cells #[.int .i64 ((rd_T89 l0_2 A2).f0), .int .i64 ((rd_T89 l0_2 A2).f1)] 89 (0, 0)) (by refine bK ?_; refine qp (cs := #[iV ((rd_T89 l0_2 A2).f0), iV 0]) ?_ 1 _ rfl; refine bK ?_; refine qp (cs := #[iV 0, iV 0]) ?_ 0 _ rfl; refine bK ?_; exact A6.o) hb); replace HB := bB HB hb; (try clear hb); (try clear Ch); (try clear hk); (try clear hi)))
             go_meet
             case rel => exact ⟨_, (true), (by first | rfl | (simp; done) | (simp [*]; done)), H', ⟨by have := AS.o; have := AU.o; first | omega | exact Nat.le_refl _⟩, ⟨by (try simp only [A5]); (try simp only [A7]); refine rK ?_; exact A8.o⟩, ⟨by (try simp only [A5]); (try simp only [A7]); refine bK ?_; exact A0.o⟩, ⟨by (try simp only [A5]); (try simp only [A7]); refine bK ?_; exact A6.o⟩, ⟨vB HB⟩⟩
           case rest =>
            clear Bz
            (try clear Ay); (try clear C4); (try clear C5)
            (try clear Bc); (try clear Bd); (try clear Bk); (try clear Bl); (try clear At); (try clear Au); (try clear p316); (try clear q316)
            obtain ⟨kq, AD, rfl, HA, As, A8, A0, A6, HB⟩ := hcut
            cases kq with
            | zero => exact absurd HA.o (by simp [impl_groupNumbers.j2])
            | succ kj18 =>
             have H := HA.o
             clear HA
             simp only [impl_groupNumbers.j2] at H
             by_cases c32 : AD = true
             ·subst c32
              have H1 : (impl_groupNumbers.l1 kj18 Ai Ab l0_2 (l0_2.length : Int) (wrap64 (A2 + 1)) a0_0 a0_1 l0_2) = some r := by rw [if_pos rfl] at H; exact H
              clear H
              have H := H1
              clear H1
              have H' := Z.m H
              clear H
              go_wp2
              (try simp only [← A7])
              go_roundg kj18
              case measure => have := AS.o; have := AU.o; have := As.o; omega
              case rel => exact ⟨(Ai), (Ab), (wrap64 (A2 + 1)), (by first | rfl | (simp; done) | (simp [*]; done)), (by first | rfl | (simp; done) | (simp [*]; done)), H', ⟨by have := AS.o; have := AU.o; have := As.o; omega⟩, ⟨by (try simp only [A5]); (try simp only [A7]); refine rK ?_; exact A8.o⟩, ⟨by (try simp only [A5]); (try simp only [A7]); refine bK ?_; exact A0.o⟩, ⟨vB HB⟩⟩
             ·replace c32 := Bool.eq_false_iff.mpr c32
              subst c32
              have H1 : (if 0 ≤ A2 then (if A2 < (Ai.length : Int) then (impl_groupNumbers.l2 kj18 (Ai.set (A2 : Int).toNat Ab) Ab (([A2] : List Int)) l0_2 (l0_2.length : Int) A2 a0_0 a0_1 l0_2) else (none)) else (none)) = some r := by rw [if_neg (show ¬ (false = true) by decide)] at H; exact H
              clear H
              have H := H1
              clear H1
              by_cases c33 : 0 ≤ A2
              ·rw [if_pos c33] at H
               have C6 := decide_eq_true c33
               clear c33
               by_cases c34 : A2 < (Ai.length : Int)
               ·rw [if_pos c34] at H
                have C7 := decide_eq_true c34
                clear c34
                obtain ⟨Bp, AM⟩ : ∃ y_ : List Int, y_ = (Ai.set (A2 : Int).toNat Ab) := ⟨_, rfl⟩
                replace H : (impl_groupNumbers.l2 kj18 Bp Ab (([A2] : List Int)) l0_2 (l0_2.length : Int) A2 a0_0 a0_1 l0_2) = some r := by first | (rw [AM]; with_reducible exact H) | (have H2_ := (Option.bind_some _ _).symm.trans H; rw [AM]; with_reducible exact H2_) | (have H2_ := (Option.bind_some _ _).symm.trans H; with_reducible exact H2_) | with_reducible exact H | (rw [AM]; exact H) | exact H
                have C1 := Z.m AM
                clear AM
                obtain ⟨Cm, AN⟩ : ∃ y_ : List Int, y_ = (([A2] : List Int)) := ⟨_, rfl⟩
                replace H : (impl_groupNumbers.l2 kj18 Bp Ab Cm l0_2 (l0_2.length : Int) A2 a0_0 a0_1 l0_2) = some r := by first | (rw [AN]; with_reducible exact H) | (have H2_ := (Option.bind_some _ _).symm.trans H; rw [AN]; with_reducible exact H2_) | (have H2_ := (Option.bind_some _ _).symm.trans H; with_reducible exact H2_) | with_reducible exact H | (rw [AN]; exact H) | exact H
                have Bv := Z.m AN
                clear AN
                have H' := Z.m H
                clear H
                have p35 : 0 ≤ (A2 : Int) := ofD
                have q35 : (A2 : Int) < ((Ai.length : Int) : Int) := ofD
                obtain ⟨Al, DF, Ce, Cg, gl35, cl35, BW⟩ := Kd.R_form A8.o (by omega)
                (first | cases Ce | (injection Ce with ea_ en_ ec_; (first | subst ea_ | (injection ea_ with ea_; subst ea_)); subst ec_; clear en_))
                have BR := Z.m Cg
                have DD := Z.m BW
                clear Cg gl35 BW
                obtain ⟨BL, D2⟩ := Kd.R_celln 0 A8.o (A2 : Int) p35 q35
                replace p35 := eq_true p35
                replace q35 := eq_true q35
                have BB := Kd.R_putg A8.o (A2 : Int) Ab
                go_wp2_with (first | ((with_reducible refine gt (t := 3) (p := 46) rfl ?_); refine store_event (t := 3) (p := 46) (v := ?vo_w37) (w1 := (wc.setCell ⟨Al, (A2 : Int).toNat, none⟩ (.int .i64 Ab))) ?hg ?ho ?hn ?hr ?_; (case ho => rfl); (case hg => rfl); (case hn => rfl); (case hr => first | (go_simp; done) | (go_simp; rfl)); intro D7 hw; have hg : wc.grownBy D7 (some Al) := (by rw [hw]; exact BB.2); have hp_ : Kd.R (Kd.int .i64) 3 D7 w.heap.size (fun _ => True) (.slice (some ⟨Al, 0, none⟩) Ai.length AE) Bp := (by rw [hw, C1.o]; exact BB.1); clear BB; replace A0 := Z.m (qg (g := Aq) (o := .cells #[.int .i64 a0_0, .int .i64 a0_1, .slice (some Ap) l0_2.length c0_2] 32 (0, 0)) (vK A0) hg (Kd.R_ne A8.o A0.o (by decide))); replace A6 := Z.m (qg (g := Ar) (o := .cells #[.int .i64 ((rd_T89 l0_2 A2).f0), .int .i64 ((rd_T89 l0_2 A2).f1)] 89 (0, 0)) (vK A6) hg (Kd.R_ne A8.o A6.o (by decide))); replace A8 := Z.m (hp_); replace HB := Z.m ((by rw [hw]; exact qx (HB.o) BR.o : Below w.heap.size w D7)); clear hg hw hp_) | ((with_reducible refine gq (N := 48) rfl ?_); refine Kd.R_lit (Kd.int .i64) _ 3 ?hg (N := 48) ?hd (xs := ([A2] : List Int)) (inner := [.int .i64 A2]) (ok := fun _ => True) (okp := fun _ => True) ?hr ?hp (fun _ hk => hk) trivial (Below.refl _ _) (Nat.le_refl _) (by simp) ?_; (case hd => rfl); (case hg => rfl); (case hr => first | (go_simp; done) | (go_simp; rfl)); (case hp => exact (Reps.one (show Kd.M (Kd.int .i64) _ _ _ A2 [.int .i64 A2] from rfl) (Reps.none _ _))); intro DL DR AX hb hg_ hnew_; clear hg_ hnew_; (first | rw [← Bv.o] at AX | (simp only [Int.reduceToNat] at AX; rw [← Bv.o] at AX)); have BX := Z.m (Kd.R_lower (Kd.R_new' AX (Kd.R_lt (vR A8))) (below_size (vB HB))); replace A8 := Z.m (Kd.R_elder' (vR A8) (Kd.R_base AX) hb); replace A0 := kB A0 hb; replace A6 := kB A6 hb; replace HB := bB HB hb; clear hb AX))
                go_loopg [8] kj18 (fun kq v8 w' => ∃ (Av : List Int) (An : List Int), Z (impl_groupNumbers.l2 kq Av Ab An l0_2 (l0_2.length : Int) A2 a0_0 a0_1 l0_2 = some r) ∧ Z (kq ≤ kj18) ∧ Z (Kd.R (Kd.int .i64) 3 w' w.heap.size (fun k_ => some k_ ≠ (v8 : Value).ownBlock) (.slice (some ⟨Al, 0, none⟩) Ai.length AE) Av) ∧ Z (Kd.Q (Kd.int .i64) 3 w' w.heap.size (fun k_ => some k_ ≠ ((.slice (some ⟨Al, 0, none⟩) Ai.length AE) : Value).ownBlock) v8 An) ∧ Z (w'.heap[Aq]? = some (.cells #[.int .i64 a0_0, .int .i64 a0_1, (.slice (some Ap) l0_2.length c0_2)] 32 (0, 0))) ∧ Z (w'.heap[Ar]? = some (.cells #[.int .i64 ((rd_T89 l0_2 A2).f0), .int .i64 ((rd_T89 l0_2 A2).f1)] 89 (0, 0))) ∧ Z (Below w.heap.size w w'))
                case atStart => exact ⟨(Bp), (Cm), H', ⟨Nat.le_refl _⟩, ⟨by (try simp only [A5]); (try simp only [A7]); refine rK ?_; exact Kd.Rm A8.o (fun _ hk => hk.2)⟩, ⟨Kd.Q_of_R (by (try simp only [A5]); (try simp only [A7]); refine rK ?_; exact Kd.Rm BX.o (fun _ hk => hk.2))⟩, ⟨by (try simp only [A5]); (try simp only [A7]); refine bK ?_; exact A0.o⟩, ⟨by (try simp only [A5]); (try simp only [A7]); refine bK ?_; exact A6.o⟩, ⟨vB HB⟩⟩
                case round =>
                 clear H'
                 (try clear c32); (try clear C6); (try clear C7); (try clear p35); (try clear q35); (try clear BL)
                 obtain ⟨Av, An, HA, B0, A8, Aj, A0, A6, HB⟩ := hrel
                 have A9 := (Kd.RrZ A8.o).1
                 rw [A9] at A8
                 (try simp only [A9])
                 (try simp only [A9] at A0)
                 (try simp only [A9] at A6)
                 (try simp only [A9] at Aj)
                 cases gk with
                 | zero => exact absurd HA.o (by simp [impl_groupNumbers.l2])
                 | succ k4 =>
                  have H := HA.o
                  clear HA
                  simp only [impl_groupNumbers.l2] at H
                  by_cases c40 : (An.length : Int) > 0
                  ·rw [if_pos c40] at H
                   have Az := decide_eq_true c40
                   have AA : decide (0 < An.length) = true := decide_eq_true (by omega)
                   clear c40
                   by_cases c41 : 0 < (An.length : Int)
                   ·rw [if_pos c41] at H
                    have C8 := decide_eq_true c41
                    have C9 : decide (0 < An.length) = true := decide_eq_true (by omega)
                    clear c41
                    by_cases c42 : 1 ≤ (An.length : Int)
                    ·rw [if_pos c42] at H
                     have Ca := eq_true c42
                     have Cb := decide_eq_true c42
                     clear c42
                     obtain ⟨AR, AO⟩ : ∃ y_ : List Int, y_ = (An.drop (1 : Int).toNat) := ⟨_, rfl⟩
                     replace H : ((impl_besideOf.f k4 a0_0 a0_1 l0_2 (rd An 0)).bind fun A4 => (impl_groupNumbers.l3 k4 Av Ab AR l0_2 (l0_2.length : Int) A2 A4 (A4.length : Int) 0 a0_0 a0_1 l0_2)) = some r := by first | (rw [AO]; with_reducible exact H) | (have H2_ := (Option.bind_some _ _).symm.trans H; rw [AO]; with_reducible exact H2_) | (have H2_ := (Option.bind_some _ _).symm.trans H; with_reducible exact H2_) | with_reducible exact H | (rw [AO]; exact H) | exact H
                     have Bw := Z.m AO
                     clear AO
                     replace H := Option.bind_eq_some_iff.mp H
                     obtain ⟨A4, BP, H⟩ := H
                     replace H : (impl_groupNumbers.l3 k4 Av Ab AR l0_2 (l0_2.length : Int) A2 A4 (A4.length : Int) 0 a0_0 a0_1 l0_2) = some r := H
                     have Dz := Z.m BP
                     clear BP
                     have H' := Z.m H
                     clear H
                     obtain ⟨DA, B2, CY, _⟩ := Kd.Q_slice Aj.o
                     subst CY
                     have p324 : 0 ≤ (0 : Int) := (by omega)
                     have q324 : 0 < (An.length : Int) := ofD
                     obtain ⟨AG, e324, AB⟩ := Kd.at_int (Kd.Q_reads' Aj.o).2.2 0 p324 q324
                     cases e324
                     have qi324 : (0 < An.length) = True := eq_true (by omega)
                     (try rw [show ((0 : Int)).toNat = 0 from rfl] at AB)
                     (try rw [Addr.add_zero'] at AB)
                     replace p324 := eq_true p324
                     replace q324 := eq_true q324
                     have q45 : (1 : Int) ≤ ((An.length : Int) : Int) := ofD
                     obtain ⟨i045, hi045, _, hsz45, _⟩ := info_parts info3
                     have hcut45 := cut_from (P := Try.prog) 43 3 .i64 Try.underlying43 hi045 1 hsz45 (some AG) An.length B2 1 (by omega) q45
                     have AZ := Kd.Q_drop (k := (1 : Int).toNat) Aj.o (by omega)
                     obtain ⟨CQ, hA45⟩ : ∃ A1, A1 = (if B2 = (1 : Int).toNat then (some AG) else ((some AG) : Option Addr).map (·.add ((1 : Int).toNat * 1))) := ⟨_, rfl⟩
                     obtain ⟨c45, hc45⟩ : ∃ c1, c1 = B2 - (1 : Int).toNat := ⟨_, rfl⟩
                     have BM : AR.length = An.length - (1 : Int).toNat := (by rw [Bw.o, List.length_drop])
                     rw [← Bw.o] at AZ
                     rw [← BM, ← hA45, ← hc45] at hcut45
                     replace AZ : Kd.Q (Kd.int .i64) 3 wr w.heap.size (fun k_ => some k_ ≠ (.slice (some ⟨Al, 0, none⟩) Av.length AE : Value).ownBlock) (.slice CQ AR.length c45) AR := (by rw [hA45, hc45, BM]; exact AZ)
                     have HE45 : Z ((Value.slice CQ AR.length c45).ownBlock = (.slice (some AG) An.length B2 : Value).ownBlock) := ⟨by rw [hA45]; split <;> (cases ((some AG) : Option Addr) <;> rfl)⟩
                     clear BM hi045 hsz45 Aj hA45 hc45
                     have AV := Z.m AZ
                     clear AZ
                     replace q45 := eq_true q45
                     have n_ := Z.m (Kd.Rm (ok' := fun k_ => some k_ ≠ (.slice CQ AR.length c45 : Value).ownBlock) A8.o (fun k_ hk => (by rw [HE45.o]; exact hk)))
                     clear A8
                     have A8 := n_
                     clear n_
                     have Dn := Ac.o
                     have Du := Ah.o
                     have Be := bc0 A0
                     have Bf := bc1 A0
                     have Bg := bc2 A0
                     have Bm := qz A0.o 0
                     have Bn := qz A0.o 1
                     have Bo := qz A0.o 2
                     go_wp2_with (first | ((with_reducible refine gc (f := 76) rfl ?_); refine gA (some 59) _ #[.agg #[.int .i64 a0_0, .int .i64 a0_1, .slice (some Ap) l0_2.length c0_2], .int .i64 (rd An 0)] ?_ Try.func76; (with_reducible refine (impl_besideOf.calls k4 a0_0 a0_1 _ _ l0_2 (rd An 0) A4 _ ?side1 ?side2 Dz.o).mono ?_); (case side1 => repeat (first | exact (Kd.C_below AF.o HB.o) | (with_reducible refine Kd.C_alloc ?_ _) | (with_reducible refine Kd.C_drewN ?_ _) | (with_reducible refine Kd.C_drew ?_))); (case side2 => exact BU.o); rintro e DS ⟨DM, rfl, CO, hb⟩; refine ⟨_, rfl, ?_⟩; have Bt := Z.m (Kd.R_lower (Kd.R_new' (Kd.R_new' CO (Kd.R_lt (vR A8))) (Kd.Q_lt (by (with_reducible repeat (first | apply Kd.Q_alloc | apply Kd.Q_drewN | apply Kd.Q_drew)); exact AV.o))) (below_size (vB HB))); replace A8 := Z.m (Kd.R_elder' (vR A8) (Kd.R_base CO) hb); replace AV := Z.m (Kd.Q_elder' (by (with_reducible repeat (first | apply Kd.Q_alloc | apply Kd.Q_drewN | apply Kd.Q_drew)); exact AV.o) (Kd.R_base CO) hb); replace A0 := kB A0 hb; replace A6 := kB A6 hb; replace HB := bB HB hb; (try clear hb); (try clear Ch); (try clear hk); (try clear hi); (try clear CO); obtain ⟨By, AT, CZ⟩ := Kd.R_slice Bt.o; subst CZ))
                     go_loopg [8, 61] k4 (fun kq v8 v61 w' => ∃ (Af : List Int) (Ao : List Int) (A3 : Int), v61 = .int .i64 A3 ∧ Z (impl_groupNumbers.l3 kq Af Ab Ao l0_2 (l0_2.length : Int) A2 A4 (A4.length : Int) A3 a0_0 a0_1 l0_2 = some r) ∧ Z (kq ≤ k4) ∧ Z (Kd.R (Kd.int .i64) 3 w' w.heap.size (fun k_ => some k_ ≠ (v8 : Value).ownBlock ∧ some k_ ≠ ((.slice By A4.length AT) : Value).ownBlock) (.slice (some ⟨Al, 0, none⟩) Av.length AE) Af) ∧ Z (Kd.Q (Kd.int .i64) 3 w' w.heap.size (fun k_ => some k_ ≠ ((.slice (some ⟨Al, 0, none⟩) Av.length AE) : Value).ownBlock ∧ some k_ ≠ ((.slice By A4.length AT) : Value).ownBlock) v8 Ao) ∧ Z (Kd.R (Kd.int .i64) 3 w' w.heap.size (fun k_ => some k_ ≠ ((.slice (some ⟨Al, 0, none⟩) Av.length AE) : Value).ownBlock ∧ some k_ ≠ (v8 : Value).ownBlock) (.slice By A4.length AT) A4) ∧ Z (w'.heap[Aq]? = some (.cells #[.int .i64 a0_0, .int .i64 a0_1, (.slice (some Ap) l0_2.length c0_2)] 32 (0, 0))) ∧ Z (w'.heap[Ar]? = some (.cells #[.int .i64 ((rd_T89 l0_2 A2).f0), .int .i64 ((rd_T89 l0_2 A2).f1)] 89 (0, 0))) ∧ Z (Below w.heap.size w w'))
                     case atStart => exact ⟨(Av), (AR), (0), (by first | rfl | (simp; done) | (simp [*]; done)), H', ⟨Nat.le_refl _⟩, ⟨by (try simp only [A5]); (try simp only [A7]); (try simp only [A9]); refine rK ?_; exact A8.o⟩, ⟨by (try simp only [A5]); (try simp only [A7]); (try simp only [A9]); (with_reducible repeat (first | apply Kd.Q_alloc | apply Kd.Q_drewN | apply Kd.Q_drew)); exact AV.o⟩, ⟨by (try simp only [A5]); (try simp only [A7]); (try simp only [A9]); refine rK ?_; exact Kd.Rm Bt.o (fun _ hk => ⟨hk.1.2, hk.2⟩)⟩, ⟨by (try simp only [A5]); (try simp only [A7]); (try simp only [A9]); refine bK ?_; exact A0.o⟩, ⟨by (try simp only [A5]); (try simp only [A7]); (try simp only [A9]); refine bK ?_; exact A6.o⟩, ⟨vB HB⟩⟩
                     case round =>
                      clear H'
                      (try clear Az); (try clear AA); (try clear C8); (try clear C9); (try clear Ca); (try clear Cb); (try clear c45); (try clear q45)
                      (try clear Be); (try clear Bf); (try clear Bg); (try clear Bm); (try clear Bn); (try clear Bo); (try clear AB); (try clear p324); (try clear q324)
                      obtain ⟨Af, Ao, A3, rfl, HA, Br, A8, Aj, Ag, A0, A6, HB⟩ := hrel
                      have Aa := (Kd.RrZ A8.o).1
                      rw [Aa] at A8
                      (try simp only [Aa])
                      (try simp only [Aa] at A0)
                      (try simp only [Aa] at A6)
                      (try simp only [Aa] at Aj)
                      (try simp only [Aa] at Ag)
                      cases gk with
                      | zero => exact absurd HA.o (by simp [impl_groupNumbers.l3])
                      | succ k5 =>
                       have H := HA.o
                       clear HA
                       simp only [impl_groupNumbers.l3] at H
                       by_cases c50 : A3 < (A4.length : Int)
                       ·rw [if_pos c50] at H
                        have AI := decide_eq_true c50
                        clear c50
                        by_cases c51 : 0 ≤ A3
                        ·rw [if_pos c51] at H
                         have Df := decide_eq_true c51
                         clear c51
                         by_cases c52 : A3 < (A4.length : Int)
                         ·rw [if_pos c52] at H
                          have Dg := decide_eq_true c52
                          clear c52
                          by_cases c53 : 0 ≤ (rd A4 A3)
                          ·rw [if_pos c53] at H
                           have Dh := decide_eq_true c53
                           clear c53
                           by_cases c54 : (rd A4 A3) < (l0_2.length : Int)
                           ·rw [if_pos c54] at H
                            have Di := decide_eq_true c54
                            clear c54
                            replace H := Option.bind_eq_some_iff.mp H
                            obtain ⟨Cl, BQ, H⟩ := H
                            replace H : (if Cl = true then (if (rd A4 A3) < (Af.length : Int) then (if (rd Af (rd A4 A3)) < 0 then (if Ao.length < 17592186044416 then (impl_groupNumbers.l3 k5 (Af.set ((rd A4 A3) : Int).toNat Ab) Ab (Ao ++ [rd A4 A3]) l0_2 (l0_2.length : Int) A2 A4 (A4.length : Int) (wrap64 (A3 + 1)) a0_0 a0_1 l0_2) else (none)) else (impl_groupNumbers.l3 k5 Af Ab Ao l0_2 (l0_2.length : Int) A2 A4 (A4.length : Int) (wrap64 (A3 + 1)) a0_0 a0_1 l0_2)) else (none)) else (impl_groupNumbers.l3 k5 Af Ab Ao l0_2 (l0_2.length : Int) A2 A4 (A4.length : Int) (wrap64 (A3 + 1)) a0_0 a0_1 l0_2)) = some r := H
                            have CR := Z.m BQ
                            clear BQ
                            by_cases c56 : Cl = true
                            ·subst c56
                             have H1 : (if (rd A4 A3) < (Af.length : Int) then (if (rd Af (rd A4 A3)) < 0 then (if Ao.length < 17592186044416 then (impl_groupNumbers.l3 k5 (Af.set ((rd A4 A3) : Int).toNat Ab) Ab (Ao ++ [rd A4 A3]) l0_2 (l0_2.length : Int) A2 A4 (A4.length : Int) (wrap64 (A3 + 1)) a0_0 a0_1 l0_2) else (none)) else (impl_groupNumbers.l3 k5 Af Ab Ao l0_2 (l0_2.length : Int) A2 A4 (A4.length : Int) (wrap64 (A3 + 1)) a0_0 a0_1 l0_2)) else (none)) = some r := by rw [if_pos rfl] at H; exact H
                             clear H
                             have H := H1
                             clear H1
                             by_cases c57 : (rd A4 A3) < (Af.length : Int)
                             ·rw [if_pos c57] at H
                              have Dj := decide_eq_true c57
                              clear c57
                              by_cases c58 : (rd Af (rd A4 A3)) < 0
                              ·rw [if_pos c58] at H
                               have AJ := decide_eq_true c58
                               clear c58
                               obtain ⟨Bq, AP⟩ : ∃ y_ : List Int, y_ = (Af.set ((rd A4 A3) : Int).toNat Ab) := ⟨_, rfl⟩
                               replace H : (if Ao.length < 17592186044416 then (impl_groupNumbers.l3 k5 Bq Ab (Ao ++ [rd A4 A3]) l0_2 (l0_2.length : Int) A2 A4 (A4.length : Int) (wrap64 (A3 + 1)) a0_0 a0_1 l0_2) else (none)) = some r := by first | (rw [AP]; with_reducible exact H) | (have H2_ := (Option.bind_some _ _).symm.trans H; rw [AP]; with_reducible exact H2_) | (have H2_ := (Option.bind_some _ _).symm.trans H; with_reducible exact H2_) | with_reducible exact H | (rw [AP]; exact H) | exact H
                               have C2 := Z.m AP
                               clear AP
                               by_cases c60 : Ao.length < 17592186044416
                               ·rw [if_pos c60] at H
                                have BZ := Z.m c60
                                clear c60
                                obtain ⟨Cn, AQ⟩ : ∃ y_ : List Int, y_ = (Ao ++ [rd A4 A3]) := ⟨_, rfl⟩
                                replace H : (impl_groupNumbers.l3 k5 Bq Ab Cn l0_2 (l0_2.length : Int) A2 A4 (A4.length : Int) (wrap64 (A3 + 1)) a0_0 a0_1 l0_2) = some r := by first | (rw [AQ]; with_reducible exact H) | (have H2_ := (Option.bind_some _ _).symm.trans H; rw [AQ]; with_reducible exact H2_) | (have H2_ := (Option.bind_some _ _).symm.trans H; with_reducible exact H2_) | with_reducible exact H | (rw [AQ]; exact H) | exact H
                                have C3 := Z.m AQ
                                clear AQ
                                have H' := Z.m H
                                clear H
                                have p331 : 0 ≤ (A3 : Int) := ofD
                                have q331 : A3 < (A4.length : Int) := ofD
                                obtain ⟨Ax, e331, AW⟩ := Kd.at_int (Kd.RrZ Ag.o).2.2 A3 p331 q331
                                cases e331
                                replace p331 := eq_true p331
                                replace q331 := eq_true q331
                                have Do := Ac.o
                                have Dv := Ah.o
                                have Cs := bc0 A0
                                have Ct := bc1 A0
                                have Cu := bc2 A0
                                have CF := qz A0.o 0
                                have CG := qz A0.o 1
                                have CH := qz A0.o 2
                                have p332 : 0 ≤ ((rd A4 A3) : Int) := ofD
                                have q332 : (rd A4 A3) < (l0_2.length : Int) := ofD
                                obtain ⟨AH, e332, Ad, Ae⟩ := at_T89 AF.o (rd A4 A3) p332 q332
                                obtain rfl : Ap = AH := (by injection e332)
                                replace Ad := (HB.o.cell (World.block_lt_of_cell? w _ Ad)).trans Ad
                                replace Ae := (HB.o.cell (World.block_lt_of_cell? w _ Ae)).trans Ae
                                replace p332 := eq_true p332
                                replace q332 := eq_true q332
                                go_wp2_with (first | ((with_reducible refine gc (f := 75) rfl ?_); refine gA (some 70) _ #[.agg #[.int .i64 ((rd_T89 l0_2 (rd A4 A3)).f0), .int .i64 ((rd_T89 l0_2 (rd A4 A3)).f1)]] ?_ Try.func75; (with_reducible refine (impl_isGeared.calls ((rd_T89 l0_2 (rd A4 A3)).f0) ((rd_T89 l0_2 (rd A4 A3)).f1) true _ CR.o).mono ?_); rintro e Dy ⟨rfl, hb⟩; refine ⟨_, rfl, ?_⟩; replace A8 := Z.m (Kd.Rb (vR A8) hb); replace Aj := Z.m (Kd.Q_below (by (with_reducible repeat (first | apply Kd.Q_alloc | apply Kd.Q_drewN | apply Kd.Q_drew)); exact Aj.o) hb); replace Ag := Z.m (Kd.Rb (vR Ag) hb); replace A0 := kB A0 hb; replace A6 := kB A6 hb; replace HB := bB HB hb; (try clear hb); (try clear Ch); (try clear hk); (try clear hi); have p334 : 0 ≤ ((rd A4 A3) : Int) := ofD; have q334 : (rd A4 A3) < (Af.length : Int) := ofD; obtain ⟨AY, e334, Am⟩ := Kd.at_int (Kd.RrZ A8.o).2.2 (rd A4 A3) p334 q334; obtain rfl : (⟨Al, 0, none⟩ : Addr) = AY := (by injection e334); (first | simp only [add_plain] at Am | simp only [add_at] at Am | simp only [Addr.add, Nat.zero_add] at Am | skip); replace p334 := eq_true p334; replace q334 := eq_true q334; have p59 : 0 ≤ ((rd A4 A3) : Int) := ofD; have q59 : ((rd A4 A3) : Int) < ((Af.length : Int) : Int) := ofD; obtain ⟨D5, D3⟩ := Kd.R_celln 0 A8.o ((rd A4 A3) : Int) p59 q59; replace p59 := eq_true p59; replace q59 := eq_true q59; obtain ⟨hy64_, hz64_⟩ := Kd.R_celln 0 A8.o ((rd A4 A3) : Int) (ofD) (ofD); have BC := Kd.R_putg A8.o ((rd A4 A3) : Int) Ab) | ((with_reducible refine gt (t := 3) (p := 81) rfl ?_); refine store_event (t := 3) (p := 81) (v := ?vo_w65) (w1 := (Dy.setCell ⟨Al, ((rd A4 A3) : Int).toNat, none⟩ (.int .i64 Ab))) ?hg ?ho ?hn ?hr ?_; (case ho => rfl); (case hg => rfl); (case hn => rfl); (case hr => first | (go_simp; done) | (go_simp; rfl)); intro D8 hw; have hg : Dy.grownBy D8 (some Al) := (by rw [hw]; exact BC.2); have hp_ : Kd.R (Kd.int .i64) 3 D8 w.heap.size (fun k_ => some k_ ≠ (u8 : Value).ownBlock ∧ some k_ ≠ (.slice (some Ax) A4.length AT : Value).ownBlock) (.slice (some ⟨Al, 0, none⟩) Af.length AE) Bq := (by rw [hw, C2.o]; exact BC.1); clear BC; replace Aj := Z.m (Kd.Q_after (v := (.slice (some ⟨Al, 0, none⟩) Af.length AE)) (v1 := (.slice (some ⟨Al, 0, none⟩) Af.length AE)) (ok := (fun k_ => some k_ ≠ (.slice (some Ax) A4.length AT : Value).ownBlock)) (by (with_reducible repeat (first | apply Kd.Q_alloc | apply Kd.Q_drewN | apply Kd.Q_drew)); exact Kd.Q_mono Aj.o (fun _ hk => ⟨hk.2, hk.1⟩)) hg (.inl rfl)); replace Ag := Z.m (Kd.R_after (v := (.slice (some ⟨Al, 0, none⟩) Af.length AE)) (v1 := (.slice (some ⟨Al, 0, none⟩) Af.length AE)) (ok := (fun k_ => some k_ ≠ (u8 : Value).ownBlock)) (by refine rK ?_; exact Kd.Rm Ag.o (fun _ hk => ⟨hk.2, hk.1⟩)) hg (.inl rfl)); replace A0 := Z.m (qg (g := Aq) (o := .cells #[.int .i64 a0_0, .int .i64 a0_1, .slice (some Ap) l0_2.length c0_2] 32 (0, 0)) (vK A0) hg (Kd.R_ne A8.o A0.o (by decide))); replace A6 := Z.m (qg (g := Ar) (o := .cells #[.int .i64 ((rd_T89 l0_2 A2).f0), .int .i64 ((rd_T89 l0_2 A2).f1)] 89 (0, 0)) (vK A6) hg (Kd.R_ne A8.o A6.o (by decide))); replace A8 := Z.m (hp_); replace HB := Z.m ((by rw [hw]; exact qx (HB.o) BR.o : Below w.heap.size w D8)); clear hg hw hp_) | ((with_reducible refine gu (b := .append) (xs := #[.tmp 82, .tmp 84]) rfl ?_); at_builtin; refine Kd.Q_append (Kd.int .i64) (w0 := w) w.heap.size rfl (.tmp 82) (.tmp 84) 43 3 (.int .i64 0) 8 rfl Try.underlying43 info3 rfl (by decide) (by omega) u8 Ao (rd A4 A3) [.int .i64 (rd A4 A3)] (fun k_ => some k_ ≠ (.slice (some ⟨Al, 0, none⟩) Af.length AE : Value).ownBlock ∧ some k_ ≠ (.slice (some Ax) A4.length AT : Value).ownBlock) (fun _ => False) rfl rfl ?aP (fun _ hk => hk.elim) ?aF ?aO ?aB ?aS ?aL ?_; (case aP => exact rfl); (case aB => exact (vB HB)); (case aF => exact (fun k_ hk => ⟨Kd.fresh' (Kd.R_lt (vR A8)) k_ hk, Kd.fresh' (Kd.R_lt (vR Ag)) k_ hk⟩)); (case aO => exact (by (with_reducible repeat (first | apply Kd.Q_alloc | apply Kd.Q_drewN | apply Kd.Q_drew)); exact Kd.Q_mono Aj.o (fun _ hk => ⟨hk.2, hk.1⟩))); (case aS => exact (below_size (vB HB))); (case aL => have := BZ.o; omega); intro DN DT ho hb hg hat; rw [← C3.o] at ho; have BY := Z.m (ho); replace A8 := Z.m (Kd.R_after (ok := (fun k_ => some k_ ≠ (.slice (some Ax) A4.length AT : Value).ownBlock)) (by refine rK ?_; exact Kd.Rm A8.o (fun _ hk => ⟨hk.2, hk.1⟩)) hg hat); replace Ag := Z.m (Kd.R_after (ok := (fun k_ => some k_ ≠ (.slice (some ⟨Al, 0, none⟩) Af.length AE : Value).ownBlock)) (by refine rK ?_; exact Kd.Rm Ag.o (fun _ hk => ⟨hk.2, hk.1⟩)) hg hat); replace A0 := Z.m (qg (g := Aq) (o := .cells #[.int .i64 a0_0, .int .i64 a0_1, .slice (some Ap) l0_2.length c0_2] 32 (0, 0)) (vK A0) hg (Kd.Q_ne Aj.o A0.o (by decide))); replace A6 := Z.m (qg (g := Ar) (o := .cells #[.int .i64 ((rd_T89 l0_2 A2).f0), .int .i64 ((rd_T89 l0_2 A2).f1)] 89 (0, 0)) (vK A6) hg (Kd.Q_ne Aj.o A6.o (by decide))); replace HB := Z.m (hb); clear Aj; clear ho hb hg hat))
                                (try simp only [← Aa])
                                go_roundg k5
                                case measure => have := AS.o; have := AU.o; have := As.o; have := B0.o; have := Br.o; omega
                                case rel => exact ⟨(Bq), (Cn), (wrap64 (A3 + 1)), (by first | rfl | (simp; done) | (simp [*]; done)), H', ⟨by have := AS.o; have := AU.o; have := As.o; have := B0.o; have := Br.o; omega⟩, ⟨by (try simp only [A5]); (try simp only [A7]); (try simp only [A9]); (try simp only [Aa]); refine rK ?_; exact Kd.Rm A8.o (fun _ hk => ⟨hk.2, hk.1⟩)⟩, ⟨by (try simp only [A5]); (try simp only [A7]); (try simp only [A9]); (try simp only [Aa]); (with_reducible repeat (first | apply Kd.Q_alloc | apply Kd.Q_drewN | apply Kd.Q_drew)); exact BY.o⟩, ⟨by (try simp only [A5]); (try simp only [A7]); (try simp only [A9]); (try simp only [Aa]); refine rK ?_; exact Ag.o⟩, ⟨by (try simp only [A5]); (try simp only [A7]); (try simp only [A9]); (try simp only [Aa]); refine bK ?_; exact A0.o⟩, ⟨by (try simp only [A5]); (try simp only [A7]); (try simp only [A9]); (try simp only [Aa]); refine bK ?_; exact A6.o⟩, ⟨vB HB⟩⟩
                               ·rw [if_neg c60] at H
                                exact absurd H (by simp)
                              ·rw [if_neg c58] at H
                               have AJ := decide_eq_false c58
                               (try simp only [A5] at AJ)
                               (try simp only [A7] at AJ)
                               (try simp only [A9] at AJ)
                               (try simp only [Aa] at AJ)
                               clear c58
                               have H' := Z.m H
                               clear H
                               have p331 : 0 ≤ (A3 : Int) := ofD
                               have q331 : A3 < (A4.length : Int) := ofD
                               obtain ⟨Ax, e331, AW⟩ := Kd.at_int (Kd.RrZ Ag.o).2.2 A3 p331 q331
                               cases e331
                               replace p331 := eq_true p331
                               replace q331 := eq_true q331
                               have Dp := Ac.o
                               have Dw := Ah.o
                               have Cv := bc0 A0
                               have Cw := bc1 A0
                               have Cx := bc2 A0
                               have CI := qz A0.o 0
                               have CJ := qz A0.o 1
                               have CK := qz A0.o 2
                               have p332 : 0 ≤ ((rd A4 A3) : Int) := ofD
                               have q332 : (rd A4 A3) < (l0_2.length : Int) := ofD
                               obtain ⟨AH, e332, Ad, Ae⟩ := at_T89 AF.o (rd A4 A3) p332 q332
                               obtain rfl : Ap = AH := (by injection e332)
                               replace Ad := (HB.o.cell (World.block_lt_of_cell? w _ Ad)).trans Ad
                               replace Ae := (HB.o.cell (World.block_lt_of_cell? w _ Ae)).trans Ae
                               replace p332 := eq_true p332
                               replace q332 := eq_true q332
                               go_wp2_with (first | ((with_reducible refine gc (f := 75) rfl ?_); refine gA (some 70) _ #[.agg #[.int .i64 ((rd_T89 l0_2 (rd A4 A3)).f0), .int .i64 ((rd_T89 l0_2 (rd A4 A3)).f1)]] ?_ Try.func75; (with_reducible refine (impl_isGeared.calls ((rd_T89 l0_2 (rd A4 A3)).f0) ((rd_T89 l0_2 (rd A4 A3)).f1) true _ CR.o).mono ?_); rintro e DU ⟨rfl, hb⟩; refine ⟨_, rfl, ?_⟩; replace A8 := Z.m (Kd.Rb (vR A8) hb); replace Aj := Z.m (Kd.Q_below (by (with_reducible repeat (first | apply Kd.Q_alloc | apply Kd.Q_drewN | apply Kd.Q_drew)); exact Aj.o) hb); replace Ag := Z.m (Kd.Rb (vR Ag) hb); replace A0 := kB A0 hb; replace A6 := kB A6 hb; replace HB := bB HB hb; (try clear hb); (try clear Ch); (try clear hk); (try clear hi); have p334 : 0 ≤ ((rd A4 A3) : Int) := ofD; have q334 : (rd A4 A3) < (Af.length : Int) := ofD; obtain ⟨AY, e334, Am⟩ := Kd.at_int (Kd.RrZ A8.o).2.2 (rd A4 A3) p334 q334; obtain rfl : (⟨Al, 0, none⟩ : Addr) = AY := (by injection e334); (first | simp only [add_plain] at Am | simp only [add_at] at Am | simp only [Addr.add, Nat.zero_add] at Am | skip); replace p334 := eq_true p334; replace q334 := eq_true q334))
                               (try simp only [← Aa])
                               go_roundg k5
                               case measure => have := AS.o; have := AU.o; have := As.o; have := B0.o; have := Br.o; omega
                               case rel => exact ⟨(Af), (Ao), (wrap64 (A3 + 1)), (by first | rfl | (simp; done) | (simp [*]; done)), H', ⟨by have := AS.o; have := AU.o; have := As.o; have := B0.o; have := Br.o; omega⟩, ⟨by (try simp only [A5]); (try simp only [A7]); (try simp only [A9]); (try simp only [Aa]); refine rK ?_; exact A8.o⟩, ⟨by (try simp only [A5]); (try simp only [A7]); (try simp only [A9]); (try simp only [Aa]); (with_reducible repeat (first | apply Kd.Q_alloc | apply Kd.Q_drewN | apply Kd.Q_drew)); exact Aj.o⟩, ⟨by (try simp only [A5]); (try simp only [A7]); (try simp only [A9]); (try simp only [Aa]); refine rK ?_; exact Ag.o⟩, ⟨by (try simp only [A5]); (try simp only [A7]); (try simp only [A9]); (try simp only [Aa]); refine bK ?_; exact A0.o⟩, ⟨by (try simp only [A5]); (try simp only [A7]); (try simp only [A9]); (try simp only [Aa]); refine bK ?_; exact A6.o⟩, ⟨vB HB⟩⟩
                             ·rw [if_neg c57] at H
                              exact absurd H (by simp)
                            ·replace c56 := Bool.eq_false_iff.mpr c56
                             subst c56
                             have H1 : (impl_groupNumbers.l3 k5 Af Ab Ao l0_2 (l0_2.length : Int) A2 A4 (A4.length : Int) (wrap64 (A3 + 1)) a0_0 a0_1 l0_2) = some r := by rw [if_neg (show ¬ (false = true) by decide)] at H; exact H
                             clear H
                             have H := H1
                             clear H1
                             have H' := Z.m H
                             clear H
                             have p331 : 0 ≤ (A3 : Int) := ofD
                             have q331 : A3 < (A4.length : Int) := ofD
                             obtain ⟨Ax, e331, AW⟩ := Kd.at_int (Kd.RrZ Ag.o).2.2 A3 p331 q331
                             cases e331
                             replace p331 := eq_true p331
                             replace q331 := eq_true q331
                             have Dq := Ac.o
                             have Dx := Ah.o
                             have Cy := bc0 A0
                             have Cz := bc1 A0
                             have CA := bc2 A0
                             have CL := qz A0.o 0
                             have CM := qz A0.o 1
                             have CN := qz A0.o 2
                             have p332 : 0 ≤ ((rd A4 A3) : Int) := ofD
                             have q332 : (rd A4 A3) < (l0_2.length : Int) := ofD
                             obtain ⟨AH, e332, Ad, Ae⟩ := at_T89 AF.o (rd A4 A3) p332 q332
                             obtain rfl : Ap = AH := (by injection e332)
                             replace Ad := (HB.o.cell (World.block_lt_of_cell? w _ Ad)).trans Ad
                             replace Ae := (HB.o.cell (World.block_lt_of_cell? w _ Ae)).trans Ae
                             replace p332 := eq_true p332
                             replace q332 := eq_true q332
                             go_wp2_with (first | ((with_reducible refine gc (f := 75) rfl ?_); refine gA (some 70) _ #[.agg #[.int .i64 ((rd_T89 l0_2 (rd A4 A3)).f0), .int .i64 ((rd_T89 l0_2 (rd A4 A3)).f1)]] ?_ Try.func75; (with_reducible refine (impl_isGeared.calls ((rd_T89 l0_2 (rd A4 A3)).f0) ((rd_T89 l0_2 (rd A4 A3)).f1) false _ CR.o).mono ?_); rintro e DV ⟨rfl, hb⟩; refine ⟨_, rfl, ?_⟩; replace A8 := Z.m (Kd.Rb (vR A8) hb); replace Aj := Z.m (Kd.Q_below (by (with_reducible repeat (first | apply Kd.Q_alloc | apply Kd.Q_drewN | apply Kd.Q_drew)); exact Aj.o) hb); replace Ag := Z.m (Kd.Rb (vR Ag) hb); replace A0 := kB A0 hb; replace A6 := kB A6 hb; replace HB := bB HB hb; (try clear hb); (try clear Ch); (try clear hk); (try clear hi)))
                             (try simp only [← Aa])
                             go_roundg k5
                             case measure => have := AS.o; have := AU.o; have := As.o; have := B0.o; have := Br.o; omega
                             case rel => exact ⟨(Af), (Ao), (wrap64 (A3 + 1)), (by first | rfl | (simp; done) | (simp [*]; done)), H', ⟨by have := AS.o; have := AU.o; have := As.o; have := B0.o; have := Br.o; omega⟩, ⟨by (try simp only [A5]); (try simp only [A7]); (try simp only [A9]); (try simp only [Aa]); refine rK ?_; exact A8.o⟩, ⟨by (try simp only [A5]); (try simp only [A7]); (try simp only [A9]); (try simp only [Aa]); (with_reducible repeat (first | apply Kd.Q_alloc | apply Kd.Q_drewN | apply Kd.Q_drew)); exact Aj.o⟩, ⟨by (try simp only [A5]); (try simp only [A7]); (try simp only [A9]); (try simp only [Aa]); refine rK ?_; exact Ag.o⟩, ⟨by (try simp only [A5]); (try simp only [A7]); (try simp only [A9]); (try simp only [Aa]); refine bK ?_; exact A0.o⟩, ⟨by (try simp only [A5]); (try simp only [A7]); (try simp only [A9]); (try simp only [Aa]); refine bK ?_; exact A6.o⟩, ⟨vB HB⟩⟩
                           ·rw [if_neg c54] at H
                            exact absurd H (by simp)
                          ·rw [if_neg c53] at H
                           exact absurd H (by simp)
                         ·rw [if_neg c52] at H
                          exact absurd H (by simp)
                        ·rw [if_neg c51] at H
                         exact absurd H (by simp)
                       ·rw [if_neg c50] at H
                        have AI := decide_eq_false c50
                        (try simp only [A5] at AI)
                        (try simp only [A7] at AI)
                        (try simp only [A9] at AI)
                        (try simp only [Aa] at AI)
                        clear c50
                        have H' := Z.m H
                        clear H
                        go_wp2
                        (try simp only [← A9, ← Aa])
                        go_roundg k5
                        case measure => have := AS.o; have := AU.o; have := As.o; have := B0.o; have := Br.o; omega
                        case rel => exact ⟨(Af), (Ao), H', ⟨by have := AS.o; have := AU.o; have := As.o; have := B0.o; have := Br.o; omega⟩, ⟨by (try simp only [A5]); (try simp only [A7]); (try simp only [A9]); (try simp only [Aa]); refine rK ?_; exact Kd.Rm A8.o (fun _ hk => hk.1)⟩, ⟨by (try simp only [A5]); (try simp only [A7]); (try simp only [A9]); (try simp only [Aa]); (with_reducible repeat (first | apply Kd.Q_alloc | apply Kd.Q_drewN | apply Kd.Q_drew)); exact Kd.Q_mono Aj.o (fun _ hk => hk.1)⟩, ⟨by (try simp only [A5]); (try simp only [A7]); (try simp only [A9]); (try simp only [Aa]); refine bK ?_; exact A0.o⟩, ⟨by (try simp only [A5]); (try simp only [A7]); (try simp only [A9]); (try simp only [Aa]); refine bK ?_; exact A6.o⟩, ⟨vB HB⟩⟩
                    ·rw [if_neg c42] at H
                     exact absurd H (by simp)
                   ·rw [if_neg c41] at H
                    exact absurd H (by simp)
                  ·rw [if_neg c40] at H
                   have Az := decide_eq_false c40
                   (try simp only [A5] at Az)
                   (try simp only [A7] at Az)
                   (try simp only [A9] at Az)
                   (try simp only [Aa] at Az)
                   have AA : decide (0 < An.length) = false := decide_eq_false (by omega)
                   (try simp only [A5] at AA)
                   (try simp only [A7] at AA)
                   (try simp only [A9] at AA)
                   (try simp only [Aa] at AA)
                   clear c40
                   have H' := Z.m H
                   clear H
                   obtain ⟨DB, DG, D0, _⟩ := Kd.Q_slice Aj.o
                   subst D0
                   go_wp2
                   (try simp only [← A7, ← A9])
                   go_roundg k4
                   case measure => have := AS.o; have := AU.o; have := As.o; have := B0.o; omega
                   case rel => exact ⟨(Av), (wrap64 (Ab + 1)), (wrap64 (A2 + 1)), (by first | rfl | (simp; done) | (simp [*]; done)), (by first | rfl | (simp; done) | (simp [*]; done)), H', ⟨by have := AS.o; have := AU.o; have := As.o; have := B0.o; omega⟩, ⟨by (try simp only [A5]); (try simp only [A7]); (try simp only [A9]); refine rK ?_; exact Kd.Rm A8.o (fun _ hk => trivial)⟩, ⟨by (try simp only [A5]); (try simp only [A7]); (try simp only [A9]); refine bK ?_; exact A0.o⟩, ⟨vB HB⟩⟩
               ·rw [if_neg c34] at H
                exact absurd H (by simp)
              ·rw [if_neg c33] at H
               exact absurd H (by simp)
          ·rw [if_neg c18] at H
           exact absurd H (by simp)
         ·rw [if_neg c17] at H
          exact absurd H (by simp)
        ·rw [if_neg c16] at H
         have Ay := decide_eq_false c16
         (try simp only [A5] at Ay)
         (try simp only [A7] at Ay)
         (try simp only [A9] at Ay)
         (try simp only [Aa] at Ay)
         clear c16
         obtain rfl := Option.some.inj H
         go_wp2
         go_ret
         exact ⟨_, by first | rfl | (simp [eN, eS] <;> rfl) | (simp [*, eN, eS] <;> rfl), vR A8, vB HB⟩
  ·rw [if_neg c3] at H
   exact absurd H (by simp)
 ·rw [if_neg c2] at H
  exact absurd H (by simp)

end Go.Proofs.Ytoklfgjemfojgaa.PAll
