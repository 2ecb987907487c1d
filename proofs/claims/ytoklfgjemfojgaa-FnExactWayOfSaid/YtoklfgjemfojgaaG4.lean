/- Began as a text that print.sh wrote (of the functions named below); turned and shortened by this session. -/
import Derived.Test.YtoklfgjemfojgaaG0
import Derived.Test.YtoklfgjemfojgaaG2
import Derived.Test.YtoklfgjemfojgaaG3
namespace Go.Proofs.Ytoklfgjemfojgaa.PAll
open Go.RowKit Go.Proofs.YtoklfgjemfojgaaW.PrintWords Go.Proofs.YtoklfgjemfojgaaW.PrintLast Go.Proofs.YtoklfgjemfojgaaW.PrintMore
attribute [local go_sem] max2_int min2_int max_two min_two max_three min_three max_four min_four   -- for this text's walks alone
set_option linter.unusedVariables false
set_option linter.unusedSimpArgs false

/-! ### spec_ggGroups: function 62 -/
mutual
def spec_ggGroups.l0 : Nat → List Int → Int → Int → Int → Int → List (S89) → Option (List Int)
 | 0, _, _, _, _, _, _ => none
 | k + 1, x3, x17, x18, x163000, x163001, x163002 => if x18 < x17 then (if 0 ≤ x18 then (if x18 < (x3.length : Int) then (spec_ggGroups.l0 k (x3.set (x18 : Int).toNat (-1)) x17 (wrap64 (x18 + 1)) x163000 x163001 x163002) else (none)) else (none)) else (spec_ggGroups.l1 k x3 0 x163002 (x163002.length : Int) 0 x163000 x163001 x163002)
def spec_ggGroups.l1 : Nat → List Int → Int → List (S89) → Int → Int → Int → Int → List (S89) → Option (List Int)
 | 0, _, _, _, _, _, _, _, _ => none
 | k + 1, x3, x5, x26, x27, x28, x163000, x163001, x163002 => if x28 < x27 then (if 0 ≤ x28 then (if x28 < (x26.length : Int) then ((spec_ggGear.f ((rd_T89 x26 x28).f0) ((rd_T89 x26 x28).f1)).bind fun t169 => (if t169 = true then (if x28 < (x3.length : Int) then (spec_ggGroups.j2 k x3 x5 x28 x26 x27 x28 (decide ((rd x3 x28) ≥ 0)) x163000 x163001 x163002) else (none)) else (spec_ggGroups.j2 k x3 x5 x28 x26 x27 x28 true x163000 x163001 x163002))) else (none)) else (none)) else (some x3)
def spec_ggGroups.j2 : Nat → List Int → Int → Int → List (S89) → Int → Int → Bool → Int → Int → List (S89) → Option (List Int)
 | 0, _, _, _, _, _, _, _, _, _, _ => none
 | k + 1, x3, x5, x6, x26, x27, x28, x42, x163000, x163001, x163002 => if x42 = true then (spec_ggGroups.l1 k x3 x5 x26 x27 (wrap64 (x28 + 1)) x163000 x163001 x163002) else (if 0 ≤ x6 then (if x6 < (x3.length : Int) then (spec_ggGroups.l2 k (x3.set (x6 : Int).toNat x5) x5 (([x6] : List Int)) 0 x26 x27 x28 x163000 x163001 x163002) else (none)) else (none))
def spec_ggGroups.l2 : Nat → List Int → Int → List Int → Int → List (S89) → Int → Int → Int → Int → List (S89) → Option (List Int)
 | 0, _, _, _, _, _, _, _, _, _, _ => none
 | k + 1, x3, x5, x8, x9, x26, x27, x28, x163000, x163001, x163002 => if x9 < (x8.length : Int) then (if 0 ≤ x9 then ((spec_ggNear.f k x163000 x163001 x163002 (rd x8 x9)).bind fun t176 => (spec_ggGroups.l3 k x3 x5 x8 x9 x26 x27 x28 t176 (t176.length : Int) 0 x163000 x163001 x163002)) else (none)) else (spec_ggGroups.l1 k x3 (wrap64 (x5 + 1)) x26 x27 (wrap64 (x28 + 1)) x163000 x163001 x163002)
def spec_ggGroups.l3 : Nat → List Int → Int → List Int → Int → List (S89) → Int → Int → List Int → Int → Int → Int → Int → List (S89) → Option (List Int)
 | 0, _, _, _, _, _, _, _, _, _, _, _, _, _ => none
 | k + 1, x3, x5, x8, x9, x26, x27, x28, x60, x61, x62, x163000, x163001, x163002 => if x62 < x61 then (if 0 ≤ x62 then (if x62 < (x60.length : Int) then (if 0 ≤ (rd x60 x62) then (if (rd x60 x62) < (x163002.length : Int) then ((spec_ggGear.f ((rd_T89 x163002 (rd x60 x62)).f0) ((rd_T89 x163002 (rd x60 x62)).f1)).bind fun t181 => (if t181 = true then (if (rd x60 x62) < (x3.length : Int) then (if (rd x3 (rd x60 x62)) < 0 then (if x8.length < 17592186044416 then (spec_ggGroups.l3 k (x3.set ((rd x60 x62) : Int).toNat x5) x5 (x8 ++ [rd x60 x62]) x9 x26 x27 x28 x60 x61 (wrap64 (x62 + 1)) x163000 x163001 x163002) else (none)) else (spec_ggGroups.l3 k x3 x5 x8 x9 x26 x27 x28 x60 x61 (wrap64 (x62 + 1)) x163000 x163001 x163002)) else (none)) else (spec_ggGroups.l3 k x3 x5 x8 x9 x26 x27 x28 x60 x61 (wrap64 (x62 + 1)) x163000 x163001 x163002))) else (none)) else (none)) else (none)) else (none)) else (spec_ggGroups.l2 k x3 x5 x8 (wrap64 (x9 + 1)) x26 x27 x28 x163000 x163001 x163002)
end
def spec_ggGroups.f (k : Nat) (a0_0 : Int) (a0_1 : Int) (l0_2 : List (S89)) : Option (List Int) := if 0 ≤ (l0_2.length : Int) then (if ((l0_2.length : Int) : Int).toNat ≤ 35184372088832 then ((some (List.replicate ((l0_2.length : Int) : Int).toNat 0 : List Int)).bind fun y163 => (spec_ggGroups.l0 k y163 (y163.length : Int) 0 a0_0 a0_1 l0_2)) else (none)) else (none)
def spec_ggGroups.T17 : Bool × List (List Nat × List Nat) := (true, [([], []), ([], []), ([], []), ([1, 2], [1, 2]), ([3], [3]), ([0, 4], [0, 4]), ([5], [5]), ([], [])])
def spec_ggGroups.B17 : List Nat := [0, 0, 0, 6, 14, 31, 63, 0]
theorem spec_ggGroups.tab17 : rtab .any (opsOf Try.f62 17) = spec_ggGroups.T17 := by kernel_rfl
theorem spec_ggGroups.bits17 : waitsOk spec_ggGroups.T17.2 spec_ggGroups.B17 = true := by kernel_rfl
set_option maxHeartbeats 8000000 in
set_option maxRecDepth 100000 in
theorem spec_ggGroups.calls (k : Nat) (a0_0 : Int) (a0_1 : Int) (A0_2 : Option Addr) (c0_2 : Nat) (l0_2 : List (S89)) (r : List Int) (w : World) (hr0_2 : Kd.C k89 w A0_2 l0_2.length l0_2) (hc0_2 : l0_2.length ≤ c0_2) (h : spec_ggGroups.f k a0_0 a0_1 l0_2 = some r) :
 Calls Try.prog 62 #[.agg #[.int .i64 a0_0, .int .i64 a0_1, .slice A0_2 l0_2.length c0_2]] w fun e w' => ∃ v0_ : Value, e = .returned (v0_) ∧ Kd.R (Kd.int .i64) 3 w' w.heap.size (fun _ => True) v0_ r ∧ Below w.heap.size w w' := by
 have Dp := Try.underlying32
 have Dq := Try.underlying89
 have AD := Z.m hr0_2
 have BF := Z.m hc0_2
 clear hr0_2 hc0_2
 have HB := Z.m (Below.refl w.heap.size w)
 have H : (if 0 ≤ (l0_2.length : Int) then (if ((l0_2.length : Int) : Int).toNat ≤ 35184372088832 then ((some (List.replicate ((l0_2.length : Int) : Int).toNat 0 : List Int)).bind fun Av => (spec_ggGroups.l0 k Av (Av.length : Int) 0 a0_0 a0_1 l0_2)) else (none)) else (none)) = some r := h
 clear h
 by_cases c2 : 0 ≤ (l0_2.length : Int)
 ·rw [if_pos c2] at H
  have CD := eq_true c2
  have CE := decide_eq_true c2
  clear c2
  by_cases c3 : ((l0_2.length : Int) : Int).toNat ≤ 35184372088832
  ·rw [if_pos c3] at H
   have CF := eq_true c3
   have CG := decide_eq_true c3
   clear c3
   obtain ⟨Av, AI⟩ : ∃ y_ : List Int, y_ = (List.replicate ((l0_2.length : Int) : Int).toNat 0) := ⟨_, rfl⟩
   replace H : (spec_ggGroups.l0 k Av (Av.length : Int) 0 a0_0 a0_1 l0_2) = some r := by first | (rw [AI]; with_reducible exact H) | (have H2_ := (Option.bind_some _ _).symm.trans H; rw [AI]; with_reducible exact H2_) | (have H2_ := (Option.bind_some _ _).symm.trans H; with_reducible exact H2_) | with_reducible exact H | (rw [AI]; exact H) | exact H
   have Bh := Z.m AI
   clear AI
   have H' := Z.m H
   clear H
   go_enter Try.func62, Try.ntmps62
   go_wp2_with (first | ((with_reducible refine gq (N := 1) rfl ?_); refine be (N := 1) (cs := #[.int .i64 a0_0, .int .i64 a0_1, .slice A0_2 l0_2.length c0_2]) (t := 32) ?_; intro Ak hg w4 hbox hb; have A0 := Z.m (hbox); have BD := gW (w := w) HB hg; have CS := BD; replace HB := bB HB hb; clear hb hbox hg; have Br := bc0 A0; have Bs := bc1 A0; have Bt := bc2 A0; have Bu := qz A0.o 0; have Bv := qz A0.o 1; have Bw := qz A0.o 2) | ((with_reducible refine gq (N := 15) rfl ?_); refine Kd.R_make (Kd.int .i64) _ 3 rfl (N := 15) rfl 43 _ _ rfl (l0_2.length : Int) rfl rfl Try.underlying43 (.int .i64 0) 8 info3 rfl (by decide) (by omega) 0 (ok := fun _ => True) (okp := fun _ => True) rfl (fun _ hk => hk) trivial (ofD) (Nat.le_trans (Nat.mul_le_mul_right _ (ofD : (l0_2.length : Int).toNat ≤ 35184372088832)) (by omega)) (Below.refl _ _) (Nat.le_refl _) ?_; intro Dr w6 C0 hb hg_ hnew_; clear hg_ hnew_; (first | rw [← Bh.o] at C0 | (simp only [Int.reduceToNat] at C0; rw [← Bh.o] at C0)); have Bf := Z.m (Kd.R_lower C0 (below_size (vB HB))); replace A0 := kB A0 hb; replace HB := bB HB hb; clear hb C0; obtain ⟨CB, AH, Do⟩ := Kd.R_slice Bf.o; subst Do))
   go_loopg [18] k (fun kq v18 w' => ∃ (AA : List Int) (Al : Int), v18 = .int .i64 Al ∧ Z (spec_ggGroups.l0 kq AA (Av.length : Int) Al a0_0 a0_1 l0_2 = some r) ∧ Z (kq ≤ k) ∧ Z (Kd.R (Kd.int .i64) 3 w' w.heap.size (fun _ => True) (.slice CB Av.length AH) AA) ∧ Z (w'.heap[Ak]? = some (.cells #[.int .i64 a0_0, .int .i64 a0_1, (.slice A0_2 l0_2.length c0_2)] 32 (0, 0))) ∧ Z (Below w.heap.size w w'))
   case atStart => exact ⟨(Av), (0), (by first | rfl | (simp; done) | (simp [*]; done)), H', ⟨Nat.le_refl _⟩, ⟨vR Bf⟩, ⟨vK A0⟩, ⟨vB HB⟩⟩
   case round =>
    clear H'
    (try clear CD); (try clear CE); (try clear CF); (try clear CG)
    (try clear Br); (try clear Bs); (try clear Bt); (try clear Bu); (try clear Bv); (try clear Bw)
    obtain ⟨AA, Al, rfl, HA, AO, A7, A0, HB⟩ := hrel
    have A5 := (Kd.RrZ A7.o).1
    rw [A5] at A7
    (try simp only [A5])
    (try simp only [A5] at A0)
    cases gk with
    | zero => exact absurd HA.o (by simp [spec_ggGroups.l0])
    | succ k1 =>
     have H := HA.o
     clear HA
     simp only [spec_ggGroups.l0] at H
     by_cases c9 : Al < (Av.length : Int)
     ·rw [if_pos c9] at H
      have Bp := decide_eq_true c9
      clear c9
      by_cases c10 : 0 ≤ Al
      ·rw [if_pos c10] at H
       have CV := decide_eq_true c10
       clear c10
       by_cases c11 : Al < (AA.length : Int)
       ·rw [if_pos c11] at H
        have CW := decide_eq_true c11
        clear c11
        obtain ⟨By, AJ⟩ : ∃ y_ : List Int, y_ = (AA.set (Al : Int).toNat (-1)) := ⟨_, rfl⟩
        replace H : (spec_ggGroups.l0 k1 By (Av.length : Int) (wrap64 (Al + 1)) a0_0 a0_1 l0_2) = some r := by first | (rw [AJ]; with_reducible exact H) | (have H2_ := (Option.bind_some _ _).symm.trans H; rw [AJ]; with_reducible exact H2_) | (have H2_ := (Option.bind_some _ _).symm.trans H; with_reducible exact H2_) | with_reducible exact H | (rw [AJ]; exact H) | exact H
        have BL := Z.m AJ
        clear AJ
        have H' := Z.m H
        clear H
        have p12 : 0 ≤ (Al : Int) := ofD
        have q12 : (Al : Int) < ((AA.length : Int) : Int) := ofD
        obtain ⟨Bq, Dk, BV, BY, gl12, cl12, BG⟩ := Kd.R_form A7.o (by omega)
        (first | cases BV | (injection BV with ea_ en_ ec_; (first | subst ea_ | (injection ea_ with ea_; subst ea_)); subst ec_; clear en_))
        have CC := Z.m BY
        have Di := Z.m BG
        clear BY gl12 BG
        obtain ⟨CM, CJ⟩ := Kd.R_celln 0 A7.o (Al : Int) p12 q12
        replace p12 := eq_true p12
        replace q12 := eq_true q12
        have Bm := Kd.R_putg A7.o (Al : Int) (-1)
        go_wp2_with (first | ((with_reducible refine gt (t := 3) (p := 23) rfl ?_); refine store_event (t := 3) (p := 23) (v := ?vo_w14) (w1 := (wr.setCell ⟨Bq, (Al : Int).toNat, none⟩ (.int .i64 (-1)))) ?hg ?ho ?hn ?hr ?_; (case ho => rfl); (case hg => rfl); (case hn => rfl); (case hr => first | (go_simp; done) | (go_simp; rfl)); intro CO hw; have hg : wr.grownBy CO (some Bq) := (by rw [hw]; exact Bm.2); have hp_ : Kd.R (Kd.int .i64) 3 CO w.heap.size (fun _ => True) (.slice (some ⟨Bq, 0, none⟩) AA.length AH) By := (by rw [hw, BL.o]; exact Bm.1); clear Bm; replace A0 := Z.m (qg (g := Ak) (o := .cells #[.int .i64 a0_0, .int .i64 a0_1, .slice A0_2 l0_2.length c0_2] 32 (0, 0)) (vK A0) hg (Kd.R_ne A7.o A0.o (by decide))); replace A7 := Z.m (hp_); replace HB := Z.m ((by rw [hw]; exact qx (HB.o) CC.o : Below w.heap.size w CO)); clear hg hw hp_))
        (try simp only [← A5])
        go_roundg k1
        case measure => have := AO.o; omega
        case rel => exact ⟨(By), (wrap64 (Al + 1)), (by first | rfl | (simp; done) | (simp [*]; done)), H', ⟨by have := AO.o; omega⟩, ⟨by (try simp only [A5]); (with_reducible repeat (first | apply Kd.R_alloc | apply Kd.R_drewN | apply Kd.R_drew)); exact A7.o⟩, ⟨by (try simp only [A5]); (with_reducible repeat (first | refine blk_drewN ?_ _ | refine blk_drew ?_ | refine blk_alloc ?_ _)); exact A0.o⟩, ⟨vB HB⟩⟩
       ·rw [if_neg c11] at H
        exact absurd H (by simp)
      ·rw [if_neg c10] at H
       exact absurd H (by simp)
     ·rw [if_neg c9] at H
      have Bp := decide_eq_false c9
      (try simp only [A5] at Bp)
      clear c9
      have H' := Z.m H
      clear H
      have AV := bc0 A0
      have AW := bc1 A0
      have AX := bc2 A0
      have B0 := qz A0.o 0
      have B2 := qz A0.o 1
      have B7 := qz A0.o 2
      go_wp2
      go_loopg [5, 28] k1 (fun kq v5 v28 w' => ∃ (Ah : List Int) (Ab : Int) (A1 : Int), v5 = .int .i64 Ab ∧ v28 = .int .i64 A1 ∧ Z (spec_ggGroups.l1 kq Ah Ab l0_2 (l0_2.length : Int) A1 a0_0 a0_1 l0_2 = some r) ∧ Z (kq ≤ k1) ∧ Z (Kd.R (Kd.int .i64) 3 w' w.heap.size (fun _ => True) (.slice CB AA.length AH) Ah) ∧ Z (w'.heap[Ak]? = some (.cells #[.int .i64 a0_0, .int .i64 a0_1, (.slice A0_2 l0_2.length c0_2)] 32 (0, 0))) ∧ Z (Below w.heap.size w w'))
      case atStart => exact ⟨(AA), (0), (0), (by first | rfl | (simp; done) | (simp [*]; done)), (by first | rfl | (simp; done) | (simp [*]; done)), H', ⟨Nat.le_refl _⟩, ⟨by (try simp only [A5]); (with_reducible repeat (first | apply Kd.R_alloc | apply Kd.R_drewN | apply Kd.R_drew)); exact A7.o⟩, ⟨by (try simp only [A5]); (with_reducible repeat (first | refine blk_drewN ?_ _ | refine blk_drew ?_ | refine blk_alloc ?_ _)); exact A0.o⟩, ⟨vB HB⟩⟩
      case round =>
       clear H'
       (try clear Bp)
       (try clear AV); (try clear AW); (try clear AX); (try clear B0); (try clear B2); (try clear B7)
       obtain ⟨Ah, Ab, A1, rfl, rfl, HA, AQ, A7, A0, HB⟩ := hrel
       have A6 := (Kd.RrZ A7.o).1
       rw [A6] at A7
       (try simp only [A6])
       (try simp only [A6] at A0)
       cases gk with
       | zero => exact absurd HA.o (by simp [spec_ggGroups.l1])
       | succ k2 =>
        have H := HA.o
        clear HA
        simp only [spec_ggGroups.l1] at H
        by_cases c16 : A1 < (l0_2.length : Int)
        ·rw [if_pos c16] at H
         have Ax := decide_eq_true c16
         clear c16
         by_cases c17 : 0 ≤ A1
         ·rw [if_pos c17] at H
          have BQ := decide_eq_true c17
          clear c17
          by_cases c18 : A1 < (l0_2.length : Int)
          ·rw [if_pos c18] at H
           have BR := decide_eq_true c18
           clear c18
           have Bl := Z.m H
           clear H
           have p167 : 0 ≤ (A1 : Int) := ofD
           have q167 : A1 < (l0_2.length : Int) := ofD
           obtain ⟨Am, e167, As, At⟩ := at_T89 AD.o A1 p167 q167
           cases e167
           replace As := (HB.o.cell (World.block_lt_of_cell? w _ As)).trans As
           replace At := (HB.o.cell (World.block_lt_of_cell? w _ At)).trans At
           replace p167 := eq_true p167
           replace q167 := eq_true q167
           go_upto_region 11 with (first | ((with_reducible refine gq (N := 7) rfl ?_); refine be (N := 7) (cs := #[.int .i64 0, .int .i64 0]) (t := 89) ?_; intro Aq hg Dv hbox hb; have A4 := Z.m (hbox); have BE := gW (w := w) HB hg; have CT := BE; have Aa := neL A0 hg; have Ai := neG A0 hg; replace A7 := Z.m (Kd.Rb (vR A7) hb); replace A0 := kB A0 hb; replace HB := bB HB hb; clear hb hbox hg; have D2 := Ai.o; have D8 := Aa.o; have AY := bc0 A4; have AZ := bc1 A4; have Ba := qz A4.o 0; have Bb := qz A4.o 1))
           (try simp only [Act.put, q1, q2, q3])
           go_cut [42] (fun v42 wc => ∃ (kq : Nat) (AC : Bool), v42 = .bool AC ∧ Z (spec_ggGroups.j2 kq Ah Ab A1 l0_2 (l0_2.length : Int) A1 AC a0_0 a0_1 l0_2 = some r) ∧ Z (kq ≤ k2) ∧ Z (Kd.R (Kd.int .i64) 3 wc w.heap.size (fun _ => True) (.slice CB Ah.length AH) Ah) ∧ Z (wc.heap[Ak]? = some (.cells #[.int .i64 a0_0, .int .i64 a0_1, (.slice (some Am) l0_2.length c0_2)] 32 (0, 0))) ∧ Z (wc.heap[Aq]? = some (.cells #[.int .i64 ((rd_T89 l0_2 A1).f0), .int .i64 ((rd_T89 l0_2 A1).f1)] 89 (0, 0))) ∧ Z (Below w.heap.size w wc))
           case first =>
            have H := Bl.o
            clear Bl
            replace H := Option.bind_eq_some_iff.mp H
            obtain ⟨C1, Bz, H⟩ := H
            replace H : (if C1 = true then (if A1 < (Ah.length : Int) then (spec_ggGroups.j2 k2 Ah Ab A1 l0_2 (l0_2.length : Int) A1 (decide ((rd Ah A1) ≥ 0)) a0_0 a0_1 l0_2) else (none)) else (spec_ggGroups.j2 k2 Ah Ab A1 l0_2 (l0_2.length : Int) A1 true a0_0 a0_1 l0_2)) = some r := H
            have CR := Z.m Bz
            clear Bz
            by_cases c24 : C1 = true
            ·subst c24
             have H1 : (if A1 < (Ah.length : Int) then (spec_ggGroups.j2 k2 Ah Ab A1 l0_2 (l0_2.length : Int) A1 (decide ((rd Ah A1) ≥ 0)) a0_0 a0_1 l0_2) else (none)) = some r := by rw [if_pos rfl] at H; exact H
             clear H
             have H := H1
             clear H1
             by_cases c25 : A1 < (Ah.length : Int)
             ·rw [if_pos c25] at H
              have Bj := decide_eq_true c25
              clear c25
              (first | rw [Bj] | (simp only [i64_w, i32_w]; rw [Bj]) | skip)
              have H' := Z.m H
              clear H
              have D3 := Ai.o
              have D9 := Aa.o
              have C6 := bc0 A4
              have C7 := bc1 A4
              have Cl := qz A4.o 0
              have Cm := qz A4.o 1
              go_wp2_with (first | ((with_reducible refine gc (f := 80) rfl ?_); refine gA (some 34) _ #[.agg #[.int .i64 ((rd_T89 l0_2 A1).f0), .int .i64 ((rd_T89 l0_2 A1).f1)]] ?_ Try.func80; (with_reducible refine (spec_ggGear.calls ((rd_T89 l0_2 A1).f0) ((rd_T89 l0_2 A1).f1) true _ CR.o).mono ?_); rintro e Dw ⟨rfl, hb⟩; refine ⟨_, rfl, ?_⟩; replace A7 := Z.m (Kd.Rb (by (with_reducible repeat (first | apply Kd.R_alloc | apply Kd.R_drewN | apply Kd.R_drew)); exact (Kd.Rm (rf (rf (Kd.Ry A7.o A4.o (by decide)))) (fun _ h_ => h_.1))) hb); replace A0 := Z.m (qb (g := Ak) (o := .cells #[.int .i64 a0_0, .int .i64 a0_1, .slice (some Am) l0_2.length c0_2] 32 (0, 0)) (by (with_reducible repeat (first | refine blk_drewN ?_ _ | refine blk_drew ?_ | refine blk_alloc ?_ _)); refine qf ?_ Aa.o _; (with_reducible repeat (first | refine blk_drewN ?_ _ | refine blk_drew ?_ | refine blk_alloc ?_ _)); refine qf ?_ Aa.o _; (with_reducible repeat (first | refine blk_drewN ?_ _ | refine blk_drew ?_ | refine blk_alloc ?_ _)); exact A0.o) hb); replace A4 := Z.m (qb (g := Aq) (o := .cells #[.int .i64 ((rd_T89 l0_2 A1).f0), .int .i64 ((rd_T89 l0_2 A1).f1)] 89 (0, 0)) (by (with_reducible repeat (first | refine blk_drewN ?_ _ | refine blk_drew ?_ | refine blk_alloc ?_ _)); refine qp (cs := #[iV ((rd_T89 l0_2 A1).f0), iV 0]) ?_ 1 _ rfl; (with_reducible repeat (first | refine blk_drewN ?_ _ | refine blk_drew ?_ | refine blk_alloc ?_ _)); refine qp (cs := #[iV 0, iV 0]) ?_ 0 _ rfl; (with_reducible repeat (first | refine blk_drewN ?_ _ | refine blk_drew ?_ | refine blk_alloc ?_ _)); exact A4.o) hb); replace HB := bB HB hb; (try clear hb); (try clear C5); (try clear hk); (try clear hi); have p170 : 0 ≤ (A1 : Int) := ofD; have q170 : A1 < (Ah.length : Int) := ofD; obtain ⟨CU, e170, Cz⟩ := Kd.at_int (Kd.RrZ A7.o).2.2 A1 p170 q170; cases e170; replace p170 := eq_true p170; replace q170 := eq_true q170))
              go_meet
              case rel => exact ⟨_, (decide ((rd Ah A1) ≥ 0)), (by first | rfl | (simp; done) | (simp [*]; done)), H', ⟨by have := AO.o; have := AQ.o; first | omega | exact Nat.le_refl _⟩, ⟨by (try simp only [A5]); (try simp only [A6]); (with_reducible repeat (first | apply Kd.R_alloc | apply Kd.R_drewN | apply Kd.R_drew)); exact A7.o⟩, ⟨by (try simp only [A5]); (try simp only [A6]); (with_reducible repeat (first | refine blk_drewN ?_ _ | refine blk_drew ?_ | refine blk_alloc ?_ _)); exact A0.o⟩, ⟨by (try simp only [A5]); (try simp only [A6]); (with_reducible repeat (first | refine blk_drewN ?_ _ | refine blk_drew ?_ | refine blk_alloc ?_ _)); exact A4.o⟩, ⟨vB HB⟩⟩
             ·rw [if_neg c25] at H
              exact absurd H (by simp)
            ·replace c24 := Bool.eq_false_iff.mpr c24
             subst c24
             have H1 : (spec_ggGroups.j2 k2 Ah Ab A1 l0_2 (l0_2.length : Int) A1 true a0_0 a0_1 l0_2) = some r := by rw [if_neg (show ¬ (false = true) by decide)] at H; exact H
             clear H
             have H := H1
             clear H1
             have H' := Z.m H
             clear H
             have D4 := Ai.o
             have Da := Aa.o
             have C8 := bc0 A4
             have C9 := bc1 A4
             have Cn := qz A4.o 0
             have Co := qz A4.o 1
             go_wp2_with (first | ((with_reducible refine gc (f := 80) rfl ?_); refine gA (some 34) _ #[.agg #[.int .i64 ((rd_T89 l0_2 A1).f0), .int .i64 ((rd_T89 l0_2 A1).f1)]] ?_ Try.func80; (with_reducible refine (spec_ggGear.calls ((rd_T89 l0_2 A1).f0) ((rd_T89 l0_2 A1).f1) false _ CR.o).mono ?_); rintro e Dx ⟨rfl, hb⟩; refine ⟨_, rfl, ?_⟩; replace A7 := Z.m (Kd.Rb (by (with_reducible repeat (first | apply Kd.R_alloc | apply Kd.R_drewN | apply Kd.R_drew)); exact (Kd.Rm (rf (rf (Kd.Ry A7.o A4.o (by decide)))) (fun _ h_ => h_.1))) hb); replace A0 := Z.m (qb (g := Ak) (o := .cells #[.int .i64 a0_0, .int .i64 a0_1, .slice (some Am) l0_2.length c0_2] 32 (0, 0)) (by (with_reducible repeat (first | refine blk_drewN ?_ _ | refine blk_drew ?_ | refine blk_alloc ?_ _)); refine qf ?_ Aa.o _; (with_reducible repeat (first | refine blk_drewN ?_ _ | refine blk_drew ?_ | refine blk_alloc ?_ _)); refine qf ?_ Aa.o _; (with_reducible repeat (first | refine blk_drewN ?_ _ | refine blk_drew ?_ | refine blk_alloc ?_ _)); exact A0.o) hb); replace A4 := Z.m (qb (g := Aq) (o := .cells #[.int .i64 ((rd_T89 l0_2 A1).f0), .int .i64 ((rd_T89 l0_2 A1).f1)] 89 (0, 0)) (by (with_reducible repeat (first | refine blk_drewN ?_ _ | refine blk_drew ?_ | refine blk_alloc ?_ _)); refine qp (cs := #[iV ((rd_T89 l0_2 A1).f0), iV 0]) ?_ 1 _ rfl; (with_reducible repeat (first | refine blk_drewN ?_ _ | refine blk_drew ?_ | refine blk_alloc ?_ _)); refine qp (cs := #[iV 0, iV 0]) ?_ 0 _ rfl; (with_reducible repeat (first | refine blk_drewN ?_ _ | refine blk_drew ?_ | refine blk_alloc ?_ _)); exact A4.o) hb); replace HB := bB HB hb; (try clear hb); (try clear C5); (try clear hk); (try clear hi)))
             go_meet
             case rel => exact ⟨_, (true), (by first | rfl | (simp; done) | (simp [*]; done)), H', ⟨by have := AO.o; have := AQ.o; first | omega | exact Nat.le_refl _⟩, ⟨by (try simp only [A5]); (try simp only [A6]); (with_reducible repeat (first | apply Kd.R_alloc | apply Kd.R_drewN | apply Kd.R_drew)); exact A7.o⟩, ⟨by (try simp only [A5]); (try simp only [A6]); (with_reducible repeat (first | refine blk_drewN ?_ _ | refine blk_drew ?_ | refine blk_alloc ?_ _)); exact A0.o⟩, ⟨by (try simp only [A5]); (try simp only [A6]); (with_reducible repeat (first | refine blk_drewN ?_ _ | refine blk_drew ?_ | refine blk_alloc ?_ _)); exact A4.o⟩, ⟨vB HB⟩⟩
           case rest =>
            clear Bl
            (try clear Ax); (try clear BQ); (try clear BR)
            (try clear AY); (try clear AZ); (try clear Ba); (try clear Bb); (try clear As); (try clear At); (try clear p167); (try clear q167)
            obtain ⟨kq, AC, rfl, HA, Ar, A7, A0, A4, HB⟩ := hcut
            cases kq with
            | zero => exact absurd HA.o (by simp [spec_ggGroups.j2])
            | succ kj18 =>
             have H := HA.o
             clear HA
             simp only [spec_ggGroups.j2] at H
             by_cases c32 : AC = true
             ·subst c32
              have H1 : (spec_ggGroups.l1 kj18 Ah Ab l0_2 (l0_2.length : Int) (wrap64 (A1 + 1)) a0_0 a0_1 l0_2) = some r := by rw [if_pos rfl] at H; exact H
              clear H
              have H := H1
              clear H1
              have H' := Z.m H
              clear H
              go_wp2
              (try simp only [← A6])
              go_roundg kj18
              case measure => have := AO.o; have := AQ.o; have := Ar.o; omega
              case rel => exact ⟨(Ah), (Ab), (wrap64 (A1 + 1)), (by first | rfl | (simp; done) | (simp [*]; done)), (by first | rfl | (simp; done) | (simp [*]; done)), H', ⟨by have := AO.o; have := AQ.o; have := Ar.o; omega⟩, ⟨by (try simp only [A5]); (try simp only [A6]); (with_reducible repeat (first | apply Kd.R_alloc | apply Kd.R_drewN | apply Kd.R_drew)); exact A7.o⟩, ⟨by (try simp only [A5]); (try simp only [A6]); (with_reducible repeat (first | refine blk_drewN ?_ _ | refine blk_drew ?_ | refine blk_alloc ?_ _)); exact A0.o⟩, ⟨vB HB⟩⟩
             ·replace c32 := Bool.eq_false_iff.mpr c32
              subst c32
              have H1 : (if 0 ≤ A1 then (if A1 < (Ah.length : Int) then (spec_ggGroups.l2 kj18 (Ah.set (A1 : Int).toNat Ab) Ab (([A1] : List Int)) 0 l0_2 (l0_2.length : Int) A1 a0_0 a0_1 l0_2) else (none)) else (none)) = some r := by rw [if_neg (show ¬ (false = true) by decide)] at H; exact H
              clear H
              have H := H1
              clear H1
              by_cases c33 : 0 ≤ A1
              ·rw [if_pos c33] at H
               have BS := decide_eq_true c33
               clear c33
               by_cases c34 : A1 < (Ah.length : Int)
               ·rw [if_pos c34] at H
                have BT := decide_eq_true c34
                clear c34
                obtain ⟨Bc, AK⟩ : ∃ y_ : List Int, y_ = (Ah.set (A1 : Int).toNat Ab) := ⟨_, rfl⟩
                replace H : (spec_ggGroups.l2 kj18 Bc Ab (([A1] : List Int)) 0 l0_2 (l0_2.length : Int) A1 a0_0 a0_1 l0_2) = some r := by first | (rw [AK]; with_reducible exact H) | (have H2_ := (Option.bind_some _ _).symm.trans H; rw [AK]; with_reducible exact H2_) | (have H2_ := (Option.bind_some _ _).symm.trans H; with_reducible exact H2_) | with_reducible exact H | (rw [AK]; exact H) | exact H
                have BM := Z.m AK
                clear AK
                obtain ⟨C3, AL⟩ : ∃ y_ : List Int, y_ = (([A1] : List Int)) := ⟨_, rfl⟩
                replace H : (spec_ggGroups.l2 kj18 Bc Ab C3 0 l0_2 (l0_2.length : Int) A1 a0_0 a0_1 l0_2) = some r := by first | (rw [AL]; with_reducible exact H) | (have H2_ := (Option.bind_some _ _).symm.trans H; rw [AL]; with_reducible exact H2_) | (have H2_ := (Option.bind_some _ _).symm.trans H; with_reducible exact H2_) | with_reducible exact H | (rw [AL]; exact H) | exact H
                have Bi := Z.m AL
                clear AL
                have H' := Z.m H
                clear H
                have p35 : 0 ≤ (A1 : Int) := ofD
                have q35 : (A1 : Int) < ((Ah.length : Int) : Int) := ofD
                obtain ⟨An, Dl, BW, BZ, gl35, cl35, BH⟩ := Kd.R_form A7.o (by omega)
                (first | cases BW | (injection BW with ea_ en_ ec_; (first | subst ea_ | (injection ea_ with ea_; subst ea_)); subst ec_; clear en_))
                have BC := Z.m BZ
                have Dj := Z.m BH
                clear BZ gl35 BH
                obtain ⟨Bx, CK⟩ := Kd.R_celln 0 A7.o (A1 : Int) p35 q35
                replace p35 := eq_true p35
                replace q35 := eq_true q35
                have Bn := Kd.R_putg A7.o (A1 : Int) Ab
                go_wp2_with (first | ((with_reducible refine gt (t := 3) (p := 46) rfl ?_); refine store_event (t := 3) (p := 46) (v := ?vo_w37) (w1 := (wc.setCell ⟨An, (A1 : Int).toNat, none⟩ (.int .i64 Ab))) ?hg ?ho ?hn ?hr ?_; (case ho => rfl); (case hg => rfl); (case hn => rfl); (case hr => first | (go_simp; done) | (go_simp; rfl)); intro CP hw; have hg : wc.grownBy CP (some An) := (by rw [hw]; exact Bn.2); have hp_ : Kd.R (Kd.int .i64) 3 CP w.heap.size (fun _ => True) (.slice (some ⟨An, 0, none⟩) Ah.length AH) Bc := (by rw [hw, BM.o]; exact Bn.1); clear Bn; replace A0 := Z.m (qg (g := Ak) (o := .cells #[.int .i64 a0_0, .int .i64 a0_1, .slice (some Am) l0_2.length c0_2] 32 (0, 0)) (vK A0) hg (Kd.R_ne A7.o A0.o (by decide))); replace A4 := Z.m (qg (g := Aq) (o := .cells #[.int .i64 ((rd_T89 l0_2 A1).f0), .int .i64 ((rd_T89 l0_2 A1).f1)] 89 (0, 0)) (vK A4) hg (Kd.R_ne A7.o A4.o (by decide))); replace A7 := Z.m (hp_); replace HB := Z.m ((by rw [hw]; exact qx (HB.o) BC.o : Below w.heap.size w CP)); clear hg hw hp_) | ((with_reducible refine gq (N := 48) rfl ?_); refine Kd.R_lit (Kd.int .i64) _ 3 ?hg (N := 48) ?hd (xs := ([A1] : List Int)) (inner := [.int .i64 A1]) (ok := fun _ => True) (okp := fun _ => True) ?hr ?hp (fun _ hk => hk) trivial (Below.refl _ _) (Nat.le_refl _) (by simp) ?_; (case hd => rfl); (case hg => rfl); (case hr => first | (go_simp; done) | (go_simp; rfl)); (case hp => exact (Reps.one (show Kd.M (Kd.int .i64) _ _ _ A1 [.int .i64 A1] from rfl) (Reps.none _ _))); intro Ds Dy AS hb hg_ hnew_; clear hg_ hnew_; (first | rw [← Bi.o] at AS | (simp only [Int.reduceToNat] at AS; rw [← Bi.o] at AS)); have BI := Z.m (Kd.R_lower (Kd.R_new' AS (Kd.R_lt (vR A7))) (below_size (vB HB))); replace A7 := Z.m (Kd.R_elder' (vR A7) (Kd.R_base AS) hb); replace A0 := kB A0 hb; replace A4 := kB A4 hb; replace HB := bB HB hb; clear hb AS))
                go_loopg [8, 9] kj18 (fun kq v8 v9 w' => ∃ (AB : List Int) (Au : List Int) (Aj : Int), v9 = .int .i64 Aj ∧ Z (spec_ggGroups.l2 kq AB Ab Au Aj l0_2 (l0_2.length : Int) A1 a0_0 a0_1 l0_2 = some r) ∧ Z (kq ≤ kj18) ∧ Z (Kd.R (Kd.int .i64) 3 w' w.heap.size (fun k_ => some k_ ≠ (v8 : Value).ownBlock) (.slice (some ⟨An, 0, none⟩) Ah.length AH) AB) ∧ Z (Kd.R (Kd.int .i64) 3 w' w.heap.size (fun k_ => some k_ ≠ ((.slice (some ⟨An, 0, none⟩) Ah.length AH) : Value).ownBlock) v8 Au) ∧ Z (w'.heap[Ak]? = some (.cells #[.int .i64 a0_0, .int .i64 a0_1, (.slice (some Am) l0_2.length c0_2)] 32 (0, 0))) ∧ Z (w'.heap[Aq]? = some (.cells #[.int .i64 ((rd_T89 l0_2 A1).f0), .int .i64 ((rd_T89 l0_2 A1).f1)] 89 (0, 0))) ∧ Z (Below w.heap.size w w'))
                case atStart => exact ⟨(Bc), (C3), (0), (by first | rfl | (simp; done) | (simp [*]; done)), H', ⟨Nat.le_refl _⟩, ⟨by (try simp only [A5]); (try simp only [A6]); (with_reducible repeat (first | apply Kd.R_alloc | apply Kd.R_drewN | apply Kd.R_drew)); exact Kd.Rm A7.o (fun _ hk => hk.2)⟩, ⟨by (try simp only [A5]); (try simp only [A6]); (with_reducible repeat (first | apply Kd.R_alloc | apply Kd.R_drewN | apply Kd.R_drew)); exact Kd.Rm BI.o (fun _ hk => hk.2)⟩, ⟨by (try simp only [A5]); (try simp only [A6]); (with_reducible repeat (first | refine blk_drewN ?_ _ | refine blk_drew ?_ | refine blk_alloc ?_ _)); exact A0.o⟩, ⟨by (try simp only [A5]); (try simp only [A6]); (with_reducible repeat (first | refine blk_drewN ?_ _ | refine blk_drew ?_ | refine blk_alloc ?_ _)); exact A4.o⟩, ⟨vB HB⟩⟩
                case round =>
                 clear H'
                 (try clear c32); (try clear BS); (try clear BT); (try clear p35); (try clear q35); (try clear Bx)
                 obtain ⟨AB, Au, Aj, rfl, HA, AU, A7, Af, A0, A4, HB⟩ := hrel
                 have A8 := (Kd.RrZ A7.o).1
                 rw [A8] at A7
                 (try simp only [A8])
                 (try simp only [A8] at A0)
                 (try simp only [A8] at A4)
                 (try simp only [A8] at Af)
                 cases gk with
                 | zero => exact absurd HA.o (by simp [spec_ggGroups.l2])
                 | succ k4 =>
                  have H := HA.o
                  clear HA
                  simp only [spec_ggGroups.l2] at H
                  by_cases c40 : Aj < (Au.length : Int)
                  ·rw [if_pos c40] at H
                   have Ay := decide_eq_true c40
                   clear c40
                   by_cases c41 : 0 ≤ Aj
                   ·rw [if_pos c41] at H
                    have BU := decide_eq_true c41
                    clear c41
                    replace H := Option.bind_eq_some_iff.mp H
                    obtain ⟨A3, BA, H⟩ := H
                    replace H : (spec_ggGroups.l3 k4 AB Ab Au Aj l0_2 (l0_2.length : Int) A1 A3 (A3.length : Int) 0 a0_0 a0_1 l0_2) = some r := H
                    have Df := Z.m BA
                    clear BA
                    have H' := Z.m H
                    clear H
                    obtain ⟨Dg, Dm, CH⟩ := Kd.R_slice Af.o
                    subst CH
                    try go_wp2
                    replace A7 := Z.m (Kd.R_drew A7.o)
                    replace Af := Z.m (Kd.R_drew Af.o)
                    replace A0 := Z.m (blk_drew A0.o)
                    replace A4 := Z.m (blk_drew A4.o)
                    replace HB := Z.m (qd HB.o)
                    have p175 : 0 ≤ (Aj : Int) := ofD
                    have q175 : Aj < (Au.length : Int) := ofD
                    obtain ⟨BP, e175, Az⟩ := Kd.at_int (Kd.RrZ Af.o).2.2 Aj p175 q175
                    cases e175
                    replace p175 := eq_true p175
                    replace q175 := eq_true q175
                    refine start_ (n := 8) (S := fun w' => w'.cell? ⟨Ak, 0, none⟩ = some (.int .i64 a0_0) ∧ w'.cell? ⟨Ak, 1, none⟩ = some (.int .i64 a0_1) ∧ w'.cell? ⟨Ak, 2, none⟩ = some (.slice (some Am) l0_2.length c0_2) ∧ w'.cell? (BP.add (Aj).toNat) = some (.int .i64 (rd Au Aj))) (ds := []) #[false, false, false, false, false, false, false, false] (by kernel_rfl) rfl rfl ⟨(ql A0.o 0).trans rfl, (ql A0.o 1).trans rfl, (ql A0.o 2).trans rfl, Az⟩ (fun hHeld => ?_); refine with_tabW spec_ggGroups.tab17 spec_ggGroups.bits17 (fun HT_ HW_ => ?_)
                    generalize wr.drew = Dz at A7 Af A0 A4 HB Az hHeld ⊢
                    refine pure_ (i := 1) (N := some 56) (v := ?_) (a' := ?_) #[false, true, false, false, false, false, false, false] rfl rfl (any_of HT_.o (by kernel_rfl)) (fun _ _ _ h => h) (Or.inl ⟨by rfl, ?_⟩) ?_ ?_
                    rotate_left
                    ·intro w'
                     go_simp
                     with_reducible rfl
                    rotate_left
                    ·simp only [Act.put, q1, q2, q3, i64_w, i32_w]
                     rfl
                    refine pure_ (i := 2) (N := some 57) (v := ?_) (a' := ?_) #[false, true, true, false, false, false, false, false] rfl rfl (any_of HT_.o (by kernel_rfl)) (fun _ _ _ h => h) (Or.inl ⟨by rfl, ?_⟩) ?_ ?_
                    rotate_left
                    ·intro w'
                     go_simp
                     with_reducible rfl
                    rotate_left
                    ·simp only [Act.put, q1, q2, q3, i64_w, i32_w]
                     rfl
                    refine pure_ (i := 3) (N := some 58) (v := ?_) (a' := ?_) #[false, true, true, true, false, false, false, false] rfl rfl (any_of HT_.o (by kernel_rfl)) (fun _ _ _ h => h) (Or.inl ⟨by rfl, ?_⟩) ?_ ?_
                    rotate_left
                    ·intro w'
                     go_simp
                     with_reducible rfl
                    rotate_left
                    ·simp only [Act.put, q1, q2, q3, i64_w, i32_w]
                     rfl
                    refine pure_ (i := 7) (N := some 62) (v := ?_) (a' := ?_) #[false, true, true, true, false, false, false, true] rfl rfl (any_of HT_.o (by kernel_rfl)) (fun _ _ _ h => h) (Or.inl ⟨by rfl, ?_⟩) ?_ ?_
                    rotate_left
                    ·intro w'
                     go_simp
                     with_reducible rfl
                    rotate_left
                    ·simp only [Act.put, q1, q2, q3, i64_w, i32_w]
                     rfl
                    refine take_ (i := 0) (N := some 55) (v := ?_) (a' := ?_) #[true, true, true, true, false, false, false, true] rfl rfl (take_ofW HT_.o HW_.o (by kernel_rfl)) (fun _ _ _ h => h) (Or.inl ⟨by rfl, ?_⟩) hHeld ?_ ?_
                    rotate_left
                    ·rintro w' ⟨s0, s1, s2, s3⟩
                     go_simp
                     with_reducible rfl
                    rotate_left
                    ·simp only [Act.put, q1, q2, q3, i64_w, i32_w]
                     rfl
                    refine take_ (i := 4) (N := some 59) (v := ?_) (a' := ?_) #[true, true, true, true, true, false, false, true] rfl rfl (take_ofW HT_.o HW_.o (by kernel_rfl)) (fun _ _ _ h => h) (Or.inl ⟨by rfl, ?_⟩) hHeld ?_ ?_
                    rotate_left
                    ·rintro w' ⟨s0, s1, s2, s3⟩
                     go_simp
                     with_reducible rfl
                    rotate_left
                    ·simp only [Act.put, q1, q2, q3, i64_w, i32_w]
                     rfl
                    refine one_ (i := 5) (N := some 60) #[true, true, true, true, true, true, false, true] rfl rfl (one_of HT_.o (by kernel_rfl)) (by decide) (fun K hK => ?_)
                    refine goes_ Try.func81 (by kernel_rfl) rfl #[.agg #[.int .i64 a0_0, .int .i64 a0_1, .slice (some Am) l0_2.length c0_2], .int .i64 (rd Au Aj)] (by rfl) rfl rfl (by (try simp only [List.map_toArray, List.map_cons, List.map_nil]); first | done | rfl | (simp only [List.length_drop, List.length_take]; rfl)) ?_
                    with_reducible refine (spec_ggNear.calls k4 a0_0 a0_1 _ _ l0_2 (rd Au Aj) A3 _ ?side1 ?side2 Df.o).mono ?_
                    (case side1 => repeat (first | exact (Kd.C_below AD.o HB.o) | (with_reducible refine Kd.C_alloc ?_ _) | (with_reducible refine Kd.C_drewN ?_ _) | (with_reducible refine Kd.C_drew ?_)))
                    (case side2 => exact BF.o)
                    rintro e DA ⟨Dt, rfl, Cy, hb⟩
                    have HS3_ := (hb.cell (World.block_lt_of_cell? _ _ (hHeld.2.2.2))).trans (hHeld.2.2.2)
                    refine ⟨_, rfl, ?_⟩
                    have Bg := Z.m (Kd.R_lower (Kd.R_new' (Kd.R_new' Cy (Kd.R_lt (vR A7))) (Kd.R_lt (vR Af))) (below_size (vB HB)))
                    replace A7 := Z.m (Kd.R_elder' (vR A7) (Kd.R_base Cy) hb)
                    replace Af := Z.m (Kd.R_elder' (vR Af) (Kd.R_base Cy) hb)
                    replace A0 := kB A0 hb
                    replace A4 := kB A4 hb
                    replace HB := bB HB hb
                    (try clear hb); (try clear Cy)
                    obtain ⟨Bk, AP, BX⟩ := Kd.R_slice Bg.o
                    (first | subst BX | (injection BX with f1_ f2_ f3_; have f4_ := f1_.symm; have f5_ := f3_.symm; clear f1_ f2_ f3_; subst f4_; subst f5_))
                    refine hK.out _ _ ⟨(ql A0.o 0).trans rfl, (ql A0.o 1).trans rfl, (ql A0.o 2).trans rfl, HS3_⟩ (fun hHeld => ?_)
                    clear hK K
                    refine norm_ (a' := ?_) ?_ ?_
                    rotate_left
                    ·show Act.put _ (some 60) _ = _
                     simp only [Act.put, q1, q2, q3, i64_w, i32_w]
                     rfl
                    refine pure_ (i := 6) (N := some 61) (v := ?_) (a' := ?_) #[true, true, true, true, true, true, true, true] rfl rfl (any_of HT_.o (by kernel_rfl)) (fun _ _ _ h => h) (Or.inl ⟨by rfl, ?_⟩) ?_ ?_
                    rotate_left
                    ·intro w'
                     go_simp
                     with_reducible rfl
                    rotate_left
                    ·simp only [Act.put, q1, q2, q3, i64_w, i32_w]
                     rfl
                    refine done_ (done_of HT_.o (by kernel_rfl)) ?_
                    try go_wp2
                    go_loopg [8, 62] k4 (fun kq v8 v62 w' => ∃ (Ae : List Int) (Ap : List Int) (A2 : Int), v62 = .int .i64 A2 ∧ Z (spec_ggGroups.l3 kq Ae Ab Ap Aj l0_2 (l0_2.length : Int) A1 A3 (A3.length : Int) A2 a0_0 a0_1 l0_2 = some r) ∧ Z (kq ≤ k4) ∧ Z (Kd.R (Kd.int .i64) 3 w' w.heap.size (fun k_ => some k_ ≠ (v8 : Value).ownBlock ∧ some k_ ≠ ((.slice Bk A3.length AP) : Value).ownBlock) (.slice (some ⟨An, 0, none⟩) AB.length AH) Ae) ∧ Z (Kd.R (Kd.int .i64) 3 w' w.heap.size (fun k_ => some k_ ≠ ((.slice (some ⟨An, 0, none⟩) AB.length AH) : Value).ownBlock ∧ some k_ ≠ ((.slice Bk A3.length AP) : Value).ownBlock) v8 Ap) ∧ Z (Kd.R (Kd.int .i64) 3 w' w.heap.size (fun k_ => some k_ ≠ ((.slice (some ⟨An, 0, none⟩) AB.length AH) : Value).ownBlock ∧ some k_ ≠ (v8 : Value).ownBlock) (.slice Bk A3.length AP) A3) ∧ Z (w'.heap[Ak]? = some (.cells #[.int .i64 a0_0, .int .i64 a0_1, (.slice (some Am) l0_2.length c0_2)] 32 (0, 0))) ∧ Z (w'.heap[Aq]? = some (.cells #[.int .i64 ((rd_T89 l0_2 A1).f0), .int .i64 ((rd_T89 l0_2 A1).f1)] 89 (0, 0))) ∧ Z (Below w.heap.size w w'))
                    case atStart => exact ⟨(AB), (Au), (0), (by first | rfl | (simp; done) | (simp [*]; done)), H', ⟨Nat.le_refl _⟩, ⟨by (try simp only [A5]); (try simp only [A6]); (try simp only [A8]); (with_reducible repeat (first | apply Kd.R_alloc | apply Kd.R_drewN | apply Kd.R_drew)); exact A7.o⟩, ⟨by (try simp only [A5]); (try simp only [A6]); (try simp only [A8]); (with_reducible repeat (first | apply Kd.R_alloc | apply Kd.R_drewN | apply Kd.R_drew)); exact Af.o⟩, ⟨by (try simp only [A5]); (try simp only [A6]); (try simp only [A8]); (with_reducible repeat (first | apply Kd.R_alloc | apply Kd.R_drewN | apply Kd.R_drew)); exact Kd.Rm Bg.o (fun _ hk => ⟨hk.1.2, hk.2⟩)⟩, ⟨by (try simp only [A5]); (try simp only [A6]); (try simp only [A8]); (with_reducible repeat (first | refine blk_drewN ?_ _ | refine blk_drew ?_ | refine blk_alloc ?_ _)); exact A0.o⟩, ⟨by (try simp only [A5]); (try simp only [A6]); (try simp only [A8]); (with_reducible repeat (first | refine blk_drewN ?_ _ | refine blk_drew ?_ | refine blk_alloc ?_ _)); exact A4.o⟩, ⟨vB HB⟩⟩
                    case round =>
                     clear H'
                     (try clear Ay); (try clear BU); (try clear Az); (try clear p175); (try clear q175)
                     obtain ⟨Ae, Ap, A2, rfl, HA, Be, A7, Af, Ag, A0, A4, HB⟩ := hrel
                     have A9 := (Kd.RrZ A7.o).1
                     rw [A9] at A7
                     (try simp only [A9])
                     (try simp only [A9] at A0)
                     (try simp only [A9] at A4)
                     (try simp only [A9] at Af)
                     (try simp only [A9] at Ag)
                     cases gk with
                     | zero => exact absurd HA.o (by simp [spec_ggGroups.l3])
                     | succ k5 =>
                      have H := HA.o
                      clear HA
                      simp only [spec_ggGroups.l3] at H
                      by_cases c47 : A2 < (A3.length : Int)
                      ·rw [if_pos c47] at H
                       have AF := decide_eq_true c47
                       clear c47
                       by_cases c48 : 0 ≤ A2
                       ·rw [if_pos c48] at H
                        have CX := decide_eq_true c48
                        clear c48
                        by_cases c49 : A2 < (A3.length : Int)
                        ·rw [if_pos c49] at H
                         have CY := decide_eq_true c49
                         clear c49
                         by_cases c50 : 0 ≤ (rd A3 A2)
                         ·rw [if_pos c50] at H
                          have CZ := decide_eq_true c50
                          clear c50
                          by_cases c51 : (rd A3 A2) < (l0_2.length : Int)
                          ·rw [if_pos c51] at H
                           have D0 := decide_eq_true c51
                           clear c51
                           replace H := Option.bind_eq_some_iff.mp H
                           obtain ⟨C2, BB, H⟩ := H
                           replace H : (if C2 = true then (if (rd A3 A2) < (Ae.length : Int) then (if (rd Ae (rd A3 A2)) < 0 then (if Ap.length < 17592186044416 then (spec_ggGroups.l3 k5 (Ae.set ((rd A3 A2) : Int).toNat Ab) Ab (Ap ++ [rd A3 A2]) Aj l0_2 (l0_2.length : Int) A1 A3 (A3.length : Int) (wrap64 (A2 + 1)) a0_0 a0_1 l0_2) else (none)) else (spec_ggGroups.l3 k5 Ae Ab Ap Aj l0_2 (l0_2.length : Int) A1 A3 (A3.length : Int) (wrap64 (A2 + 1)) a0_0 a0_1 l0_2)) else (none)) else (spec_ggGroups.l3 k5 Ae Ab Ap Aj l0_2 (l0_2.length : Int) A1 A3 (A3.length : Int) (wrap64 (A2 + 1)) a0_0 a0_1 l0_2)) = some r := H
                           have CA := Z.m BB
                           clear BB
                           by_cases c53 : C2 = true
                           ·subst c53
                            have H1 : (if (rd A3 A2) < (Ae.length : Int) then (if (rd Ae (rd A3 A2)) < 0 then (if Ap.length < 17592186044416 then (spec_ggGroups.l3 k5 (Ae.set ((rd A3 A2) : Int).toNat Ab) Ab (Ap ++ [rd A3 A2]) Aj l0_2 (l0_2.length : Int) A1 A3 (A3.length : Int) (wrap64 (A2 + 1)) a0_0 a0_1 l0_2) else (none)) else (spec_ggGroups.l3 k5 Ae Ab Ap Aj l0_2 (l0_2.length : Int) A1 A3 (A3.length : Int) (wrap64 (A2 + 1)) a0_0 a0_1 l0_2)) else (none)) = some r := by rw [if_pos rfl] at H; exact H
                            clear H
                            have H := H1
                            clear H1
                            by_cases c54 : (rd A3 A2) < (Ae.length : Int)
                            ·rw [if_pos c54] at H
                             have D1 := decide_eq_true c54
                             clear c54
                             by_cases c55 : (rd Ae (rd A3 A2)) < 0
                             ·rw [if_pos c55] at H
                              have AG := decide_eq_true c55
                              clear c55
                              obtain ⟨Bd, AM⟩ : ∃ y_ : List Int, y_ = (Ae.set ((rd A3 A2) : Int).toNat Ab) := ⟨_, rfl⟩
                              replace H : (if Ap.length < 17592186044416 then (spec_ggGroups.l3 k5 Bd Ab (Ap ++ [rd A3 A2]) Aj l0_2 (l0_2.length : Int) A1 A3 (A3.length : Int) (wrap64 (A2 + 1)) a0_0 a0_1 l0_2) else (none)) = some r := by first | (rw [AM]; with_reducible exact H) | (have H2_ := (Option.bind_some _ _).symm.trans H; rw [AM]; with_reducible exact H2_) | (have H2_ := (Option.bind_some _ _).symm.trans H; with_reducible exact H2_) | with_reducible exact H | (rw [AM]; exact H) | exact H
                              have BN := Z.m AM
                              clear AM
                              by_cases c57 : Ap.length < 17592186044416
                              ·rw [if_pos c57] at H
                               have BK := Z.m c57
                               clear c57
                               obtain ⟨C4, AN⟩ : ∃ y_ : List Int, y_ = (Ap ++ [rd A3 A2]) := ⟨_, rfl⟩
                               replace H : (spec_ggGroups.l3 k5 Bd Ab C4 Aj l0_2 (l0_2.length : Int) A1 A3 (A3.length : Int) (wrap64 (A2 + 1)) a0_0 a0_1 l0_2) = some r := by first | (rw [AN]; with_reducible exact H) | (have H2_ := (Option.bind_some _ _).symm.trans H; rw [AN]; with_reducible exact H2_) | (have H2_ := (Option.bind_some _ _).symm.trans H; with_reducible exact H2_) | with_reducible exact H | (rw [AN]; exact H) | exact H
                               have BO := Z.m AN
                               clear AN
                               have H' := Z.m H
                               clear H
                               have p179 : 0 ≤ (A2 : Int) := ofD
                               have q179 : A2 < (A3.length : Int) := ofD
                               obtain ⟨Aw, e179, AR⟩ := Kd.at_int (Kd.RrZ Ag.o).2.2 A2 p179 q179
                               cases e179
                               replace p179 := eq_true p179
                               replace q179 := eq_true q179
                               have D5 := Aa.o
                               have Db := Ai.o
                               have Ca := bc0 A0
                               have Cb := bc1 A0
                               have Cd := bc2 A0
                               have Cp := qz A0.o 0
                               have Cq := qz A0.o 1
                               have Cr := qz A0.o 2
                               have p180 : 0 ≤ ((rd A3 A2) : Int) := ofD
                               have q180 : (rd A3 A2) < (l0_2.length : Int) := ofD
                               obtain ⟨AE, e180, Ac, Ad⟩ := at_T89 AD.o (rd A3 A2) p180 q180
                               obtain rfl : Am = AE := (by injection e180)
                               replace Ac := (HB.o.cell (World.block_lt_of_cell? w _ Ac)).trans Ac
                               replace Ad := (HB.o.cell (World.block_lt_of_cell? w _ Ad)).trans Ad
                               replace p180 := eq_true p180
                               replace q180 := eq_true q180
                               go_wp2_with (first | ((with_reducible refine gc (f := 80) rfl ?_); refine gA (some 71) _ #[.agg #[.int .i64 ((rd_T89 l0_2 (rd A3 A2)).f0), .int .i64 ((rd_T89 l0_2 (rd A3 A2)).f1)]] ?_ Try.func80; (with_reducible refine (spec_ggGear.calls ((rd_T89 l0_2 (rd A3 A2)).f0) ((rd_T89 l0_2 (rd A3 A2)).f1) true _ CA.o).mono ?_); rintro e De ⟨rfl, hb⟩; refine ⟨_, rfl, ?_⟩; replace A7 := Z.m (Kd.Rb (vR A7) hb); replace Af := Z.m (Kd.Rb (vR Af) hb); replace Ag := Z.m (Kd.Rb (vR Ag) hb); replace A0 := kB A0 hb; replace A4 := kB A4 hb; replace HB := bB HB hb; (try clear hb); (try clear C5); (try clear hk); (try clear hi); have p182 : 0 ≤ ((rd A3 A2) : Int) := ofD; have q182 : (rd A3 A2) < (Ae.length : Int) := ofD; obtain ⟨AT, e182, Ao⟩ := Kd.at_int (Kd.RrZ A7.o).2.2 (rd A3 A2) p182 q182; obtain rfl : (⟨An, 0, none⟩ : Addr) = AT := (by injection e182); (first | simp only [add_plain] at Ao | simp only [add_at] at Ao | simp only [Addr.add, Nat.zero_add] at Ao | skip); replace p182 := eq_true p182; replace q182 := eq_true q182; have p56 : 0 ≤ ((rd A3 A2) : Int) := ofD; have q56 : ((rd A3 A2) : Int) < ((Ae.length : Int) : Int) := ofD; obtain ⟨CN, CL⟩ := Kd.R_celln 0 A7.o ((rd A3 A2) : Int) p56 q56; replace p56 := eq_true p56; replace q56 := eq_true q56; obtain ⟨hy61_, hz61_⟩ := Kd.R_celln 0 A7.o ((rd A3 A2) : Int) (ofD) (ofD); have Bo := Kd.R_putg A7.o ((rd A3 A2) : Int) Ab) | ((with_reducible refine gt (t := 3) (p := 82) rfl ?_); refine store_event (t := 3) (p := 82) (v := ?vo_w62) (w1 := (De.setCell ⟨An, ((rd A3 A2) : Int).toNat, none⟩ (.int .i64 Ab))) ?hg ?ho ?hn ?hr ?_; (case ho => rfl); (case hg => rfl); (case hn => rfl); (case hr => first | (go_simp; done) | (go_simp; rfl)); intro CQ hw; have hg : De.grownBy CQ (some An) := (by rw [hw]; exact Bo.2); have hp_ : Kd.R (Kd.int .i64) 3 CQ w.heap.size (fun k_ => some k_ ≠ (u8 : Value).ownBlock ∧ some k_ ≠ (.slice (some Aw) A3.length AP : Value).ownBlock) (.slice (some ⟨An, 0, none⟩) Ae.length AH) Bd := (by rw [hw, BN.o]; exact Bo.1); clear Bo; replace Af := Z.m (Kd.R_after (v := (.slice (some ⟨An, 0, none⟩) Ae.length AH)) (v1 := (.slice (some ⟨An, 0, none⟩) Ae.length AH)) (ok := (fun k_ => some k_ ≠ (.slice (some Aw) A3.length AP : Value).ownBlock)) (by (with_reducible repeat (first | apply Kd.R_alloc | apply Kd.R_drewN | apply Kd.R_drew)); exact Kd.Rm Af.o (fun _ hk => ⟨hk.2, hk.1⟩)) hg (.inl rfl)); replace Ag := Z.m (Kd.R_after (v := (.slice (some ⟨An, 0, none⟩) Ae.length AH)) (v1 := (.slice (some ⟨An, 0, none⟩) Ae.length AH)) (ok := (fun k_ => some k_ ≠ (u8 : Value).ownBlock)) (by (with_reducible repeat (first | apply Kd.R_alloc | apply Kd.R_drewN | apply Kd.R_drew)); exact Kd.Rm Ag.o (fun _ hk => ⟨hk.2, hk.1⟩)) hg (.inl rfl)); replace A0 := Z.m (qg (g := Ak) (o := .cells #[.int .i64 a0_0, .int .i64 a0_1, .slice (some Am) l0_2.length c0_2] 32 (0, 0)) (vK A0) hg (Kd.R_ne A7.o A0.o (by decide))); replace A4 := Z.m (qg (g := Aq) (o := .cells #[.int .i64 ((rd_T89 l0_2 A1).f0), .int .i64 ((rd_T89 l0_2 A1).f1)] 89 (0, 0)) (vK A4) hg (Kd.R_ne A7.o A4.o (by decide))); replace A7 := Z.m (hp_); replace HB := Z.m ((by rw [hw]; exact qx (HB.o) BC.o : Below w.heap.size w CQ)); clear hg hw hp_) | ((with_reducible refine gu (b := .append) (xs := #[.tmp 83, .tmp 85]) rfl ?_); at_builtin; refine Kd.R_append (Kd.int .i64) (w0 := w) w.heap.size rfl (.tmp 83) (.tmp 85) 43 3 (.int .i64 0) 8 rfl Try.underlying43 info3 rfl (by decide) (by omega) u8 Ap (rd A3 A2) [.int .i64 (rd A3 A2)] (fun k_ => some k_ ≠ (.slice (some ⟨An, 0, none⟩) Ae.length AH : Value).ownBlock ∧ some k_ ≠ (.slice (some Aw) A3.length AP : Value).ownBlock) (fun _ => False) rfl rfl ?aP (fun _ hk => hk.elim) ?aF ?aO ?aB ?aS ?aL ?_; (case aP => exact rfl); (case aB => exact (vB HB)); (case aF => exact (fun k_ hk => ⟨Kd.fresh' (Kd.R_lt (vR A7)) k_ hk, Kd.fresh' (Kd.R_lt (vR Ag)) k_ hk⟩)); (case aO => exact (by (with_reducible repeat (first | apply Kd.R_alloc | apply Kd.R_drewN | apply Kd.R_drew)); exact Kd.Rm Af.o (fun _ hk => ⟨hk.2, hk.1⟩))); (case aS => exact (below_size (vB HB))); (case aL => have := BK.o; omega); intro Du DB ho hb hg hat; rw [← BO.o] at ho; have BJ := Z.m (ho); replace A7 := Z.m (Kd.R_after (ok := (fun k_ => some k_ ≠ (.slice (some Aw) A3.length AP : Value).ownBlock)) (by (with_reducible repeat (first | apply Kd.R_alloc | apply Kd.R_drewN | apply Kd.R_drew)); exact Kd.Rm A7.o (fun _ hk => ⟨hk.2, hk.1⟩)) hg hat); replace Ag := Z.m (Kd.R_after (ok := (fun k_ => some k_ ≠ (.slice (some ⟨An, 0, none⟩) Ae.length AH : Value).ownBlock)) (by (with_reducible repeat (first | apply Kd.R_alloc | apply Kd.R_drewN | apply Kd.R_drew)); exact Kd.Rm Ag.o (fun _ hk => ⟨hk.2, hk.1⟩)) hg hat); replace A0 := Z.m (qg (g := Ak) (o := .cells #[.int .i64 a0_0, .int .i64 a0_1, .slice (some Am) l0_2.length c0_2] 32 (0, 0)) (vK A0) hg (Kd.R_ne Af.o A0.o (by decide))); replace A4 := Z.m (qg (g := Aq) (o := .cells #[.int .i64 ((rd_T89 l0_2 A1).f0), .int .i64 ((rd_T89 l0_2 A1).f1)] 89 (0, 0)) (vK A4) hg (Kd.R_ne Af.o A4.o (by decide))); replace HB := Z.m (hb); clear Af; clear ho hb hg hat))
                               (try simp only [← A9])
                               go_roundg k5
                               case measure => have := AO.o; have := AQ.o; have := Ar.o; have := AU.o; have := Be.o; omega
                               case rel => exact ⟨(Bd), (C4), (wrap64 (A2 + 1)), (by first | rfl | (simp; done) | (simp [*]; done)), H', ⟨by have := AO.o; have := AQ.o; have := Ar.o; have := AU.o; have := Be.o; omega⟩, ⟨by (try simp only [A5]); (try simp only [A6]); (try simp only [A8]); (try simp only [A9]); (with_reducible repeat (first | apply Kd.R_alloc | apply Kd.R_drewN | apply Kd.R_drew)); exact Kd.Rm A7.o (fun _ hk => ⟨hk.2, hk.1⟩)⟩, ⟨by (try simp only [A5]); (try simp only [A6]); (try simp only [A8]); (try simp only [A9]); (with_reducible repeat (first | apply Kd.R_alloc | apply Kd.R_drewN | apply Kd.R_drew)); exact BJ.o⟩, ⟨by (try simp only [A5]); (try simp only [A6]); (try simp only [A8]); (try simp only [A9]); (with_reducible repeat (first | apply Kd.R_alloc | apply Kd.R_drewN | apply Kd.R_drew)); exact Ag.o⟩, ⟨by (try simp only [A5]); (try simp only [A6]); (try simp only [A8]); (try simp only [A9]); (with_reducible repeat (first | refine blk_drewN ?_ _ | refine blk_drew ?_ | refine blk_alloc ?_ _)); exact A0.o⟩, ⟨by (try simp only [A5]); (try simp only [A6]); (try simp only [A8]); (try simp only [A9]); (with_reducible repeat (first | refine blk_drewN ?_ _ | refine blk_drew ?_ | refine blk_alloc ?_ _)); exact A4.o⟩, ⟨vB HB⟩⟩
                              ·rw [if_neg c57] at H
                               exact absurd H (by simp)
                             ·rw [if_neg c55] at H
                              have AG := decide_eq_false c55
                              (try simp only [A5] at AG)
                              (try simp only [A6] at AG)
                              (try simp only [A8] at AG)
                              (try simp only [A9] at AG)
                              clear c55
                              have H' := Z.m H
                              clear H
                              have p179 : 0 ≤ (A2 : Int) := ofD
                              have q179 : A2 < (A3.length : Int) := ofD
                              obtain ⟨Aw, e179, AR⟩ := Kd.at_int (Kd.RrZ Ag.o).2.2 A2 p179 q179
                              cases e179
                              replace p179 := eq_true p179
                              replace q179 := eq_true q179
                              have D6 := Aa.o
                              have Dc := Ai.o
                              have Ce := bc0 A0
                              have Cf := bc1 A0
                              have Cg := bc2 A0
                              have Cs := qz A0.o 0
                              have Ct := qz A0.o 1
                              have Cu := qz A0.o 2
                              have p180 : 0 ≤ ((rd A3 A2) : Int) := ofD
                              have q180 : (rd A3 A2) < (l0_2.length : Int) := ofD
                              obtain ⟨AE, e180, Ac, Ad⟩ := at_T89 AD.o (rd A3 A2) p180 q180
                              obtain rfl : Am = AE := (by injection e180)
                              replace Ac := (HB.o.cell (World.block_lt_of_cell? w _ Ac)).trans Ac
                              replace Ad := (HB.o.cell (World.block_lt_of_cell? w _ Ad)).trans Ad
                              replace p180 := eq_true p180
                              replace q180 := eq_true q180
                              go_wp2_with (first | ((with_reducible refine gc (f := 80) rfl ?_); refine gA (some 71) _ #[.agg #[.int .i64 ((rd_T89 l0_2 (rd A3 A2)).f0), .int .i64 ((rd_T89 l0_2 (rd A3 A2)).f1)]] ?_ Try.func80; (with_reducible refine (spec_ggGear.calls ((rd_T89 l0_2 (rd A3 A2)).f0) ((rd_T89 l0_2 (rd A3 A2)).f1) true _ CA.o).mono ?_); rintro e DC ⟨rfl, hb⟩; refine ⟨_, rfl, ?_⟩; replace A7 := Z.m (Kd.Rb (vR A7) hb); replace Af := Z.m (Kd.Rb (vR Af) hb); replace Ag := Z.m (Kd.Rb (vR Ag) hb); replace A0 := kB A0 hb; replace A4 := kB A4 hb; replace HB := bB HB hb; (try clear hb); (try clear C5); (try clear hk); (try clear hi); have p182 : 0 ≤ ((rd A3 A2) : Int) := ofD; have q182 : (rd A3 A2) < (Ae.length : Int) := ofD; obtain ⟨AT, e182, Ao⟩ := Kd.at_int (Kd.RrZ A7.o).2.2 (rd A3 A2) p182 q182; obtain rfl : (⟨An, 0, none⟩ : Addr) = AT := (by injection e182); (first | simp only [add_plain] at Ao | simp only [add_at] at Ao | simp only [Addr.add, Nat.zero_add] at Ao | skip); replace p182 := eq_true p182; replace q182 := eq_true q182))
                              (try simp only [← A9])
                              go_roundg k5
                              case measure => have := AO.o; have := AQ.o; have := Ar.o; have := AU.o; have := Be.o; omega
                              case rel => exact ⟨(Ae), (Ap), (wrap64 (A2 + 1)), (by first | rfl | (simp; done) | (simp [*]; done)), H', ⟨by have := AO.o; have := AQ.o; have := Ar.o; have := AU.o; have := Be.o; omega⟩, ⟨by (try simp only [A5]); (try simp only [A6]); (try simp only [A8]); (try simp only [A9]); (with_reducible repeat (first | apply Kd.R_alloc | apply Kd.R_drewN | apply Kd.R_drew)); exact A7.o⟩, ⟨by (try simp only [A5]); (try simp only [A6]); (try simp only [A8]); (try simp only [A9]); (with_reducible repeat (first | apply Kd.R_alloc | apply Kd.R_drewN | apply Kd.R_drew)); exact Af.o⟩, ⟨by (try simp only [A5]); (try simp only [A6]); (try simp only [A8]); (try simp only [A9]); (with_reducible repeat (first | apply Kd.R_alloc | apply Kd.R_drewN | apply Kd.R_drew)); exact Ag.o⟩, ⟨by (try simp only [A5]); (try simp only [A6]); (try simp only [A8]); (try simp only [A9]); (with_reducible repeat (first | refine blk_drewN ?_ _ | refine blk_drew ?_ | refine blk_alloc ?_ _)); exact A0.o⟩, ⟨by (try simp only [A5]); (try simp only [A6]); (try simp only [A8]); (try simp only [A9]); (with_reducible repeat (first | refine blk_drewN ?_ _ | refine blk_drew ?_ | refine blk_alloc ?_ _)); exact A4.o⟩, ⟨vB HB⟩⟩
                            ·rw [if_neg c54] at H
                             exact absurd H (by simp)
                           ·replace c53 := Bool.eq_false_iff.mpr c53
                            subst c53
                            have H1 : (spec_ggGroups.l3 k5 Ae Ab Ap Aj l0_2 (l0_2.length : Int) A1 A3 (A3.length : Int) (wrap64 (A2 + 1)) a0_0 a0_1 l0_2) = some r := by rw [if_neg (show ¬ (false = true) by decide)] at H; exact H
                            clear H
                            have H := H1
                            clear H1
                            have H' := Z.m H
                            clear H
                            have p179 : 0 ≤ (A2 : Int) := ofD
                            have q179 : A2 < (A3.length : Int) := ofD
                            obtain ⟨Aw, e179, AR⟩ := Kd.at_int (Kd.RrZ Ag.o).2.2 A2 p179 q179
                            cases e179
                            replace p179 := eq_true p179
                            replace q179 := eq_true q179
                            have D7 := Aa.o
                            have Dd := Ai.o
                            have Ch := bc0 A0
                            have Ci := bc1 A0
                            have Cj := bc2 A0
                            have Cv := qz A0.o 0
                            have Cw := qz A0.o 1
                            have Cx := qz A0.o 2
                            have p180 : 0 ≤ ((rd A3 A2) : Int) := ofD
                            have q180 : (rd A3 A2) < (l0_2.length : Int) := ofD
                            obtain ⟨AE, e180, Ac, Ad⟩ := at_T89 AD.o (rd A3 A2) p180 q180
                            obtain rfl : Am = AE := (by injection e180)
                            replace Ac := (HB.o.cell (World.block_lt_of_cell? w _ Ac)).trans Ac
                            replace Ad := (HB.o.cell (World.block_lt_of_cell? w _ Ad)).trans Ad
                            replace p180 := eq_true p180
                            replace q180 := eq_true q180
                            go_wp2_with (first | ((with_reducible refine gc (f := 80) rfl ?_); refine gA (some 71) _ #[.agg #[.int .i64 ((rd_T89 l0_2 (rd A3 A2)).f0), .int .i64 ((rd_T89 l0_2 (rd A3 A2)).f1)]] ?_ Try.func80; (with_reducible refine (spec_ggGear.calls ((rd_T89 l0_2 (rd A3 A2)).f0) ((rd_T89 l0_2 (rd A3 A2)).f1) false _ CA.o).mono ?_); rintro e DD ⟨rfl, hb⟩; refine ⟨_, rfl, ?_⟩; replace A7 := Z.m (Kd.Rb (vR A7) hb); replace Af := Z.m (Kd.Rb (vR Af) hb); replace Ag := Z.m (Kd.Rb (vR Ag) hb); replace A0 := kB A0 hb; replace A4 := kB A4 hb; replace HB := bB HB hb; (try clear hb); (try clear C5); (try clear hk); (try clear hi)))
                            (try simp only [← A9])
                            go_roundg k5
                            case measure => have := AO.o; have := AQ.o; have := Ar.o; have := AU.o; have := Be.o; omega
                            case rel => exact ⟨(Ae), (Ap), (wrap64 (A2 + 1)), (by first | rfl | (simp; done) | (simp [*]; done)), H', ⟨by have := AO.o; have := AQ.o; have := Ar.o; have := AU.o; have := Be.o; omega⟩, ⟨by (try simp only [A5]); (try simp only [A6]); (try simp only [A8]); (try simp only [A9]); (with_reducible repeat (first | apply Kd.R_alloc | apply Kd.R_drewN | apply Kd.R_drew)); exact A7.o⟩, ⟨by (try simp only [A5]); (try simp only [A6]); (try simp only [A8]); (try simp only [A9]); (with_reducible repeat (first | apply Kd.R_alloc | apply Kd.R_drewN | apply Kd.R_drew)); exact Af.o⟩, ⟨by (try simp only [A5]); (try simp only [A6]); (try simp only [A8]); (try simp only [A9]); (with_reducible repeat (first | apply Kd.R_alloc | apply Kd.R_drewN | apply Kd.R_drew)); exact Ag.o⟩, ⟨by (try simp only [A5]); (try simp only [A6]); (try simp only [A8]); (try simp only [A9]); (with_reducible repeat (first | refine blk_drewN ?_ _ | refine blk_drew ?_ | refine blk_alloc ?_ _)); exact A0.o⟩, ⟨by (try simp only [A5]); (try simp only [A6]); (try simp only [A8]); (try simp only [A9]); (with_reducible repeat (first | refine blk_drewN ?_ _ | refine blk_drew ?_ | refine blk_alloc ?_ _)); exact A4.o⟩, ⟨vB HB⟩⟩
                          ·rw [if_neg c51] at H
                           exact absurd H (by simp)
                         ·rw [if_neg c50] at H
                          exact absurd H (by simp)
                        ·rw [if_neg c49] at H
                         exact absurd H (by simp)
                       ·rw [if_neg c48] at H
                        exact absurd H (by simp)
                      ·rw [if_neg c47] at H
                       have AF := decide_eq_false c47
                       (try simp only [A5] at AF)
                       (try simp only [A6] at AF)
                       (try simp only [A8] at AF)
                       (try simp only [A9] at AF)
                       clear c47
                       have H' := Z.m H
                       clear H
                       go_wp2
                       (try simp only [← A8, ← A9])
                       go_roundg k5
                       case measure => have := AO.o; have := AQ.o; have := Ar.o; have := AU.o; have := Be.o; omega
                       case rel => exact ⟨(Ae), (Ap), (wrap64 (Aj + 1)), (by first | rfl | (simp; done) | (simp [*]; done)), H', ⟨by have := AO.o; have := AQ.o; have := Ar.o; have := AU.o; have := Be.o; omega⟩, ⟨by (try simp only [A5]); (try simp only [A6]); (try simp only [A8]); (try simp only [A9]); (with_reducible repeat (first | apply Kd.R_alloc | apply Kd.R_drewN | apply Kd.R_drew)); exact Kd.Rm A7.o (fun _ hk => hk.1)⟩, ⟨by (try simp only [A5]); (try simp only [A6]); (try simp only [A8]); (try simp only [A9]); (with_reducible repeat (first | apply Kd.R_alloc | apply Kd.R_drewN | apply Kd.R_drew)); exact Kd.Rm Af.o (fun _ hk => hk.1)⟩, ⟨by (try simp only [A5]); (try simp only [A6]); (try simp only [A8]); (try simp only [A9]); (with_reducible repeat (first | refine blk_drewN ?_ _ | refine blk_drew ?_ | refine blk_alloc ?_ _)); exact A0.o⟩, ⟨by (try simp only [A5]); (try simp only [A6]); (try simp only [A8]); (try simp only [A9]); (with_reducible repeat (first | refine blk_drewN ?_ _ | refine blk_drew ?_ | refine blk_alloc ?_ _)); exact A4.o⟩, ⟨vB HB⟩⟩
                   ·rw [if_neg c41] at H
                    exact absurd H (by simp)
                  ·rw [if_neg c40] at H
                   have Ay := decide_eq_false c40
                   (try simp only [A5] at Ay)
                   (try simp only [A6] at Ay)
                   (try simp only [A8] at Ay)
                   (try simp only [A9] at Ay)
                   clear c40
                   have H' := Z.m H
                   clear H
                   obtain ⟨Dh, Dn, CI⟩ := Kd.R_slice Af.o
                   subst CI
                   go_wp2
                   (try simp only [← A6, ← A8])
                   go_roundg k4
                   case measure => have := AO.o; have := AQ.o; have := Ar.o; have := AU.o; omega
                   case rel => exact ⟨(AB), (wrap64 (Ab + 1)), (wrap64 (A1 + 1)), (by first | rfl | (simp; done) | (simp [*]; done)), (by first | rfl | (simp; done) | (simp [*]; done)), H', ⟨by have := AO.o; have := AQ.o; have := Ar.o; have := AU.o; omega⟩, ⟨by (try simp only [A5]); (try simp only [A6]); (try simp only [A8]); (with_reducible repeat (first | apply Kd.R_alloc | apply Kd.R_drewN | apply Kd.R_drew)); exact Kd.Rm A7.o (fun _ hk => trivial)⟩, ⟨by (try simp only [A5]); (try simp only [A6]); (try simp only [A8]); (with_reducible repeat (first | refine blk_drewN ?_ _ | refine blk_drew ?_ | refine blk_alloc ?_ _)); exact A0.o⟩, ⟨vB HB⟩⟩
               ·rw [if_neg c34] at H
                exact absurd H (by simp)
              ·rw [if_neg c33] at H
               exact absurd H (by simp)
          ·rw [if_neg c18] at H
           exact absurd H (by simp)
         ·rw [if_neg c17] at H
          exact absurd H (by simp)
        ·rw [if_neg c16] at H
         have Ax := decide_eq_false c16
         (try simp only [A5] at Ax)
         (try simp only [A6] at Ax)
         (try simp only [A8] at Ax)
         (try simp only [A9] at Ax)
         clear c16
         obtain rfl := Option.some.inj H
         go_wp2
         go_ret
         exact ⟨_, by first | rfl | (simp [eN, eS] <;> rfl) | (simp [*, eN, eS] <;> rfl), vR A7, vB HB⟩
  ·rw [if_neg c3] at H
   exact absurd H (by simp)
 ·rw [if_neg c2] at H
  exact absurd H (by simp)

end Go.Proofs.Ytoklfgjemfojgaa.PAll
