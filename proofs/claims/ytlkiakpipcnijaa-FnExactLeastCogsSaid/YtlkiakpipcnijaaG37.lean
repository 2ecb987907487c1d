/- Began as a text that print.sh wrote (of the functions named below); turned and shortened by this session. -/
import Derived.Test.YtlkiakpipcnijaaG0
import Derived.Test.YtlkiakpipcnijaaG10
namespace Go.Proofs.Ytlkiakpipcnijaa.PAll
open Go.RowKit Go.Proofs.YtlkiakpipcnijaaW.PrintWords Go.Proofs.YtlkiakpipcnijaaW.PrintLast Go.Proofs.YtlkiakpipcnijaaW.PrintMore
attribute [local go_sem] max2_int min2_int max_two min_two max_three min_three max_four min_four   -- for this text's walks alone
set_option linter.unusedVariables false
set_option linter.unusedSimpArgs false

/-! ### impl_cogCosts: function 66 -/
mutual
def impl_cogCosts.l0 : Nat → Int → List Int → Int → Int → Int → Int → List (S71) → Option (List Int)
 | 0, _, _, _, _, _, _, _ => none
 | k + 1, x1, x5, x21, x22, x858000, x858001, x858002 => if x22 < x21 then (if 0 ≤ x22 then (if x22 < (x5.length : Int) then (impl_cogCosts.l0 k x1 (x5.set (x22 : Int).toNat (-1)) x21 (wrap64 (x22 + 1)) x858000 x858001 x858002) else (none)) else (none)) else (if 0 ≤ x1 then (if x1 < (x5.length : Int) then (impl_cogCosts.l1 k (x5.set (x1 : Int).toNat 0) (([x1] : List Int)) x858000 x858001 x858002) else (none)) else (none))
def impl_cogCosts.l1 : Nat → List Int → List Int → Int → Int → List (S71) → Option (List Int)
 | 0, _, _, _, _, _ => none
 | k + 1, x5, x7, x858000, x858001, x858002 => if (x7.length : Int) > 0 then (impl_cogCosts.l2 k x5 x7 (([] : List Int)) 0 x858000 x858001 x858002) else (some x5)
def impl_cogCosts.l2 : Nat → List Int → List Int → List Int → Int → Int → Int → List (S71) → Option (List Int)
 | 0, _, _, _, _, _, _, _ => none
 | k + 1, x5, x7, x8, x9, x858000, x858001, x858002 => if x9 < (x7.length : Int) then (if 0 ≤ x9 then ((impl_besideOf.f k x858000 x858001 x858002 (rd x7 x9)).bind fun t870 => (impl_cogCosts.l3 k x5 x7 x8 x9 (rd x7 x9) t870 (t870.length : Int) 0 x858000 x858001 x858002)) else (none)) else (if 0 < (x7.length : Int) then (if 0 ≤ (rd x7 0) then (if (rd x7 0) < (x5.length : Int) then (if 0 ≤ (x7.length : Int) then (impl_cogCosts.l4 k x5 (x7.take (0 : Int).toNat) (wrap64 ((rd x5 (rd x7 0)) + 1)) x8 (x8.length : Int) 0 x858000 x858001 x858002) else (none)) else (none)) else (none)) else (none))
def impl_cogCosts.l3 : Nat → List Int → List Int → List Int → Int → Int → List Int → Int → Int → Int → Int → List (S71) → Option (List Int)
 | 0, _, _, _, _, _, _, _, _, _, _, _ => none
 | k + 1, x5, x7, x8, x9, x10, x50, x51, x52, x858000, x858001, x858002 => if x52 < x51 then (if 0 ≤ x52 then (if x52 < (x50.length : Int) then (if 0 ≤ (rd x50 x52) then (if (rd x50 x52) < (x5.length : Int) then (if (rd x5 (rd x50 x52)) ≥ 0 then (impl_cogCosts.l3 k x5 x7 x8 x9 x10 x50 x51 (wrap64 (x52 + 1)) x858000 x858001 x858002) else (if (rd x50 x52) < (x858002.length : Int) then ((impl_isGeared.f ((rd_T71 x858002 (rd x50 x52)).f0) ((rd_T71 x858002 (rd x50 x52)).f1)).bind fun t876 => (if t876 = true then (if 0 ≤ x10 then (if x10 < (x5.length : Int) then (if x7.length < 17592186044416 then (impl_cogCosts.l3 k (x5.set ((rd x50 x52) : Int).toNat (rd x5 x10)) (x7 ++ [rd x50 x52]) x8 x9 x10 x50 x51 (wrap64 (x52 + 1)) x858000 x858001 x858002) else (none)) else (none)) else (none)) else (if ((rd_T71 x858002 (rd x50 x52)).f0) = 0 then (if x8.length < 17592186044416 then (impl_cogCosts.l3 k x5 x7 (x8 ++ [rd x50 x52]) x9 x10 x50 x51 (wrap64 (x52 + 1)) x858000 x858001 x858002) else (none)) else (impl_cogCosts.l3 k x5 x7 x8 x9 x10 x50 x51 (wrap64 (x52 + 1)) x858000 x858001 x858002)))) else (none))) else (none)) else (none)) else (none)) else (none)) else (impl_cogCosts.l2 k x5 x7 x8 (wrap64 (x9 + 1)) x858000 x858001 x858002)
def impl_cogCosts.l4 : Nat → List Int → List Int → Int → List Int → Int → Int → Int → Int → List (S71) → Option (List Int)
 | 0, _, _, _, _, _, _, _, _, _ => none
 | k + 1, x5, x7, x13, x99, x100, x101, x858000, x858001, x858002 => if x101 < x100 then (if 0 ≤ x101 then (if x101 < (x99.length : Int) then (if 0 ≤ (rd x99 x101) then (if (rd x99 x101) < (x5.length : Int) then (if (rd x5 (rd x99 x101)) < 0 then (if x7.length < 17592186044416 then (impl_cogCosts.l4 k (x5.set ((rd x99 x101) : Int).toNat x13) (x7 ++ [rd x99 x101]) x13 x99 x100 (wrap64 (x101 + 1)) x858000 x858001 x858002) else (none)) else (impl_cogCosts.l4 k x5 x7 x13 x99 x100 (wrap64 (x101 + 1)) x858000 x858001 x858002)) else (none)) else (none)) else (none)) else (none)) else (impl_cogCosts.l1 k x5 x7 x858000 x858001 x858002)
end
def impl_cogCosts.f (k : Nat) (a0_0 : Int) (a0_1 : Int) (l0_2 : List (S71)) (a1 : Int) : Option (List Int) := if 0 ≤ (l0_2.length : Int) then (if ((l0_2.length : Int) : Int).toNat ≤ 35184372088832 then ((some (List.replicate ((l0_2.length : Int) : Int).toNat 0 : List Int)).bind fun y858 => (impl_cogCosts.l0 k a1 y858 (y858.length : Int) 0 a0_0 a0_1 l0_2)) else (none)) else (none)
set_option maxHeartbeats 8000000 in
set_option maxRecDepth 100000 in
theorem impl_cogCosts.calls (k : Nat) (a0_0 : Int) (a0_1 : Int) (A0_2 : Option Addr) (c0_2 : Nat) (l0_2 : List (S71)) (a1 : Int) (r : List Int) (w : World) (hr0_2 : Kd.C k71 w A0_2 l0_2.length l0_2) (hc0_2 : l0_2.length ≤ c0_2) (h : impl_cogCosts.f k a0_0 a0_1 l0_2 a1 = some r) :
 Calls Try.prog 66 #[.agg #[.int .i64 a0_0, .int .i64 a0_1, .slice A0_2 l0_2.length c0_2], .int .i64 a1] w fun e w' => ∃ v0_ : Value, e = .returned (v0_) ∧ Kd.R (Kd.int .i64) 3 w' w.heap.size (fun _ => True) v0_ r ∧ Below w.heap.size w w' := by
 have E2 := Try.underlying30
 have E3 := Try.underlying71
 have AC := Z.m hr0_2
 have BT := Z.m hc0_2
 clear hr0_2 hc0_2
 have HB := Z.m (Below.refl w.heap.size w)
 have H : (if 0 ≤ (l0_2.length : Int) then (if ((l0_2.length : Int) : Int).toNat ≤ 35184372088832 then ((some (List.replicate ((l0_2.length : Int) : Int).toNat 0 : List Int)).bind fun AB => (impl_cogCosts.l0 k a1 AB (AB.length : Int) 0 a0_0 a0_1 l0_2)) else (none)) else (none)) = some r := h
 clear h
 by_cases c3 : 0 ≤ (l0_2.length : Int)
 ·rw [if_pos c3] at H
  have Db := eq_true c3
  have Dc := decide_eq_true c3
  clear c3
  by_cases c4 : ((l0_2.length : Int) : Int).toNat ≤ 35184372088832
  ·rw [if_pos c4] at H
   have Dd := eq_true c4
   have De := decide_eq_true c4
   clear c4
   obtain ⟨AB, AP⟩ : ∃ y_ : List Int, y_ = (List.replicate ((l0_2.length : Int) : Int).toNat 0) := ⟨_, rfl⟩
   replace H : (impl_cogCosts.l0 k a1 AB (AB.length : Int) 0 a0_0 a0_1 l0_2) = some r := by first | (rw [AP]; with_reducible exact H) | (have H2_ := (Option.bind_some _ _).symm.trans H; rw [AP]; with_reducible exact H2_) | (have H2_ := (Option.bind_some _ _).symm.trans H; with_reducible exact H2_) | with_reducible exact H | (rw [AP]; exact H) | exact H
   have Bw := Z.m AP
   clear AP
   have H' := Z.m H
   clear H
   go_enter Try.func66, Try.ntmps66
   go_wp2_with (first | ((with_reducible refine gq (N := 2) rfl ?_); refine be (N := 2) (cs := #[.int .i64 a0_0, .int .i64 a0_1, .slice A0_2 l0_2.length c0_2]) (t := 30) ?_; intro As hg w5 hbox hb; have A0 := Z.m (hbox); have BS := gW (w := w) HB hg; have Dy := BS; replace HB := bB HB hb; clear hb hbox hg; have BH := bc0 A0; have BI := bc1 A0; have BJ := bc2 A0; have BK := qz A0.o 0; have BL := qz A0.o 1; have BM := qz A0.o 2) | ((with_reducible refine gq (N := 19) rfl ?_); refine Kd.R_make (Kd.int .i64) _ 3 rfl (N := 19) rfl 38 _ _ rfl (l0_2.length : Int) rfl rfl Try.underlying38 (.int .i64 0) 8 info3 rfl (by decide) (by omega) 0 (ok := fun _ => True) (okp := fun _ => True) rfl (fun _ hk => hk) trivial (ofD) (Nat.le_trans (Nat.mul_le_mul_right _ (ofD : (l0_2.length : Int).toNat ≤ 35184372088832)) (by omega)) (Below.refl _ _) (Nat.le_refl _) ?_; intro E4 w7 Cx hb hg_ hnew_; clear hg_ hnew_; (first | rw [← Bw.o] at Cx | (simp only [Int.reduceToNat] at Cx; rw [← Bw.o] at Cx)); have Bu := Z.m (Kd.R_lower Cx (below_size (vB HB))); replace A0 := kB A0 hb; replace HB := bB HB hb; clear hb Cx; obtain ⟨DT, At, E1⟩ := Kd.R_slice Bu.o; subst E1))
   go_loopg [22] k (fun kq v22 w' => ∃ (Aw : List Int) (Am : Int), v22 = .int .i64 Am ∧ Z (impl_cogCosts.l0 kq a1 Aw (AB.length : Int) Am a0_0 a0_1 l0_2 = some r) ∧ Z (kq ≤ k) ∧ Z (Kd.R (Kd.int .i64) 3 w' w.heap.size (fun _ => True) (.slice DT AB.length At) Aw) ∧ Z (w'.heap[As]? = some (.cells #[.int .i64 a0_0, .int .i64 a0_1, (.slice A0_2 l0_2.length c0_2)] 30 (0, 0))) ∧ Z (Below w.heap.size w w'))
   case atStart => exact ⟨(AB), (0), (by first | rfl | (simp; done) | (simp [*]; done)), H', ⟨Nat.le_refl _⟩, ⟨vR Bu⟩, ⟨vK A0⟩, ⟨vB HB⟩⟩
   case round =>
    clear H'
    (try clear Db); (try clear Dc); (try clear Dd); (try clear De)
    (try clear BH); (try clear BI); (try clear BJ); (try clear BK); (try clear BL); (try clear BM)
    obtain ⟨Aw, Am, rfl, HA, AI, A7, A0, HB⟩ := hrel
    have A3 := (Kd.RrZ A7.o).1
    rw [A3] at A7
    (try simp only [A3])
    (try simp only [A3] at A0)
    cases gk with
    | zero => exact absurd HA.o (by simp [impl_cogCosts.l0])
    | succ k1 =>
     have H := HA.o
     clear HA
     simp only [impl_cogCosts.l0] at H
     by_cases c10 : Am < (AB.length : Int)
     ·rw [if_pos c10] at H
      have Bg := decide_eq_true c10
      clear c10
      by_cases c11 : 0 ≤ Am
      ·rw [if_pos c11] at H
       have DA := decide_eq_true c11
       clear c11
       by_cases c12 : Am < (Aw.length : Int)
       ·rw [if_pos c12] at H
        have DB := decide_eq_true c12
        clear c12
        obtain ⟨BO, AQ⟩ : ∃ y_ : List Int, y_ = (Aw.set (Am : Int).toNat (-1)) := ⟨_, rfl⟩
        replace H : (impl_cogCosts.l0 k1 a1 BO (AB.length : Int) (wrap64 (Am + 1)) a0_0 a0_1 l0_2) = some r := by first | (rw [AQ]; with_reducible exact H) | (have H2_ := (Option.bind_some _ _).symm.trans H; rw [AQ]; with_reducible exact H2_) | (have H2_ := (Option.bind_some _ _).symm.trans H; with_reducible exact H2_) | with_reducible exact H | (rw [AQ]; exact H) | exact H
        have C5 := Z.m AQ
        clear AQ
        have H' := Z.m H
        clear H
        have p13 : 0 ≤ (Am : Int) := ofD
        have q13 : (Am : Int) < ((Aw.length : Int) : Int) := ofD
        obtain ⟨BG, DW, Cs, Cu, gl13, cl13, BU⟩ := Kd.R_form A7.o (by omega)
        (first | cases Cs | (injection Cs with ea_ en_ ec_; (first | subst ea_ | (injection ea_ with ea_; subst ea_)); subst ec_; clear en_))
        have Da := Z.m Cu
        have DU := Z.m BU
        clear Cu gl13 BU
        obtain ⟨Dr, Dn⟩ := Kd.R_celln 0 A7.o (Am : Int) p13 q13
        replace p13 := eq_true p13
        replace q13 := eq_true q13
        have BC := Kd.R_putg A7.o (Am : Int) (-1)
        go_wp2_with (first | ((with_reducible refine gt (t := 3) (p := 27) rfl ?_); refine store_event (t := 3) (p := 27) (v := ?vo_w15) (w1 := (wr.setCell ⟨BG, (Am : Int).toNat, none⟩ (.int .i64 (-1)))) ?hg ?ho ?hn ?hr ?_; (case ho => rfl); (case hg => rfl); (case hn => rfl); (case hr => first | (go_simp; done) | (go_simp; rfl)); intro Du hw; have hg : wr.grownBy Du (some BG) := (by rw [hw]; exact BC.2); have hp_ : Kd.R (Kd.int .i64) 3 Du w.heap.size (fun _ => True) (.slice (some ⟨BG, 0, none⟩) Aw.length At) BO := (by rw [hw, C5.o]; exact BC.1); clear BC; replace A0 := Z.m (qg (g := As) (o := .cells #[.int .i64 a0_0, .int .i64 a0_1, .slice A0_2 l0_2.length c0_2] 30 (0, 0)) (vK A0) hg (Kd.R_ne A7.o A0.o (by decide))); replace A7 := Z.m (hp_); replace HB := Z.m ((by rw [hw]; exact qx (HB.o) Da.o : Below w.heap.size w Du)); clear hg hw hp_))
        (try simp only [← A3])
        go_roundg k1
        case measure => have := AI.o; omega
        case rel => exact ⟨(BO), (wrap64 (Am + 1)), (by first | rfl | (simp; done) | (simp [*]; done)), H', ⟨by have := AI.o; omega⟩, ⟨by (try simp only [A3]); refine rK ?_; exact A7.o⟩, ⟨by (try simp only [A3]); refine bK ?_; exact A0.o⟩, ⟨vB HB⟩⟩
       ·rw [if_neg c12] at H
        exact absurd H (by simp)
      ·rw [if_neg c11] at H
       exact absurd H (by simp)
     ·rw [if_neg c10] at H
      have Bg := decide_eq_false c10
      (try simp only [A3] at Bg)
      clear c10
      by_cases c16 : 0 ≤ a1
      ·rw [if_pos c16] at H
       have Cg := decide_eq_true c16
       clear c16
       by_cases c17 : a1 < (Aw.length : Int)
       ·rw [if_pos c17] at H
        have Ch := decide_eq_true c17
        clear c17
        obtain ⟨Br, AR⟩ : ∃ y_ : List Int, y_ = (Aw.set (a1 : Int).toNat 0) := ⟨_, rfl⟩
        replace H : (impl_cogCosts.l1 k1 Br (([a1] : List Int)) a0_0 a0_1 l0_2) = some r := by first | (rw [AR]; with_reducible exact H) | (have H2_ := (Option.bind_some _ _).symm.trans H; rw [AR]; with_reducible exact H2_) | (have H2_ := (Option.bind_some _ _).symm.trans H; with_reducible exact H2_) | with_reducible exact H | (rw [AR]; exact H) | exact H
        have C6 := Z.m AR
        clear AR
        obtain ⟨CA, AS⟩ : ∃ y_ : List Int, y_ = (([a1] : List Int)) := ⟨_, rfl⟩
        replace H : (impl_cogCosts.l1 k1 Br CA a0_0 a0_1 l0_2) = some r := by first | (rw [AS]; with_reducible exact H) | (have H2_ := (Option.bind_some _ _).symm.trans H; rw [AS]; with_reducible exact H2_) | (have H2_ := (Option.bind_some _ _).symm.trans H; with_reducible exact H2_) | with_reducible exact H | (rw [AS]; exact H) | exact H
        have Bx := Z.m AS
        clear AS
        have H' := Z.m H
        clear H
        have p18 : 0 ≤ (a1 : Int) := ofD
        have q18 : (a1 : Int) < ((Aw.length : Int) : Int) := ofD
        obtain ⟨Ac, DX, Ct, Cv, gl18, cl18, BV⟩ := Kd.R_form A7.o (by omega)
        (first | cases Ct | (injection Ct with ea_ en_ ec_; (first | subst ea_ | (injection ea_ with ea_; subst ea_)); subst ec_; clear en_))
        have BB := Z.m Cv
        have DV := Z.m BV
        clear Cv gl18 BV
        obtain ⟨BN, Do⟩ := Kd.R_celln 0 A7.o (a1 : Int) p18 q18
        replace p18 := eq_true p18
        replace q18 := eq_true q18
        have BD := Kd.R_putg A7.o (a1 : Int) 0
        go_wp2_with (first | ((with_reducible refine gt (t := 3) (p := 31) rfl ?_); refine store_event (t := 3) (p := 31) (v := ?vo_w20) (w1 := (wr.setCell ⟨Ac, (a1 : Int).toNat, none⟩ (.int .i64 0))) ?hg ?ho ?hn ?hr ?_; (case ho => rfl); (case hg => rfl); (case hn => rfl); (case hr => first | (go_simp; done) | (go_simp; rfl)); intro Dv hw; have hg : wr.grownBy Dv (some Ac) := (by rw [hw]; exact BD.2); have hp_ : Kd.R (Kd.int .i64) 3 Dv w.heap.size (fun _ => True) (.slice (some ⟨Ac, 0, none⟩) Aw.length At) Br := (by rw [hw, C6.o]; exact BD.1); clear BD; replace A0 := Z.m (qg (g := As) (o := .cells #[.int .i64 a0_0, .int .i64 a0_1, .slice A0_2 l0_2.length c0_2] 30 (0, 0)) (vK A0) hg (Kd.R_ne A7.o A0.o (by decide))); replace A7 := Z.m (hp_); replace HB := Z.m ((by rw [hw]; exact qx (HB.o) BB.o : Below w.heap.size w Dv)); clear hg hw hp_) | ((with_reducible refine gq (N := 33) rfl ?_); refine Kd.R_lit (Kd.int .i64) _ 3 ?hg (N := 33) ?hd (xs := ([a1] : List Int)) (inner := [.int .i64 a1]) (ok := fun _ => True) (okp := fun _ => True) ?hr ?hp (fun _ hk => hk) trivial (Below.refl _ _) (Nat.le_refl _) (by simp) ?_; (case hd => rfl); (case hg => rfl); (case hr => first | (go_simp; done) | (go_simp; rfl)); (case hp => exact (Reps.one (show Kd.M (Kd.int .i64) _ _ _ a1 [.int .i64 a1] from rfl) (Reps.none _ _))); intro E5 Eb Bd hb hg_ hnew_; clear hg_ hnew_; (first | rw [← Bx.o] at Bd | (simp only [Int.reduceToNat] at Bd; rw [← Bx.o] at Bd)); have BW := Z.m (Kd.R_lower (Kd.R_new' Bd (Kd.R_lt (vR A7))) (below_size (vB HB))); replace A7 := Z.m (Kd.R_elder' (vR A7) (Kd.R_base Bd) hb); replace A0 := kB A0 hb; replace HB := bB HB hb; clear hb Bd))
        go_loopg [7] k1 (fun kq v7 w' => ∃ (B0 : List Int) (B2 : List Int), Z (impl_cogCosts.l1 kq B0 B2 a0_0 a0_1 l0_2 = some r) ∧ Z (kq ≤ k1) ∧ Z (Kd.R (Kd.int .i64) 3 w' w.heap.size (fun k_ => some k_ ≠ (v7 : Value).ownBlock) (.slice (some ⟨Ac, 0, none⟩) Aw.length At) B0) ∧ Z (Kd.R (Kd.int .i64) 3 w' w.heap.size (fun k_ => some k_ ≠ ((.slice (some ⟨Ac, 0, none⟩) Aw.length At) : Value).ownBlock) v7 B2) ∧ Z (w'.heap[As]? = some (.cells #[.int .i64 a0_0, .int .i64 a0_1, (.slice A0_2 l0_2.length c0_2)] 30 (0, 0))) ∧ Z (Below w.heap.size w w'))
        case atStart => exact ⟨(Br), (CA), H', ⟨Nat.le_refl _⟩, ⟨by (try simp only [A3]); refine rK ?_; exact Kd.Rm A7.o (fun _ hk => hk.2)⟩, ⟨by (try simp only [A3]); refine rK ?_; exact Kd.Rm BW.o (fun _ hk => hk.2)⟩, ⟨by (try simp only [A3]); refine bK ?_; exact A0.o⟩, ⟨vB HB⟩⟩
        case round =>
         clear H'
         (try clear Bg); (try clear Cg); (try clear Ch); (try clear p18); (try clear q18); (try clear BN)
         obtain ⟨B0, B2, HA, B7, A7, Ab, A0, HB⟩ := hrel
         have A5 := (Kd.RrZ A7.o).1
         rw [A5] at A7
         (try simp only [A5])
         (try simp only [A5] at A0)
         (try simp only [A5] at Ab)
         cases gk with
         | zero => exact absurd HA.o (by simp [impl_cogCosts.l1])
         | succ k2 =>
          have H := HA.o
          clear HA
          simp only [impl_cogCosts.l1] at H
          by_cases c23 : (B2.length : Int) > 0
          ·rw [if_pos c23] at H
           have AD := decide_eq_true c23
           have AE : decide (0 < B2.length) = true := decide_eq_true (by omega)
           clear c23
           obtain ⟨CB, AT⟩ : ∃ y_ : List Int, y_ = (([] : List Int)) := ⟨_, rfl⟩
           replace H : (impl_cogCosts.l2 k2 B0 B2 CB 0 a0_0 a0_1 l0_2) = some r := by first | (rw [AT]; with_reducible exact H) | (have H2_ := (Option.bind_some _ _).symm.trans H; rw [AT]; with_reducible exact H2_) | (have H2_ := (Option.bind_some _ _).symm.trans H; with_reducible exact H2_) | with_reducible exact H | (rw [AT]; exact H) | exact H
           have By := Z.m AT
           clear AT
           have H' := Z.m H
           clear H
           obtain ⟨DP, DY, Dg⟩ := Kd.R_slice Ab.o
           subst Dg
           go_wp2_with (first | ((with_reducible refine gq (N := 37) rfl ?_); refine Kd.R_lit (Kd.int .i64) _ 3 ?hg (N := 37) ?hd (xs := ([] : List Int)) (inner := []) (ok := fun _ => True) (okp := fun _ => True) ?hr ?hp (fun _ hk => hk) trivial (Below.refl _ _) (Nat.le_refl _) (by simp) ?_; (case hd => rfl); (case hg => rfl); (case hr => first | (go_simp; done) | (go_simp; rfl)); (case hp => exact (Reps.none _ _)); intro E6 Ec Bc hb hg_ hnew_; clear hg_ hnew_; (first | rw [← By.o] at Bc | (simp only [Int.reduceToNat] at Bc; rw [← By.o] at Bc)); have BX := Z.m (Kd.R_lower (Kd.R_new' (Kd.R_new' Bc (Kd.R_lt (vR A7))) (Kd.R_lt (vR Ab))) (below_size (vB HB))); replace A7 := Z.m (Kd.R_elder' (vR A7) (Kd.R_base Bc) hb); replace Ab := Z.m (Kd.R_elder' (vR Ab) (Kd.R_base Bc) hb); replace A0 := kB A0 hb; replace HB := bB HB hb; clear hb Bc))
           go_loopg [7, 8, 9] k2 (fun kq v7 v8 v9 w' => ∃ (Al : List Int) (Aa : List Int) (Ae : List Int) (Ad : Int), v9 = .int .i64 Ad ∧ Z (impl_cogCosts.l2 kq Al Aa Ae Ad a0_0 a0_1 l0_2 = some r) ∧ Z (kq ≤ k2) ∧ Z (Kd.R (Kd.int .i64) 3 w' w.heap.size (fun k_ => some k_ ≠ (v7 : Value).ownBlock ∧ some k_ ≠ (v8 : Value).ownBlock) (.slice (some ⟨Ac, 0, none⟩) B0.length At) Al) ∧ Z (Kd.R (Kd.int .i64) 3 w' w.heap.size (fun k_ => some k_ ≠ ((.slice (some ⟨Ac, 0, none⟩) B0.length At) : Value).ownBlock ∧ some k_ ≠ (v8 : Value).ownBlock) v7 Aa) ∧ Z (Kd.R (Kd.int .i64) 3 w' w.heap.size (fun k_ => some k_ ≠ ((.slice (some ⟨Ac, 0, none⟩) B0.length At) : Value).ownBlock ∧ some k_ ≠ (v7 : Value).ownBlock) v8 Ae) ∧ Z (w'.heap[As]? = some (.cells #[.int .i64 a0_0, .int .i64 a0_1, (.slice A0_2 l0_2.length c0_2)] 30 (0, 0))) ∧ Z (Below w.heap.size w w'))
           case atStart => exact ⟨(B0), (B2), (CB), (0), (by first | rfl | (simp; done) | (simp [*]; done)), H', ⟨Nat.le_refl _⟩, ⟨by (try simp only [A3]); (try simp only [A5]); refine rK ?_; exact A7.o⟩, ⟨by (try simp only [A3]); (try simp only [A5]); refine rK ?_; exact Ab.o⟩, ⟨by (try simp only [A3]); (try simp only [A5]); refine rK ?_; exact Kd.Rm BX.o (fun _ hk => ⟨hk.1.2, hk.2⟩)⟩, ⟨by (try simp only [A3]); (try simp only [A5]); refine bK ?_; exact A0.o⟩, ⟨vB HB⟩⟩
           case round =>
            clear H'
            (try clear AD); (try clear AE)
            obtain ⟨Al, Aa, Ae, Ad, rfl, HA, Ba, A7, Ab, Ak, A0, HB⟩ := hrel
            have A6 := (Kd.RrZ A7.o).1
            rw [A6] at A7
            (try simp only [A6])
            (try simp only [A6] at A0)
            (try simp only [A6] at Ab)
            (try simp only [A6] at Ak)
            cases gk with
            | zero => exact absurd HA.o (by simp [impl_cogCosts.l2])
            | succ k3 =>
             have H := HA.o
             clear HA
             simp only [impl_cogCosts.l2] at H
             by_cases c27 : Ad < (Aa.length : Int)
             ·rw [if_pos c27] at H
              have AA := decide_eq_true c27
              clear c27
              by_cases c28 : 0 ≤ Ad
              ·rw [if_pos c28] at H
               have Ci := decide_eq_true c28
               clear c28
               replace H := Option.bind_eq_some_iff.mp H
               obtain ⟨A2, BQ, H⟩ := H
               replace H : (impl_cogCosts.l3 k3 Al Aa Ae Ad (rd Aa Ad) A2 (A2.length : Int) 0 a0_0 a0_1 l0_2) = some r := H
               have DO := Z.m BQ
               clear BQ
               have H' := Z.m H
               clear H
               obtain ⟨DQ, DZ, Dh⟩ := Kd.R_slice Ab.o
               subst Dh
               have p869 : 0 ≤ (Ad : Int) := ofD
               have q869 : Ad < (Aa.length : Int) := ofD
               obtain ⟨Dz, e869, Bp⟩ := Kd.at_int (Kd.RrZ Ab.o).2.2 Ad p869 q869
               cases e869
               replace p869 := eq_true p869
               replace q869 := eq_true q869
               have Bi := bc0 A0
               have Bj := bc1 A0
               have Bk := bc2 A0
               have Bl := qz A0.o 0
               have Bm := qz A0.o 1
               have Bn := qz A0.o 2
               go_wp2_with (first | ((with_reducible refine gc (f := 81) rfl ?_); refine gA (some 50) _ #[.agg #[.int .i64 a0_0, .int .i64 a0_1, .slice A0_2 l0_2.length c0_2], .int .i64 (rd Aa Ad)] ?_ Try.func81; (with_reducible refine (impl_besideOf.calls k3 a0_0 a0_1 _ _ l0_2 (rd Aa Ad) A2 _ ?side1 ?side2 DO.o).mono ?_); (case side1 => repeat (first | exact (Kd.C_below AC.o HB.o) | (with_reducible refine Kd.C_alloc ?_ _) | (with_reducible refine Kd.C_drewN ?_ _) | (with_reducible refine Kd.C_drew ?_))); (case side2 => exact BT.o); rintro e Ed ⟨E7, rfl, Cw, hb⟩; refine ⟨_, rfl, ?_⟩; have Bv := Z.m (Kd.R_lower (Kd.R_new' (Kd.R_new' (Kd.R_new' Cw (Kd.R_lt (vR A7))) (Kd.R_lt (vR Ab))) (Kd.R_lt (vR Ak))) (below_size (vB HB))); replace A7 := Z.m (Kd.R_elder' (vR A7) (Kd.R_base Cw) hb); replace Ab := Z.m (Kd.R_elder' (vR Ab) (Kd.R_base Cw) hb); replace Ak := Z.m (Kd.R_elder' (vR Ak) (Kd.R_base Cw) hb); replace A0 := kB A0 hb; replace HB := bB HB hb; (try clear hb); (try clear Dm); (try clear hk); (try clear hi); (try clear Cw); obtain ⟨Bh, Av, Di⟩ := Kd.R_slice Bv.o; subst Di))
               go_loopg [7, 8, 52] k3 (fun kq v7 v8 v52 w' => ∃ (A9 : List Int) (Ah : List Int) (An : List Int) (A1 : Int), v52 = .int .i64 A1 ∧ Z (impl_cogCosts.l3 kq A9 Ah An Ad (rd Aa Ad) A2 (A2.length : Int) A1 a0_0 a0_1 l0_2 = some r) ∧ Z (kq ≤ k3) ∧ Z (Kd.R (Kd.int .i64) 3 w' w.heap.size (fun k_ => some k_ ≠ (v7 : Value).ownBlock ∧ some k_ ≠ (v8 : Value).ownBlock ∧ some k_ ≠ ((.slice Bh A2.length Av) : Value).ownBlock) (.slice (some ⟨Ac, 0, none⟩) Al.length At) A9) ∧ Z (Kd.R (Kd.int .i64) 3 w' w.heap.size (fun k_ => some k_ ≠ ((.slice (some ⟨Ac, 0, none⟩) Al.length At) : Value).ownBlock ∧ some k_ ≠ (v8 : Value).ownBlock ∧ some k_ ≠ ((.slice Bh A2.length Av) : Value).ownBlock) v7 Ah) ∧ Z (Kd.R (Kd.int .i64) 3 w' w.heap.size (fun k_ => some k_ ≠ ((.slice (some ⟨Ac, 0, none⟩) Al.length At) : Value).ownBlock ∧ some k_ ≠ (v7 : Value).ownBlock ∧ some k_ ≠ ((.slice Bh A2.length Av) : Value).ownBlock) v8 An) ∧ Z (Kd.R (Kd.int .i64) 3 w' w.heap.size (fun k_ => some k_ ≠ ((.slice (some ⟨Ac, 0, none⟩) Al.length At) : Value).ownBlock ∧ some k_ ≠ (v7 : Value).ownBlock ∧ some k_ ≠ (v8 : Value).ownBlock) (.slice Bh A2.length Av) A2) ∧ Z (w'.heap[As]? = some (.cells #[.int .i64 a0_0, .int .i64 a0_1, (.slice A0_2 l0_2.length c0_2)] 30 (0, 0))) ∧ Z (Below w.heap.size w w'))
               case atStart => exact ⟨(Al), (Aa), (Ae), (0), (by first | rfl | (simp; done) | (simp [*]; done)), H', ⟨Nat.le_refl _⟩, ⟨by (try simp only [A3]); (try simp only [A5]); (try simp only [A6]); refine rK ?_; exact Kd.Rm A7.o (fun _ hk => ⟨hk.1.1, ⟨hk.1.2, hk.2⟩⟩)⟩, ⟨by (try simp only [A3]); (try simp only [A5]); (try simp only [A6]); refine rK ?_; exact Kd.Rm Ab.o (fun _ hk => ⟨hk.1.1, ⟨hk.1.2, hk.2⟩⟩)⟩, ⟨by (try simp only [A3]); (try simp only [A5]); (try simp only [A6]); refine rK ?_; exact Kd.Rm Ak.o (fun _ hk => ⟨hk.1.1, ⟨hk.1.2, hk.2⟩⟩)⟩, ⟨by (try simp only [A3]); (try simp only [A5]); (try simp only [A6]); refine rK ?_; exact Kd.Rm Bv.o (fun _ hk => ⟨hk.1.1.2, ⟨hk.1.2, hk.2⟩⟩)⟩, ⟨by (try simp only [A3]); (try simp only [A5]); (try simp only [A6]); refine bK ?_; exact A0.o⟩, ⟨vB HB⟩⟩
               case round =>
                clear H'
                (try clear AA); (try clear Ci)
                (try clear Bi); (try clear Bj); (try clear Bk); (try clear Bl); (try clear Bm); (try clear Bn); (try clear Bp); (try clear p869); (try clear q869)
                obtain ⟨A9, Ah, An, A1, rfl, HA, AJ, A7, Ab, Ak, Ag, A0, HB⟩ := hrel
                have A4 := (Kd.RrZ A7.o).1
                rw [A4] at A7
                (try simp only [A4])
                (try simp only [A4] at A0)
                (try simp only [A4] at Ab)
                (try simp only [A4] at Ak)
                (try simp only [A4] at Ag)
                cases gk with
                | zero => exact absurd HA.o (by simp [impl_cogCosts.l3])
                | succ k4 =>
                 have H := HA.o
                 clear HA
                 simp only [impl_cogCosts.l3] at H
                 by_cases c34 : A1 < (A2.length : Int)
                 ·rw [if_pos c34] at H
                  have AL := decide_eq_true c34
                  clear c34
                  by_cases c35 : 0 ≤ A1
                  ·rw [if_pos c35] at H
                   have DC := decide_eq_true c35
                   clear c35
                   by_cases c36 : A1 < (A2.length : Int)
                   ·rw [if_pos c36] at H
                    have DD := decide_eq_true c36
                    clear c36
                    by_cases c37 : 0 ≤ (rd A2 A1)
                    ·rw [if_pos c37] at H
                     have DE := decide_eq_true c37
                     clear c37
                     by_cases c38 : (rd A2 A1) < (A9.length : Int)
                     ·rw [if_pos c38] at H
                      have DF := decide_eq_true c38
                      clear c38
                      by_cases c39 : (rd A9 (rd A2 A1)) ≥ 0
                      ·rw [if_pos c39] at H
                       have AM := decide_eq_true c39
                       clear c39
                       have H' := Z.m H
                       clear H
                       have p873 : 0 ≤ (A1 : Int) := ofD
                       have q873 : A1 < (A2.length : Int) := ofD
                       obtain ⟨Ar, e873, AF⟩ := Kd.at_int (Kd.RrZ Ag.o).2.2 A1 p873 q873
                       cases e873
                       replace p873 := eq_true p873
                       replace q873 := eq_true q873
                       have p874 : 0 ≤ ((rd A2 A1) : Int) := ofD
                       have q874 : (rd A2 A1) < (A9.length : Int) := ofD
                       obtain ⟨Ay, e874, Af⟩ := Kd.at_int (Kd.RrZ A7.o).2.2 (rd A2 A1) p874 q874
                       obtain rfl : (⟨Ac, 0, none⟩ : Addr) = Ay := (by injection e874)
                       (first | simp only [add_plain] at Af | simp only [add_at] at Af | simp only [Addr.add, Nat.zero_add] at Af | skip)
                       replace p874 := eq_true p874
                       replace q874 := eq_true q874
                       go_wp2
                       (try simp only [← A4])
                       go_roundg k4
                       case measure => have := AI.o; have := B7.o; have := Ba.o; have := AJ.o; omega
                       case rel => exact ⟨(A9), (Ah), (An), (wrap64 (A1 + 1)), (by first | rfl | (simp; done) | (simp [*]; done)), H', ⟨by have := AI.o; have := B7.o; have := Ba.o; have := AJ.o; omega⟩, ⟨by (try simp only [A3]); (try simp only [A5]); (try simp only [A6]); (try simp only [A4]); refine rK ?_; exact A7.o⟩, ⟨by (try simp only [A3]); (try simp only [A5]); (try simp only [A6]); (try simp only [A4]); refine rK ?_; exact Ab.o⟩, ⟨by (try simp only [A3]); (try simp only [A5]); (try simp only [A6]); (try simp only [A4]); refine rK ?_; exact Ak.o⟩, ⟨by (try simp only [A3]); (try simp only [A5]); (try simp only [A6]); (try simp only [A4]); refine rK ?_; exact Ag.o⟩, ⟨by (try simp only [A3]); (try simp only [A5]); (try simp only [A6]); (try simp only [A4]); refine bK ?_; exact A0.o⟩, ⟨vB HB⟩⟩
                      ·rw [if_neg c39] at H
                       have AM := decide_eq_false c39
                       (try simp only [A3] at AM)
                       (try simp only [A5] at AM)
                       (try simp only [A6] at AM)
                       (try simp only [A4] at AM)
                       clear c39
                       by_cases c40 : (rd A2 A1) < (l0_2.length : Int)
                       ·rw [if_pos c40] at H
                        have DG := decide_eq_true c40
                        clear c40
                        replace H := Option.bind_eq_some_iff.mp H
                        obtain ⟨Cz, BR, H⟩ := H
                        replace H : (if Cz = true then (if 0 ≤ (rd Aa Ad) then (if (rd Aa Ad) < (A9.length : Int) then (if Ah.length < 17592186044416 then (impl_cogCosts.l3 k4 (A9.set ((rd A2 A1) : Int).toNat (rd A9 (rd Aa Ad))) (Ah ++ [rd A2 A1]) An Ad (rd Aa Ad) A2 (A2.length : Int) (wrap64 (A1 + 1)) a0_0 a0_1 l0_2) else (none)) else (none)) else (none)) else (if ((rd_T71 l0_2 (rd A2 A1)).f0) = 0 then (if An.length < 17592186044416 then (impl_cogCosts.l3 k4 A9 Ah (An ++ [rd A2 A1]) Ad (rd Aa Ad) A2 (A2.length : Int) (wrap64 (A1 + 1)) a0_0 a0_1 l0_2) else (none)) else (impl_cogCosts.l3 k4 A9 Ah An Ad (rd Aa Ad) A2 (A2.length : Int) (wrap64 (A1 + 1)) a0_0 a0_1 l0_2))) = some r := H
                        have D9 := Z.m BR
                        clear BR
                        by_cases c42 : Cz = true
                        ·subst c42
                         have H1 : (if 0 ≤ (rd Aa Ad) then (if (rd Aa Ad) < (A9.length : Int) then (if Ah.length < 17592186044416 then (impl_cogCosts.l3 k4 (A9.set ((rd A2 A1) : Int).toNat (rd A9 (rd Aa Ad))) (Ah ++ [rd A2 A1]) An Ad (rd Aa Ad) A2 (A2.length : Int) (wrap64 (A1 + 1)) a0_0 a0_1 l0_2) else (none)) else (none)) else (none)) = some r := by rw [if_pos rfl] at H; exact H
                         clear H
                         have H := H1
                         clear H1
                         by_cases c43 : 0 ≤ (rd Aa Ad)
                         ·rw [if_pos c43] at H
                          have DH := decide_eq_true c43
                          clear c43
                          by_cases c44 : (rd Aa Ad) < (A9.length : Int)
                          ·rw [if_pos c44] at H
                           have DI := decide_eq_true c44
                           clear c44
                           obtain ⟨Bs, AU⟩ : ∃ y_ : List Int, y_ = (A9.set ((rd A2 A1) : Int).toNat (rd A9 (rd Aa Ad))) := ⟨_, rfl⟩
                           replace H : (if Ah.length < 17592186044416 then (impl_cogCosts.l3 k4 Bs (Ah ++ [rd A2 A1]) An Ad (rd Aa Ad) A2 (A2.length : Int) (wrap64 (A1 + 1)) a0_0 a0_1 l0_2) else (none)) = some r := by first | (rw [AU]; with_reducible exact H) | (have H2_ := (Option.bind_some _ _).symm.trans H; rw [AU]; with_reducible exact H2_) | (have H2_ := (Option.bind_some _ _).symm.trans H; with_reducible exact H2_) | with_reducible exact H | (rw [AU]; exact H) | exact H
                           have C7 := Z.m AU
                           clear AU
                           by_cases c46 : Ah.length < 17592186044416
                           ·rw [if_pos c46] at H
                            have C2 := Z.m c46
                            clear c46
                            obtain ⟨CC, AV⟩ : ∃ y_ : List Int, y_ = (Ah ++ [rd A2 A1]) := ⟨_, rfl⟩
                            replace H : (impl_cogCosts.l3 k4 Bs CC An Ad (rd Aa Ad) A2 (A2.length : Int) (wrap64 (A1 + 1)) a0_0 a0_1 l0_2) = some r := by first | (rw [AV]; with_reducible exact H) | (have H2_ := (Option.bind_some _ _).symm.trans H; rw [AV]; with_reducible exact H2_) | (have H2_ := (Option.bind_some _ _).symm.trans H; with_reducible exact H2_) | with_reducible exact H | (rw [AV]; exact H) | exact H
                            have C8 := Z.m AV
                            clear AV
                            have H' := Z.m H
                            clear H
                            have p873 : 0 ≤ (A1 : Int) := ofD
                            have q873 : A1 < (A2.length : Int) := ofD
                            obtain ⟨Ar, e873, AF⟩ := Kd.at_int (Kd.RrZ Ag.o).2.2 A1 p873 q873
                            cases e873
                            replace p873 := eq_true p873
                            replace q873 := eq_true q873
                            have p874 : 0 ≤ ((rd A2 A1) : Int) := ofD
                            have q874 : (rd A2 A1) < (A9.length : Int) := ofD
                            obtain ⟨Ay, e874, Af⟩ := Kd.at_int (Kd.RrZ A7.o).2.2 (rd A2 A1) p874 q874
                            obtain rfl : (⟨Ac, 0, none⟩ : Addr) = Ay := (by injection e874)
                            (first | simp only [add_plain] at Af | simp only [add_at] at Af | simp only [Addr.add, Nat.zero_add] at Af | skip)
                            replace p874 := eq_true p874
                            replace q874 := eq_true q874
                            have CF := bc0 A0
                            have CG := bc1 A0
                            have CH := bc2 A0
                            have CU := qz A0.o 0
                            have CV := qz A0.o 1
                            have CW := qz A0.o 2
                            have p875 : 0 ≤ ((rd A2 A1) : Int) := ofD
                            have q875 : (rd A2 A1) < (l0_2.length : Int) := ofD
                            obtain ⟨Az, e875, Ai, Aj⟩ := at_T71 AC.o (rd A2 A1) p875 q875
                            cases e875
                            replace Ai := (HB.o.cell (World.block_lt_of_cell? w _ Ai)).trans Ai
                            replace Aj := (HB.o.cell (World.block_lt_of_cell? w _ Aj)).trans Aj
                            replace p875 := eq_true p875
                            replace q875 := eq_true q875
                            go_wp2_with (first | ((with_reducible refine gc (f := 65) rfl ?_); refine gA (some 66) _ #[.agg #[.int .i64 ((rd_T71 l0_2 (rd A2 A1)).f0), .int .i64 ((rd_T71 l0_2 (rd A2 A1)).f1)]] ?_ Try.func65; (with_reducible refine (impl_isGeared.calls ((rd_T71 l0_2 (rd A2 A1)).f0) ((rd_T71 l0_2 (rd A2 A1)).f1) true _ D9.o).mono ?_); rintro e DN ⟨rfl, hb⟩; refine ⟨_, rfl, ?_⟩; replace A7 := Z.m (Kd.Rb (vR A7) hb); replace Ab := Z.m (Kd.Rb (vR Ab) hb); replace Ak := Z.m (Kd.Rb (vR Ak) hb); replace Ag := Z.m (Kd.Rb (vR Ag) hb); replace A0 := kB A0 hb; replace HB := bB HB hb; (try clear hb); (try clear Dm); (try clear hk); (try clear hi); have p877 : 0 ≤ ((rd Aa Ad) : Int) := ofD; have q877 : (rd Aa Ad) < (A9.length : Int) := ofD; obtain ⟨Cd, e877, AG⟩ := Kd.at_int (Kd.RrZ A7.o).2.2 (rd Aa Ad) p877 q877; obtain rfl : (⟨Ac, 0, none⟩ : Addr) = Cd := (by injection e877); (first | simp only [add_plain] at AG | simp only [add_at] at AG | simp only [Addr.add, Nat.zero_add] at AG | skip); replace p877 := eq_true p877; replace q877 := eq_true q877; have p45 : 0 ≤ ((rd A2 A1) : Int) := ofD; have q45 : ((rd A2 A1) : Int) < ((A9.length : Int) : Int) := ofD; obtain ⟨Ds, Dp⟩ := Kd.R_celln 0 A7.o ((rd A2 A1) : Int) p45 q45; replace p45 := eq_true p45; replace q45 := eq_true q45; obtain ⟨hy49_, hz49_⟩ := Kd.R_celln 0 A7.o ((rd A2 A1) : Int) (ofD) (ofD); have BE := Kd.R_putg A7.o ((rd A2 A1) : Int) (rd A9 (rd Aa Ad))) | ((with_reducible refine gt (t := 3) (p := 73) rfl ?_); refine store_event (t := 3) (p := 73) (v := ?vo_w50) (w1 := (DN.setCell ⟨Ac, ((rd A2 A1) : Int).toNat, none⟩ (.int .i64 (rd A9 (rd Aa Ad))))) ?hg ?ho ?hn ?hr ?_; (case ho => rfl); (case hg => rfl); (case hn => rfl); (case hr => first | (go_simp; done) | (go_simp; rfl)); intro Dw hw; have hg : DN.grownBy Dw (some Ac) := (by rw [hw]; exact BE.2); have hp_ : Kd.R (Kd.int .i64) 3 Dw w.heap.size (fun k_ => some k_ ≠ (u7 : Value).ownBlock ∧ some k_ ≠ (u8 : Value).ownBlock ∧ some k_ ≠ (.slice (some Ar) A2.length Av : Value).ownBlock) (.slice (some ⟨Ac, 0, none⟩) A9.length At) Bs := (by rw [hw, C7.o]; exact BE.1); clear BE; replace Ab := Z.m (Kd.R_after (v := (.slice (some ⟨Ac, 0, none⟩) A9.length At)) (v1 := (.slice (some ⟨Ac, 0, none⟩) A9.length At)) (ok := (fun k_ => some k_ ≠ (u8 : Value).ownBlock ∧ some k_ ≠ (.slice (some Ar) A2.length Av : Value).ownBlock)) (by refine rK ?_; exact Kd.Rm Ab.o (fun _ hk => ⟨⟨hk.2.1, hk.2.2⟩, hk.1⟩)) hg (.inl rfl)); replace Ak := Z.m (Kd.R_after (v := (.slice (some ⟨Ac, 0, none⟩) A9.length At)) (v1 := (.slice (some ⟨Ac, 0, none⟩) A9.length At)) (ok := (fun k_ => some k_ ≠ (u7 : Value).ownBlock ∧ some k_ ≠ (.slice (some Ar) A2.length Av : Value).ownBlock)) (by refine rK ?_; exact Kd.Rm Ak.o (fun _ hk => ⟨⟨hk.2.1, hk.2.2⟩, hk.1⟩)) hg (.inl rfl)); replace Ag := Z.m (Kd.R_after (v := (.slice (some ⟨Ac, 0, none⟩) A9.length At)) (v1 := (.slice (some ⟨Ac, 0, none⟩) A9.length At)) (ok := (fun k_ => some k_ ≠ (u7 : Value).ownBlock ∧ some k_ ≠ (u8 : Value).ownBlock)) (by refine rK ?_; exact Kd.Rm Ag.o (fun _ hk => ⟨⟨hk.2.1, hk.2.2⟩, hk.1⟩)) hg (.inl rfl)); replace A0 := Z.m (qg (g := As) (o := .cells #[.int .i64 a0_0, .int .i64 a0_1, .slice (some Az) l0_2.length c0_2] 30 (0, 0)) (vK A0) hg (Kd.R_ne A7.o A0.o (by decide))); replace A7 := Z.m (hp_); replace HB := Z.m ((by rw [hw]; exact qx (HB.o) BB.o : Below w.heap.size w Dw)); clear hg hw hp_) | ((with_reducible refine gu (b := .append) (xs := #[.tmp 74, .tmp 76]) rfl ?_); at_builtin; refine Kd.R_append (Kd.int .i64) (w0 := w) w.heap.size rfl (.tmp 74) (.tmp 76) 38 3 (.int .i64 0) 8 rfl Try.underlying38 info3 rfl (by decide) (by omega) u7 Ah (rd A2 A1) [.int .i64 (rd A2 A1)] (fun k_ => some k_ ≠ (.slice (some ⟨Ac, 0, none⟩) A9.length At : Value).ownBlock ∧ some k_ ≠ (u8 : Value).ownBlock ∧ some k_ ≠ (.slice (some Ar) A2.length Av : Value).ownBlock) (fun _ => False) rfl rfl ?aP (fun _ hk => hk.elim) ?aF ?aO ?aB ?aS ?aL ?_; (case aP => exact rfl); (case aB => exact (vB HB)); (case aF => exact (fun k_ hk => ⟨Kd.fresh' (Kd.R_lt (vR A7)) k_ hk, Kd.fresh' (Kd.R_lt (vR Ak)) k_ hk, Kd.fresh' (Kd.R_lt (vR Ag)) k_ hk⟩)); (case aO => exact (by refine rK ?_; exact Kd.Rm Ab.o (fun _ hk => ⟨hk.2, ⟨hk.1.1, hk.1.2⟩⟩))); (case aS => exact (below_size (vB HB))); (case aL => have := C2.o; omega); intro E8 Ee ho hb hg hat; rw [← C8.o] at ho; have BY := Z.m (ho); replace A7 := Z.m (Kd.R_after (ok := (fun k_ => some k_ ≠ (u8 : Value).ownBlock ∧ some k_ ≠ (.slice (some Ar) A2.length Av : Value).ownBlock)) (by refine rK ?_; exact Kd.Rm A7.o (fun _ hk => ⟨⟨hk.2.1, hk.2.2⟩, hk.1⟩)) hg hat); replace Ak := Z.m (Kd.R_after (ok := (fun k_ => some k_ ≠ (.slice (some ⟨Ac, 0, none⟩) A9.length At : Value).ownBlock ∧ some k_ ≠ (.slice (some Ar) A2.length Av : Value).ownBlock)) (by refine rK ?_; exact Kd.Rm Ak.o (fun _ hk => ⟨⟨hk.2, hk.1.2⟩, hk.1.1⟩)) hg hat); replace Ag := Z.m (Kd.R_after (ok := (fun k_ => some k_ ≠ (.slice (some ⟨Ac, 0, none⟩) A9.length At : Value).ownBlock ∧ some k_ ≠ (u8 : Value).ownBlock)) (by refine rK ?_; exact Kd.Rm Ag.o (fun _ hk => ⟨⟨hk.2, hk.1.2⟩, hk.1.1⟩)) hg hat); replace A0 := Z.m (qg (g := As) (o := .cells #[.int .i64 a0_0, .int .i64 a0_1, .slice (some Az) l0_2.length c0_2] 30 (0, 0)) (vK A0) hg (Kd.R_ne Ab.o A0.o (by decide))); replace HB := Z.m (hb); clear Ab; clear ho hb hg hat))
                            (try simp only [← A4])
                            go_roundg k4
                            case measure => have := AI.o; have := B7.o; have := Ba.o; have := AJ.o; omega
                            case rel => exact ⟨(Bs), (CC), (An), (wrap64 (A1 + 1)), (by first | rfl | (simp; done) | (simp [*]; done)), H', ⟨by have := AI.o; have := B7.o; have := Ba.o; have := AJ.o; omega⟩, ⟨by (try simp only [A3]); (try simp only [A5]); (try simp only [A6]); (try simp only [A4]); refine rK ?_; exact Kd.Rm A7.o (fun _ hk => ⟨hk.2, ⟨hk.1.1, hk.1.2⟩⟩)⟩, ⟨by (try simp only [A3]); (try simp only [A5]); (try simp only [A6]); (try simp only [A4]); refine rK ?_; exact BY.o⟩, ⟨by (try simp only [A3]); (try simp only [A5]); (try simp only [A6]); (try simp only [A4]); refine rK ?_; exact Kd.Rm Ak.o (fun _ hk => ⟨hk.1.1, ⟨hk.2, hk.1.2⟩⟩)⟩, ⟨by (try simp only [A3]); (try simp only [A5]); (try simp only [A6]); (try simp only [A4]); refine rK ?_; exact Kd.Rm Ag.o (fun _ hk => ⟨hk.1.1, ⟨hk.2, hk.1.2⟩⟩)⟩, ⟨by (try simp only [A3]); (try simp only [A5]); (try simp only [A6]); (try simp only [A4]); refine bK ?_; exact A0.o⟩, ⟨vB HB⟩⟩
                           ·rw [if_neg c46] at H
                            exact absurd H (by simp)
                          ·rw [if_neg c44] at H
                           exact absurd H (by simp)
                         ·rw [if_neg c43] at H
                          exact absurd H (by simp)
                        ·replace c42 := Bool.eq_false_iff.mpr c42
                         subst c42
                         have H1 : (if ((rd_T71 l0_2 (rd A2 A1)).f0) = 0 then (if An.length < 17592186044416 then (impl_cogCosts.l3 k4 A9 Ah (An ++ [rd A2 A1]) Ad (rd Aa Ad) A2 (A2.length : Int) (wrap64 (A1 + 1)) a0_0 a0_1 l0_2) else (none)) else (impl_cogCosts.l3 k4 A9 Ah An Ad (rd Aa Ad) A2 (A2.length : Int) (wrap64 (A1 + 1)) a0_0 a0_1 l0_2)) = some r := by rw [if_neg (show ¬ (false = true) by decide)] at H; exact H
                         clear H
                         have H := H1
                         clear H1
                         by_cases c52 : ((rd_T71 l0_2 (rd A2 A1)).f0) = 0
                         ·rw [if_pos c52] at H
                          have Cj := beq_iff_eq.mpr c52
                          have Cl := bne_eq_false_iff_eq.mpr c52
                          clear c52
                          by_cases c53 : An.length < 17592186044416
                          ·rw [if_pos c53] at H
                           have C3 := Z.m c53
                           clear c53
                           obtain ⟨CD, AW⟩ : ∃ y_ : List Int, y_ = (An ++ [rd A2 A1]) := ⟨_, rfl⟩
                           replace H : (impl_cogCosts.l3 k4 A9 Ah CD Ad (rd Aa Ad) A2 (A2.length : Int) (wrap64 (A1 + 1)) a0_0 a0_1 l0_2) = some r := by first | (rw [AW]; with_reducible exact H) | (have H2_ := (Option.bind_some _ _).symm.trans H; rw [AW]; with_reducible exact H2_) | (have H2_ := (Option.bind_some _ _).symm.trans H; with_reducible exact H2_) | with_reducible exact H | (rw [AW]; exact H) | exact H
                           have C9 := Z.m AW
                           clear AW
                           have H' := Z.m H
                           clear H
                           have p873 : 0 ≤ (A1 : Int) := ofD
                           have q873 : A1 < (A2.length : Int) := ofD
                           obtain ⟨Ar, e873, AF⟩ := Kd.at_int (Kd.RrZ Ag.o).2.2 A1 p873 q873
                           cases e873
                           replace p873 := eq_true p873
                           replace q873 := eq_true q873
                           have p874 : 0 ≤ ((rd A2 A1) : Int) := ofD
                           have q874 : (rd A2 A1) < (A9.length : Int) := ofD
                           obtain ⟨Ay, e874, Af⟩ := Kd.at_int (Kd.RrZ A7.o).2.2 (rd A2 A1) p874 q874
                           obtain rfl : (⟨Ac, 0, none⟩ : Addr) = Ay := (by injection e874)
                           (first | simp only [add_plain] at Af | simp only [add_at] at Af | simp only [Addr.add, Nat.zero_add] at Af | skip)
                           replace p874 := eq_true p874
                           replace q874 := eq_true q874
                           have CI := bc0 A0
                           have CJ := bc1 A0
                           have CK := bc2 A0
                           have CX := qz A0.o 0
                           have CY := qz A0.o 1
                           have CZ := qz A0.o 2
                           have p875 : 0 ≤ ((rd A2 A1) : Int) := ofD
                           have q875 : (rd A2 A1) < (l0_2.length : Int) := ofD
                           obtain ⟨Az, e875, Ai, Aj⟩ := at_T71 AC.o (rd A2 A1) p875 q875
                           cases e875
                           replace Ai := (HB.o.cell (World.block_lt_of_cell? w _ Ai)).trans Ai
                           replace Aj := (HB.o.cell (World.block_lt_of_cell? w _ Aj)).trans Aj
                           replace p875 := eq_true p875
                           replace q875 := eq_true q875
                           go_wp2_with (first | ((with_reducible refine gc (f := 65) rfl ?_); refine gA (some 66) _ #[.agg #[.int .i64 ((rd_T71 l0_2 (rd A2 A1)).f0), .int .i64 ((rd_T71 l0_2 (rd A2 A1)).f1)]] ?_ Try.func65; (with_reducible refine (impl_isGeared.calls ((rd_T71 l0_2 (rd A2 A1)).f0) ((rd_T71 l0_2 (rd A2 A1)).f1) false _ D9.o).mono ?_); rintro e Ef ⟨rfl, hb⟩; refine ⟨_, rfl, ?_⟩; replace A7 := Z.m (Kd.Rb (vR A7) hb); replace Ab := Z.m (Kd.Rb (vR Ab) hb); replace Ak := Z.m (Kd.Rb (vR Ak) hb); replace Ag := Z.m (Kd.Rb (vR Ag) hb); replace A0 := kB A0 hb; replace HB := bB HB hb; (try clear hb); (try clear Dm); (try clear hk); (try clear hi); have CL := bc0 A0; have CM := bc1 A0; have CN := bc2 A0; have D0 := qz A0.o 0; have D1 := qz A0.o 1; have D2 := qz A0.o 2; have p882 : 0 ≤ ((rd A2 A1) : Int) := ofD; have q882 : (rd A2 A1) < (l0_2.length : Int) := ofD; obtain ⟨Be, e882, Ao, Ap⟩ := at_T71 AC.o (rd A2 A1) p882 q882; obtain rfl : Az = Be := (by injection e882); replace Ao := (HB.o.cell (World.block_lt_of_cell? w _ Ao)).trans Ao; replace Ap := (HB.o.cell (World.block_lt_of_cell? w _ Ap)).trans Ap; replace p882 := eq_true p882; replace q882 := eq_true q882) | ((with_reducible refine gu (b := .append) (xs := #[.tmp 85, .tmp 87]) rfl ?_); at_builtin; refine Kd.R_append (Kd.int .i64) (w0 := w) w.heap.size rfl (.tmp 85) (.tmp 87) 38 3 (.int .i64 0) 8 rfl Try.underlying38 info3 rfl (by decide) (by omega) u8 An (rd A2 A1) [.int .i64 (rd A2 A1)] (fun k_ => some k_ ≠ (.slice (some ⟨Ac, 0, none⟩) A9.length At : Value).ownBlock ∧ some k_ ≠ (u7 : Value).ownBlock ∧ some k_ ≠ (.slice (some Ar) A2.length Av : Value).ownBlock) (fun _ => False) rfl rfl ?aP (fun _ hk => hk.elim) ?aF ?aO ?aB ?aS ?aL ?_; (case aP => exact rfl); (case aB => exact (vB HB)); (case aF => exact (fun k_ hk => ⟨Kd.fresh' (Kd.R_lt (vR A7)) k_ hk, Kd.fresh' (Kd.R_lt (vR Ab)) k_ hk, Kd.fresh' (Kd.R_lt (vR Ag)) k_ hk⟩)); (case aO => exact (vR Ak)); (case aS => exact (below_size (vB HB))); (case aL => have := C3.o; omega); intro E9 Eg ho hb hg hat; rw [← C9.o] at ho; have BZ := Z.m (ho); replace A7 := Z.m (Kd.R_after (ok := (fun k_ => some k_ ≠ (u7 : Value).ownBlock ∧ some k_ ≠ (.slice (some Ar) A2.length Av : Value).ownBlock)) (by refine rK ?_; exact Kd.Rm A7.o (fun _ hk => ⟨⟨hk.1, hk.2.2⟩, hk.2.1⟩)) hg hat); replace Ab := Z.m (Kd.R_after (ok := (fun k_ => some k_ ≠ (.slice (some ⟨Ac, 0, none⟩) A9.length At : Value).ownBlock ∧ some k_ ≠ (.slice (some Ar) A2.length Av : Value).ownBlock)) (by refine rK ?_; exact Kd.Rm Ab.o (fun _ hk => ⟨⟨hk.1, hk.2.2⟩, hk.2.1⟩)) hg hat); replace Ag := Z.m (Kd.R_after (ok := (fun k_ => some k_ ≠ (.slice (some ⟨Ac, 0, none⟩) A9.length At : Value).ownBlock ∧ some k_ ≠ (u7 : Value).ownBlock)) (by refine rK ?_; exact Kd.Rm Ag.o (fun _ hk => ⟨⟨hk.1, hk.2.1⟩, hk.2.2⟩)) hg hat); replace A0 := Z.m (qg (g := As) (o := .cells #[.int .i64 a0_0, .int .i64 a0_1, .slice (some Az) l0_2.length c0_2] 30 (0, 0)) (vK A0) hg (Kd.R_ne Ak.o A0.o (by decide))); replace HB := Z.m (hb); clear Ak; clear ho hb hg hat))
                           (try simp only [← A4])
                           go_roundg k4
                           case measure => have := AI.o; have := B7.o; have := Ba.o; have := AJ.o; omega
                           case rel => exact ⟨(A9), (Ah), (CD), (wrap64 (A1 + 1)), (by first | rfl | (simp; done) | (simp [*]; done)), H', ⟨by have := AI.o; have := B7.o; have := Ba.o; have := AJ.o; omega⟩, ⟨by (try simp only [A3]); (try simp only [A5]); (try simp only [A6]); (try simp only [A4]); refine rK ?_; exact Kd.Rm A7.o (fun _ hk => ⟨hk.1.1, ⟨hk.2, hk.1.2⟩⟩)⟩, ⟨by (try simp only [A3]); (try simp only [A5]); (try simp only [A6]); (try simp only [A4]); refine rK ?_; exact Kd.Rm Ab.o (fun _ hk => ⟨hk.1.1, ⟨hk.2, hk.1.2⟩⟩)⟩, ⟨by (try simp only [A3]); (try simp only [A5]); (try simp only [A6]); (try simp only [A4]); refine rK ?_; exact BZ.o⟩, ⟨by (try simp only [A3]); (try simp only [A5]); (try simp only [A6]); (try simp only [A4]); refine rK ?_; exact Kd.Rm Ag.o (fun _ hk => ⟨hk.1.1, ⟨hk.1.2, hk.2⟩⟩)⟩, ⟨by (try simp only [A3]); (try simp only [A5]); (try simp only [A6]); (try simp only [A4]); refine bK ?_; exact A0.o⟩, ⟨vB HB⟩⟩
                          ·rw [if_neg c53] at H
                           exact absurd H (by simp)
                         ·rw [if_neg c52] at H
                          have Cj := beq_eq_false_iff_ne.mpr c52
                          have Cl := bne_iff_ne.mpr c52
                          have H' := Z.m H
                          clear H
                          have p873 : 0 ≤ (A1 : Int) := ofD
                          have q873 : A1 < (A2.length : Int) := ofD
                          obtain ⟨Ar, e873, AF⟩ := Kd.at_int (Kd.RrZ Ag.o).2.2 A1 p873 q873
                          cases e873
                          replace p873 := eq_true p873
                          replace q873 := eq_true q873
                          have p874 : 0 ≤ ((rd A2 A1) : Int) := ofD
                          have q874 : (rd A2 A1) < (A9.length : Int) := ofD
                          obtain ⟨Ay, e874, Af⟩ := Kd.at_int (Kd.RrZ A7.o).2.2 (rd A2 A1) p874 q874
                          obtain rfl : (⟨Ac, 0, none⟩ : Addr) = Ay := (by injection e874)
                          (first | simp only [add_plain] at Af | simp only [add_at] at Af | simp only [Addr.add, Nat.zero_add] at Af | skip)
                          replace p874 := eq_true p874
                          replace q874 := eq_true q874
                          have CO := bc0 A0
                          have CP := bc1 A0
                          have CQ := bc2 A0
                          have D3 := qz A0.o 0
                          have D4 := qz A0.o 1
                          have D5 := qz A0.o 2
                          have p875 : 0 ≤ ((rd A2 A1) : Int) := ofD
                          have q875 : (rd A2 A1) < (l0_2.length : Int) := ofD
                          obtain ⟨Az, e875, Ai, Aj⟩ := at_T71 AC.o (rd A2 A1) p875 q875
                          cases e875
                          replace Ai := (HB.o.cell (World.block_lt_of_cell? w _ Ai)).trans Ai
                          replace Aj := (HB.o.cell (World.block_lt_of_cell? w _ Aj)).trans Aj
                          replace p875 := eq_true p875
                          replace q875 := eq_true q875
                          go_wp2_with (first | ((with_reducible refine gc (f := 65) rfl ?_); refine gA (some 66) _ #[.agg #[.int .i64 ((rd_T71 l0_2 (rd A2 A1)).f0), .int .i64 ((rd_T71 l0_2 (rd A2 A1)).f1)]] ?_ Try.func65; (with_reducible refine (impl_isGeared.calls ((rd_T71 l0_2 (rd A2 A1)).f0) ((rd_T71 l0_2 (rd A2 A1)).f1) false _ D9.o).mono ?_); rintro e Eh ⟨rfl, hb⟩; refine ⟨_, rfl, ?_⟩; replace A7 := Z.m (Kd.Rb (vR A7) hb); replace Ab := Z.m (Kd.Rb (vR Ab) hb); replace Ak := Z.m (Kd.Rb (vR Ak) hb); replace Ag := Z.m (Kd.Rb (vR Ag) hb); replace A0 := kB A0 hb; replace HB := bB HB hb; (try clear hb); (try clear Dm); (try clear hk); (try clear hi); have CR := bc0 A0; have CS := bc1 A0; have CT := bc2 A0; have D6 := qz A0.o 0; have D7 := qz A0.o 1; have D8 := qz A0.o 2; have p882 : 0 ≤ ((rd A2 A1) : Int) := ofD; have q882 : (rd A2 A1) < (l0_2.length : Int) := ofD; obtain ⟨Be, e882, Ao, Ap⟩ := at_T71 AC.o (rd A2 A1) p882 q882; obtain rfl : Az = Be := (by injection e882); replace Ao := (HB.o.cell (World.block_lt_of_cell? w _ Ao)).trans Ao; replace Ap := (HB.o.cell (World.block_lt_of_cell? w _ Ap)).trans Ap; replace p882 := eq_true p882; replace q882 := eq_true q882))
                          (try simp only [← A4])
                          go_roundg k4
                          case measure => have := AI.o; have := B7.o; have := Ba.o; have := AJ.o; omega
                          case rel => exact ⟨(A9), (Ah), (An), (wrap64 (A1 + 1)), (by first | rfl | (simp; done) | (simp [*]; done)), H', ⟨by have := AI.o; have := B7.o; have := Ba.o; have := AJ.o; omega⟩, ⟨by (try simp only [A3]); (try simp only [A5]); (try simp only [A6]); (try simp only [A4]); refine rK ?_; exact A7.o⟩, ⟨by (try simp only [A3]); (try simp only [A5]); (try simp only [A6]); (try simp only [A4]); refine rK ?_; exact Ab.o⟩, ⟨by (try simp only [A3]); (try simp only [A5]); (try simp only [A6]); (try simp only [A4]); refine rK ?_; exact Ak.o⟩, ⟨by (try simp only [A3]); (try simp only [A5]); (try simp only [A6]); (try simp only [A4]); refine rK ?_; exact Ag.o⟩, ⟨by (try simp only [A3]); (try simp only [A5]); (try simp only [A6]); (try simp only [A4]); refine bK ?_; exact A0.o⟩, ⟨vB HB⟩⟩
                       ·rw [if_neg c40] at H
                        exact absurd H (by simp)
                     ·rw [if_neg c38] at H
                      exact absurd H (by simp)
                    ·rw [if_neg c37] at H
                     exact absurd H (by simp)
                   ·rw [if_neg c36] at H
                    exact absurd H (by simp)
                  ·rw [if_neg c35] at H
                   exact absurd H (by simp)
                 ·rw [if_neg c34] at H
                  have AL := decide_eq_false c34
                  (try simp only [A3] at AL)
                  (try simp only [A5] at AL)
                  (try simp only [A6] at AL)
                  (try simp only [A4] at AL)
                  clear c34
                  have H' := Z.m H
                  clear H
                  go_wp2
                  (try simp only [← A6, ← A4])
                  go_roundg k4
                  case measure => have := AI.o; have := B7.o; have := Ba.o; have := AJ.o; omega
                  case rel => exact ⟨(A9), (Ah), (An), (wrap64 (Ad + 1)), (by first | rfl | (simp; done) | (simp [*]; done)), H', ⟨by have := AI.o; have := B7.o; have := Ba.o; have := AJ.o; omega⟩, ⟨by (try simp only [A3]); (try simp only [A5]); (try simp only [A6]); (try simp only [A4]); refine rK ?_; exact Kd.Rm A7.o (fun _ hk => ⟨hk.1, hk.2.1⟩)⟩, ⟨by (try simp only [A3]); (try simp only [A5]); (try simp only [A6]); (try simp only [A4]); refine rK ?_; exact Kd.Rm Ab.o (fun _ hk => ⟨hk.1, hk.2.1⟩)⟩, ⟨by (try simp only [A3]); (try simp only [A5]); (try simp only [A6]); (try simp only [A4]); refine rK ?_; exact Kd.Rm Ak.o (fun _ hk => ⟨hk.1, hk.2.1⟩)⟩, ⟨by (try simp only [A3]); (try simp only [A5]); (try simp only [A6]); (try simp only [A4]); refine bK ?_; exact A0.o⟩, ⟨vB HB⟩⟩
              ·rw [if_neg c28] at H
               exact absurd H (by simp)
             ·rw [if_neg c27] at H
              have AA := decide_eq_false c27
              (try simp only [A3] at AA)
              (try simp only [A5] at AA)
              (try simp only [A6] at AA)
              (try simp only [A4] at AA)
              clear c27
              by_cases c61 : 0 < (Aa.length : Int)
              ·rw [if_pos c61] at H
               have Cm := decide_eq_true c61
               have Cn : decide (0 < Aa.length) = true := decide_eq_true (by omega)
               clear c61
               by_cases c62 : 0 ≤ (rd Aa 0)
               ·rw [if_pos c62] at H
                have Co := decide_eq_true c62
                clear c62
                by_cases c63 : (rd Aa 0) < (Al.length : Int)
                ·rw [if_pos c63] at H
                 have Cp := decide_eq_true c63
                 clear c63
                 by_cases c64 : 0 ≤ (Aa.length : Int)
                 ·rw [if_pos c64] at H
                  have Cq := eq_true c64
                  have Cr := decide_eq_true c64
                  clear c64
                  obtain ⟨BP, AX⟩ : ∃ y_ : List Int, y_ = (Aa.take (0 : Int).toNat) := ⟨_, rfl⟩
                  replace H : (impl_cogCosts.l4 k3 Al BP (wrap64 ((rd Al (rd Aa 0)) + 1)) Ae (Ae.length : Int) 0 a0_0 a0_1 l0_2) = some r := by first | (rw [AX]; with_reducible exact H) | (have H2_ := (Option.bind_some _ _).symm.trans H; rw [AX]; with_reducible exact H2_) | (have H2_ := (Option.bind_some _ _).symm.trans H; with_reducible exact H2_) | with_reducible exact H | (rw [AX]; exact H) | exact H
                  have Bz := Z.m AX
                  clear AX
                  have H' := Z.m H
                  clear H
                  obtain ⟨DR, Df, Dj⟩ := Kd.R_slice Ab.o
                  subst Dj
                  have p886 : 0 ≤ (0 : Int) := (by omega)
                  have q886 : 0 < (Aa.length : Int) := ofD
                  obtain ⟨Ce, e886, AH⟩ := Kd.at_int (Kd.RrZ Ab.o).2.2 0 p886 q886
                  cases e886
                  have qi886 : (0 < Aa.length) = True := eq_true (by omega)
                  (try rw [show ((0 : Int)).toNat = 0 from rfl] at AH)
                  (try rw [Addr.add_zero'] at AH)
                  replace p886 := eq_true p886
                  replace q886 := eq_true q886
                  have p887 : 0 ≤ ((rd Aa 0) : Int) := ofD
                  have q887 : (rd Aa 0) < (Al.length : Int) := ofD
                  obtain ⟨Cf, e887, Ax⟩ := Kd.at_int (Kd.RrZ A7.o).2.2 (rd Aa 0) p887 q887
                  obtain rfl : (⟨Ac, 0, none⟩ : Addr) = Cf := (by injection e887)
                  (first | simp only [add_plain] at Ax | simp only [add_at] at Ax | simp only [Addr.add, Nat.zero_add] at Ax | skip)
                  replace p887 := eq_true p887
                  replace q887 := eq_true q887
                  have q66 : (0 : Int) ≤ ((Aa.length : Int) : Int) := ofD
                  obtain ⟨i066, hi066, _, hsz66, _⟩ := info_parts info3
                  have hcut66 := cut_to (P := Try.prog) 38 3 .i64 Try.underlying38 hi066 (some Ce) Aa.length Df 0 (by omega) q66 (Kd.RrZ Ab.o).2.1
                  have Bo := Kd.R_take (m := (0 : Int).toNat) Ab.o (by omega)
                  have Cy : BP.length = (0 : Int).toNat := (by rw [Bz.o, List.length_take]; omega)
                  rw [← Bz.o] at Bo
                  rw [← Cy] at Bo hcut66
                  clear Cy hi066 hsz66 Ab
                  have C0 := Z.m Bo
                  clear Bo
                  replace q66 := eq_true q66
                  obtain ⟨BA, Bb, Dk⟩ := Kd.R_slice Ak.o
                  subst Dk
                  go_wp2
                  go_loopg [7, 101] k3 (fun kq v7 v101 w' => ∃ (A9 : List Int) (Ah : List Int) (A8 : Int), v101 = .int .i64 A8 ∧ Z (impl_cogCosts.l4 kq A9 Ah (wrap64 ((rd Al (rd Aa 0)) + 1)) Ae (Ae.length : Int) A8 a0_0 a0_1 l0_2 = some r) ∧ Z (kq ≤ k3) ∧ Z (Kd.R (Kd.int .i64) 3 w' w.heap.size (fun k_ => some k_ ≠ (v7 : Value).ownBlock ∧ some k_ ≠ ((.slice BA Ae.length Bb) : Value).ownBlock) (.slice (some ⟨Ac, 0, none⟩) Al.length At) A9) ∧ Z (Kd.R (Kd.int .i64) 3 w' w.heap.size (fun k_ => some k_ ≠ ((.slice (some ⟨Ac, 0, none⟩) Al.length At) : Value).ownBlock ∧ some k_ ≠ ((.slice BA Ae.length Bb) : Value).ownBlock) v7 Ah) ∧ Z (Kd.R (Kd.int .i64) 3 w' w.heap.size (fun k_ => some k_ ≠ ((.slice (some ⟨Ac, 0, none⟩) Al.length At) : Value).ownBlock ∧ some k_ ≠ (v7 : Value).ownBlock) (.slice BA Ae.length Bb) Ae) ∧ Z (w'.heap[As]? = some (.cells #[.int .i64 a0_0, .int .i64 a0_1, (.slice A0_2 l0_2.length c0_2)] 30 (0, 0))) ∧ Z (Below w.heap.size w w'))
                  case atStart => exact ⟨(Al), (BP), (0), (by first | rfl | (simp; done) | (simp [*]; done)), H', ⟨Nat.le_refl _⟩, ⟨by (try simp only [A3]); (try simp only [A5]); (try simp only [A6]); refine rK ?_; exact A7.o⟩, ⟨by (try simp only [A3]); (try simp only [A5]); (try simp only [A6]); refine rK ?_; exact C0.o⟩, ⟨by (try simp only [A3]); (try simp only [A5]); (try simp only [A6]); refine rK ?_; exact Ak.o⟩, ⟨by (try simp only [A3]); (try simp only [A5]); (try simp only [A6]); refine bK ?_; exact A0.o⟩, ⟨vB HB⟩⟩
                  case round =>
                   clear H'
                   (try clear AA); (try clear Cm); (try clear Cn); (try clear Co); (try clear Cp); (try clear Cq); (try clear Cr); (try clear q66); (try clear AH); (try clear Ax); (try clear p886); (try clear p887); (try clear q886); (try clear q887)
                   obtain ⟨A9, Ah, A8, rfl, HA, AJ, A7, Ab, Au, A0, HB⟩ := hrel
                   have A4 := (Kd.RrZ A7.o).1
                   rw [A4] at A7
                   (try simp only [A4])
                   (try simp only [A4] at A0)
                   (try simp only [A4] at Ab)
                   (try simp only [A4] at Au)
                   cases gk with
                   | zero => exact absurd HA.o (by simp [impl_cogCosts.l4])
                   | succ k4 =>
                    have H := HA.o
                    clear HA
                    simp only [impl_cogCosts.l4] at H
                    by_cases c68 : A8 < (Ae.length : Int)
                    ·rw [if_pos c68] at H
                     have AN := decide_eq_true c68
                     clear c68
                     by_cases c69 : 0 ≤ A8
                     ·rw [if_pos c69] at H
                      have DJ := decide_eq_true c69
                      clear c69
                      by_cases c70 : A8 < (Ae.length : Int)
                      ·rw [if_pos c70] at H
                       have DK := decide_eq_true c70
                       clear c70
                       by_cases c71 : 0 ≤ (rd Ae A8)
                       ·rw [if_pos c71] at H
                        have DL := decide_eq_true c71
                        clear c71
                        by_cases c72 : (rd Ae A8) < (A9.length : Int)
                        ·rw [if_pos c72] at H
                         have DM := decide_eq_true c72
                         clear c72
                         by_cases c73 : (rd A9 (rd Ae A8)) < 0
                         ·rw [if_pos c73] at H
                          have AO := decide_eq_true c73
                          clear c73
                          obtain ⟨Bt, AY⟩ : ∃ y_ : List Int, y_ = (A9.set ((rd Ae A8) : Int).toNat (wrap64 ((rd Al (rd Aa 0)) + 1))) := ⟨_, rfl⟩
                          replace H : (if Ah.length < 17592186044416 then (impl_cogCosts.l4 k4 Bt (Ah ++ [rd Ae A8]) (wrap64 ((rd Al (rd Aa 0)) + 1)) Ae (Ae.length : Int) (wrap64 (A8 + 1)) a0_0 a0_1 l0_2) else (none)) = some r := by first | (rw [AY]; with_reducible exact H) | (have H2_ := (Option.bind_some _ _).symm.trans H; rw [AY]; with_reducible exact H2_) | (have H2_ := (Option.bind_some _ _).symm.trans H; with_reducible exact H2_) | with_reducible exact H | (rw [AY]; exact H) | exact H
                          have Ca := Z.m AY
                          clear AY
                          by_cases c75 : Ah.length < 17592186044416
                          ·rw [if_pos c75] at H
                           have C4 := Z.m c75
                           clear c75
                           obtain ⟨CE, AZ⟩ : ∃ y_ : List Int, y_ = (Ah ++ [rd Ae A8]) := ⟨_, rfl⟩
                           replace H : (impl_cogCosts.l4 k4 Bt CE (wrap64 ((rd Al (rd Aa 0)) + 1)) Ae (Ae.length : Int) (wrap64 (A8 + 1)) a0_0 a0_1 l0_2) = some r := by first | (rw [AZ]; with_reducible exact H) | (have H2_ := (Option.bind_some _ _).symm.trans H; rw [AZ]; with_reducible exact H2_) | (have H2_ := (Option.bind_some _ _).symm.trans H; with_reducible exact H2_) | with_reducible exact H | (rw [AZ]; exact H) | exact H
                           have Cb := Z.m AZ
                           clear AZ
                           have H' := Z.m H
                           clear H
                           have p891 : 0 ≤ (A8 : Int) := ofD
                           have q891 : A8 < (Ae.length : Int) := ofD
                           obtain ⟨AK, e891, Bq⟩ := Kd.at_int (Kd.RrZ Au.o).2.2 A8 p891 q891
                           cases e891
                           replace p891 := eq_true p891
                           replace q891 := eq_true q891
                           have p892 : 0 ≤ ((rd Ae A8) : Int) := ofD
                           have q892 : (rd Ae A8) < (A9.length : Int) := ofD
                           obtain ⟨Bf, e892, Aq⟩ := Kd.at_int (Kd.RrZ A7.o).2.2 (rd Ae A8) p892 q892
                           obtain rfl : (⟨Ac, 0, none⟩ : Addr) = Bf := (by injection e892)
                           (first | simp only [add_plain] at Aq | simp only [add_at] at Aq | simp only [Addr.add, Nat.zero_add] at Aq | skip)
                           replace p892 := eq_true p892
                           replace q892 := eq_true q892
                           have p74 : 0 ≤ ((rd Ae A8) : Int) := ofD
                           have q74 : ((rd Ae A8) : Int) < ((A9.length : Int) : Int) := ofD
                           obtain ⟨Dt, Dq⟩ := Kd.R_celln 0 A7.o ((rd Ae A8) : Int) p74 q74
                           replace p74 := eq_true p74
                           replace q74 := eq_true q74
                           have BF := Kd.R_putg A7.o ((rd Ae A8) : Int) (wrap64 ((rd Al (rd Aa 0)) + 1))
                           go_wp2_with (first | ((with_reducible refine gt (t := 3) (p := 113) rfl ?_); refine store_event (t := 3) (p := 113) (v := ?vo_w77) (w1 := (wr.setCell ⟨Ac, ((rd Ae A8) : Int).toNat, none⟩ (.int .i64 (wrap64 ((rd Al (rd Aa 0)) + 1))))) ?hg ?ho ?hn ?hr ?_; (case ho => rfl); (case hg => rfl); (case hn => rfl); (case hr => first | (go_simp; done) | (go_simp; rfl)); intro Dx hw; have hg : wr.grownBy Dx (some Ac) := (by rw [hw]; exact BF.2); have hp_ : Kd.R (Kd.int .i64) 3 Dx w.heap.size (fun k_ => some k_ ≠ (u7 : Value).ownBlock ∧ some k_ ≠ (.slice (some AK) Ae.length Bb : Value).ownBlock) (.slice (some ⟨Ac, 0, none⟩) A9.length At) Bt := (by rw [hw, Ca.o]; exact BF.1); clear BF; replace Ab := Z.m (Kd.R_after (v := (.slice (some ⟨Ac, 0, none⟩) A9.length At)) (v1 := (.slice (some ⟨Ac, 0, none⟩) A9.length At)) (ok := (fun k_ => some k_ ≠ (.slice (some AK) Ae.length Bb : Value).ownBlock)) (by refine rK ?_; exact Kd.Rm Ab.o (fun _ hk => ⟨hk.2, hk.1⟩)) hg (.inl rfl)); replace Au := Z.m (Kd.R_after (v := (.slice (some ⟨Ac, 0, none⟩) A9.length At)) (v1 := (.slice (some ⟨Ac, 0, none⟩) A9.length At)) (ok := (fun k_ => some k_ ≠ (u7 : Value).ownBlock)) (by refine rK ?_; exact Kd.Rm Au.o (fun _ hk => ⟨hk.2, hk.1⟩)) hg (.inl rfl)); replace A0 := Z.m (qg (g := As) (o := .cells #[.int .i64 a0_0, .int .i64 a0_1, .slice A0_2 l0_2.length c0_2] 30 (0, 0)) (vK A0) hg (Kd.R_ne A7.o A0.o (by decide))); replace A7 := Z.m (hp_); replace HB := Z.m ((by rw [hw]; exact qx (HB.o) BB.o : Below w.heap.size w Dx)); clear hg hw hp_) | ((with_reducible refine gu (b := .append) (xs := #[.tmp 114, .tmp 116]) rfl ?_); at_builtin; refine Kd.R_append (Kd.int .i64) (w0 := w) w.heap.size rfl (.tmp 114) (.tmp 116) 38 3 (.int .i64 0) 8 rfl Try.underlying38 info3 rfl (by decide) (by omega) u7 Ah (rd Ae A8) [.int .i64 (rd Ae A8)] (fun k_ => some k_ ≠ (.slice (some ⟨Ac, 0, none⟩) A9.length At : Value).ownBlock ∧ some k_ ≠ (.slice (some AK) Ae.length Bb : Value).ownBlock) (fun _ => False) rfl rfl ?aP (fun _ hk => hk.elim) ?aF ?aO ?aB ?aS ?aL ?_; (case aP => exact rfl); (case aB => exact (vB HB)); (case aF => exact (fun k_ hk => ⟨Kd.fresh' (Kd.R_lt (vR A7)) k_ hk, Kd.fresh' (Kd.R_lt (vR Au)) k_ hk⟩)); (case aO => exact (by refine rK ?_; exact Kd.Rm Ab.o (fun _ hk => ⟨hk.2, hk.1⟩))); (case aS => exact (below_size (vB HB))); (case aL => have := C4.o; omega); intro Ea Ei ho hb hg hat; rw [← Cb.o] at ho; have C1 := Z.m (ho); replace A7 := Z.m (Kd.R_after (ok := (fun k_ => some k_ ≠ (.slice (some AK) Ae.length Bb : Value).ownBlock)) (by refine rK ?_; exact Kd.Rm A7.o (fun _ hk => ⟨hk.2, hk.1⟩)) hg hat); replace Au := Z.m (Kd.R_after (ok := (fun k_ => some k_ ≠ (.slice (some ⟨Ac, 0, none⟩) A9.length At : Value).ownBlock)) (by refine rK ?_; exact Kd.Rm Au.o (fun _ hk => ⟨hk.2, hk.1⟩)) hg hat); replace A0 := Z.m (qg (g := As) (o := .cells #[.int .i64 a0_0, .int .i64 a0_1, .slice A0_2 l0_2.length c0_2] 30 (0, 0)) (vK A0) hg (Kd.R_ne Ab.o A0.o (by decide))); replace HB := Z.m (hb); clear Ab; clear ho hb hg hat))
                           (try simp only [← A4])
                           go_roundg k4
                           case measure => have := AI.o; have := B7.o; have := Ba.o; have := AJ.o; omega
                           case rel => exact ⟨(Bt), (CE), (wrap64 (A8 + 1)), (by first | rfl | (simp; done) | (simp [*]; done)), H', ⟨by have := AI.o; have := B7.o; have := Ba.o; have := AJ.o; omega⟩, ⟨by (try simp only [A3]); (try simp only [A5]); (try simp only [A6]); (try simp only [A4]); refine rK ?_; exact Kd.Rm A7.o (fun _ hk => ⟨hk.2, hk.1⟩)⟩, ⟨by (try simp only [A3]); (try simp only [A5]); (try simp only [A6]); (try simp only [A4]); refine rK ?_; exact C1.o⟩, ⟨by (try simp only [A3]); (try simp only [A5]); (try simp only [A6]); (try simp only [A4]); refine rK ?_; exact Au.o⟩, ⟨by (try simp only [A3]); (try simp only [A5]); (try simp only [A6]); (try simp only [A4]); refine bK ?_; exact A0.o⟩, ⟨vB HB⟩⟩
                          ·rw [if_neg c75] at H
                           exact absurd H (by simp)
                         ·rw [if_neg c73] at H
                          have AO := decide_eq_false c73
                          (try simp only [A3] at AO)
                          (try simp only [A5] at AO)
                          (try simp only [A6] at AO)
                          (try simp only [A4] at AO)
                          clear c73
                          have H' := Z.m H
                          clear H
                          have p891 : 0 ≤ (A8 : Int) := ofD
                          have q891 : A8 < (Ae.length : Int) := ofD
                          obtain ⟨AK, e891, Bq⟩ := Kd.at_int (Kd.RrZ Au.o).2.2 A8 p891 q891
                          cases e891
                          replace p891 := eq_true p891
                          replace q891 := eq_true q891
                          have p892 : 0 ≤ ((rd Ae A8) : Int) := ofD
                          have q892 : (rd Ae A8) < (A9.length : Int) := ofD
                          obtain ⟨Bf, e892, Aq⟩ := Kd.at_int (Kd.RrZ A7.o).2.2 (rd Ae A8) p892 q892
                          obtain rfl : (⟨Ac, 0, none⟩ : Addr) = Bf := (by injection e892)
                          (first | simp only [add_plain] at Aq | simp only [add_at] at Aq | simp only [Addr.add, Nat.zero_add] at Aq | skip)
                          replace p892 := eq_true p892
                          replace q892 := eq_true q892
                          go_wp2
                          (try simp only [← A4])
                          go_roundg k4
                          case measure => have := AI.o; have := B7.o; have := Ba.o; have := AJ.o; omega
                          case rel => exact ⟨(A9), (Ah), (wrap64 (A8 + 1)), (by first | rfl | (simp; done) | (simp [*]; done)), H', ⟨by have := AI.o; have := B7.o; have := Ba.o; have := AJ.o; omega⟩, ⟨by (try simp only [A3]); (try simp only [A5]); (try simp only [A6]); (try simp only [A4]); refine rK ?_; exact A7.o⟩, ⟨by (try simp only [A3]); (try simp only [A5]); (try simp only [A6]); (try simp only [A4]); refine rK ?_; exact Ab.o⟩, ⟨by (try simp only [A3]); (try simp only [A5]); (try simp only [A6]); (try simp only [A4]); refine rK ?_; exact Au.o⟩, ⟨by (try simp only [A3]); (try simp only [A5]); (try simp only [A6]); (try simp only [A4]); refine bK ?_; exact A0.o⟩, ⟨vB HB⟩⟩
                        ·rw [if_neg c72] at H
                         exact absurd H (by simp)
                       ·rw [if_neg c71] at H
                        exact absurd H (by simp)
                      ·rw [if_neg c70] at H
                       exact absurd H (by simp)
                     ·rw [if_neg c69] at H
                      exact absurd H (by simp)
                    ·rw [if_neg c68] at H
                     have AN := decide_eq_false c68
                     (try simp only [A3] at AN)
                     (try simp only [A5] at AN)
                     (try simp only [A6] at AN)
                     (try simp only [A4] at AN)
                     clear c68
                     have H' := Z.m H
                     clear H
                     go_wp2
                     (try simp only [← A5, ← A6, ← A4])
                     go_roundg k4
                     case measure => have := AI.o; have := B7.o; have := Ba.o; have := AJ.o; omega
                     case rel => exact ⟨(A9), (Ah), H', ⟨by have := AI.o; have := B7.o; have := Ba.o; have := AJ.o; omega⟩, ⟨by (try simp only [A3]); (try simp only [A5]); (try simp only [A6]); (try simp only [A4]); refine rK ?_; exact Kd.Rm A7.o (fun _ hk => hk.1)⟩, ⟨by (try simp only [A3]); (try simp only [A5]); (try simp only [A6]); (try simp only [A4]); refine rK ?_; exact Kd.Rm Ab.o (fun _ hk => hk.1)⟩, ⟨by (try simp only [A3]); (try simp only [A5]); (try simp only [A6]); (try simp only [A4]); refine bK ?_; exact A0.o⟩, ⟨vB HB⟩⟩
                 ·rw [if_neg c64] at H
                  exact absurd H (by simp)
                ·rw [if_neg c63] at H
                 exact absurd H (by simp)
               ·rw [if_neg c62] at H
                exact absurd H (by simp)
              ·rw [if_neg c61] at H
               exact absurd H (by simp)
          ·rw [if_neg c23] at H
           have AD := decide_eq_false c23
           (try simp only [A3] at AD)
           (try simp only [A5] at AD)
           (try simp only [A6] at AD)
           (try simp only [A4] at AD)
           have AE : decide (0 < B2.length) = false := decide_eq_false (by omega)
           (try simp only [A3] at AE)
           (try simp only [A5] at AE)
           (try simp only [A6] at AE)
           (try simp only [A4] at AE)
           clear c23
           obtain rfl := Option.some.inj H
           obtain ⟨DS, E0, Dl⟩ := Kd.R_slice Ab.o
           subst Dl
           go_wp2
           go_ret
           exact ⟨_, by first | rfl | (simp [eN, eS] <;> rfl) | (simp [*, eN, eS] <;> rfl), by refine rK ?_; exact Kd.Rm A7.o (fun _ hk => trivial), vB HB⟩
       ·rw [if_neg c17] at H
        exact absurd H (by simp)
      ·rw [if_neg c16] at H
       exact absurd H (by simp)
  ·rw [if_neg c4] at H
   exact absurd H (by simp)
 ·rw [if_neg c3] at H
  exact absurd H (by simp)

end Go.Proofs.Ytlkiakpipcnijaa.PAll
