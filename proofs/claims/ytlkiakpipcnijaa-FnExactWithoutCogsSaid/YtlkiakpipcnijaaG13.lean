/- Began as a text that print.sh wrote (of the functions named below); turned and shortened by this session. -/
import Derived.Test.YtlkiakpipcnijaaG0
import Derived.Test.YtlkiakpipcnijaaG11
namespace Go.Proofs.Ytlkiakpipcnijaa.PAll
open Go.RowKit Go.Proofs.YtlkiakpipcnijaaW.PrintWords Go.Proofs.YtlkiakpipcnijaaW.PrintLast Go.Proofs.YtlkiakpipcnijaaW.PrintMore
attribute [local go_sem] max2_int min2_int max_two min_two max_three min_three max_four min_four   -- for this text's walks alone
set_option linter.unusedVariables false
set_option linter.unusedSimpArgs false

/-! ### impl_gearCounts: function 62 -/
mutual
def impl_gearCounts.l0 : Nat → List Int → List Int → Int → Int → Int → Int → List (S71) → Option (List Int)
 | 0, _, _, _, _, _, _, _ => none
 | k + 1, x4, x10, x11, x12, x284000, x284001, x284002 => if x12 < x11 then (if 0 ≤ x12 then (if x12 < (x10.length : Int) then (impl_gearCounts.l1 k x4 x12 (rd x10 x12) x10 x11 x12 x284000 x284001 x284002) else (none)) else (none)) else (some x4)
def impl_gearCounts.l1 : Nat → List Int → Int → Int → List Int → Int → Int → Int → Int → List (S71) → Option (List Int)
 | 0, _, _, _, _, _, _, _, _, _ => none
 | k + 1, x4, x5, x6, x10, x11, x12, x284000, x284001, x284002 => if x6 ≥ (x4.length : Int) then (if x4.length < 17592186044416 then (impl_gearCounts.l1 k (x4 ++ [0]) x5 x6 x10 x11 x12 x284000 x284001 x284002) else (none)) else (if 0 ≤ x5 then (if x5 < (x284002.length : Int) then (if ((rd_T71 x284002 x5).f0) = 6 then (if 0 ≤ x6 then (if x6 < (x4.length : Int) then (impl_gearCounts.l0 k (x4.set (x6 : Int).toNat (wrap64 ((rd x4 x6) + 1))) x10 x11 (wrap64 (x12 + 1)) x284000 x284001 x284002) else (none)) else (none)) else (impl_gearCounts.l0 k x4 x10 x11 (wrap64 (x12 + 1)) x284000 x284001 x284002)) else (none)) else (none))
end
def impl_gearCounts.f (k : Nat) (a0_0 : Int) (a0_1 : Int) (l0_2 : List (S71)) : Option (List Int) := (impl_groupNumbers.f k a0_0 a0_1 l0_2).bind fun t284 => (impl_gearCounts.l0 k (([] : List Int)) t284 (t284.length : Int) 0 a0_0 a0_1 l0_2)
set_option maxHeartbeats 8000000 in
set_option maxRecDepth 100000 in
theorem impl_gearCounts.calls (k : Nat) (a0_0 : Int) (a0_1 : Int) (A0_2 : Option Addr) (c0_2 : Nat) (l0_2 : List (S71)) (r : List Int) (w : World) (hr0_2 : Kd.C k71 w A0_2 l0_2.length l0_2) (hc0_2 : l0_2.length ≤ c0_2) (h : impl_gearCounts.f k a0_0 a0_1 l0_2 = some r) :
 Calls Try.prog 62 #[.agg #[.int .i64 a0_0, .int .i64 a0_1, .slice A0_2 l0_2.length c0_2]] w fun e w' => ∃ v0_ : Value, e = .returned (v0_) ∧ Kd.R (Kd.int .i64) 3 w' w.heap.size (fun _ => True) v0_ r ∧ Below w.heap.size w w' := by
 have BA := Try.underlying30
 have Ah := Z.m hr0_2
 have AE := Z.m hc0_2
 clear hr0_2 hc0_2
 have HB := Z.m (Below.refl w.heap.size w)
 have H : ((impl_groupNumbers.f k a0_0 a0_1 l0_2).bind fun Aa => (impl_gearCounts.l0 k (([] : List Int)) Aa (Aa.length : Int) 0 a0_0 a0_1 l0_2)) = some r := h
 clear h
 replace H := Option.bind_eq_some_iff.mp H
 obtain ⟨Aa, Bl, H⟩ := H
 replace H : (impl_gearCounts.l0 k (([] : List Int)) Aa (Aa.length : Int) 0 a0_0 a0_1 l0_2) = some r := H
 have A2 := Z.m Bl
 clear Bl
 obtain ⟨AR, Ac⟩ : ∃ y_ : List Int, y_ = (([] : List Int)) := ⟨_, rfl⟩
 replace H : (impl_gearCounts.l0 k AR Aa (Aa.length : Int) 0 a0_0 a0_1 l0_2) = some r := by first | (rw [Ac]; with_reducible exact H) | (have H2_ := (Option.bind_some _ _).symm.trans H; rw [Ac]; with_reducible exact H2_) | (have H2_ := (Option.bind_some _ _).symm.trans H; with_reducible exact H2_) | with_reducible exact H | (rw [Ac]; exact H) | exact H
 have Am := Z.m Ac
 clear Ac
 have H' := Z.m H
 clear H
 go_enter Try.func62, Try.ntmps62
 go_wp2_with (first | ((with_reducible refine gq (N := 1) rfl ?_); refine be (N := 1) (cs := #[.int .i64 a0_0, .int .i64 a0_1, .slice A0_2 l0_2.length c0_2]) (t := 30) ?_; intro Ag hg w3 hbox hb; have A1 := Z.m (hbox); have AD := gW (w := w) HB hg; have Bn := AD; replace HB := bB HB hb; clear hb hbox hg; have As := bc0 A1; have At := bc1 A1; have Au := bc2 A1; have Av := qz A1.o 0; have Aw := qz A1.o 1; have Ax := qz A1.o 2) | ((with_reducible refine gc (f := 57) rfl ?_); refine gA (some 8) _ #[.agg #[.int .i64 a0_0, .int .i64 a0_1, .slice A0_2 l0_2.length c0_2]] ?_ Try.func57; (with_reducible refine (impl_groupNumbers.calls k a0_0 a0_1 _ _ l0_2 Aa _ ?side1 ?side2 A2.o).mono ?_); (case side1 => repeat (first | exact (Kd.C_below Ah.o HB.o) | (with_reducible refine Kd.C_alloc ?_ _) | (with_reducible refine Kd.C_drewN ?_ _) | (with_reducible refine Kd.C_drew ?_))); (case side2 => exact AE.o); rintro e w5 ⟨BB, rfl, Bt, hb⟩; refine ⟨_, rfl, ?_⟩; have Ab := Z.m (Kd.R_lower Bt (below_size (vB HB))); replace A1 := kB A1 hb; replace HB := bB HB hb; (try clear hb); (try clear BE); (try clear hk); (try clear hi); (try clear Bt)) | ((with_reducible refine gq (N := 9) rfl ?_); refine Kd.R_lit (Kd.int .i64) _ 3 ?hg (N := 9) ?hd (xs := ([] : List Int)) (inner := []) (ok := fun _ => True) (okp := fun _ => True) ?hr ?hp (fun _ hk => hk) trivial (Below.refl _ _) (Nat.le_refl _) (by simp) ?_; (case hd => rfl); (case hg => rfl); (case hr => first | (go_simp; done) | (go_simp; rfl)); (case hp => exact (Reps.none _ _)); intro BC w6 AC hb hg_ hnew_; clear hg_ hnew_; (first | rw [← Am.o] at AC | (simp only [Int.reduceToNat] at AC; rw [← Am.o] at AC)); have AG := Z.m (Kd.R_lower (Kd.R_new' AC (Kd.R_lt (vR Ab))) (below_size (vB HB))); replace Ab := Z.m (Kd.R_elder' (vR Ab) (Kd.R_base AC) hb); replace A1 := kB A1 hb; replace HB := bB HB hb; clear hb AC; obtain ⟨Bm, AB, Bz⟩ := Kd.R_slice Ab.o; subst Bz))
 go_loopg [4, 12] k (fun kq v4 v12 w' => ∃ (Al : List Int) (A3 : List Int) (A0 : Int), v12 = .int .i64 A0 ∧ Z (impl_gearCounts.l0 kq Al A3 (Aa.length : Int) A0 a0_0 a0_1 l0_2 = some r) ∧ Z (kq ≤ k) ∧ Z (Kd.R (Kd.int .i64) 3 w' w.heap.size (fun k_ => some k_ ≠ ((.slice Bm Aa.length AB) : Value).ownBlock) v4 Al) ∧ Z (Kd.R (Kd.int .i64) 3 w' w.heap.size (fun k_ => some k_ ≠ (v4 : Value).ownBlock) (.slice Bm Aa.length AB) A3) ∧ Z (w'.heap[Ag]? = some (.cells #[.int .i64 a0_0, .int .i64 a0_1, (.slice A0_2 l0_2.length c0_2)] 30 (0, 0))) ∧ Z (Below w.heap.size w w'))
 case atStart => exact ⟨(AR), (Aa), (0), (by first | rfl | (simp; done) | (simp [*]; done)), H', ⟨Nat.le_refl _⟩, ⟨by refine rK ?_; exact Kd.Rm AG.o (fun _ hk => hk.2)⟩, ⟨by refine rK ?_; exact Kd.Rm Ab.o (fun _ hk => hk.2)⟩, ⟨vK A1⟩, ⟨vB HB⟩⟩
 case round =>
  clear H'
  (try clear As); (try clear At); (try clear Au); (try clear Av); (try clear Aw); (try clear Ax)
  obtain ⟨Al, A3, A0, rfl, HA, Az, A9, A5, A1, HB⟩ := hrel
  have A4 := (Kd.RrZ A5.o).1
  rw [A4] at A5
  (try simp only [A4])
  (try simp only [A4] at A1)
  (try simp only [A4] at A9)
  cases gk with
  | zero => exact absurd HA.o (by simp [impl_gearCounts.l0])
  | succ k1 =>
   have H := HA.o
   clear HA
   simp only [impl_gearCounts.l0] at H
   by_cases c9 : A0 < (Aa.length : Int)
   ·rw [if_pos c9] at H
    have Aq := decide_eq_true c9
    clear c9
    by_cases c10 : 0 ≤ A0
    ·rw [if_pos c10] at H
     have AL := decide_eq_true c10
     clear c10
     by_cases c11 : A0 < (A3.length : Int)
     ·rw [if_pos c11] at H
      have AM := decide_eq_true c11
      clear c11
      have H' := Z.m H
      clear H
      have p290 : 0 ≤ (A0 : Int) := ofD
      have q290 : A0 < (A3.length : Int) := ofD
      obtain ⟨Af, e290, Aj⟩ := Kd.at_int (Kd.RrZ A5.o).2.2 A0 p290 q290
      cases e290
      replace p290 := eq_true p290
      replace q290 := eq_true q290
      go_wp2
      go_loopg [4] k1 (fun kq v4 w' => ∃ (A8 : List Int), Z (impl_gearCounts.l1 kq A8 A0 (rd A3 A0) A3 (Aa.length : Int) A0 a0_0 a0_1 l0_2 = some r) ∧ Z (kq ≤ k1) ∧ Z (Kd.R (Kd.int .i64) 3 w' w.heap.size (fun k_ => some k_ ≠ ((.slice (some Af) A3.length AB) : Value).ownBlock) v4 A8) ∧ Z (Kd.R (Kd.int .i64) 3 w' w.heap.size (fun k_ => some k_ ≠ (v4 : Value).ownBlock) (.slice (some Af) A3.length AB) A3) ∧ Z (w'.heap[Ag]? = some (.cells #[.int .i64 a0_0, .int .i64 a0_1, (.slice A0_2 l0_2.length c0_2)] 30 (0, 0))) ∧ Z (Below w.heap.size w w'))
      case atStart => exact ⟨(Al), H', ⟨Nat.le_refl _⟩, ⟨by (try simp only [A4]); refine rK ?_; exact A9.o⟩, ⟨by (try simp only [A4]); refine rK ?_; exact A5.o⟩, ⟨by (try simp only [A4]); refine bK ?_; exact A1.o⟩, ⟨vB HB⟩⟩
      case round =>
       clear H'
       (try clear Aq); (try clear AL); (try clear AM); (try clear Aj); (try clear p290); (try clear q290)
       obtain ⟨A8, HA, AA, A9, A5, A1, HB⟩ := hrel
       cases gk with
       | zero => exact absurd HA.o (by simp [impl_gearCounts.l1])
       | succ k2 =>
        have H := HA.o
        clear HA
        simp only [impl_gearCounts.l1] at H
        by_cases c12 : (rd A3 A0) ≥ (A8.length : Int)
        ·rw [if_pos c12] at H
         have Ao := decide_eq_true c12
         clear c12
         by_cases c13 : A8.length < 17592186044416
         ·rw [if_pos c13] at H
          have AI := Z.m c13
          clear c13
          obtain ⟨AS, Ad⟩ : ∃ y_ : List Int, y_ = (A8 ++ [0]) := ⟨_, rfl⟩
          replace H : (impl_gearCounts.l1 k2 AS A0 (rd A3 A0) A3 (Aa.length : Int) A0 a0_0 a0_1 l0_2) = some r := by first | (rw [Ad]; with_reducible exact H) | (have H2_ := (Option.bind_some _ _).symm.trans H; rw [Ad]; with_reducible exact H2_) | (have H2_ := (Option.bind_some _ _).symm.trans H; with_reducible exact H2_) | with_reducible exact H | (rw [Ad]; exact H) | exact H
          have AJ := Z.m Ad
          clear Ad
          have H' := Z.m H
          clear H
          obtain ⟨Bc, Be, Bf⟩ := Kd.R_slice A9.o
          subst Bf
          go_wp2_with (first | ((with_reducible refine gu (b := .append) (xs := #[.tmp 21, .tmp 22]) rfl ?_); at_builtin; refine Kd.R_append (Kd.int .i64) (w0 := w) w.heap.size rfl (.tmp 21) (.tmp 22) 38 3 (.int .i64 0) 8 rfl Try.underlying38 info3 rfl (by decide) (by omega) (.slice Bc A8.length Be) A8 0 [.int .i64 0] (fun k_ => some k_ ≠ (.slice (some Af) A3.length AB : Value).ownBlock) (fun _ => False) rfl rfl ?aP (fun _ hk => hk.elim) ?aF ?aO ?aB ?aS ?aL ?_; (case aP => exact rfl); (case aB => exact (vB HB)); (case aF => exact (fun k_ hk => Kd.fresh' (Kd.R_lt (vR A5)) k_ hk)); (case aO => exact (vR A9)); (case aS => exact (below_size (vB HB))); (case aL => have := AI.o; omega); intro BD BF ho hb hg hat; rw [← AJ.o] at ho; have AH := Z.m (ho); replace A5 := Z.m (Kd.R_after (ok := (fun _ => True)) (by refine rK ?_; exact Kd.Rm A5.o (fun _ hk => ⟨trivial, hk⟩)) hg hat); replace A1 := Z.m (qg (g := Ag) (o := .cells #[.int .i64 a0_0, .int .i64 a0_1, .slice A0_2 l0_2.length c0_2] 30 (0, 0)) (vK A1) hg (Kd.R_ne A9.o A1.o (by decide))); replace HB := Z.m (hb); clear A9; clear ho hb hg hat))
          go_roundg k2
          case measure => have := Az.o; have := AA.o; omega
          case rel => exact ⟨(AS), H', ⟨by have := Az.o; have := AA.o; omega⟩, ⟨by (try simp only [A4]); refine rK ?_; exact AH.o⟩, ⟨by (try simp only [A4]); refine rK ?_; exact Kd.Rm A5.o (fun _ hk => hk.2)⟩, ⟨by (try simp only [A4]); refine bK ?_; exact A1.o⟩, ⟨vB HB⟩⟩
         ·rw [if_neg c13] at H
          exact absurd H (by simp)
        ·rw [if_neg c12] at H
         have Ao := decide_eq_false c12
         (try simp only [A4] at Ao)
         clear c12
         by_cases c16 : 0 ≤ A0
         ·rw [if_pos c16] at H
          have Bp := decide_eq_true c16
          clear c16
          by_cases c17 : A0 < (l0_2.length : Int)
          ·rw [if_pos c17] at H
           have Bq := decide_eq_true c17
           clear c17
           by_cases c18 : ((rd_T71 l0_2 A0).f0) = 6
           ·rw [if_pos c18] at H
            have AN := beq_iff_eq.mpr c18
            have AO := bne_eq_false_iff_eq.mpr c18
            clear c18
            by_cases c19 : 0 ≤ (rd A3 A0)
            ·rw [if_pos c19] at H
             have Br := decide_eq_true c19
             clear c19
             by_cases c20 : (rd A3 A0) < (A8.length : Int)
             ·rw [if_pos c20] at H
              have Bs := decide_eq_true c20
              clear c20
              obtain ⟨Ay, Ae⟩ : ∃ y_ : List Int, y_ = (A8.set ((rd A3 A0) : Int).toNat (wrap64 ((rd A8 (rd A3 A0)) + 1))) := ⟨_, rfl⟩
              replace H : (impl_gearCounts.l0 k2 Ay A3 (Aa.length : Int) (wrap64 (A0 + 1)) a0_0 a0_1 l0_2) = some r := by first | (rw [Ae]; with_reducible exact H) | (have H2_ := (Option.bind_some _ _).symm.trans H; rw [Ae]; with_reducible exact H2_) | (have H2_ := (Option.bind_some _ _).symm.trans H; with_reducible exact H2_) | with_reducible exact H | (rw [Ae]; exact H) | exact H
              have AK := Z.m Ae
              clear Ae
              have H' := Z.m H
              clear H
              obtain ⟨Bu, Ar, Bg⟩ := Kd.R_slice A9.o
              subst Bg
              have AT := bc0 A1
              have AU := bc1 A1
              have AV := bc2 A1
              have AZ := qz A1.o 0
              have B0 := qz A1.o 1
              have B2 := qz A1.o 2
              have p294 : 0 ≤ (A0 : Int) := ofD
              have q294 : A0 < (l0_2.length : Int) := ofD
              obtain ⟨An, e294, A6, A7⟩ := at_T71 Ah.o A0 p294 q294
              cases e294
              replace A6 := (HB.o.cell (World.block_lt_of_cell? w _ A6)).trans A6
              replace A7 := (HB.o.cell (World.block_lt_of_cell? w _ A7)).trans A7
              replace p294 := eq_true p294
              replace q294 := eq_true q294
              have p295 : 0 ≤ ((rd A3 A0) : Int) := ofD
              have q295 : (rd A3 A0) < (A8.length : Int) := ofD
              obtain ⟨Bo, e295, Ak⟩ := Kd.at_int (Kd.RrZ A9.o).2.2 (rd A3 A0) p295 q295
              cases e295
              replace p295 := eq_true p295
              replace q295 := eq_true q295
              have p21 : 0 ≤ ((rd A3 A0) : Int) := ofD
              have q21 : ((rd A3 A0) : Int) < ((A8.length : Int) : Int) := ofD
              obtain ⟨Ai, Bx, AP, AQ, gl21, cl21, AF⟩ := Kd.R_form A9.o (by omega)
              (first | cases AP | (injection AP with ea_ en_ ec_; (first | subst ea_ | (injection ea_ with ea_; subst ea_)); subst ec_; clear en_))
              have Bd := Z.m AQ
              have Bw := Z.m AF
              clear AQ gl21 AF
              (first | simp only [add_plain] at Ak | skip)
              obtain ⟨Bj, Bi⟩ := Kd.R_celln 0 A9.o ((rd A3 A0) : Int) p21 q21
              replace p21 := eq_true p21
              replace q21 := eq_true q21
              have Ap := Kd.R_putg A9.o ((rd A3 A0) : Int) (wrap64 ((rd A8 (rd A3 A0)) + 1))
              go_wp2_with (first | ((with_reducible refine gt (t := 3) (p := 36) rfl ?_); refine store_event (t := 3) (p := 36) (v := ?vo_w25) (w1 := (wr.setCell ⟨Ai, ((rd A3 A0) : Int).toNat, none⟩ (.int .i64 (wrap64 ((rd A8 (rd A3 A0)) + 1))))) ?hg ?ho ?hn ?hr ?_; (case ho => rfl); (case hg => rfl); (case hn => rfl); (case hr => first | (go_simp; done) | (go_simp; rfl)); intro Bk hw; have hg : wr.grownBy Bk (some Ai) := (by rw [hw]; exact Ap.2); have hp_ : Kd.R (Kd.int .i64) 3 Bk w.heap.size (fun k_ => some k_ ≠ (.slice (some Af) A3.length AB : Value).ownBlock) (.slice (some ⟨Ai, 0, none⟩) A8.length Ar) Ay := (by rw [hw, AK.o]; exact Ap.1); clear Ap; replace A5 := Z.m (Kd.R_after (v := (.slice (some ⟨Ai, 0, none⟩) A8.length Ar)) (v1 := (.slice (some ⟨Ai, 0, none⟩) A8.length Ar)) (ok := (fun _ => True)) (by refine rK ?_; exact Kd.Rm A5.o (fun _ hk => ⟨trivial, hk⟩)) hg (.inl rfl)); replace A1 := Z.m (qg (g := Ag) (o := .cells #[.int .i64 a0_0, .int .i64 a0_1, .slice (some An) l0_2.length c0_2] 30 (0, 0)) (vK A1) hg (Kd.R_ne A9.o A1.o (by decide))); replace A9 := Z.m (hp_); replace HB := Z.m ((by rw [hw]; exact qx (HB.o) Bd.o : Below w.heap.size w Bk)); clear hg hw hp_))
              (try simp only [← A4])
              go_roundg k2
              case measure => have := Az.o; have := AA.o; omega
              case rel => exact ⟨(Ay), (A3), (wrap64 (A0 + 1)), (by first | rfl | (simp; done) | (simp [*]; done)), H', ⟨by have := Az.o; have := AA.o; omega⟩, ⟨by (try simp only [A4]); refine rK ?_; exact A9.o⟩, ⟨by (try simp only [A4]); refine rK ?_; exact Kd.Rm A5.o (fun _ hk => hk.2)⟩, ⟨by (try simp only [A4]); refine bK ?_; exact A1.o⟩, ⟨vB HB⟩⟩
             ·rw [if_neg c20] at H
              exact absurd H (by simp)
            ·rw [if_neg c19] at H
             exact absurd H (by simp)
           ·rw [if_neg c18] at H
            have AN := beq_eq_false_iff_ne.mpr c18
            have AO := bne_iff_ne.mpr c18
            have H' := Z.m H
            clear H
            obtain ⟨Bv, By, Bh⟩ := Kd.R_slice A9.o
            subst Bh
            have AW := bc0 A1
            have AX := bc1 A1
            have AY := bc2 A1
            have B7 := qz A1.o 0
            have Ba := qz A1.o 1
            have Bb := qz A1.o 2
            have p294 : 0 ≤ (A0 : Int) := ofD
            have q294 : A0 < (l0_2.length : Int) := ofD
            obtain ⟨An, e294, A6, A7⟩ := at_T71 Ah.o A0 p294 q294
            cases e294
            replace A6 := (HB.o.cell (World.block_lt_of_cell? w _ A6)).trans A6
            replace A7 := (HB.o.cell (World.block_lt_of_cell? w _ A7)).trans A7
            replace p294 := eq_true p294
            replace q294 := eq_true q294
            go_wp2
            (try simp only [← A4])
            go_roundg k2
            case measure => have := Az.o; have := AA.o; omega
            case rel => exact ⟨(A8), (A3), (wrap64 (A0 + 1)), (by first | rfl | (simp; done) | (simp [*]; done)), H', ⟨by have := Az.o; have := AA.o; omega⟩, ⟨by (try simp only [A4]); refine rK ?_; exact A9.o⟩, ⟨by (try simp only [A4]); refine rK ?_; exact A5.o⟩, ⟨by (try simp only [A4]); refine bK ?_; exact A1.o⟩, ⟨vB HB⟩⟩
          ·rw [if_neg c17] at H
           exact absurd H (by simp)
         ·rw [if_neg c16] at H
          exact absurd H (by simp)
     ·rw [if_neg c11] at H
      exact absurd H (by simp)
    ·rw [if_neg c10] at H
     exact absurd H (by simp)
   ·rw [if_neg c9] at H
    have Aq := decide_eq_false c9
    (try simp only [A4] at Aq)
    clear c9
    obtain rfl := Option.some.inj H
    go_wp2
    go_ret
    exact ⟨_, by first | rfl | (simp [eN, eS] <;> rfl) | (simp [*, eN, eS] <;> rfl), by refine rK ?_; exact Kd.Rm A9.o (fun _ hk => trivial), vB HB⟩

end Go.Proofs.Ytlkiakpipcnijaa.PAll
