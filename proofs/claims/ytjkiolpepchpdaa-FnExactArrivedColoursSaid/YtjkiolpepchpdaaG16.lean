/- Began as a text that print.sh wrote (of the functions named below); turned and shortened by this session. -/
import Derived.Test.YtjkiolpepchpdaaG0
import Derived.Test.YtjkiolpepchpdaaG15
namespace Go.Proofs.Ytjkiolpepchpdaa.PAll
open Go.RowKit Go.Proofs.YtjkiolpepchpdaaW.PrintWords Go.Proofs.YtjkiolpepchpdaaW.PrintLast Go.Proofs.YtjkiolpepchpdaaW.PrintMore
attribute [local go_sem] max2_int min2_int max_two min_two max_three min_three max_four min_four   -- for this text's walks alone
set_option linter.unusedVariables false
set_option linter.unusedSimpArgs false

/-! ### impl_stepOn: function 47 -/
def impl_stepOn.j0 : Nat → List Int → Int → Int → Int → List (S88) → Int → Int → Int → Int → Int → Option (Int × Int × Int × Int × Int × Int × (List (S88)))
 | 0, _, _, _, _, _, _, _, _, _, _ => none
 | k + 1, x1, x5, x372000, x372001, x372002, x372003, x372004, x372005, x372006, x372007 => (impl_drop.f k x372000 x372001 x372002 x1 x5).bind fun bt373 => (if bt373.1 = 1 then (if (wrap64 (2 * bt373.2.2.1)) < x372001 then (some (bt373.1, bt373.2.1, bt373.2.2.1, x372005, x372006, 0, bt373.2.2.2.2)) else (some (bt373.1, bt373.2.1, bt373.2.2.1, x372005, x372006, 1, bt373.2.2.2.2))) else (some (bt373.1, bt373.2.1, bt373.2.2.1, x372005, x372006, 2, bt373.2.2.2.2)))
def impl_stepOn.f (k : Nat) (a0_0 : Int) (a0_1 : Int) (l0_2 : List (S88)) (a0_3 : Int) (a0_4 : Int) (a0_5 : Int) (a0_6 : Int) (a0_7 : Int) (l1 : List Int) : Option (Int × Int × Int × Int × Int × Int × (List (S88))) := if a0_7 = 0 then (impl_stepOn.j0 k l1 a0_3 a0_0 a0_1 l0_2 a0_3 a0_4 (wrap64 (a0_5 - 1)) a0_6 a0_7) else (impl_stepOn.j0 k l1 a0_4 a0_0 a0_1 l0_2 a0_3 a0_4 a0_5 (wrap64 (a0_6 - 1)) a0_7)
/-- As 'viaT', where the block g is stored into, too. -/
theorem viaTg {w W W2 : World} {S : Nat → Prop} (h : Z (Kept w W S)) (x : Kept w W S → Kept w W2 S := by (intro hx; repeat (first | (with_reducible first | exact hx | apply Kept.alloc | apply Kept.drewN | apply Kept.drew | refine Kept.setCell ?_ (.inl (.inr rfl)) _ | refine Kept.setCell ?_ (.inr (Z.o ‹_›)) _) | exact hx))) : Kept w W2 S := x h.out
set_option maxHeartbeats 8000000 in
set_option maxRecDepth 100000 in
theorem impl_stepOn.calls (k : Nat) (g : Nat) (a0_0 : Int) (a0_1 : Int) (P0_2_ : Nat → Prop) (u9000_ : Value) (l0_2 : List (S88)) (a0_3 : Int) (a0_4 : Int) (a0_5 : Int) (a0_6 : Int) (a0_7 : Int) (A1 : Option Addr) (c1 : Nat) (l1 : List Int) (r1 : Int) (r2 : Int) (r3 : Int) (r4 : Int) (r5 : Int) (r6 : Int) (r7 : List (S88)) (w0 w : World) (hB : Below w0.heap.size w0 w) (hbx : w.heap[g]? = some (.cells #[.int .i64 a0_0, .int .i64 a0_1, u9000_, .int .i64 a0_3, .int .i64 a0_4, .int .i64 a0_5, .int .i64 a0_6, .int .i64 a0_7] 32 (0, 0))) (hge : w0.heap.size ≤ g) (ho0_2 : Kd.R k88 88 w w0.heap.size P0_2_ u9000_ l0_2) (hr1 : ∀ W_, Kept w W_ (fun k_ => P0_2_ k_ ∨ k_ = g) → Kd.C (Kd.int .i64) W_ A1 l1.length l1) (hc1 : l1.length ≤ c1) (h : impl_stepOn.f k a0_0 a0_1 l0_2 a0_3 a0_4 a0_5 a0_6 a0_7 l1 = some (r1, r2, r3, r4, r5, r6, r7)) :
 Calls Try.prog 47 #[.pointer (some ⟨g, 0, none⟩), .slice A1 l1.length c1] w fun e w' => e = .returned (.agg #[.int .i64 r1, .int .i64 r2, .int .i64 r3]) ∧ w'.heap[g]? = some (.cells #[.int .i64 a0_0, .int .i64 a0_1, u9000_, .int .i64 a0_3, .int .i64 a0_4, .int .i64 r4, .int .i64 r5, .int .i64 r6] 32 (0, 0)) ∧ Kd.R k88 88 w' w0.heap.size (fun k_ => (P0_2_ k_ ∨ w.heap.size ≤ k_)) u9000_ r7 ∧ Below w0.heap.size w0 w' ∧ Kept w w' (fun k_ => P0_2_ k_ ∨ k_ = g) := by
 have Ee := Try.underlying32
 have Ef := Try.underlying52
 have Ed := Try.underlying30
 have Ak := Z.m (show Kd.R k88 88 w w0.heap.size (fun k_ => (P0_2_ k_ ∨ w.heap.size ≤ k_)) u9000_ l0_2 from Kd.Rm ho0_2 (fun k_ hk => (.inl hk)))
 have Ch := Z.m hr1
 have Cg := Z.m hc1
 clear hr1 hc1
 have HK := Z.m (Kept.refl w (fun k_ => P0_2_ k_ ∨ k_ = g))
 have HW0 := Z.m hB.size
 have HB := Z.m hB
 clear hB
 have H : (if a0_7 = 0 then (impl_stepOn.j0 k l1 a0_3 a0_0 a0_1 l0_2 a0_3 a0_4 (wrap64 (a0_5 - 1)) a0_6 a0_7) else (impl_stepOn.j0 k l1 a0_4 a0_0 a0_1 l0_2 a0_3 a0_4 a0_5 (wrap64 (a0_6 - 1)) a0_7)) = some (r1, r2, r3, r4, r5, r6, r7) := h
 clear h
 have DU := Z.m H
 clear H
 obtain ⟨Aq, Ar, Ec⟩ := Kd.R_slice Ak.o
 subst Ec
 have A0 := Z.m hbx
 have Aj := Z.m hge
 clear hbx hge
 go_enter Try.func47, Try.ntmps47
 go_upto_if 16 with (first | ((with_reducible refine gq (N := 4) rfl ?_); refine be (N := 4) (cs := #[.int .i64 0, .int .i64 0, .int .i64 0]) (t := 52) ?_; intro Al hg w6 hbox hb; have A3 := Z.m (hbox); have Ci := Z.m ((by rw [hg]; exact (by first | exact HK.o.1 | exact (show Kept w _ (fun k_ => P0_2_ k_ ∨ k_ = g) from viaTg HK).1) : w.heap.size ≤ Al)); have Af := gW (w := w0) HB hg; have Aa := neL A0 hg; have A9 := neG A0 hg; replace Ak := Z.m (Kd.Rb (vR Ak) hb); replace A0 := kB A0 hb; replace HK := Z.m (Kept.below (S := (fun k_ => P0_2_ k_ ∨ k_ = g)) (viaTg HK) hb); replace HB := bB HB hb; clear hb hbox hg; have CA := Aa.o; have CB := A9.o; have Aw := bc0 A0; have Ax := bc1 A0; have Ay := bc2 A0; have Az := bc3 A0; have AA := bc4 A0; have AB := bc5 A0; have AC := bc6 A0; have AD := bc7 A0; have AE := qz A0.o 0; have AF := qz A0.o 1; have AG := qz A0.o 2; have AH := qz A0.o 3; have AI := qz A0.o 4; have AJ := qz A0.o 5; have AK := qz A0.o 6; have AL := qz A0.o 7))
 repeat (go_quiet (first | ((with_reducible refine gq (N := 4) rfl ?_); refine be (N := 4) (cs := #[.int .i64 0, .int .i64 0, .int .i64 0]) (t := 52) ?_; intro Al hg w6 hbox hb; have A3 := Z.m (hbox); have Ci := Z.m ((by rw [hg]; exact (by first | exact HK.o.1 | exact (show Kept w _ (fun k_ => P0_2_ k_ ∨ k_ = g) from viaTg HK).1) : w.heap.size ≤ Al)); have Af := gW (w := w0) HB hg; have Aa := neL A0 hg; have A9 := neG A0 hg; replace Ak := Z.m (Kd.Rb (vR Ak) hb); replace A0 := kB A0 hb; replace HK := Z.m (Kept.below (S := (fun k_ => P0_2_ k_ ∨ k_ = g)) (viaTg HK) hb); replace HB := bB HB hb; clear hb hbox hg; have CA := Aa.o; have CB := A9.o; have Aw := bc0 A0; have Ax := bc1 A0; have Ay := bc2 A0; have Az := bc3 A0; have AA := bc4 A0; have AB := bc5 A0; have AC := bc6 A0; have AD := bc7 A0; have AE := qz A0.o 0; have AF := qz A0.o 1; have AG := qz A0.o 2; have AH := qz A0.o 3; have AI := qz A0.o 4; have AJ := qz A0.o 5; have AK := qz A0.o 6; have AL := qz A0.o 7)); go_upto_if 16 with (first | ((with_reducible refine gq (N := 4) rfl ?_); refine be (N := 4) (cs := #[.int .i64 0, .int .i64 0, .int .i64 0]) (t := 52) ?_; intro Al hg w6 hbox hb; have A3 := Z.m (hbox); have Ci := Z.m ((by rw [hg]; exact (by first | exact HK.o.1 | exact (show Kept w _ (fun k_ => P0_2_ k_ ∨ k_ = g) from viaTg HK).1) : w.heap.size ≤ Al)); have Af := gW (w := w0) HB hg; have Aa := neL A0 hg; have A9 := neG A0 hg; replace Ak := Z.m (Kd.Rb (vR Ak) hb); replace A0 := kB A0 hb; replace HK := Z.m (Kept.below (S := (fun k_ => P0_2_ k_ ∨ k_ = g)) (viaTg HK) hb); replace HB := bB HB hb; clear hb hbox hg; have CA := Aa.o; have CB := A9.o; have Aw := bc0 A0; have Ax := bc1 A0; have Ay := bc2 A0; have Az := bc3 A0; have AA := bc4 A0; have AB := bc5 A0; have AC := bc6 A0; have AD := bc7 A0; have AE := qz A0.o 0; have AF := qz A0.o 1; have AG := qz A0.o 2; have AH := qz A0.o 3; have AI := qz A0.o 4; have AJ := qz A0.o 5; have AK := qz A0.o 6; have AL := qz A0.o 7)))
 (try simp only [Act.put, q1, q2, q3])
 go_cut [5] (fun v5 wc => ∃ (kq : Nat) (At : Int) (Ac : Int) (Ad : Int), v5 = .int .i64 At ∧ Z (impl_stepOn.j0 kq l1 At a0_0 a0_1 l0_2 a0_3 a0_4 Ac Ad a0_7 = some (r1, r2, r3, r4, r5, r6, r7)) ∧ Z (kq ≤ k) ∧ Z (Kd.R k88 88 wc w0.heap.size (fun k_ => (P0_2_ k_ ∨ w.heap.size ≤ k_)) (.slice Aq l0_2.length Ar) l0_2) ∧ Z (wc.heap[g]? = some (.cells #[.int .i64 a0_0, .int .i64 a0_1, (.slice Aq l0_2.length Ar), .int .i64 a0_3, .int .i64 a0_4, .int .i64 Ac, .int .i64 Ad, .int .i64 a0_7] 32 (0, 0))) ∧ Z (wc.heap[Al]? = some (.cells #[.int .i64 0, .int .i64 0, .int .i64 0] 52 (0, 0))) ∧ Z (Kept w wc (fun k_ => P0_2_ k_ ∨ k_ = g)) ∧ Z (Below w0.heap.size w0 wc))
 case first =>
  have H := DU.o
  clear DU
  by_cases c9 : a0_7 = 0
  ·rw [if_pos c9] at H
   have Ce := beq_iff_eq.mpr c9
   have DV := bne_eq_false_iff_eq.mpr c9
   clear c9
   (first | rw [Ce] | (simp only [i64_w, i32_w]; rw [Ce]) | skip)
   have H' := Z.m H
   clear H
   have DW := Aa.o
   have E1 := A9.o
   have CC := bc0 A0
   have CD := bc1 A0
   have CE := bc2 A0
   have CF := bc3 A0
   have CG := bc4 A0
   have CH := bc5 A0
   have CI := bc6 A0
   have CJ := bc7 A0
   have Dg := qz A0.o 0
   have Dh := qz A0.o 1
   have Di := qz A0.o 2
   have Dj := qz A0.o 3
   have Dk := qz A0.o 4
   have Dl := qz A0.o 5
   have Dm := qz A0.o 6
   have Dn := qz A0.o 7
   go_wp2
   repeat (go_quiet (fail); try go_wp2)
   go_meet
   case rel => exact ⟨_, (a0_3), (wrap64 (a0_5 - 1)), (a0_6), (by first | rfl | (simp; done) | (simp [*]; done)), H', ⟨by first | omega | exact Nat.le_refl _⟩, ⟨by refine rK ?_; exact Kd.Rm (rf (Kd.Ry Ak.o A0.o (by decide))) (fun _ hk => hk.1)⟩, ⟨by refine bK ?_; refine qp (cs := #[iV a0_0, iV a0_1, .slice Aq l0_2.length Ar, iV a0_3, iV a0_4, iV a0_5, iV a0_6, iV a0_7]) ?_ 5 _ rfl; refine bK ?_; exact A0.o⟩, ⟨by refine bK ?_; refine qF ?_ A9; exact A3.o⟩, ⟨viaTg HK⟩, ⟨vB HB⟩⟩
  ·rw [if_neg c9] at H
   have Ce := beq_eq_false_iff_ne.mpr c9
   have DV := bne_iff_ne.mpr c9
   (first | rw [Ce] | (simp only [i64_w, i32_w]; rw [Ce]) | skip)
   have H' := Z.m H
   clear H
   have DX := Aa.o
   have E2 := A9.o
   have CK := bc0 A0
   have CL := bc1 A0
   have CM := bc2 A0
   have CN := bc3 A0
   have CO := bc4 A0
   have CP := bc5 A0
   have CQ := bc6 A0
   have CR := bc7 A0
   have Do := qz A0.o 0
   have Dp := qz A0.o 1
   have Dq := qz A0.o 2
   have Dr := qz A0.o 3
   have Ds := qz A0.o 4
   have Dt := qz A0.o 5
   have Du := qz A0.o 6
   have Dv := qz A0.o 7
   go_wp2
   repeat (go_quiet (fail); try go_wp2)
   go_meet
   case rel => exact ⟨_, (a0_4), (a0_5), (wrap64 (a0_6 - 1)), (by first | rfl | (simp; done) | (simp [*]; done)), H', ⟨by first | omega | exact Nat.le_refl _⟩, ⟨by refine rK ?_; exact Kd.Rm (rf (Kd.Ry Ak.o A0.o (by decide))) (fun _ hk => hk.1)⟩, ⟨by refine bK ?_; refine qp (cs := #[iV a0_0, iV a0_1, .slice Aq l0_2.length Ar, iV a0_3, iV a0_4, iV a0_5, iV a0_6, iV a0_7]) ?_ 6 _ rfl; refine bK ?_; exact A0.o⟩, ⟨by refine bK ?_; refine qF ?_ A9; exact A3.o⟩, ⟨viaTg HK⟩, ⟨vB HB⟩⟩
 case rest =>
  clear DU
  (try clear Aw); (try clear Ax); (try clear Ay); (try clear Az); (try clear AA); (try clear AB); (try clear AC); (try clear AD)
  (try clear AE); (try clear AF); (try clear AG); (try clear AH); (try clear AI); (try clear AJ); (try clear AK); (try clear AL)
  obtain ⟨kq, At, Ac, Ad, rfl, HA, Eg, A2, A0, A3, HK, HB⟩ := hcut
  cases kq with
  | zero => exact absurd HA.o (by simp [impl_stepOn.j0])
  | succ kj2 =>
   have H := HA.o
   clear HA
   simp only [impl_stepOn.j0] at H
   replace H := Option.bind_eq_some_iff.mp H
   obtain ⟨⟨Ag, Ai, Ah, Au, As⟩, Cw, H⟩ := H
   replace H : (if Ag = 1 then (if (wrap64 (2 * Ah)) < a0_1 then (some (Ag, Ai, Ah, Ac, Ad, 0, As)) else (some (Ag, Ai, Ah, Ac, Ad, 1, As))) else (some (Ag, Ai, Ah, Ac, Ad, 2, As))) = some (r1, r2, r3, r4, r5, r6, r7) := H
   have Cf := Z.m Cw
   clear Cw
   by_cases c15 : Ag = 1
   ·rw [if_pos c15] at H
    have Cx := beq_iff_eq.mpr c15
    have Cy := bne_eq_false_iff_eq.mpr c15
    clear c15
    by_cases c16 : (wrap64 (2 * Ah)) < a0_1
    ·rw [if_pos c16] at H
     have Cz := decide_eq_true c16
     clear c16
     simp only [Option.some.injEq, Prod.mk.injEq] at H
     obtain ⟨rfl, rfl, rfl, rfl, rfl, rfl, rfl⟩ := H
     have DY := Aa.o
     have E3 := A9.o
     have CS := bc0 A0
     have CT := bc1 A0
     have CU := bc2 A0
     have CV := bc3 A0
     have CW := bc4 A0
     have CX := bc5 A0
     have CY := bc6 A0
     have CZ := bc7 A0
     have Dw := qz A0.o 0
     have Dx := qz A0.o 1
     have Dy := qz A0.o 2
     have Dz := qz A0.o 3
     have DA := qz A0.o 4
     have DB := qz A0.o 5
     have DC := qz A0.o 6
     have DD := qz A0.o 7
     go_wp2_with (first | (go_at_call 59; (with_reducible refine (impl_drop.calls kj2 a0_0 a0_1 (fun k_ => some k_ = (.slice Aq l0_2.length Ar : Value).ownBlock) (.slice Aq l0_2.length Ar) l0_2 _ _ l1 At Ag Ai Ah Au As w0 _ ?side1 ?side2 ?side3 ?side4 Cf.o).mono ?_); (case side1 => repeat (first | (with_reducible first | exact HB.o | apply qa | apply qn | apply qd | refine qx ?_ Aj.o | refine qx ?_ Af.o) | exact HB.o)); (case side2 => exact Kd.Rg rfl A2.o); (case side3 => exact Kd.Cc Ch.o (viaTg HK) (fun k_ hs_ => (fun e_ => Or.imp_left Or.inl (A2.o.1 k_ e_.symm)) hs_)); (case side4 => exact Cg.o); rintro e E6 ⟨Av, rfl, Ao, Ap, hb, hkp⟩; have Ab := Z.m (Kd.Rm (ok' := fun k_ => (P0_2_ k_ ∨ w.heap.size ≤ k_)) Ao (fun k_ hk_ => Or.elim hk_ (fun hs_ => (A2.o.1 k_ (hs_).symm)) (fun hn_ => (.inr (Nat.le_trans (by first | exact HK.o.1 | exact (show Kept w _ (fun k_ => P0_2_ k_ ∨ k_ = g) from viaTg HK).1) hn_))))); replace A0 := Z.m (qk (vK A0) hkp (fun hs_ => (fun e_ => (Kd.R_ne A2.o A0.o (by decide)) e_) hs_)); replace A3 := Z.m (qk (vK A3) hkp (fun hs_ => (fun e_ => (Kd.R_ne A2.o A3.o (by decide)) e_) hs_)); replace HK := Z.m (Kept.then_ (S := (fun k_ => P0_2_ k_ ∨ k_ = g)) (viaTg HK) hkp (fun k_ hs_ => (fun e_ => Or.imp_left Or.inl (A2.o.1 k_ e_.symm)) hs_)); replace A2 := Z.m (Kd.Re rfl Ap (fun k_ e_ => A2.o.1 k_ e_)); replace HB := Z.m (hb); (try clear hb); (try clear hkp); (try clear Ao); (try clear Ap)) | ((with_reducible refine gq (N := 6) rfl ?_); refine be (N := 6) (cs := #[.int .i64 0, .int .i64 0, .int .i64 0]) (t := 52) ?_; intro Ae hg E7 hbox hb; have A4 := Z.m (hbox); have An := Z.m ((by rw [hg]; exact (by first | exact HK.o.1 | exact (show Kept w _ (fun k_ => P0_2_ k_ ∨ k_ = g) from viaTg HK).1) : w.heap.size ≤ Ae)); have Am := gW (w := w0) HB hg; have A5 := neL A0 hg; have A7 := neG A0 hg; have A6 := neL A3 hg; have A8 := neG A3 hg; replace A2 := Z.m (Kd.Rb (vR A2) hb); replace Ab := Z.m (Kd.Rb (vR Ab) hb); replace A0 := kB A0 hb; replace A3 := kB A3 hb; replace HK := Z.m (Kept.below (S := (fun k_ => P0_2_ k_ ∨ k_ = g)) (viaTg HK) hb); replace HB := bB HB hb; clear hb hbox hg; have Cj := A7.o; have Cq := A5.o; have Cl := A8.o; have Cr := A6.o; have AM := bc0 A4; have AN := bc1 A4; have AO := bc2 A4; have Bx := qz A4.o 0; have By := qz A4.o 1; have Bz := qz A4.o 2; have AP := bc0 A0; have AQ := bc1 A0; have AR := bc2 A0; have AS := bc3 A0; have AT := bc4 A0; have AU := bc5 A0; have AV := bc6 A0; have AW := bc7 A0; have BA := qz A0.o 0; have BB := qz A0.o 1; have BC := qz A0.o 2; have BD := qz A0.o 3; have BE := qz A0.o 4; have BF := qz A0.o 5; have BG := qz A0.o 6; have BH := qz A0.o 7; have AX := bc0 A3; have AY := bc1 A3; have AZ := bc2 A3; have BI := qz A3.o 0; have BJ := qz A3.o 1; have BK := qz A3.o 2))
     repeat (go_quiet (first | (go_at_call 59; (with_reducible refine (impl_drop.calls kj2 a0_0 a0_1 (fun k_ => some k_ = (.slice Aq l0_2.length Ar : Value).ownBlock) (.slice Aq l0_2.length Ar) l0_2 _ _ l1 At Ag Ai Ah Au As w0 _ ?side1 ?side2 ?side3 ?side4 Cf.o).mono ?_); (case side1 => repeat (first | (with_reducible first | exact HB.o | apply qa | apply qn | apply qd | refine qx ?_ Aj.o | refine qx ?_ Af.o) | exact HB.o)); (case side2 => exact Kd.Rg rfl A2.o); (case side3 => exact Kd.Cc Ch.o (viaTg HK) (fun k_ hs_ => (fun e_ => Or.imp_left Or.inl (A2.o.1 k_ e_.symm)) hs_)); (case side4 => exact Cg.o); rintro e E6 ⟨Av, rfl, Ao, Ap, hb, hkp⟩; have Ab := Z.m (Kd.Rm (ok' := fun k_ => (P0_2_ k_ ∨ w.heap.size ≤ k_)) Ao (fun k_ hk_ => Or.elim hk_ (fun hs_ => (A2.o.1 k_ (hs_).symm)) (fun hn_ => (.inr (Nat.le_trans (by first | exact HK.o.1 | exact (show Kept w _ (fun k_ => P0_2_ k_ ∨ k_ = g) from viaTg HK).1) hn_))))); replace A0 := Z.m (qk (vK A0) hkp (fun hs_ => (fun e_ => (Kd.R_ne A2.o A0.o (by decide)) e_) hs_)); replace A3 := Z.m (qk (vK A3) hkp (fun hs_ => (fun e_ => (Kd.R_ne A2.o A3.o (by decide)) e_) hs_)); replace HK := Z.m (Kept.then_ (S := (fun k_ => P0_2_ k_ ∨ k_ = g)) (viaTg HK) hkp (fun k_ hs_ => (fun e_ => Or.imp_left Or.inl (A2.o.1 k_ e_.symm)) hs_)); replace A2 := Z.m (Kd.Re rfl Ap (fun k_ e_ => A2.o.1 k_ e_)); replace HB := Z.m (hb); (try clear hb); (try clear hkp); (try clear Ao); (try clear Ap)) | ((with_reducible refine gq (N := 6) rfl ?_); refine be (N := 6) (cs := #[.int .i64 0, .int .i64 0, .int .i64 0]) (t := 52) ?_; intro Ae hg E7 hbox hb; have A4 := Z.m (hbox); have An := Z.m ((by rw [hg]; exact (by first | exact HK.o.1 | exact (show Kept w _ (fun k_ => P0_2_ k_ ∨ k_ = g) from viaTg HK).1) : w.heap.size ≤ Ae)); have Am := gW (w := w0) HB hg; have A5 := neL A0 hg; have A7 := neG A0 hg; have A6 := neL A3 hg; have A8 := neG A3 hg; replace A2 := Z.m (Kd.Rb (vR A2) hb); replace Ab := Z.m (Kd.Rb (vR Ab) hb); replace A0 := kB A0 hb; replace A3 := kB A3 hb; replace HK := Z.m (Kept.below (S := (fun k_ => P0_2_ k_ ∨ k_ = g)) (viaTg HK) hb); replace HB := bB HB hb; clear hb hbox hg; have Cj := A7.o; have Cq := A5.o; have Cl := A8.o; have Cr := A6.o; have AM := bc0 A4; have AN := bc1 A4; have AO := bc2 A4; have Bx := qz A4.o 0; have By := qz A4.o 1; have Bz := qz A4.o 2; have AP := bc0 A0; have AQ := bc1 A0; have AR := bc2 A0; have AS := bc3 A0; have AT := bc4 A0; have AU := bc5 A0; have AV := bc6 A0; have AW := bc7 A0; have BA := qz A0.o 0; have BB := qz A0.o 1; have BC := qz A0.o 2; have BD := qz A0.o 3; have BE := qz A0.o 4; have BF := qz A0.o 5; have BG := qz A0.o 6; have BH := qz A0.o 7; have AX := bc0 A3; have AY := bc1 A3; have AZ := bc2 A3; have BI := qz A3.o 0; have BJ := qz A3.o 1; have BK := qz A3.o 2)); try go_wp2_with (first | (go_at_call 59; (with_reducible refine (impl_drop.calls kj2 a0_0 a0_1 (fun k_ => some k_ = (.slice Aq l0_2.length Ar : Value).ownBlock) (.slice Aq l0_2.length Ar) l0_2 _ _ l1 At Ag Ai Ah Au As w0 _ ?side1 ?side2 ?side3 ?side4 Cf.o).mono ?_); (case side1 => repeat (first | (with_reducible first | exact HB.o | apply qa | apply qn | apply qd | refine qx ?_ Aj.o | refine qx ?_ Af.o) | exact HB.o)); (case side2 => exact Kd.Rg rfl A2.o); (case side3 => exact Kd.Cc Ch.o (viaTg HK) (fun k_ hs_ => (fun e_ => Or.imp_left Or.inl (A2.o.1 k_ e_.symm)) hs_)); (case side4 => exact Cg.o); rintro e E6 ⟨Av, rfl, Ao, Ap, hb, hkp⟩; have Ab := Z.m (Kd.Rm (ok' := fun k_ => (P0_2_ k_ ∨ w.heap.size ≤ k_)) Ao (fun k_ hk_ => Or.elim hk_ (fun hs_ => (A2.o.1 k_ (hs_).symm)) (fun hn_ => (.inr (Nat.le_trans (by first | exact HK.o.1 | exact (show Kept w _ (fun k_ => P0_2_ k_ ∨ k_ = g) from viaTg HK).1) hn_))))); replace A0 := Z.m (qk (vK A0) hkp (fun hs_ => (fun e_ => (Kd.R_ne A2.o A0.o (by decide)) e_) hs_)); replace A3 := Z.m (qk (vK A3) hkp (fun hs_ => (fun e_ => (Kd.R_ne A2.o A3.o (by decide)) e_) hs_)); replace HK := Z.m (Kept.then_ (S := (fun k_ => P0_2_ k_ ∨ k_ = g)) (viaTg HK) hkp (fun k_ hs_ => (fun e_ => Or.imp_left Or.inl (A2.o.1 k_ e_.symm)) hs_)); replace A2 := Z.m (Kd.Re rfl Ap (fun k_ e_ => A2.o.1 k_ e_)); replace HB := Z.m (hb); (try clear hb); (try clear hkp); (try clear Ao); (try clear Ap)) | ((with_reducible refine gq (N := 6) rfl ?_); refine be (N := 6) (cs := #[.int .i64 0, .int .i64 0, .int .i64 0]) (t := 52) ?_; intro Ae hg E7 hbox hb; have A4 := Z.m (hbox); have An := Z.m ((by rw [hg]; exact (by first | exact HK.o.1 | exact (show Kept w _ (fun k_ => P0_2_ k_ ∨ k_ = g) from viaTg HK).1) : w.heap.size ≤ Ae)); have Am := gW (w := w0) HB hg; have A5 := neL A0 hg; have A7 := neG A0 hg; have A6 := neL A3 hg; have A8 := neG A3 hg; replace A2 := Z.m (Kd.Rb (vR A2) hb); replace Ab := Z.m (Kd.Rb (vR Ab) hb); replace A0 := kB A0 hb; replace A3 := kB A3 hb; replace HK := Z.m (Kept.below (S := (fun k_ => P0_2_ k_ ∨ k_ = g)) (viaTg HK) hb); replace HB := bB HB hb; clear hb hbox hg; have Cj := A7.o; have Cq := A5.o; have Cl := A8.o; have Cr := A6.o; have AM := bc0 A4; have AN := bc1 A4; have AO := bc2 A4; have Bx := qz A4.o 0; have By := qz A4.o 1; have Bz := qz A4.o 2; have AP := bc0 A0; have AQ := bc1 A0; have AR := bc2 A0; have AS := bc3 A0; have AT := bc4 A0; have AU := bc5 A0; have AV := bc6 A0; have AW := bc7 A0; have BA := qz A0.o 0; have BB := qz A0.o 1; have BC := qz A0.o 2; have BD := qz A0.o 3; have BE := qz A0.o 4; have BF := qz A0.o 5; have BG := qz A0.o 6; have BH := qz A0.o 7; have AX := bc0 A3; have AY := bc1 A3; have AZ := bc2 A3; have BI := qz A3.o 0; have BJ := qz A3.o 1; have BK := qz A3.o 2)))
     refine bodyPost_ret (results_cell_row rfl _ _ Al 52 #[.int .i64 Ag, .int .i64 Ai, .int .i64 Ah] (0, 0) _ rfl (by refine bK ?_; apply st3; refine bK ?_; refine qF ?_ A9; (iterate 3 refine qF ?_ A6); exact A3.o) Try.underlying52 rfl (by kernel_rfl)) rfl ?_
     exact ⟨by first | rfl | (simp [eN, eS] <;> rfl) | (simp [*, eN, eS] <;> rfl), by refine bK ?_; (iterate 3 refine qF ?_ Aa); refine qp (cs := #[iV a0_0, iV a0_1, .slice Aq l0_2.length Ar, iV a0_3, iV a0_4, iV Ac, iV Ad, iV a0_7]) ?_ 7 _ rfl; refine bK ?_; (iterate 3 refine qF ?_ A5); exact A0.o, by refine rK ?_; exact Kd.Rm (rf (rf (rf (rf1 (rf2 (rf2 (rf2 (Kd.Ry (Kd.Ry (Kd.Ry A2.o A4.o (by decide)) A0.o (by decide)) A3.o (by decide))))))))) (fun _ hk => hk.1.1.1), vB HB, viaTg HK⟩
    ·rw [if_neg c16] at H
     have Cz := decide_eq_false c16
     clear c16
     simp only [Option.some.injEq, Prod.mk.injEq] at H
     obtain ⟨rfl, rfl, rfl, rfl, rfl, rfl, rfl⟩ := H
     have DZ := Aa.o
     have E4 := A9.o
     have D0 := bc0 A0
     have D1 := bc1 A0
     have D2 := bc2 A0
     have D3 := bc3 A0
     have D4 := bc4 A0
     have D5 := bc5 A0
     have D6 := bc6 A0
     have D7 := bc7 A0
     have DE := qz A0.o 0
     have DF := qz A0.o 1
     have DG := qz A0.o 2
     have DH := qz A0.o 3
     have DI := qz A0.o 4
     have DJ := qz A0.o 5
     have DK := qz A0.o 6
     have DL := qz A0.o 7
     go_wp2_with (first | (go_at_call 59; (with_reducible refine (impl_drop.calls kj2 a0_0 a0_1 (fun k_ => some k_ = (.slice Aq l0_2.length Ar : Value).ownBlock) (.slice Aq l0_2.length Ar) l0_2 _ _ l1 At Ag Ai Ah Au As w0 _ ?side1 ?side2 ?side3 ?side4 Cf.o).mono ?_); (case side1 => repeat (first | (with_reducible first | exact HB.o | apply qa | apply qn | apply qd | refine qx ?_ Aj.o | refine qx ?_ Af.o) | exact HB.o)); (case side2 => exact Kd.Rg rfl A2.o); (case side3 => exact Kd.Cc Ch.o (viaTg HK) (fun k_ hs_ => (fun e_ => Or.imp_left Or.inl (A2.o.1 k_ e_.symm)) hs_)); (case side4 => exact Cg.o); rintro e E8 ⟨Av, rfl, Ao, Ap, hb, hkp⟩; have Ab := Z.m (Kd.Rm (ok' := fun k_ => (P0_2_ k_ ∨ w.heap.size ≤ k_)) Ao (fun k_ hk_ => Or.elim hk_ (fun hs_ => (A2.o.1 k_ (hs_).symm)) (fun hn_ => (.inr (Nat.le_trans (by first | exact HK.o.1 | exact (show Kept w _ (fun k_ => P0_2_ k_ ∨ k_ = g) from viaTg HK).1) hn_))))); replace A0 := Z.m (qk (vK A0) hkp (fun hs_ => (fun e_ => (Kd.R_ne A2.o A0.o (by decide)) e_) hs_)); replace A3 := Z.m (qk (vK A3) hkp (fun hs_ => (fun e_ => (Kd.R_ne A2.o A3.o (by decide)) e_) hs_)); replace HK := Z.m (Kept.then_ (S := (fun k_ => P0_2_ k_ ∨ k_ = g)) (viaTg HK) hkp (fun k_ hs_ => (fun e_ => Or.imp_left Or.inl (A2.o.1 k_ e_.symm)) hs_)); replace A2 := Z.m (Kd.Re rfl Ap (fun k_ e_ => A2.o.1 k_ e_)); replace HB := Z.m (hb); (try clear hb); (try clear hkp); (try clear Ao); (try clear Ap)) | ((with_reducible refine gq (N := 6) rfl ?_); refine be (N := 6) (cs := #[.int .i64 0, .int .i64 0, .int .i64 0]) (t := 52) ?_; intro Ae hg E9 hbox hb; have A4 := Z.m (hbox); have An := Z.m ((by rw [hg]; exact (by first | exact HK.o.1 | exact (show Kept w _ (fun k_ => P0_2_ k_ ∨ k_ = g) from viaTg HK).1) : w.heap.size ≤ Ae)); have Am := gW (w := w0) HB hg; have A5 := neL A0 hg; have A7 := neG A0 hg; have A6 := neL A3 hg; have A8 := neG A3 hg; replace A2 := Z.m (Kd.Rb (vR A2) hb); replace Ab := Z.m (Kd.Rb (vR Ab) hb); replace A0 := kB A0 hb; replace A3 := kB A3 hb; replace HK := Z.m (Kept.below (S := (fun k_ => P0_2_ k_ ∨ k_ = g)) (viaTg HK) hb); replace HB := bB HB hb; clear hb hbox hg; have Cm := A7.o; have Cs := A5.o; have Cn := A8.o; have Ct := A6.o; have B0 := bc0 A4; have B2 := bc1 A4; have B3 := bc2 A4; have BL := qz A4.o 0; have BM := qz A4.o 1; have BN := qz A4.o 2; have B7 := bc0 A0; have B8 := bc1 A0; have Ba := bc2 A0; have Bb := bc3 A0; have Bc := bc4 A0; have Bd := bc5 A0; have Be := bc6 A0; have Bf := bc7 A0; have BO := qz A0.o 0; have BP := qz A0.o 1; have BQ := qz A0.o 2; have BR := qz A0.o 3; have BS := qz A0.o 4; have BT := qz A0.o 5; have BU := qz A0.o 6; have BV := qz A0.o 7; have Bg := bc0 A3; have Bh := bc1 A3; have Bi := bc2 A3; have BW := qz A3.o 0; have BX := qz A3.o 1; have BY := qz A3.o 2))
     repeat (go_quiet (first | (go_at_call 59; (with_reducible refine (impl_drop.calls kj2 a0_0 a0_1 (fun k_ => some k_ = (.slice Aq l0_2.length Ar : Value).ownBlock) (.slice Aq l0_2.length Ar) l0_2 _ _ l1 At Ag Ai Ah Au As w0 _ ?side1 ?side2 ?side3 ?side4 Cf.o).mono ?_); (case side1 => repeat (first | (with_reducible first | exact HB.o | apply qa | apply qn | apply qd | refine qx ?_ Aj.o | refine qx ?_ Af.o) | exact HB.o)); (case side2 => exact Kd.Rg rfl A2.o); (case side3 => exact Kd.Cc Ch.o (viaTg HK) (fun k_ hs_ => (fun e_ => Or.imp_left Or.inl (A2.o.1 k_ e_.symm)) hs_)); (case side4 => exact Cg.o); rintro e E8 ⟨Av, rfl, Ao, Ap, hb, hkp⟩; have Ab := Z.m (Kd.Rm (ok' := fun k_ => (P0_2_ k_ ∨ w.heap.size ≤ k_)) Ao (fun k_ hk_ => Or.elim hk_ (fun hs_ => (A2.o.1 k_ (hs_).symm)) (fun hn_ => (.inr (Nat.le_trans (by first | exact HK.o.1 | exact (show Kept w _ (fun k_ => P0_2_ k_ ∨ k_ = g) from viaTg HK).1) hn_))))); replace A0 := Z.m (qk (vK A0) hkp (fun hs_ => (fun e_ => (Kd.R_ne A2.o A0.o (by decide)) e_) hs_)); replace A3 := Z.m (qk (vK A3) hkp (fun hs_ => (fun e_ => (Kd.R_ne A2.o A3.o (by decide)) e_) hs_)); replace HK := Z.m (Kept.then_ (S := (fun k_ => P0_2_ k_ ∨ k_ = g)) (viaTg HK) hkp (fun k_ hs_ => (fun e_ => Or.imp_left Or.inl (A2.o.1 k_ e_.symm)) hs_)); replace A2 := Z.m (Kd.Re rfl Ap (fun k_ e_ => A2.o.1 k_ e_)); replace HB := Z.m (hb); (try clear hb); (try clear hkp); (try clear Ao); (try clear Ap)) | ((with_reducible refine gq (N := 6) rfl ?_); refine be (N := 6) (cs := #[.int .i64 0, .int .i64 0, .int .i64 0]) (t := 52) ?_; intro Ae hg E9 hbox hb; have A4 := Z.m (hbox); have An := Z.m ((by rw [hg]; exact (by first | exact HK.o.1 | exact (show Kept w _ (fun k_ => P0_2_ k_ ∨ k_ = g) from viaTg HK).1) : w.heap.size ≤ Ae)); have Am := gW (w := w0) HB hg; have A5 := neL A0 hg; have A7 := neG A0 hg; have A6 := neL A3 hg; have A8 := neG A3 hg; replace A2 := Z.m (Kd.Rb (vR A2) hb); replace Ab := Z.m (Kd.Rb (vR Ab) hb); replace A0 := kB A0 hb; replace A3 := kB A3 hb; replace HK := Z.m (Kept.below (S := (fun k_ => P0_2_ k_ ∨ k_ = g)) (viaTg HK) hb); replace HB := bB HB hb; clear hb hbox hg; have Cm := A7.o; have Cs := A5.o; have Cn := A8.o; have Ct := A6.o; have B0 := bc0 A4; have B2 := bc1 A4; have B3 := bc2 A4; have BL := qz A4.o 0; have BM := qz A4.o 1; have BN := qz A4.o 2; have B7 := bc0 A0; have B8 := bc1 A0; have Ba := bc2 A0; have Bb := bc3 A0; have Bc := bc4 A0; have Bd := bc5 A0; have Be := bc6 A0; have Bf := bc7 A0; have BO := qz A0.o 0; have BP := qz A0.o 1; have BQ := qz A0.o 2; have BR := qz A0.o 3; have BS := qz A0.o 4; have BT := qz A0.o 5; have BU := qz A0.o 6; have BV := qz A0.o 7; have Bg := bc0 A3; have Bh := bc1 A3; have Bi := bc2 A3; have BW := qz A3.o 0; have BX := qz A3.o 1; have BY := qz A3.o 2)); try go_wp2_with (first | (go_at_call 59; (with_reducible refine (impl_drop.calls kj2 a0_0 a0_1 (fun k_ => some k_ = (.slice Aq l0_2.length Ar : Value).ownBlock) (.slice Aq l0_2.length Ar) l0_2 _ _ l1 At Ag Ai Ah Au As w0 _ ?side1 ?side2 ?side3 ?side4 Cf.o).mono ?_); (case side1 => repeat (first | (with_reducible first | exact HB.o | apply qa | apply qn | apply qd | refine qx ?_ Aj.o | refine qx ?_ Af.o) | exact HB.o)); (case side2 => exact Kd.Rg rfl A2.o); (case side3 => exact Kd.Cc Ch.o (viaTg HK) (fun k_ hs_ => (fun e_ => Or.imp_left Or.inl (A2.o.1 k_ e_.symm)) hs_)); (case side4 => exact Cg.o); rintro e E8 ⟨Av, rfl, Ao, Ap, hb, hkp⟩; have Ab := Z.m (Kd.Rm (ok' := fun k_ => (P0_2_ k_ ∨ w.heap.size ≤ k_)) Ao (fun k_ hk_ => Or.elim hk_ (fun hs_ => (A2.o.1 k_ (hs_).symm)) (fun hn_ => (.inr (Nat.le_trans (by first | exact HK.o.1 | exact (show Kept w _ (fun k_ => P0_2_ k_ ∨ k_ = g) from viaTg HK).1) hn_))))); replace A0 := Z.m (qk (vK A0) hkp (fun hs_ => (fun e_ => (Kd.R_ne A2.o A0.o (by decide)) e_) hs_)); replace A3 := Z.m (qk (vK A3) hkp (fun hs_ => (fun e_ => (Kd.R_ne A2.o A3.o (by decide)) e_) hs_)); replace HK := Z.m (Kept.then_ (S := (fun k_ => P0_2_ k_ ∨ k_ = g)) (viaTg HK) hkp (fun k_ hs_ => (fun e_ => Or.imp_left Or.inl (A2.o.1 k_ e_.symm)) hs_)); replace A2 := Z.m (Kd.Re rfl Ap (fun k_ e_ => A2.o.1 k_ e_)); replace HB := Z.m (hb); (try clear hb); (try clear hkp); (try clear Ao); (try clear Ap)) | ((with_reducible refine gq (N := 6) rfl ?_); refine be (N := 6) (cs := #[.int .i64 0, .int .i64 0, .int .i64 0]) (t := 52) ?_; intro Ae hg E9 hbox hb; have A4 := Z.m (hbox); have An := Z.m ((by rw [hg]; exact (by first | exact HK.o.1 | exact (show Kept w _ (fun k_ => P0_2_ k_ ∨ k_ = g) from viaTg HK).1) : w.heap.size ≤ Ae)); have Am := gW (w := w0) HB hg; have A5 := neL A0 hg; have A7 := neG A0 hg; have A6 := neL A3 hg; have A8 := neG A3 hg; replace A2 := Z.m (Kd.Rb (vR A2) hb); replace Ab := Z.m (Kd.Rb (vR Ab) hb); replace A0 := kB A0 hb; replace A3 := kB A3 hb; replace HK := Z.m (Kept.below (S := (fun k_ => P0_2_ k_ ∨ k_ = g)) (viaTg HK) hb); replace HB := bB HB hb; clear hb hbox hg; have Cm := A7.o; have Cs := A5.o; have Cn := A8.o; have Ct := A6.o; have B0 := bc0 A4; have B2 := bc1 A4; have B3 := bc2 A4; have BL := qz A4.o 0; have BM := qz A4.o 1; have BN := qz A4.o 2; have B7 := bc0 A0; have B8 := bc1 A0; have Ba := bc2 A0; have Bb := bc3 A0; have Bc := bc4 A0; have Bd := bc5 A0; have Be := bc6 A0; have Bf := bc7 A0; have BO := qz A0.o 0; have BP := qz A0.o 1; have BQ := qz A0.o 2; have BR := qz A0.o 3; have BS := qz A0.o 4; have BT := qz A0.o 5; have BU := qz A0.o 6; have BV := qz A0.o 7; have Bg := bc0 A3; have Bh := bc1 A3; have Bi := bc2 A3; have BW := qz A3.o 0; have BX := qz A3.o 1; have BY := qz A3.o 2)))
     refine bodyPost_ret (results_cell_row rfl _ _ Al 52 #[.int .i64 Ag, .int .i64 Ai, .int .i64 Ah] (0, 0) _ rfl (by refine bK ?_; apply st3; refine bK ?_; refine qF ?_ A9; (iterate 3 refine qF ?_ A6); exact A3.o) Try.underlying52 rfl (by kernel_rfl)) rfl ?_
     exact ⟨by first | rfl | (simp [eN, eS] <;> rfl) | (simp [*, eN, eS] <;> rfl), by refine bK ?_; (iterate 3 refine qF ?_ Aa); refine qp (cs := #[iV a0_0, iV a0_1, .slice Aq l0_2.length Ar, iV a0_3, iV a0_4, iV Ac, iV Ad, iV a0_7]) ?_ 7 _ rfl; refine bK ?_; (iterate 3 refine qF ?_ A5); exact A0.o, by refine rK ?_; exact Kd.Rm (rf (rf (rf (rf1 (rf2 (rf2 (rf2 (Kd.Ry (Kd.Ry (Kd.Ry A2.o A4.o (by decide)) A0.o (by decide)) A3.o (by decide))))))))) (fun _ hk => hk.1.1.1), vB HB, viaTg HK⟩
   ·rw [if_neg c15] at H
    have Cx := beq_eq_false_iff_ne.mpr c15
    have Cy := bne_iff_ne.mpr c15
    simp only [Option.some.injEq, Prod.mk.injEq] at H
    obtain ⟨rfl, rfl, rfl, rfl, rfl, rfl, rfl⟩ := H
    have E0 := Aa.o
    have E5 := A9.o
    have D8 := bc0 A0
    have D9 := bc1 A0
    have Da := bc2 A0
    have Db := bc3 A0
    have Dc := bc4 A0
    have Dd := bc5 A0
    have De := bc6 A0
    have Df := bc7 A0
    have DM := qz A0.o 0
    have DN := qz A0.o 1
    have DO := qz A0.o 2
    have DP := qz A0.o 3
    have DQ := qz A0.o 4
    have DR := qz A0.o 5
    have DS := qz A0.o 6
    have DT := qz A0.o 7
    go_wp2_with (first | (go_at_call 59; (with_reducible refine (impl_drop.calls kj2 a0_0 a0_1 (fun k_ => some k_ = (.slice Aq l0_2.length Ar : Value).ownBlock) (.slice Aq l0_2.length Ar) l0_2 _ _ l1 At Ag Ai Ah Au As w0 _ ?side1 ?side2 ?side3 ?side4 Cf.o).mono ?_); (case side1 => repeat (first | (with_reducible first | exact HB.o | apply qa | apply qn | apply qd | refine qx ?_ Aj.o | refine qx ?_ Af.o) | exact HB.o)); (case side2 => exact Kd.Rg rfl A2.o); (case side3 => exact Kd.Cc Ch.o (viaTg HK) (fun k_ hs_ => (fun e_ => Or.imp_left Or.inl (A2.o.1 k_ e_.symm)) hs_)); (case side4 => exact Cg.o); rintro e Ea ⟨Av, rfl, Ao, Ap, hb, hkp⟩; have Ab := Z.m (Kd.Rm (ok' := fun k_ => (P0_2_ k_ ∨ w.heap.size ≤ k_)) Ao (fun k_ hk_ => Or.elim hk_ (fun hs_ => (A2.o.1 k_ (hs_).symm)) (fun hn_ => (.inr (Nat.le_trans (by first | exact HK.o.1 | exact (show Kept w _ (fun k_ => P0_2_ k_ ∨ k_ = g) from viaTg HK).1) hn_))))); replace A0 := Z.m (qk (vK A0) hkp (fun hs_ => (fun e_ => (Kd.R_ne A2.o A0.o (by decide)) e_) hs_)); replace A3 := Z.m (qk (vK A3) hkp (fun hs_ => (fun e_ => (Kd.R_ne A2.o A3.o (by decide)) e_) hs_)); replace HK := Z.m (Kept.then_ (S := (fun k_ => P0_2_ k_ ∨ k_ = g)) (viaTg HK) hkp (fun k_ hs_ => (fun e_ => Or.imp_left Or.inl (A2.o.1 k_ e_.symm)) hs_)); replace A2 := Z.m (Kd.Re rfl Ap (fun k_ e_ => A2.o.1 k_ e_)); replace HB := Z.m (hb); (try clear hb); (try clear hkp); (try clear Ao); (try clear Ap)) | ((with_reducible refine gq (N := 6) rfl ?_); refine be (N := 6) (cs := #[.int .i64 0, .int .i64 0, .int .i64 0]) (t := 52) ?_; intro Ae hg Eb hbox hb; have A4 := Z.m (hbox); have An := Z.m ((by rw [hg]; exact (by first | exact HK.o.1 | exact (show Kept w _ (fun k_ => P0_2_ k_ ∨ k_ = g) from viaTg HK).1) : w.heap.size ≤ Ae)); have Am := gW (w := w0) HB hg; have A5 := neL A0 hg; have A7 := neG A0 hg; have A6 := neL A3 hg; have A8 := neG A3 hg; replace A2 := Z.m (Kd.Rb (vR A2) hb); replace Ab := Z.m (Kd.Rb (vR Ab) hb); replace A0 := kB A0 hb; replace A3 := kB A3 hb; replace HK := Z.m (Kept.below (S := (fun k_ => P0_2_ k_ ∨ k_ = g)) (viaTg HK) hb); replace HB := bB HB hb; clear hb hbox hg; have Co := A7.o; have Cu := A5.o; have Cp := A8.o; have Cv := A6.o; have Bj := bc0 A4; have Bk := bc1 A4; have Bl := bc2 A4; have BZ := qz A4.o 0; have C0 := qz A4.o 1; have C1 := qz A4.o 2; have Bm := bc0 A0; have Bn := bc1 A0; have Bo := bc2 A0; have Bp := bc3 A0; have Bq := bc4 A0; have Br := bc5 A0; have Bs := bc6 A0; have Bt := bc7 A0; have C2 := qz A0.o 0; have C3 := qz A0.o 1; have C4 := qz A0.o 2; have C5 := qz A0.o 3; have C6 := qz A0.o 4; have C7 := qz A0.o 5; have C8 := qz A0.o 6; have C9 := qz A0.o 7; have Bu := bc0 A3; have Bv := bc1 A3; have Bw := bc2 A3; have Ca := qz A3.o 0; have Cb := qz A3.o 1; have Cd := qz A3.o 2))
    repeat (go_quiet (first | (go_at_call 59; (with_reducible refine (impl_drop.calls kj2 a0_0 a0_1 (fun k_ => some k_ = (.slice Aq l0_2.length Ar : Value).ownBlock) (.slice Aq l0_2.length Ar) l0_2 _ _ l1 At Ag Ai Ah Au As w0 _ ?side1 ?side2 ?side3 ?side4 Cf.o).mono ?_); (case side1 => repeat (first | (with_reducible first | exact HB.o | apply qa | apply qn | apply qd | refine qx ?_ Aj.o | refine qx ?_ Af.o) | exact HB.o)); (case side2 => exact Kd.Rg rfl A2.o); (case side3 => exact Kd.Cc Ch.o (viaTg HK) (fun k_ hs_ => (fun e_ => Or.imp_left Or.inl (A2.o.1 k_ e_.symm)) hs_)); (case side4 => exact Cg.o); rintro e Ea ⟨Av, rfl, Ao, Ap, hb, hkp⟩; have Ab := Z.m (Kd.Rm (ok' := fun k_ => (P0_2_ k_ ∨ w.heap.size ≤ k_)) Ao (fun k_ hk_ => Or.elim hk_ (fun hs_ => (A2.o.1 k_ (hs_).symm)) (fun hn_ => (.inr (Nat.le_trans (by first | exact HK.o.1 | exact (show Kept w _ (fun k_ => P0_2_ k_ ∨ k_ = g) from viaTg HK).1) hn_))))); replace A0 := Z.m (qk (vK A0) hkp (fun hs_ => (fun e_ => (Kd.R_ne A2.o A0.o (by decide)) e_) hs_)); replace A3 := Z.m (qk (vK A3) hkp (fun hs_ => (fun e_ => (Kd.R_ne A2.o A3.o (by decide)) e_) hs_)); replace HK := Z.m (Kept.then_ (S := (fun k_ => P0_2_ k_ ∨ k_ = g)) (viaTg HK) hkp (fun k_ hs_ => (fun e_ => Or.imp_left Or.inl (A2.o.1 k_ e_.symm)) hs_)); replace A2 := Z.m (Kd.Re rfl Ap (fun k_ e_ => A2.o.1 k_ e_)); replace HB := Z.m (hb); (try clear hb); (try clear hkp); (try clear Ao); (try clear Ap)) | ((with_reducible refine gq (N := 6) rfl ?_); refine be (N := 6) (cs := #[.int .i64 0, .int .i64 0, .int .i64 0]) (t := 52) ?_; intro Ae hg Eb hbox hb; have A4 := Z.m (hbox); have An := Z.m ((by rw [hg]; exact (by first | exact HK.o.1 | exact (show Kept w _ (fun k_ => P0_2_ k_ ∨ k_ = g) from viaTg HK).1) : w.heap.size ≤ Ae)); have Am := gW (w := w0) HB hg; have A5 := neL A0 hg; have A7 := neG A0 hg; have A6 := neL A3 hg; have A8 := neG A3 hg; replace A2 := Z.m (Kd.Rb (vR A2) hb); replace Ab := Z.m (Kd.Rb (vR Ab) hb); replace A0 := kB A0 hb; replace A3 := kB A3 hb; replace HK := Z.m (Kept.below (S := (fun k_ => P0_2_ k_ ∨ k_ = g)) (viaTg HK) hb); replace HB := bB HB hb; clear hb hbox hg; have Co := A7.o; have Cu := A5.o; have Cp := A8.o; have Cv := A6.o; have Bj := bc0 A4; have Bk := bc1 A4; have Bl := bc2 A4; have BZ := qz A4.o 0; have C0 := qz A4.o 1; have C1 := qz A4.o 2; have Bm := bc0 A0; have Bn := bc1 A0; have Bo := bc2 A0; have Bp := bc3 A0; have Bq := bc4 A0; have Br := bc5 A0; have Bs := bc6 A0; have Bt := bc7 A0; have C2 := qz A0.o 0; have C3 := qz A0.o 1; have C4 := qz A0.o 2; have C5 := qz A0.o 3; have C6 := qz A0.o 4; have C7 := qz A0.o 5; have C8 := qz A0.o 6; have C9 := qz A0.o 7; have Bu := bc0 A3; have Bv := bc1 A3; have Bw := bc2 A3; have Ca := qz A3.o 0; have Cb := qz A3.o 1; have Cd := qz A3.o 2)); try go_wp2_with (first | (go_at_call 59; (with_reducible refine (impl_drop.calls kj2 a0_0 a0_1 (fun k_ => some k_ = (.slice Aq l0_2.length Ar : Value).ownBlock) (.slice Aq l0_2.length Ar) l0_2 _ _ l1 At Ag Ai Ah Au As w0 _ ?side1 ?side2 ?side3 ?side4 Cf.o).mono ?_); (case side1 => repeat (first | (with_reducible first | exact HB.o | apply qa | apply qn | apply qd | refine qx ?_ Aj.o | refine qx ?_ Af.o) | exact HB.o)); (case side2 => exact Kd.Rg rfl A2.o); (case side3 => exact Kd.Cc Ch.o (viaTg HK) (fun k_ hs_ => (fun e_ => Or.imp_left Or.inl (A2.o.1 k_ e_.symm)) hs_)); (case side4 => exact Cg.o); rintro e Ea ⟨Av, rfl, Ao, Ap, hb, hkp⟩; have Ab := Z.m (Kd.Rm (ok' := fun k_ => (P0_2_ k_ ∨ w.heap.size ≤ k_)) Ao (fun k_ hk_ => Or.elim hk_ (fun hs_ => (A2.o.1 k_ (hs_).symm)) (fun hn_ => (.inr (Nat.le_trans (by first | exact HK.o.1 | exact (show Kept w _ (fun k_ => P0_2_ k_ ∨ k_ = g) from viaTg HK).1) hn_))))); replace A0 := Z.m (qk (vK A0) hkp (fun hs_ => (fun e_ => (Kd.R_ne A2.o A0.o (by decide)) e_) hs_)); replace A3 := Z.m (qk (vK A3) hkp (fun hs_ => (fun e_ => (Kd.R_ne A2.o A3.o (by decide)) e_) hs_)); replace HK := Z.m (Kept.then_ (S := (fun k_ => P0_2_ k_ ∨ k_ = g)) (viaTg HK) hkp (fun k_ hs_ => (fun e_ => Or.imp_left Or.inl (A2.o.1 k_ e_.symm)) hs_)); replace A2 := Z.m (Kd.Re rfl Ap (fun k_ e_ => A2.o.1 k_ e_)); replace HB := Z.m (hb); (try clear hb); (try clear hkp); (try clear Ao); (try clear Ap)) | ((with_reducible refine gq (N := 6) rfl ?_); refine be (N := 6) (cs := #[.int .i64 0, .int .i64 0, .int .i64 0]) (t := 52) ?_; intro Ae hg Eb hbox hb; have A4 := Z.m (hbox); have An := Z.m ((by rw [hg]; exact (by first | exact HK.o.1 | exact (show Kept w _ (fun k_ => P0_2_ k_ ∨ k_ = g) from viaTg HK).1) : w.heap.size ≤ Ae)); have Am := gW (w := w0) HB hg; have A5 := neL A0 hg; have A7 := neG A0 hg; have A6 := neL A3 hg; have A8 := neG A3 hg; replace A2 := Z.m (Kd.Rb (vR A2) hb); replace Ab := Z.m (Kd.Rb (vR Ab) hb); replace A0 := kB A0 hb; replace A3 := kB A3 hb; replace HK := Z.m (Kept.below (S := (fun k_ => P0_2_ k_ ∨ k_ = g)) (viaTg HK) hb); replace HB := bB HB hb; clear hb hbox hg; have Co := A7.o; have Cu := A5.o; have Cp := A8.o; have Cv := A6.o; have Bj := bc0 A4; have Bk := bc1 A4; have Bl := bc2 A4; have BZ := qz A4.o 0; have C0 := qz A4.o 1; have C1 := qz A4.o 2; have Bm := bc0 A0; have Bn := bc1 A0; have Bo := bc2 A0; have Bp := bc3 A0; have Bq := bc4 A0; have Br := bc5 A0; have Bs := bc6 A0; have Bt := bc7 A0; have C2 := qz A0.o 0; have C3 := qz A0.o 1; have C4 := qz A0.o 2; have C5 := qz A0.o 3; have C6 := qz A0.o 4; have C7 := qz A0.o 5; have C8 := qz A0.o 6; have C9 := qz A0.o 7; have Bu := bc0 A3; have Bv := bc1 A3; have Bw := bc2 A3; have Ca := qz A3.o 0; have Cb := qz A3.o 1; have Cd := qz A3.o 2)))
    refine bodyPost_ret (results_cell_row rfl _ _ Al 52 #[.int .i64 Ag, .int .i64 Ai, .int .i64 Ah] (0, 0) _ rfl (by refine bK ?_; apply st3; refine bK ?_; refine qF ?_ A9; (iterate 3 refine qF ?_ A6); exact A3.o) Try.underlying52 rfl (by kernel_rfl)) rfl ?_
    exact ⟨by first | rfl | (simp [eN, eS] <;> rfl) | (simp [*, eN, eS] <;> rfl), by refine bK ?_; (iterate 3 refine qF ?_ Aa); refine qp (cs := #[iV a0_0, iV a0_1, .slice Aq l0_2.length Ar, iV a0_3, iV a0_4, iV Ac, iV Ad, iV a0_7]) ?_ 7 _ rfl; refine bK ?_; (iterate 3 refine qF ?_ A5); exact A0.o, by refine rK ?_; exact Kd.Rm (rf (rf (rf (rf1 (rf2 (rf2 (rf2 (Kd.Ry (Kd.Ry (Kd.Ry A2.o A4.o (by decide)) A0.o (by decide)) A3.o (by decide))))))))) (fun _ hk => hk.1.1.1), vB HB, viaTg HK⟩

/-! ### impl_isGeared: function 60 -/
def impl_isGeared.f (a0_0 : Int) (a0_1 : Int) : Option (Bool) := if a0_0 = 6 then (some true) else (some (a0_0 == 7))
set_option maxHeartbeats 8000000 in
set_option maxRecDepth 100000 in
theorem impl_isGeared.calls (a0_0 : Int) (a0_1 : Int) (r : Bool) (w : World) (h : impl_isGeared.f a0_0 a0_1 = some r) :
 Calls Try.prog 60 #[.agg #[.int .i64 a0_0, .int .i64 a0_1]] w fun e w' => e = .returned (.bool r) ∧ Below w.heap.size w w' := by
 have Ae := Try.underlying88
 have HB := Z.m (Below.refl w.heap.size w)
 have H : (if a0_0 = 6 then (some true) else (some (a0_0 == 7))) = some r := h
 clear h
 by_cases c2 : a0_0 = 6
 ·rw [if_pos c2] at H
  have A4 := beq_iff_eq.mpr c2
  have A5 := bne_eq_false_iff_eq.mpr c2
  clear c2
  obtain rfl := Option.some.inj H
  go_enter Try.func60, Try.ntmps60
  go_wp2_with (first | ((with_reducible refine gq (N := 1) rfl ?_); refine be (N := 1) (cs := #[.int .i64 a0_0, .int .i64 a0_1]) (t := 88) ?_; intro A3 hg w3 hbox hb; have A0 := Z.m (hbox); have A1 := gW (w := w) HB hg; have A2 := A1; replace HB := bB HB hb; clear hb hbox hg; have A6 := bc0 A0; have A7 := bc1 A0; have Aa := qz A0.o 0; have Ab := qz A0.o 1))
  go_ret
  exact ⟨by first | rfl | (simp [eN, eS] <;> rfl) | (simp [*, eN, eS] <;> rfl), vB HB⟩
 ·rw [if_neg c2] at H
  have A4 := beq_eq_false_iff_ne.mpr c2
  have A5 := bne_iff_ne.mpr c2
  obtain rfl := Option.some.inj H
  go_enter Try.func60, Try.ntmps60
  go_wp2_with (first | ((with_reducible refine gq (N := 1) rfl ?_); refine be (N := 1) (cs := #[.int .i64 a0_0, .int .i64 a0_1]) (t := 88) ?_; intro A3 hg w5 hbox hb; have A0 := Z.m (hbox); have A1 := gW (w := w) HB hg; have A2 := A1; replace HB := bB HB hb; clear hb hbox hg; have A8 := bc0 A0; have A9 := bc1 A0; have Ac := qz A0.o 0; have Ad := qz A0.o 1))
  go_ret
  exact ⟨by first | rfl | (simp [eN, eS] <;> rfl) | (simp [*, eN, eS] <;> rfl), vB HB⟩

end Go.Proofs.Ytjkiolpepchpdaa.PAll
