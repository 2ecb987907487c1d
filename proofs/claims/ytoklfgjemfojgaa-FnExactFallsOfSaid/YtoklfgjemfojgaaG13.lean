/- Began as a text that print.sh wrote (of the functions named below); turned and shortened by this session. -/
import Derived.Test.YtoklfgjemfojgaaG0
namespace Go.Proofs.Ytoklfgjemfojgaa.PAll
open Go.RowKit Go.Proofs.YtoklfgjemfojgaaW.PrintWords Go.Proofs.YtoklfgjemfojgaaW.PrintLast Go.Proofs.YtoklfgjemfojgaaW.PrintMore
attribute [local go_sem] max2_int min2_int max_two min_two max_three min_three max_four min_four   -- for this text's walks alone
set_option linter.unusedVariables false
set_option linter.unusedSimpArgs false

/-! ### laws_markCellS: function 60 -/
def laws_markCellS.l0 : Nat → List (S89) → Int → Int → Option (Int × (List (S89)))
 | 0, _, _, _ => none
 | k + 1, x0, x1, x5 => if x5 < (x0.length : Int) then (if 0 ≤ x5 then ((some (x0.set (x5 : Int).toNat (⟨x1, (rd_T89 x0 x5).f1⟩ : S89) : List (S89))).bind fun y431 => (laws_markCellS.l0 k (y431.set (x5 : Int).toNat (⟨(rd_T89 y431 x5).f0, wrap64 (x1 + 1)⟩ : S89)) (wrap64 ((wrap64 (x1 + 1)) + 1)) (wrap64 (x5 + 1)))) else (none)) else (some (x1, x0))
def laws_markCellS.f (k : Nat) (l0 : List (S89)) (a1 : Int) : Option (Int × (List (S89))) := laws_markCellS.l0 k l0 a1 0
set_option maxHeartbeats 8000000 in
set_option maxRecDepth 100000 in
theorem laws_markCellS.calls (k : Nat) (P0_ : Nat → Prop) (u9000_ : Value) (l0 : List (S89)) (a1 : Int) (r1 : Int) (r2 : List (S89)) (w0 w : World) (hB : Below w0.heap.size w0 w) (ho0 : Kd.R k89 89 w w0.heap.size P0_ u9000_ l0) (h : laws_markCellS.f k l0 a1 = some (r1, r2)) :
 Calls Try.prog 60 #[u9000_, .int .i64 a1] w fun e w' => e = .returned (.int .i64 r1) ∧ Kd.R k89 89 w' w0.heap.size (fun k_ => (P0_ k_ ∨ w.heap.size ≤ k_)) u9000_ r2 ∧ Below w0.heap.size w0 w' ∧ Kept w w' (fun k_ => P0_ k_) := by
 have AS := Z.m (show Kd.R k89 89 w w0.heap.size (fun k_ => (P0_ k_ ∨ w.heap.size ≤ k_)) u9000_ l0 from Kd.Rm ho0 (fun k_ hk => (.inl hk)))
 have HK := Z.m (Kept.refl w (fun k_ => P0_ k_))
 have HW0 := Z.m hB.size
 have HB := Z.m hB
 clear hB
 have H : (laws_markCellS.l0 k l0 a1 0) = some (r1, r2) := h
 clear h
 have H' := Z.m H
 clear H
 go_enter Try.func60, Try.ntmps60
 go_wp2
 go_loopg [1, 5] k (fun kq v1 v5 w' => ∃ (A1 : List (S89)) (A3 : Int) (A0 : Int), v1 = .int .i64 A3 ∧ v5 = .int .i64 A0 ∧ Z (laws_markCellS.l0 kq A1 A3 A0 = some (r1, r2)) ∧ Z (kq ≤ k) ∧ Z (Kd.R k89 89 w' w0.heap.size (fun k_ => (P0_ k_ ∨ w.heap.size ≤ k_)) u9000_ A1) ∧ Z (Kept w w' (fun k_ => P0_ k_)) ∧ Z (Below w0.heap.size w0 w'))
 case atStart => exact ⟨(l0), (a1), (0), (by first | rfl | (simp; done) | (simp [*]; done)), (by first | rfl | (simp; done) | (simp [*]; done)), H', ⟨Nat.le_refl _⟩, ⟨vR AS⟩, ⟨vT HK⟩, ⟨vB HB⟩⟩
 case round =>
  clear H'
  obtain ⟨A1, A3, A0, rfl, rfl, HA, AB, A2, HK, HB⟩ := hrel
  cases gk with
  | zero => exact absurd HA.o (by simp [laws_markCellS.l0])
  | succ k1 =>
   have H := HA.o
   clear HA
   simp only [laws_markCellS.l0] at H
   by_cases c3 : A0 < (A1.length : Int)
   ·rw [if_pos c3] at H
    have Au := decide_eq_true c3
    clear c3
    by_cases c4 : 0 ≤ A0
    ·rw [if_pos c4] at H
     have AT := decide_eq_true c4
     clear c4
     obtain ⟨A4, A6⟩ : ∃ y_ : List (S89), y_ = (A1.set (A0 : Int).toNat (⟨A3, (rd_T89 A1 A0).f1⟩ : S89)) := ⟨_, rfl⟩
     replace H : (laws_markCellS.l0 k1 (A4.set (A0 : Int).toNat (⟨(rd_T89 A4 A0).f0, wrap64 (A3 + 1)⟩ : S89)) (wrap64 ((wrap64 (A3 + 1)) + 1)) (wrap64 (A0 + 1))) = some (r1, r2) := by first | (rw [A6]; with_reducible exact H) | (have H2_ := (Option.bind_some _ _).symm.trans H; rw [A6]; with_reducible exact H2_) | (have H2_ := (Option.bind_some _ _).symm.trans H; with_reducible exact H2_) | with_reducible exact H | (rw [A6]; exact H) | exact H
     have Al := Z.m A6
     clear A6
     obtain ⟨Aj, A7⟩ : ∃ y_ : List (S89), y_ = (A4.set (A0 : Int).toNat (⟨(rd_T89 A4 A0).f0, wrap64 (A3 + 1)⟩ : S89)) := ⟨_, rfl⟩
     replace H : (laws_markCellS.l0 k1 Aj (wrap64 ((wrap64 (A3 + 1)) + 1)) (wrap64 (A0 + 1))) = some (r1, r2) := by first | (rw [A7]; with_reducible exact H) | (have H2_ := (Option.bind_some _ _).symm.trans H; rw [A7]; with_reducible exact H2_) | (have H2_ := (Option.bind_some _ _).symm.trans H; with_reducible exact H2_) | with_reducible exact H | (rw [A7]; exact H) | exact H
     have Am := Z.m A7
     clear A7
     have H' := Z.m H
     clear H
     obtain ⟨AX, As, AW⟩ := Kd.R_slice A2.o
     subst AW
     have p5 : 0 ≤ (A0 : Int) := ofD
     have q5 : (A0 : Int) < ((A1.length : Int) : Int) := ofD
     obtain ⟨A5, B3, AE, AF, gl5, cl5, AA⟩ := Kd.R_form A2.o (by omega)
     (first | cases AE | (injection AE with ea_ en_ ec_; (first | subst ea_ | (injection ea_ with ea_; subst ea_)); subst ec_; clear en_))
     have Az := Z.m AF
     have AY := Z.m AA
     clear AF gl5 AA
     have AC := Z.m (show (P0_ A5 ∨ w.heap.size ≤ A5) from (A2.o.1 _ rfl))
     obtain ⟨AZ, Aw, AG, Ac, Ag⟩ := Kd.R_elem A2.o z89 (A0 : Int) p5 q5
     obtain rfl := k89_openM AG
     have AN : wr.cell? ⟨A5, (A0 : Int).toNat * 2, none⟩ = some (.int .i64 ((rd_T89 A1 A0).f0)) := Ac 0 _ rfl
     have AO : wr.cell? ⟨A5, (A0 : Int).toNat * 2 + 1, none⟩ = some (.int .i64 ((rd_T89 A1 A0).f1)) := Ac 1 _ rfl
     have AJ : wr.frozen? ⟨A5, (A0 : Int).toNat * 2, none⟩ = false := Ag 0
     have AK : wr.frozen? ⟨A5, (A0 : Int).toNat * 2 + 1, none⟩ = false := Ag 1
     (try clear Aw); (try clear Ac); (try clear Ag); (try clear AG)
     replace p5 := eq_true p5
     replace q5 := eq_true q5
     have AD := Z.m (show Kd.R k89 89 wr w0.heap.size (fun k_ => (P0_ k_ ∨ w.heap.size ≤ k_)) (.slice (some ⟨A5, 0, none⟩) A1.length As) A1 from (vR A2))
     obtain ⟨B2, Ao, AI, Ae, Aq⟩ := Kd.R_elem AD.o z89 (A0 : Int) (ofD) (by have h_ : (A0 : Int) < ((A1.length : Int) : Int) := ofD; first | exact h_ | (have e_ := (Kd.RrZ A2.o).1; omega) | simpa using h_)
     obtain rfl := k89_openM AI
     have At := Kd.R_seg AD.o (A0 : Int) (ofD) (by have h_ : (A0 : Int) < ((A1.length : Int) : Int) := ofD; first | exact h_ | (have e_ := (Kd.RrZ A2.o).1; omega) | simpa using h_) (seg := [.int .i64 A3]) (j := 0) Ao Ae (show 1 ≤ 2 from by decide) (x' := (⟨A3, (rd_T89 A1 A0).f1⟩ : S89)) (k89_mkM _ _ _ (⟨A3, (rd_T89 A1 A0).f1⟩ : S89) ) (fun _ hk => hk)
     have Ar := Ae 0 _ rfl
     (try simp only [show (k89).sz = 2 from rfl, Nat.mul_one, Nat.add_zero] at Ar)
     have Ap := Aq 0
     (try simp only [show (k89).sz = 2 from rfl, Nat.mul_one, Nat.add_zero] at Ap)
     (try clear Ao); (try clear Ae); (try clear Aq); (try clear AI)
     go_wp2_with (first | ((with_reducible refine gt (t := 3) (p := 16) rfl ?_); refine store_event (t := 3) (p := 16) (v := ?vo_w9) (w1 := (wr.setCell ⟨A5, (A0 : Int).toNat * 2, none⟩ (.int .i64 A3))) ?hg ?ho ?hn ?hr ?_; (case ho => rfl); (case hg => rfl); (case hn => rfl); (case hr => first | (go_simp; done) | (go_simp; rfl)); intro w9 hw; have hg : wr.grownBy w9 (some A5) := (by rw [hw]; exact At.2); have hp_ : Kd.R k89 89 w9 w0.heap.size (fun k_ => (P0_ k_ ∨ w.heap.size ≤ k_)) (.slice (some ⟨A5, 0, none⟩) A1.length As) A4 := (by rw [hw, Al.o]; exact At.1); clear At; replace HB := Z.m ((by rw [hw]; exact qx (HB.o) Az.o : Below w0.heap.size w0 w9)); replace HK := Z.m (Kept.of_grown (S := (fun k_ => P0_ k_)) hg (vT HK) (fun k_ e_ => (A2.o.1 k_ e_))); replace A2 := Z.m (hp_); clear hg hw hp_; have p6 : 0 ≤ (A0 : Int) := ofD; have q6 : (A0 : Int) < ((A1.length : Int) : Int) := ofD; obtain ⟨B0, Ax, AH, Ad, Ah⟩ := Kd.R_elem A2.o z89 (A0 : Int) p6 q6; obtain rfl := k89_openM AH; have AP : w9.cell? ⟨A5, (A0 : Int).toNat * 2, none⟩ = some (.int .i64 ((rd_T89 A4 A0).f0)) := Ad 0 _ rfl; have AQ : w9.cell? ⟨A5, (A0 : Int).toNat * 2 + 1, none⟩ = some (.int .i64 ((rd_T89 A4 A0).f1)) := Ad 1 _ rfl; have AL : w9.frozen? ⟨A5, (A0 : Int).toNat * 2, none⟩ = false := Ah 0; have AM : w9.frozen? ⟨A5, (A0 : Int).toNat * 2 + 1, none⟩ = false := Ah 1; (try clear Ax); (try clear Ad); (try clear Ah); (try clear AH); replace p6 := eq_true p6; replace q6 := eq_true q6; have Ak := Z.m (show Kd.R k89 89 w9 w0.heap.size (fun k_ => (P0_ k_ ∨ w.heap.size ≤ k_)) (.slice (some ⟨A5, 0, none⟩) A1.length As) A4 from (vR A2)); obtain ⟨AU, A9, An, A8, Aa⟩ := Kd.R_elem Ak.o z89 (A0 : Int) (ofD) (by have h_ : (A0 : Int) < ((A1.length : Int) : Int) := ofD; first | exact h_ | (have e_ := (Kd.RrZ A2.o).1; omega) | simpa using h_); obtain rfl := k89_openM An; have Ab := Kd.R_seg Ak.o (A0 : Int) (ofD) (by have h_ : (A0 : Int) < ((A1.length : Int) : Int) := ofD; first | exact h_ | (have e_ := (Kd.RrZ A2.o).1; omega) | simpa using h_) (seg := [.int .i64 (wrap64 (A3 + 1))]) (j := 1) A9 A8 (show 2 ≤ 2 from by decide) (x' := (⟨(rd_T89 A4 A0).f0, wrap64 (A3 + 1)⟩ : S89)) (k89_mkM _ _ _ (⟨(rd_T89 A4 A0).f0, wrap64 (A3 + 1)⟩ : S89) ) (fun _ hk => hk); have Ai := A8 1 _ rfl; (try simp only [show (k89).sz = 2 from rfl, Nat.mul_one, Nat.add_zero] at Ai); have Af := Aa 1; (try simp only [show (k89).sz = 2 from rfl, Nat.mul_one, Nat.add_zero] at Af); (try clear A9); (try clear A8); (try clear Aa); (try clear An)) | ((with_reducible refine gt (t := 3) (p := 23) rfl ?_); refine store_event (t := 3) (p := 23) (v := ?vo_w11) (w1 := (w9.setCell ⟨A5, (A0 : Int).toNat * 2 + 1, none⟩ (.int .i64 (wrap64 (A3 + 1))))) ?hg ?ho ?hn ?hr ?_; (case ho => rfl); (case hg => rfl); (case hn => rfl); (case hr => first | (go_simp; done) | (go_simp; rfl)); intro Ay hw; have hg : w9.grownBy Ay (some A5) := (by rw [hw]; exact Ab.2); have hp_ : Kd.R k89 89 Ay w0.heap.size (fun k_ => (P0_ k_ ∨ w.heap.size ≤ k_)) (.slice (some ⟨A5, 0, none⟩) A1.length As) Aj := (by rw [hw, Am.o]; exact Ab.1); clear Ab; replace HB := Z.m ((by rw [hw]; exact qx (HB.o) Az.o : Below w0.heap.size w0 Ay)); replace HK := Z.m (Kept.of_grown (S := (fun k_ => P0_ k_)) hg (vT HK) (fun k_ e_ => (A2.o.1 k_ e_))); replace A2 := Z.m (hp_); clear hg hw hp_))
     go_roundg k1
     case measure => have := AB.o; omega
     case rel => exact ⟨(Aj), (wrap64 ((wrap64 (A3 + 1)) + 1)), (wrap64 (A0 + 1)), (by first | rfl | (simp; done) | (simp [*]; done)), (by first | rfl | (simp; done) | (simp [*]; done)), H', ⟨by have := AB.o; omega⟩, ⟨vR A2⟩, ⟨vT HK⟩, ⟨vB HB⟩⟩
    ·rw [if_neg c4] at H
     exact absurd H (by simp)
   ·rw [if_neg c3] at H
    have Au := decide_eq_false c3
    clear c3
    simp only [Option.some.injEq, Prod.mk.injEq] at H
    obtain ⟨rfl, rfl⟩ := H
    obtain ⟨AR, AV, Av⟩ := Kd.R_slice A2.o
    subst Av
    go_wp2
    go_ret
    exact ⟨by first | rfl | (simp [eN, eS] <;> rfl) | (simp [*, eN, eS] <;> rfl), vR A2, vB HB, vT HK⟩

/-! ### laws_markBoard: function 23 -/
def laws_markBoard.f (k : Nat) (a0_0 : Int) (a0_1 : Int) (l0_2 : List (S89)) (a1 : Int) : Option (Int × (List (S89))) := (laws_markCellS.f k l0_2 a1).bind fun bt434 => (some (bt434.1, bt434.2))
set_option maxHeartbeats 8000000 in
set_option maxRecDepth 100000 in
theorem laws_markBoard.calls (k : Nat) (a0_0 : Int) (a0_1 : Int) (P0_2_ : Nat → Prop) (u9000_ : Value) (l0_2 : List (S89)) (a1 : Int) (r1 : Int) (r2 : List (S89)) (w0 w : World) (hB : Below w0.heap.size w0 w) (ho0_2 : Kd.R k89 89 w w0.heap.size P0_2_ u9000_ l0_2) (h : laws_markBoard.f k a0_0 a0_1 l0_2 a1 = some (r1, r2)) :
 Calls Try.prog 23 #[.agg #[.int .i64 a0_0, .int .i64 a0_1, u9000_], .int .i64 a1] w fun e w' => e = .returned (.int .i64 r1) ∧ Kd.R k89 89 w' w0.heap.size (fun k_ => (P0_2_ k_ ∨ w.heap.size ≤ k_)) u9000_ r2 ∧ Below w0.heap.size w0 w' ∧ Kept w w' (fun k_ => P0_2_ k_) := by
 have Aj := Try.underlying32
 have A1 := Z.m (show Kd.R k89 89 w w0.heap.size (fun k_ => (P0_2_ k_ ∨ w.heap.size ≤ k_)) u9000_ l0_2 from Kd.Rm ho0_2 (fun k_ hk => (.inl hk)))
 have HK := Z.m (Kept.refl w (fun k_ => P0_2_ k_))
 have HW0 := Z.m hB.size
 have HB := Z.m hB
 clear hB
 have H : ((laws_markCellS.f k l0_2 a1).bind fun bt434 => (some (bt434.1, bt434.2))) = some (r1, r2) := h
 clear h
 replace H := Option.bind_eq_some_iff.mp H
 obtain ⟨⟨A5, A6⟩, Af, H⟩ := H
 replace H : (some (A5, A6)) = some (r1, r2) := H
 have A3 := Z.m Af
 clear Af
 simp only [Option.some.injEq, Prod.mk.injEq] at H
 obtain ⟨rfl, rfl⟩ := H
 obtain ⟨A7, A8, Ai⟩ := Kd.R_slice A1.o
 subst Ai
 go_enter Try.func23, Try.ntmps23
 go_wp2_with (first | ((with_reducible refine gq (N := 2) rfl ?_); refine be (N := 2) (cs := #[.int .i64 a0_0, .int .i64 a0_1, .slice A7 l0_2.length A8]) (t := 32) ?_; intro A4 hg w5 hbox hb; have A0 := Z.m (hbox); have Ag := Z.m ((by rw [hg]; exact (by first | exact HK.o.1 | exact (show Kept w _ (fun k_ => P0_2_ k_) from vT HK).1) : w.heap.size ≤ A4)); have A2 := gW (w := w0) HB hg; replace A1 := Z.m (Kd.Rb (vR A1) hb); replace HK := Z.m (Kept.below (S := (fun k_ => P0_2_ k_)) (vT HK) hb); replace HB := bB HB hb; clear hb hbox hg; have A9 := bc0 A0; have Aa := bc1 A0; have Ab := bc2 A0; have Ac := qz A0.o 0; have Ad := qz A0.o 1; have Ae := qz A0.o 2) | ((with_reducible refine gc (f := 60) rfl ?_); refine gA (some 8) _ #[.slice A7 l0_2.length A8, .int .i64 a1] ?_ Try.func60; (with_reducible refine (laws_markCellS.calls k (fun k_ => some k_ = (.slice A7 l0_2.length A8 : Value).ownBlock) (.slice A7 l0_2.length A8) l0_2 a1 A5 A6 w0 _ ?side1 ?side2 A3.o).mono ?_); (case side1 => repeat (first | (with_reducible first | exact HB.o | apply qa | apply qn | apply qd | refine qx ?_ A2.o) | exact HB.o)); (case side2 => exact Kd.Rg rfl A1.o); rintro e w7 ⟨rfl, Ah, hb, hkp⟩; refine ⟨_, rfl, ?_⟩; replace A0 := Z.m (qk (vK A0) hkp (fun hs_ => (fun e_ => (Kd.R_ne A1.o A0.o (by decide)) e_) hs_)); replace HK := Z.m (Kept.then_ (S := (fun k_ => P0_2_ k_)) (vT HK) hkp (fun k_ hs_ => (fun e_ => (A1.o.1 k_ e_.symm)) hs_)); replace A1 := Z.m (Kd.Re rfl Ah (fun k_ e_ => A1.o.1 k_ e_)); replace HB := Z.m (hb); (try clear hb); (try clear hkp); (try clear Ah)))
 go_ret
 exact ⟨by first | rfl | (simp [eN, eS] <;> rfl) | (simp [*, eN, eS] <;> rfl), vR A1, vB HB, vT HK⟩

end Go.Proofs.Ytoklfgjemfojgaa.PAll
