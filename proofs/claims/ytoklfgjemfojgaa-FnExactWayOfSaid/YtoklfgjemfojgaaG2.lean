/- Began as a text that print.sh wrote (of the functions named below); turned and shortened by this session. -/
import Derived.Test.YtoklfgjemfojgaaG0
namespace Go.Proofs.Ytoklfgjemfojgaa.PAll
open Go.RowKit Go.Proofs.YtoklfgjemfojgaaW.PrintWords Go.Proofs.YtoklfgjemfojgaaW.PrintLast Go.Proofs.YtoklfgjemfojgaaW.PrintMore
attribute [local go_sem] max2_int min2_int max_two min_two max_three min_three max_four min_four   -- for this text's walks alone
set_option linter.unusedVariables false
set_option linter.unusedSimpArgs false

/-! ### laws_markCellS: function 60 -/
def laws_markCellS.l0 : Nat → List (S89) → Int → Int → Option (Int × (List (S89)))
 | 0, _, _, _ => none
 | k + 1, x0, x1, x5 => if x5 < (x0.length : Int) then (if 0 ≤ x5 then ((some (x0.set (x5 : Int).toNat (⟨x1, (rd_T89 x0 x5).f1⟩ : S89) : List (S89))).bind fun y127 => (laws_markCellS.l0 k (y127.set (x5 : Int).toNat (⟨(rd_T89 y127 x5).f0, wrap64 (x1 + 1)⟩ : S89)) (wrap64 ((wrap64 (x1 + 1)) + 1)) (wrap64 (x5 + 1)))) else (none)) else (some (x1, x0))
def laws_markCellS.f (k : Nat) (l0 : List (S89)) (a1 : Int) : Option (Int × (List (S89))) := laws_markCellS.l0 k l0 a1 0
set_option maxHeartbeats 8000000 in
set_option maxRecDepth 100000 in
theorem laws_markCellS.calls (k : Nat) (P0_ : Nat → Prop) (u9000_ : Value) (l0 : List (S89)) (a1 : Int) (r1 : Int) (r2 : List (S89)) (w0 w : World) (hB : Below w0.heap.size w0 w) (ho0 : Kd.R k89 89 w w0.heap.size P0_ u9000_ l0) (h : laws_markCellS.f k l0 a1 = some (r1, r2)) :
 Calls Try.prog 60 #[u9000_, .int .i64 a1] w fun e w' => e = .returned (.int .i64 r1) ∧ Kd.R k89 89 w' w0.heap.size (fun k_ => (P0_ k_ ∨ w.heap.size ≤ k_)) u9000_ r2 ∧ Below w0.heap.size w0 w' ∧ Kept w w' (fun k_ => P0_ k_) := by
 have AS := Z.m (show Kd.R k89 89 w w0.heap.size (fun k_ => (P0_ k_ ∨ w.heap.size ≤ k_)) u9000_ l0 from Kd.Rm ho0 (fun k_ hk => (.inl hk)))
 have HK := Z.m (Kept.refl w (fun k_ => P0_ k_))
 have HW0 := Z.m hB.size
 have HB := Z.m hB
 clear hB
 have H : (laws_markCellS.l0 k l0 a1 0) = some (r1, r2) := h
 clear h
 have H' := Z.m H
 clear H
 go_enter Try.func60, Try.ntmps60
 go_wp2
 go_loopg [1, 5] k (fun kq v1 v5 w' => ∃ (A1 : List (S89)) (A3 : Int) (A0 : Int), v1 = .int .i64 A3 ∧ v5 = .int .i64 A0 ∧ Z (laws_markCellS.l0 kq A1 A3 A0 = some (r1, r2)) ∧ Z (kq ≤ k) ∧ Z (Kd.R k89 89 w' w0.heap.size (fun k_ => (P0_ k_ ∨ w.heap.size ≤ k_)) u9000_ A1) ∧ Z (Kept w w' (fun k_ => P0_ k_)) ∧ Z (Below w0.heap.size w0 w'))
 case atStart => exact ⟨(l0), (a1), (0), (by first | rfl | (simp; done) | (simp [*]; done)), (by first | rfl | (simp; done) | (simp [*]; done)), H', ⟨Nat.le_refl _⟩, ⟨vR AS⟩, ⟨vT HK⟩, ⟨vB HB⟩⟩
 case round =>
  clear H'
  obtain ⟨A1, A3, A0, rfl, rfl, HA, AB, A2, HK, HB⟩ := hrel
  cases gk with
  | zero => exact absurd HA.o (by simp [laws_markCellS.l0])
  | succ k1 =>
   have H := HA.o
   clear HA
   simp only [laws_markCellS.l0] at H
   by_cases c3 : A0 < (A1.length : Int)
   ·rw [if_pos c3] at H
    have Au := decide_eq_true c3
    clear c3
    by_cases c4 : 0 ≤ A0
    ·rw [if_pos c4] at H
     have AT := decide_eq_true c4
     clear c4
     obtain ⟨A4, A6⟩ : ∃ y_ : List (S89), y_ = (A1.set (A0 : Int).toNat (⟨A3, (rd_T89 A1 A0).f1⟩ : S89)) := ⟨_, rfl⟩
     replace H : (laws_markCellS.l0 k1 (A4.set (A0 : Int).toNat (⟨(rd_T89 A4 A0).f0, wrap64 (A3 + 1)⟩ : S89)) (wrap64 ((wrap64 (A3 + 1)) + 1)) (wrap64 (A0 + 1))) = some (r1, r2) := by first | (rw [A6]; with_reducible exact H) | (have H2_ := (Option.bind_some _ _).symm.trans H; rw [A6]; with_reducible exact H2_) | (have H2_ := (Option.bind_some _ _).symm.trans H; with_reducible exact H2_) | with_reducible exact H | (rw [A6]; exact H) | exact H
     have Al := Z.m A6
     clear A6
     obtain ⟨Aj, A7⟩ : ∃ y_ : List (S89), y_ = (A4.set (A0 : Int).toNat (⟨(rd_T89 A4 A0).f0, wrap64 (A3 + 1)⟩ : S89)) := ⟨_, rfl⟩
     replace H : (laws_markCellS.l0 k1 Aj (wrap64 ((wrap64 (A3 + 1)) + 1)) (wrap64 (A0 + 1))) = some (r1, r2) := by first | (rw [A7]; with_reducible exact H) | (have H2_ := (Option.bind_some _ _).symm.trans H; rw [A7]; with_reducible exact H2_) | (have H2_ := (Option.bind_some _ _).symm.trans H; with_reducible exact H2_) | with_reducible exact H | (rw [A7]; exact H) | exact H
     have Am := Z.m A7
     clear A7
     have H' := Z.m H
     clear H
     obtain ⟨AX, As, AW⟩ := Kd.R_slice A2.o
     subst AW
     have p5 : 0 ≤ (A0 : Int) := ofD
     have q5 : (A0 : Int) < ((A1.length : Int) : Int) := ofD
     obtain ⟨A5, B7, AE, AF, gl5, cl5, AA⟩ := Kd.R_form A2.o (by omega)
     (first | cases AE | (injection AE with ea_ en_ ec_; (first | subst ea_ | (injection ea_ with ea_; subst ea_)); subst ec_; clear en_))
     have Az := Z.m AF
     have AY := Z.m AA
     clear AF gl5 AA
     have AC := Z.m (show (P0_ A5 ∨ w.heap.size ≤ A5) from (A2.o.1 _ rfl))
     obtain ⟨AZ, Aw, AG, Ac, Ag⟩ := Kd.R_elem A2.o z89 (A0 : Int) p5 q5
     obtain rfl := k89_openM AG
     have AN : wr.cell? ⟨A5, (A0 : Int).toNat * 2, none⟩ = some (.int .i64 ((rd_T89 A1 A0).f0)) := Ac 0 _ rfl
     have AO : wr.cell? ⟨A5, (A0 : Int).toNat * 2 + 1, none⟩ = some (.int .i64 ((rd_T89 A1 A0).f1)) := Ac 1 _ rfl
     have AJ : wr.frozen? ⟨A5, (A0 : Int).toNat * 2, none⟩ = false := Ag 0
     have AK : wr.frozen? ⟨A5, (A0 : Int).toNat * 2 + 1, none⟩ = false := Ag 1
     (try clear Aw); (try clear Ac); (try clear Ag); (try clear AG)
     replace p5 := eq_true p5
     replace q5 := eq_true q5
     have AD := Z.m (show Kd.R k89 89 wr w0.heap.size (fun k_ => (P0_ k_ ∨ w.heap.size ≤ k_)) (.slice (some ⟨A5, 0, none⟩) A1.length As) A1 from (vR A2))
     obtain ⟨B2, Ao, AI, Ae, Aq⟩ := Kd.R_elem AD.o z89 (A0 : Int) (ofD) (by have h_ : (A0 : Int) < ((A1.length : Int) : Int) := ofD; first | exact h_ | (have e_ := (Kd.RrZ A2.o).1; omega) | simpa using h_)
     obtain rfl := k89_openM AI
     have At := Kd.R_seg AD.o (A0 : Int) (ofD) (by have h_ : (A0 : Int) < ((A1.length : Int) : Int) := ofD; first | exact h_ | (have e_ := (Kd.RrZ A2.o).1; omega) | simpa using h_) (seg := [.int .i64 A3]) (j := 0) Ao Ae (show 1 ≤ 2 from by decide) (x' := (⟨A3, (rd_T89 A1 A0).f1⟩ : S89)) (k89_mkM _ _ _ (⟨A3, (rd_T89 A1 A0).f1⟩ : S89) ) (fun _ hk => hk)
     have Ar := Ae 0 _ rfl
     (try simp only [show (k89).sz = 2 from rfl, Nat.mul_one, Nat.add_zero] at Ar)
     have Ap := Aq 0
     (try simp only [show (k89).sz = 2 from rfl, Nat.mul_one, Nat.add_zero] at Ap)
     (try clear Ao); (try clear Ae); (try clear Aq); (try clear AI)
     go_wp2_with (first | ((with_reducible refine gt (t := 3) (p := 16) rfl ?_); refine store_event (t := 3) (p := 16) (v := ?vo_w9) (w1 := (wr.setCell ⟨A5, (A0 : Int).toNat * 2, none⟩ (.int .i64 A3))) ?hg ?ho ?hn ?hr ?_; (case ho => rfl); (case hg => rfl); (case hn => rfl); (case hr => first | (go_simp; done) | (go_simp; rfl)); intro w9 hw; have hg : wr.grownBy w9 (some A5) := (by rw [hw]; exact At.2); have hp_ : Kd.R k89 89 w9 w0.heap.size (fun k_ => (P0_ k_ ∨ w.heap.size ≤ k_)) (.slice (some ⟨A5, 0, none⟩) A1.length As) A4 := (by rw [hw, Al.o]; exact At.1); clear At; replace HB := Z.m ((by rw [hw]; exact qx (HB.o) Az.o : Below w0.heap.size w0 w9)); replace HK := Z.m (Kept.of_grown (S := (fun k_ => P0_ k_)) hg (vT HK) (fun k_ e_ => (A2.o.1 k_ e_))); replace A2 := Z.m (hp_); clear hg hw hp_; have p6 : 0 ≤ (A0 : Int) := ofD; have q6 : (A0 : Int) < ((A1.length : Int) : Int) := ofD; obtain ⟨B0, Ax, AH, Ad, Ah⟩ := Kd.R_elem A2.o z89 (A0 : Int) p6 q6; obtain rfl := k89_openM AH; have AP : w9.cell? ⟨A5, (A0 : Int).toNat * 2, none⟩ = some (.int .i64 ((rd_T89 A4 A0).f0)) := Ad 0 _ rfl; have AQ : w9.cell? ⟨A5, (A0 : Int).toNat * 2 + 1, none⟩ = some (.int .i64 ((rd_T89 A4 A0).f1)) := Ad 1 _ rfl; have AL : w9.frozen? ⟨A5, (A0 : Int).toNat * 2, none⟩ = false := Ah 0; have AM : w9.frozen? ⟨A5, (A0 : Int).toNat * 2 + 1, none⟩ = false := Ah 1; (try clear Ax); (try clear Ad); (try clear Ah); (try clear AH); replace p6 := eq_true p6; replace q6 := eq_true q6; have Ak := Z.m (show Kd.R k89 89 w9 w0.heap.size (fun k_ => (P0_ k_ ∨ w.heap.size ≤ k_)) (.slice (some ⟨A5, 0, none⟩) A1.length As) A4 from (vR A2)); obtain ⟨AU, A9, An, A8, Aa⟩ := Kd.R_elem Ak.o z89 (A0 : Int) (ofD) (by have h_ : (A0 : Int) < ((A1.length : Int) : Int) := ofD; first | exact h_ | (have e_ := (Kd.RrZ A2.o).1; omega) | simpa using h_); obtain rfl := k89_openM An; have Ab := Kd.R_seg Ak.o (A0 : Int) (ofD) (by have h_ : (A0 : Int) < ((A1.length : Int) : Int) := ofD; first | exact h_ | (have e_ := (Kd.RrZ A2.o).1; omega) | simpa using h_) (seg := [.int .i64 (wrap64 (A3 + 1))]) (j := 1) A9 A8 (show 2 ≤ 2 from by decide) (x' := (⟨(rd_T89 A4 A0).f0, wrap64 (A3 + 1)⟩ : S89)) (k89_mkM _ _ _ (⟨(rd_T89 A4 A0).f0, wrap64 (A3 + 1)⟩ : S89) ) (fun _ hk => hk); have Ai := A8 1 _ rfl; (try simp only [show (k89).sz = 2 from rfl, Nat.mul_one, Nat.add_zero] at Ai); have Af := Aa 1; (try simp only [show (k89).sz = 2 from rfl, Nat.mul_one, Nat.add_zero] at Af); (try clear A9); (try clear A8); (try clear Aa); (try clear An)) | ((with_reducible refine gt (t := 3) (p := 23) rfl ?_); refine store_event (t := 3) (p := 23) (v := ?vo_w11) (w1 := (w9.setCell ⟨A5, (A0 : Int).toNat * 2 + 1, none⟩ (.int .i64 (wrap64 (A3 + 1))))) ?hg ?ho ?hn ?hr ?_; (case ho => rfl); (case hg => rfl); (case hn => rfl); (case hr => first | (go_simp; done) | (go_simp; rfl)); intro Ay hw; have hg : w9.grownBy Ay (some A5) := (by rw [hw]; exact Ab.2); have hp_ : Kd.R k89 89 Ay w0.heap.size (fun k_ => (P0_ k_ ∨ w.heap.size ≤ k_)) (.slice (some ⟨A5, 0, none⟩) A1.length As) Aj := (by rw [hw, Am.o]; exact Ab.1); clear Ab; replace HB := Z.m ((by rw [hw]; exact qx (HB.o) Az.o : Below w0.heap.size w0 Ay)); replace HK := Z.m (Kept.of_grown (S := (fun k_ => P0_ k_)) hg (vT HK) (fun k_ e_ => (A2.o.1 k_ e_))); replace A2 := Z.m (hp_); clear hg hw hp_))
     go_roundg k1
     case measure => have := AB.o; omega
     case rel => exact ⟨(Aj), (wrap64 ((wrap64 (A3 + 1)) + 1)), (wrap64 (A0 + 1)), (by first | rfl | (simp; done) | (simp [*]; done)), (by first | rfl | (simp; done) | (simp [*]; done)), H', ⟨by have := AB.o; omega⟩, ⟨vR A2⟩, ⟨vT HK⟩, ⟨vB HB⟩⟩
    ·rw [if_neg c4] at H
     exact absurd H (by simp)
   ·rw [if_neg c3] at H
    have Au := decide_eq_false c3
    clear c3
    simp only [Option.some.injEq, Prod.mk.injEq] at H
    obtain ⟨rfl, rfl⟩ := H
    obtain ⟨AR, AV, Av⟩ := Kd.R_slice A2.o
    subst Av
    go_wp2
    go_ret
    exact ⟨by first | rfl | (simp [eN, eS] <;> rfl) | (simp [*, eN, eS] <;> rfl), vR A2, vB HB, vT HK⟩

/-! ### laws_markBoard: function 23 -/
def laws_markBoard.f (k : Nat) (a0_0 : Int) (a0_1 : Int) (l0_2 : List (S89)) (a1 : Int) : Option (Int × (List (S89))) := (laws_markCellS.f k l0_2 a1).bind fun bt130 => (some (bt130.1, bt130.2))
set_option maxHeartbeats 8000000 in
set_option maxRecDepth 100000 in
theorem laws_markBoard.calls (k : Nat) (a0_0 : Int) (a0_1 : Int) (P0_2_ : Nat → Prop) (u9000_ : Value) (l0_2 : List (S89)) (a1 : Int) (r1 : Int) (r2 : List (S89)) (w0 w : World) (hB : Below w0.heap.size w0 w) (ho0_2 : Kd.R k89 89 w w0.heap.size P0_2_ u9000_ l0_2) (h : laws_markBoard.f k a0_0 a0_1 l0_2 a1 = some (r1, r2)) :
 Calls Try.prog 23 #[.agg #[.int .i64 a0_0, .int .i64 a0_1, u9000_], .int .i64 a1] w fun e w' => e = .returned (.int .i64 r1) ∧ Kd.R k89 89 w' w0.heap.size (fun k_ => (P0_2_ k_ ∨ w.heap.size ≤ k_)) u9000_ r2 ∧ Below w0.heap.size w0 w' ∧ Kept w w' (fun k_ => P0_2_ k_) := by
 have Aj := Try.underlying32
 have A1 := Z.m (show Kd.R k89 89 w w0.heap.size (fun k_ => (P0_2_ k_ ∨ w.heap.size ≤ k_)) u9000_ l0_2 from Kd.Rm ho0_2 (fun k_ hk => (.inl hk)))
 have HK := Z.m (Kept.refl w (fun k_ => P0_2_ k_))
 have HW0 := Z.m hB.size
 have HB := Z.m hB
 clear hB
 have H : ((laws_markCellS.f k l0_2 a1).bind fun bt130 => (some (bt130.1, bt130.2))) = some (r1, r2) := h
 clear h
 replace H := Option.bind_eq_some_iff.mp H
 obtain ⟨⟨A5, A6⟩, Af, H⟩ := H
 replace H : (some (A5, A6)) = some (r1, r2) := H
 have A3 := Z.m Af
 clear Af
 simp only [Option.some.injEq, Prod.mk.injEq] at H
 obtain ⟨rfl, rfl⟩ := H
 obtain ⟨A7, A8, Ai⟩ := Kd.R_slice A1.o
 subst Ai
 go_enter Try.func23, Try.ntmps23
 go_wp2_with (first | ((with_reducible refine gq (N := 2) rfl ?_); refine be (N := 2) (cs := #[.int .i64 a0_0, .int .i64 a0_1, .slice A7 l0_2.length A8]) (t := 32) ?_; intro A4 hg w5 hbox hb; have A0 := Z.m (hbox); have Ag := Z.m ((by rw [hg]; exact (by first | exact HK.o.1 | exact (show Kept w _ (fun k_ => P0_2_ k_) from vT HK).1) : w.heap.size ≤ A4)); have A2 := gW (w := w0) HB hg; replace A1 := Z.m (Kd.Rb (vR A1) hb); replace HK := Z.m (Kept.below (S := (fun k_ => P0_2_ k_)) (vT HK) hb); replace HB := bB HB hb; clear hb hbox hg; have A9 := bc0 A0; have Aa := bc1 A0; have Ab := bc2 A0; have Ac := qz A0.o 0; have Ad := qz A0.o 1; have Ae := qz A0.o 2) | ((with_reducible refine gc (f := 60) rfl ?_); refine gA (some 8) _ #[.slice A7 l0_2.length A8, .int .i64 a1] ?_ Try.func60; (with_reducible refine (laws_markCellS.calls k (fun k_ => some k_ = (.slice A7 l0_2.length A8 : Value).ownBlock) (.slice A7 l0_2.length A8) l0_2 a1 A5 A6 w0 _ ?side1 ?side2 A3.o).mono ?_); (case side1 => repeat (first | (with_reducible first | exact HB.o | apply qa | apply qn | apply qd | refine qx ?_ A2.o) | exact HB.o)); (case side2 => exact Kd.Rg rfl A1.o); rintro e w7 ⟨rfl, Ah, hb, hkp⟩; refine ⟨_, rfl, ?_⟩; replace A0 := Z.m (qk (vK A0) hkp (fun hs_ => (fun e_ => (Kd.R_ne A1.o A0.o (by decide)) e_) hs_)); replace HK := Z.m (Kept.then_ (S := (fun k_ => P0_2_ k_)) (vT HK) hkp (fun k_ hs_ => (fun e_ => (A1.o.1 k_ e_.symm)) hs_)); replace A1 := Z.m (Kd.Re rfl Ah (fun k_ e_ => A1.o.1 k_ e_)); replace HB := Z.m (hb); (try clear hb); (try clear hkp); (try clear Ah)))
 go_ret
 exact ⟨by first | rfl | (simp [eN, eS] <;> rfl) | (simp [*, eN, eS] <;> rfl), vR A1, vB HB, vT HK⟩

/-! ### spec_l1In: function 71 -/
def spec_l1In.f (a0 : Int) (a1 : Int) (a2 : Int) : Option (Bool) := if a0 ≥ a1 then (some (decide (a0 ≤ a2))) else (some false)
set_option maxHeartbeats 8000000 in
set_option maxRecDepth 100000 in
theorem spec_l1In.calls (a0 : Int) (a1 : Int) (a2 : Int) (r : Bool) (w : World) (h : spec_l1In.f a0 a1 a2 = some r) :
 Calls Try.prog 71 #[.int .i64 a0, .int .i64 a1, .int .i64 a2] w fun e w' => e = .returned (.bool r) ∧ Drawn0 w w' := by
 have H : (if a0 ≥ a1 then (some (decide (a0 ≤ a2))) else (some false)) = some r := h
 clear h
 by_cases c4 : a0 ≥ a1
 ·rw [if_pos c4] at H
  have A0 := decide_eq_true c4
  clear c4
  obtain rfl := Option.some.inj H
  go_enter Try.func71, Try.ntmps71
  go_wp2
  go_ret
  exact ⟨by first | rfl | (simp; done) | (simp [*]; done), by repeat (first | exact Drawn0.refl _ | apply Drawn0.step)⟩
 ·rw [if_neg c4] at H
  have A0 := decide_eq_false c4
  clear c4
  obtain rfl := Option.some.inj H
  go_enter Try.func71, Try.ntmps71
  go_wp2
  go_ret
  exact ⟨by first | rfl | (simp; done) | (simp [*]; done), by repeat (first | exact Drawn0.refl _ | apply Drawn0.step)⟩

/-! ### spec_paTurning: function 88 -/
def spec_paTurning.f (a0_0 : Int) (a0_1 : Int) : Option (Bool) := if a0_0 = 3 then (some true) else (some (a0_0 == 6))
set_option maxHeartbeats 8000000 in
set_option maxRecDepth 100000 in
theorem spec_paTurning.calls (a0_0 : Int) (a0_1 : Int) (r : Bool) (w : World) (h : spec_paTurning.f a0_0 a0_1 = some r) :
 Calls Try.prog 88 #[.agg #[.int .i64 a0_0, .int .i64 a0_1]] w fun e w' => e = .returned (.bool r) ∧ Below w.heap.size w w' := by
 have Ae := Try.underlying89
 have HB := Z.m (Below.refl w.heap.size w)
 have H : (if a0_0 = 3 then (some true) else (some (a0_0 == 6))) = some r := h
 clear h
 by_cases c2 : a0_0 = 3
 ·rw [if_pos c2] at H
  have A4 := beq_iff_eq.mpr c2
  have A5 := bne_eq_false_iff_eq.mpr c2
  clear c2
  obtain rfl := Option.some.inj H
  go_enter Try.func88, Try.ntmps88
  go_wp2_with (first | ((with_reducible refine gq (N := 1) rfl ?_); refine be (N := 1) (cs := #[.int .i64 a0_0, .int .i64 a0_1]) (t := 89) ?_; intro A3 hg w3 hbox hb; have A0 := Z.m (hbox); have A1 := gW (w := w) HB hg; have A2 := A1; replace HB := bB HB hb; clear hb hbox hg; have A6 := bc0 A0; have A7 := bc1 A0; have Aa := qz A0.o 0; have Ab := qz A0.o 1))
  go_ret
  exact ⟨by first | rfl | (simp [eN, eS] <;> rfl) | (simp [*, eN, eS] <;> rfl), vB HB⟩
 ·rw [if_neg c2] at H
  have A4 := beq_eq_false_iff_ne.mpr c2
  have A5 := bne_iff_ne.mpr c2
  obtain rfl := Option.some.inj H
  go_enter Try.func88, Try.ntmps88
  go_wp2_with (first | ((with_reducible refine gq (N := 1) rfl ?_); refine be (N := 1) (cs := #[.int .i64 a0_0, .int .i64 a0_1]) (t := 89) ?_; intro A3 hg w5 hbox hb; have A0 := Z.m (hbox); have A1 := gW (w := w) HB hg; have A2 := A1; replace HB := bB HB hb; clear hb hbox hg; have A8 := bc0 A0; have A9 := bc1 A0; have Ac := qz A0.o 0; have Ad := qz A0.o 1))
  go_ret
  exact ⟨by first | rfl | (simp [eN, eS] <;> rfl) | (simp [*, eN, eS] <;> rfl), vB HB⟩

/-! ### spec_paGood: function 78 -/
def spec_paGood.f (a0_0 : Int) (a0_1 : Int) : Option (Bool) := (spec_l1In.f a0_0 0 7).bind fun t134 => (if t134 = true then (if a0_1 = 0 then (some true) else (if a0_1 = 1 then ((spec_paTurning.f a0_0 a0_1).bind fun t135 => (some t135)) else (some false))) else (some false))
set_option maxHeartbeats 8000000 in
set_option maxRecDepth 100000 in
theorem spec_paGood.calls (a0_0 : Int) (a0_1 : Int) (r : Bool) (w : World) (h : spec_paGood.f a0_0 a0_1 = some r) :
 Calls Try.prog 78 #[.agg #[.int .i64 a0_0, .int .i64 a0_1]] w fun e w' => e = .returned (.bool r) ∧ Below w.heap.size w w' := by
 have Au := Try.underlying89
 have HB := Z.m (Below.refl w.heap.size w)
 have H : ((spec_l1In.f a0_0 0 7).bind fun A6 => (if A6 = true then (if a0_1 = 0 then (some true) else (if a0_1 = 1 then ((spec_paTurning.f a0_0 a0_1).bind fun A3 => (some A3)) else (some false))) else (some false))) = some r := h
 clear h
 replace H := Option.bind_eq_some_iff.mp H
 obtain ⟨A6, As, H⟩ := H
 replace H : (if A6 = true then (if a0_1 = 0 then (some true) else (if a0_1 = 1 then ((spec_paTurning.f a0_0 a0_1).bind fun A3 => (some A3)) else (some false))) else (some false)) = some r := H
 have A2 := Z.m As
 clear As
 by_cases c3 : A6 = true
 ·subst c3
  have H1 : (if a0_1 = 0 then (some true) else (if a0_1 = 1 then ((spec_paTurning.f a0_0 a0_1).bind fun A3 => (some A3)) else (some false))) = some r := by rw [if_pos rfl] at H; exact H
  clear H
  have H := H1
  clear H1
  by_cases c4 : a0_1 = 0
  ·rw [if_pos c4] at H
   have Ak := beq_iff_eq.mpr c4
   have Al := bne_eq_false_iff_eq.mpr c4
   clear c4
   obtain rfl := Option.some.inj H
   go_enter Try.func78, Try.ntmps78
   go_wp2_with (first | ((with_reducible refine gq (N := 1) rfl ?_); refine be (N := 1) (cs := #[.int .i64 a0_0, .int .i64 a0_1]) (t := 89) ?_; intro A5 hg w5 hbox hb; have A0 := Z.m (hbox); have A1 := gW (w := w) HB hg; have A4 := A1; replace HB := bB HB hb; clear hb hbox hg; have Ao := bc0 A0; have Ap := bc1 A0; have Aq := qz A0.o 0; have Ar := qz A0.o 1) | ((with_reducible refine gc (f := 71) rfl ?_); refine gA (some 5) _ #[.int .i64 a0_0, .int .i64 0, .int .i64 7] ?_ Try.func71; (with_reducible refine (spec_l1In.calls a0_0 0 7 true _ A2.o).mono ?_); rintro e w' ⟨rfl, ⟨nd, rfl⟩⟩; refine ⟨_, rfl, ?_⟩))
   go_ret
   exact ⟨by first | rfl | (simp [eN, eS] <;> rfl) | (simp [*, eN, eS] <;> rfl), vB HB⟩
  ·rw [if_neg c4] at H
   have Ak := beq_eq_false_iff_ne.mpr c4
   have Al := bne_iff_ne.mpr c4
   by_cases c7 : a0_1 = 1
   ·rw [if_pos c7] at H
    have Am := beq_iff_eq.mpr c7
    have An := bne_eq_false_iff_eq.mpr c7
    clear c7
    replace H := Option.bind_eq_some_iff.mp H
    obtain ⟨A3, At, H⟩ := H
    replace H : (some A3) = some r := H
    have A8 := Z.m At
    clear At
    obtain rfl := Option.some.inj H
    go_enter Try.func78, Try.ntmps78
    go_wp2_with (first | ((with_reducible refine gq (N := 1) rfl ?_); refine be (N := 1) (cs := #[.int .i64 a0_0, .int .i64 a0_1]) (t := 89) ?_; intro A5 hg w9 hbox hb; have A0 := Z.m (hbox); have A1 := gW (w := w) HB hg; have A4 := A1; replace HB := bB HB hb; clear hb hbox hg; have A7 := bc0 A0; have A9 := bc1 A0; have Ae := qz A0.o 0; have Af := qz A0.o 1) | ((with_reducible refine gc (f := 71) rfl ?_); refine gA (some 5) _ #[.int .i64 a0_0, .int .i64 0, .int .i64 7] ?_ Try.func71; (with_reducible refine (spec_l1In.calls a0_0 0 7 true _ A2.o).mono ?_); rintro e w' ⟨rfl, ⟨nd, rfl⟩⟩; refine ⟨_, rfl, ?_⟩) | (go_at_call 88; (with_reducible refine (spec_paTurning.calls a0_0 a0_1 A3 _ A8.o).mono ?_); rintro e Aw ⟨rfl, hb⟩; replace A0 := kB A0 hb; replace HB := bB HB hb; (try clear hb); (try clear Av); (try clear hk); (try clear hi)))
    go_ret
    exact ⟨by first | rfl | (simp [eN, eS] <;> rfl) | (simp [*, eN, eS] <;> rfl), vB HB⟩
   ·rw [if_neg c7] at H
    have Am := beq_eq_false_iff_ne.mpr c7
    have An := bne_iff_ne.mpr c7
    obtain rfl := Option.some.inj H
    go_enter Try.func78, Try.ntmps78
    go_wp2_with (first | ((with_reducible refine gq (N := 1) rfl ?_); refine be (N := 1) (cs := #[.int .i64 a0_0, .int .i64 a0_1]) (t := 89) ?_; intro A5 hg Ax hbox hb; have A0 := Z.m (hbox); have A1 := gW (w := w) HB hg; have A4 := A1; replace HB := bB HB hb; clear hb hbox hg; have Aa := bc0 A0; have Ab := bc1 A0; have Ag := qz A0.o 0; have Ah := qz A0.o 1) | ((with_reducible refine gc (f := 71) rfl ?_); refine gA (some 5) _ #[.int .i64 a0_0, .int .i64 0, .int .i64 7] ?_ Try.func71; (with_reducible refine (spec_l1In.calls a0_0 0 7 true _ A2.o).mono ?_); rintro e w' ⟨rfl, ⟨nd, rfl⟩⟩; refine ⟨_, rfl, ?_⟩))
    go_ret
    exact ⟨by first | rfl | (simp [eN, eS] <;> rfl) | (simp [*, eN, eS] <;> rfl), vB HB⟩
 ·replace c3 := Bool.eq_false_iff.mpr c3
  subst c3
  have H1 : (some false) = some r := by rw [if_neg (show ¬ (false = true) by decide)] at H; exact H
  clear H
  have H := H1
  clear H1
  obtain rfl := Option.some.inj H
  go_enter Try.func78, Try.ntmps78
  go_wp2_with (first | ((with_reducible refine gq (N := 1) rfl ?_); refine be (N := 1) (cs := #[.int .i64 a0_0, .int .i64 a0_1]) (t := 89) ?_; intro A5 hg Ay hbox hb; have A0 := Z.m (hbox); have A1 := gW (w := w) HB hg; have A4 := A1; replace HB := bB HB hb; clear hb hbox hg; have Ac := bc0 A0; have Ad := bc1 A0; have Ai := qz A0.o 0; have Aj := qz A0.o 1) | ((with_reducible refine gc (f := 71) rfl ?_); refine gA (some 5) _ #[.int .i64 a0_0, .int .i64 0, .int .i64 7] ?_ Try.func71; (with_reducible refine (spec_l1In.calls a0_0 0 7 false _ A2.o).mono ?_); rintro e w' ⟨rfl, ⟨nd, rfl⟩⟩; refine ⟨_, rfl, ?_⟩))
  go_ret
  exact ⟨by first | rfl | (simp [eN, eS] <;> rfl) | (simp [*, eN, eS] <;> rfl), vB HB⟩

/-! ### spec_boGood: function 58 -/
mutual
def spec_boGood.j0 : Nat → Bool → Int → Int → List (S89) → Option (Bool)
 | 0, _, _, _, _ => none
 | k + 1, x25, x137000, x137001, x137002 => if x25 = true then (some false) else (spec_boGood.l0 k x137002 (x137002.length : Int) 0)
def spec_boGood.l0 : Nat → List (S89) → Int → Int → Option (Bool)
 | 0, _, _, _ => none
 | k + 1, x27, x28, x29 => if x29 < x28 then (if 0 ≤ x29 then (if x29 < (x27.length : Int) then ((spec_paGood.f ((rd_T89 x27 x29).f0) ((rd_T89 x27 x29).f1)).bind fun t141 => (if t141 = true then (spec_boGood.l0 k x27 x28 (wrap64 (x29 + 1))) else (some false))) else (none)) else (none)) else (some true)
end
def spec_boGood.f (k : Nat) (a0_0 : Int) (a0_1 : Int) (l0_2 : List (S89)) : Option (Bool) := (spec_l1In.f a0_0 1 10).bind fun t137 => (if t137 = true then ((spec_l1In.f a0_1 1 9).bind fun t138 => (if t138 = true then (spec_boGood.j0 k ((l0_2.length : Int) != (wrap64 (a0_0 * a0_1))) a0_0 a0_1 l0_2) else (spec_boGood.j0 k true a0_0 a0_1 l0_2))) else (spec_boGood.j0 k true a0_0 a0_1 l0_2))
set_option maxHeartbeats 8000000 in
set_option maxRecDepth 100000 in
theorem spec_boGood.calls (k : Nat) (a0_0 : Int) (a0_1 : Int) (A0_2 : Option Addr) (c0_2 : Nat) (l0_2 : List (S89)) (r : Bool) (w : World) (hr0_2 : Kd.C k89 w A0_2 l0_2.length l0_2) (hc0_2 : l0_2.length ≤ c0_2) (h : spec_boGood.f k a0_0 a0_1 l0_2 = some r) :
 Calls Try.prog 58 #[.agg #[.int .i64 a0_0, .int .i64 a0_1, .slice A0_2 l0_2.length c0_2]] w fun e w' => e = .returned (.bool r) ∧ Below w.heap.size w w' := by
 have Be := Try.underlying32
 have Bf := Try.underlying89
 have Am := Z.m hr0_2
 have AX := Z.m hc0_2
 clear hr0_2 hc0_2
 have HB := Z.m (Below.refl w.heap.size w)
 have H : ((spec_l1In.f a0_0 1 10).bind fun Al => (if Al = true then ((spec_l1In.f a0_1 1 9).bind fun A9 => (if A9 = true then (spec_boGood.j0 k ((l0_2.length : Int) != (wrap64 (a0_0 * a0_1))) a0_0 a0_1 l0_2) else (spec_boGood.j0 k true a0_0 a0_1 l0_2))) else (spec_boGood.j0 k true a0_0 a0_1 l0_2))) = some r := h
 clear h
 have AG := Z.m H
 clear H
 go_enter Try.func58, Try.ntmps58
 go_upto_region 1 with (first | ((with_reducible refine gq (N := 1) rfl ?_); (try (refine gate_guard (by rfl) ?_; dsimp only)); refine be (N := 1) (cs := #[.int .i64 a0_0, .int .i64 a0_1, .slice A0_2 l0_2.length c0_2]) (t := 32) ?_; intro Aa hg w3 hbox hb; have A0 := Z.m (hbox); have Ap := gW (w := w) HB hg; have AW := Ap; replace HB := bB HB hb; clear hb hbox hg))
 (try simp only [Act.put, q1, q2, q3])
 go_cut [25] (fun v25 wc => ∃ (kq : Nat) (Ab : Bool), v25 = .bool Ab ∧ Z (spec_boGood.j0 kq Ab a0_0 a0_1 l0_2 = some r) ∧ Z (kq ≤ k) ∧ Z (wc.heap[Aa]? = some (.cells #[.int .i64 a0_0, .int .i64 a0_1, (.slice A0_2 l0_2.length c0_2)] 32 (0, 0))) ∧ Z (Below w.heap.size w wc))
 case first =>
  have H := AG.o
  clear AG
  replace H := Option.bind_eq_some_iff.mp H
  obtain ⟨Al, AU, H⟩ := H
  replace H : (if Al = true then ((spec_l1In.f a0_1 1 9).bind fun A9 => (if A9 = true then (spec_boGood.j0 k ((l0_2.length : Int) != (wrap64 (a0_0 * a0_1))) a0_0 a0_1 l0_2) else (spec_boGood.j0 k true a0_0 a0_1 l0_2))) else (spec_boGood.j0 k true a0_0 a0_1 l0_2)) = some r := H
  have A4 := Z.m AU
  clear AU
  by_cases c5 : Al = true
  ·subst c5
   have H1 : ((spec_l1In.f a0_1 1 9).bind fun A9 => (if A9 = true then (spec_boGood.j0 k ((l0_2.length : Int) != (wrap64 (a0_0 * a0_1))) a0_0 a0_1 l0_2) else (spec_boGood.j0 k true a0_0 a0_1 l0_2))) = some r := by rw [if_pos rfl] at H; exact H
   clear H
   have H := H1
   clear H1
   replace H := Option.bind_eq_some_iff.mp H
   obtain ⟨A9, AV, H⟩ := H
   replace H : (if A9 = true then (spec_boGood.j0 k ((l0_2.length : Int) != (wrap64 (a0_0 * a0_1))) a0_0 a0_1 l0_2) else (spec_boGood.j0 k true a0_0 a0_1 l0_2)) = some r := H
   have A6 := Z.m AV
   clear AV
   by_cases c7 : A9 = true
   ·subst c7
    have H1 : (spec_boGood.j0 k ((l0_2.length : Int) != (wrap64 (a0_0 * a0_1))) a0_0 a0_1 l0_2) = some r := by rw [if_pos rfl] at H; exact H
    clear H
    have H := H1
    clear H1
    have H' := Z.m H
    clear H
    have AH := bc0 A0
    have AI := bc1 A0
    have AJ := bc2 A0
    have AN := qz A0.o 0
    have AO := qz A0.o 1
    have AP := qz A0.o 2
    go_wp2_with (first | ((with_reducible refine gc (f := 71) rfl ?_); refine gA (some 7) _ #[.int .i64 a0_0, .int .i64 1, .int .i64 10] ?_ Try.func71; (with_reducible refine (spec_l1In.calls a0_0 1 10 true _ A4.o).mono ?_); rintro e w' ⟨rfl, ⟨nd, rfl⟩⟩; refine ⟨_, rfl, ?_⟩) | (go_at_call 71; (with_reducible refine (spec_l1In.calls a0_1 1 9 true _ A6.o).mono ?_); rintro e w' ⟨rfl, ⟨nd, rfl⟩⟩))
    go_meet
    case rel => exact ⟨_, (((l0_2.length : Int) != (wrap64 (a0_0 * a0_1)))), (by first | rfl | (simp; done) | (simp [*]; done)), H', ⟨by first | omega | exact Nat.le_refl _⟩, ⟨vK A0⟩, ⟨vB HB⟩⟩
   ·replace c7 := Bool.eq_false_iff.mpr c7
    subst c7
    have H1 : (spec_boGood.j0 k true a0_0 a0_1 l0_2) = some r := by rw [if_neg (show ¬ (false = true) by decide)] at H; exact H
    clear H
    have H := H1
    clear H1
    have H' := Z.m H
    clear H
    have AK := bc0 A0
    have AL := bc1 A0
    have AM := bc2 A0
    have AQ := qz A0.o 0
    have AR := qz A0.o 1
    have AS := qz A0.o 2
    go_wp2_with (first | ((with_reducible refine gc (f := 71) rfl ?_); refine gA (some 7) _ #[.int .i64 a0_0, .int .i64 1, .int .i64 10] ?_ Try.func71; (with_reducible refine (spec_l1In.calls a0_0 1 10 true _ A4.o).mono ?_); rintro e w' ⟨rfl, ⟨nd, rfl⟩⟩; refine ⟨_, rfl, ?_⟩) | (go_at_call 71; (with_reducible refine (spec_l1In.calls a0_1 1 9 false _ A6.o).mono ?_); rintro e w' ⟨rfl, ⟨nd, rfl⟩⟩))
    go_meet
    case rel => exact ⟨_, (true), (by first | rfl | (simp; done) | (simp [*]; done)), H', ⟨by first | omega | exact Nat.le_refl _⟩, ⟨vK A0⟩, ⟨vB HB⟩⟩
  ·replace c5 := Bool.eq_false_iff.mpr c5
   subst c5
   have H1 : (spec_boGood.j0 k true a0_0 a0_1 l0_2) = some r := by rw [if_neg (show ¬ (false = true) by decide)] at H; exact H
   clear H
   have H := H1
   clear H1
   have H' := Z.m H
   clear H
   have As := bc0 A0
   have At := bc1 A0
   have Au := bc2 A0
   have Az := qz A0.o 0
   have AA := qz A0.o 1
   have AB := qz A0.o 2
   go_wp2_with (first | ((with_reducible refine gc (f := 71) rfl ?_); refine gA (some 7) _ #[.int .i64 a0_0, .int .i64 1, .int .i64 10] ?_ Try.func71; (with_reducible refine (spec_l1In.calls a0_0 1 10 false _ A4.o).mono ?_); rintro e w' ⟨rfl, ⟨nd, rfl⟩⟩; refine ⟨_, rfl, ?_⟩))
   go_meet
   case rel => exact ⟨_, (true), (by first | rfl | (simp; done) | (simp [*]; done)), H', ⟨by first | omega | exact Nat.le_refl _⟩, ⟨vK A0⟩, ⟨vB HB⟩⟩
 case rest =>
  clear AG
  obtain ⟨kq, Ab, rfl, HA, AY, A0, HB⟩ := hcut
  cases kq with
  | zero => exact absurd HA.o (by simp [spec_boGood.j0])
  | succ kj1 =>
   have H := HA.o
   clear HA
   simp only [spec_boGood.j0] at H
   by_cases c11 : Ab = true
   ·subst c11
    have H1 : (some false) = some r := by rw [if_pos rfl] at H; exact H
    clear H
    have H := H1
    clear H1
    obtain rfl := Option.some.inj H
    go_wp2
    go_ret
    exact ⟨by first | rfl | (simp [eN, eS] <;> rfl) | (simp [*, eN, eS] <;> rfl), vB HB⟩
   ·replace c11 := Bool.eq_false_iff.mpr c11
    subst c11
    have H1 : (spec_boGood.l0 kj1 l0_2 (l0_2.length : Int) 0) = some r := by rw [if_neg (show ¬ (false = true) by decide)] at H; exact H
    clear H
    have H := H1
    clear H1
    have H' := Z.m H
    clear H
    have Af := bc0 A0
    have Ag := bc1 A0
    have Ah := bc2 A0
    have Ai := qz A0.o 0
    have Aj := qz A0.o 1
    have Ak := qz A0.o 2
    go_wp2
    go_loopg [29] kj1 (fun kq v29 w' => ∃ (A1 : Int), v29 = .int .i64 A1 ∧ Z (spec_boGood.l0 kq l0_2 (l0_2.length : Int) A1 = some r) ∧ Z (kq ≤ kj1) ∧ Z (w'.heap[Aa]? = some (.cells #[.int .i64 a0_0, .int .i64 a0_1, (.slice A0_2 l0_2.length c0_2)] 32 (0, 0))) ∧ Z (Below w.heap.size w w'))
    case atStart => exact ⟨(0), (by first | rfl | (simp; done) | (simp [*]; done)), H', ⟨Nat.le_refl _⟩, ⟨vK A0⟩, ⟨vB HB⟩⟩
    case round =>
     clear H'
     (try clear c11)
     (try clear Af); (try clear Ag); (try clear Ah); (try clear Ai); (try clear Aj); (try clear Ak)
     obtain ⟨A1, rfl, HA, AZ, A0, HB⟩ := hrel
     cases gk with
     | zero => exact absurd HA.o (by simp [spec_boGood.l0])
     | succ k2 =>
      have H := HA.o
      clear HA
      simp only [spec_boGood.l0] at H
      by_cases c13 : A1 < (l0_2.length : Int)
      ·rw [if_pos c13] at H
       have Aq := decide_eq_true c13
       clear c13
       by_cases c14 : 0 ≤ A1
       ·rw [if_pos c14] at H
        have B0 := decide_eq_true c14
        clear c14
        by_cases c15 : A1 < (l0_2.length : Int)
        ·rw [if_pos c15] at H
         have B2 := decide_eq_true c15
         clear c15
         replace H := Option.bind_eq_some_iff.mp H
         obtain ⟨Ar, An, H⟩ := H
         replace H : (if Ar = true then (spec_boGood.l0 k2 l0_2 (l0_2.length : Int) (wrap64 (A1 + 1))) else (some false)) = some r := H
         have AT := Z.m An
         clear An
         by_cases c17 : Ar = true
         ·subst c17
          have H1 : (spec_boGood.l0 k2 l0_2 (l0_2.length : Int) (wrap64 (A1 + 1))) = some r := by rw [if_pos rfl] at H; exact H
          clear H
          have H := H1
          clear H1
          have H' := Z.m H
          clear H
          have p139 : 0 ≤ (A1 : Int) := ofD
          have q139 : A1 < (l0_2.length : Int) := ofD
          obtain ⟨Ad, e139, A5, A7⟩ := at_T89 Am.o A1 p139 q139
          cases e139
          replace A5 := (HB.o.cell (World.block_lt_of_cell? w _ A5)).trans A5
          replace A7 := (HB.o.cell (World.block_lt_of_cell? w _ A7)).trans A7
          replace p139 := eq_true p139
          replace q139 := eq_true q139
          go_wp2_with (first | ((with_reducible refine gq (N := 4) rfl ?_); (try (refine gate_guard (by rfl) ?_; dsimp only)); refine be (N := 4) (cs := #[.int .i64 0, .int .i64 0]) (t := 89) ?_; intro Ae hg Bg hbox hb; have A2 := Z.m (hbox); have Ac := gW (w := w) HB hg; have Ao := Ac; have A3 := neL A0 hg; have A8 := neG A0 hg; replace A0 := kB A0 hb; replace HB := bB HB hb; clear hb hbox hg; have B7 := A8.o; have Bb := A3.o; have Av := bc0 A2; have Aw := bc1 A2; have AC := qz A2.o 0; have AD := qz A2.o 1) | ((with_reducible refine gc (f := 78) rfl ?_); refine gA (some 34) _ #[.agg #[.int .i64 ((rd_T89 l0_2 A1).f0), .int .i64 ((rd_T89 l0_2 A1).f1)]] ?_ Try.func78; (with_reducible refine (spec_paGood.calls ((rd_T89 l0_2 A1).f0) ((rd_T89 l0_2 A1).f1) true _ AT.o).mono ?_); rintro e Bh ⟨rfl, hb⟩; refine ⟨_, rfl, ?_⟩; replace A0 := Z.m (qb (g := Aa) (o := .cells #[.int .i64 a0_0, .int .i64 a0_1, .slice (some Ad) l0_2.length c0_2] 32 (0, 0)) (by refine bK ?_; (iterate 2 refine qF ?_ A3); exact A0.o) hb); replace A2 := Z.m (qb (g := Ae) (o := .cells #[.int .i64 ((rd_T89 l0_2 A1).f0), .int .i64 ((rd_T89 l0_2 A1).f1)] 89 (0, 0)) (by refine bK ?_; refine qp (cs := #[iV ((rd_T89 l0_2 A1).f0), iV 0]) ?_ 1 _ rfl; refine bK ?_; refine qp (cs := #[iV 0, iV 0]) ?_ 0 _ rfl; refine bK ?_; exact A2.o) hb); replace HB := bB HB hb; (try clear hb); (try clear Bd); (try clear hk); (try clear hi)))
          go_roundg k2
          case measure => have := AY.o; have := AZ.o; omega
          case rel => exact ⟨(wrap64 (A1 + 1)), (by first | rfl | (simp; done) | (simp [*]; done)), H', ⟨by have := AY.o; have := AZ.o; omega⟩, ⟨vK A0⟩, ⟨vB HB⟩⟩
         ·replace c17 := Bool.eq_false_iff.mpr c17
          subst c17
          have H1 : (some false) = some r := by rw [if_neg (show ¬ (false = true) by decide)] at H; exact H
          clear H
          have H := H1
          clear H1
          obtain rfl := Option.some.inj H
          have p139 : 0 ≤ (A1 : Int) := ofD
          have q139 : A1 < (l0_2.length : Int) := ofD
          obtain ⟨Ad, e139, A5, A7⟩ := at_T89 Am.o A1 p139 q139
          cases e139
          replace A5 := (HB.o.cell (World.block_lt_of_cell? w _ A5)).trans A5
          replace A7 := (HB.o.cell (World.block_lt_of_cell? w _ A7)).trans A7
          replace p139 := eq_true p139
          replace q139 := eq_true q139
          go_wp2_with (first | ((with_reducible refine gq (N := 4) rfl ?_); (try (refine gate_guard (by rfl) ?_; dsimp only)); refine be (N := 4) (cs := #[.int .i64 0, .int .i64 0]) (t := 89) ?_; intro Ae hg Bi hbox hb; have A2 := Z.m (hbox); have Ac := gW (w := w) HB hg; have Ao := Ac; have A3 := neL A0 hg; have A8 := neG A0 hg; replace A0 := kB A0 hb; replace HB := bB HB hb; clear hb hbox hg; have Ba := A8.o; have Bc := A3.o; have Ax := bc0 A2; have Ay := bc1 A2; have AE := qz A2.o 0; have AF := qz A2.o 1) | ((with_reducible refine gc (f := 78) rfl ?_); refine gA (some 34) _ #[.agg #[.int .i64 ((rd_T89 l0_2 A1).f0), .int .i64 ((rd_T89 l0_2 A1).f1)]] ?_ Try.func78; (with_reducible refine (spec_paGood.calls ((rd_T89 l0_2 A1).f0) ((rd_T89 l0_2 A1).f1) false _ AT.o).mono ?_); rintro e Bj ⟨rfl, hb⟩; refine ⟨_, rfl, ?_⟩; replace A0 := Z.m (qb (g := Aa) (o := .cells #[.int .i64 a0_0, .int .i64 a0_1, .slice (some Ad) l0_2.length c0_2] 32 (0, 0)) (by refine bK ?_; (iterate 2 refine qF ?_ A3); exact A0.o) hb); replace A2 := Z.m (qb (g := Ae) (o := .cells #[.int .i64 ((rd_T89 l0_2 A1).f0), .int .i64 ((rd_T89 l0_2 A1).f1)] 89 (0, 0)) (by refine bK ?_; refine qp (cs := #[iV ((rd_T89 l0_2 A1).f0), iV 0]) ?_ 1 _ rfl; refine bK ?_; refine qp (cs := #[iV 0, iV 0]) ?_ 0 _ rfl; refine bK ?_; exact A2.o) hb); replace HB := bB HB hb; (try clear hb); (try clear Bd); (try clear hk); (try clear hi)))
          go_ret
          exact ⟨by first | rfl | (simp [eN, eS] <;> rfl) | (simp [*, eN, eS] <;> rfl), vB HB⟩
        ·rw [if_neg c15] at H
         exact absurd H (by simp)
       ·rw [if_neg c14] at H
        exact absurd H (by simp)
      ·rw [if_neg c13] at H
       have Aq := decide_eq_false c13
       clear c13
       obtain rfl := Option.some.inj H
       go_wp2
       go_ret
       exact ⟨by first | rfl | (simp [eN, eS] <;> rfl) | (simp [*, eN, eS] <;> rfl), vB HB⟩

/-! ### spec_flHas: function 50 -/
def spec_flHas.f (k : Nat) (a0_0 : Int) (a0_1 : Int) (l0_2 : List (S89)) (a1 : Int) : Option (Bool) := (spec_boGood.f k a0_0 a0_1 l0_2).bind fun t143 => (if t143 = true then ((spec_l1In.f a1 0 (wrap64 (a0_1 - 1))).bind fun t144 => (some t144)) else (some false))
set_option maxHeartbeats 8000000 in
set_option maxRecDepth 100000 in
theorem spec_flHas.calls (k : Nat) (a0_0 : Int) (a0_1 : Int) (A0_2 : Option Addr) (c0_2 : Nat) (l0_2 : List (S89)) (a1 : Int) (r : Bool) (w : World) (hr0_2 : Kd.C k89 w A0_2 l0_2.length l0_2) (hc0_2 : l0_2.length ≤ c0_2) (h : spec_flHas.f k a0_0 a0_1 l0_2 a1 = some r) :
 Calls Try.prog 50 #[.agg #[.int .i64 a0_0, .int .i64 a0_1, .slice A0_2 l0_2.length c0_2], .int .i64 a1] w fun e w' => e = .returned (.bool r) ∧ Below w.heap.size w w' := by
 have Av := Try.underlying32
 have A7 := Z.m hr0_2
 have A6 := Z.m hc0_2
 clear hr0_2 hc0_2
 have HB := Z.m (Below.refl w.heap.size w)
 have H : ((spec_boGood.f k a0_0 a0_1 l0_2).bind fun A4 => (if A4 = true then ((spec_l1In.f a1 0 (wrap64 (a0_1 - 1))).bind fun A1 => (some A1)) else (some false))) = some r := h
 clear h
 replace H := Option.bind_eq_some_iff.mp H
 obtain ⟨A4, As, H⟩ := H
 replace H : (if A4 = true then ((spec_l1In.f a1 0 (wrap64 (a0_1 - 1))).bind fun A1 => (some A1)) else (some false)) = some r := H
 have A3 := Z.m As
 clear As
 by_cases c4 : A4 = true
 ·subst c4
  have H1 : ((spec_l1In.f a1 0 (wrap64 (a0_1 - 1))).bind fun A1 => (some A1)) = some r := by rw [if_pos rfl] at H; exact H
  clear H
  have H := H1
  clear H1
  replace H := Option.bind_eq_some_iff.mp H
  obtain ⟨A1, At, H⟩ := H
  replace H : (some A1) = some r := H
  have A5 := Z.m At
  clear At
  obtain rfl := Option.some.inj H
  go_enter Try.func50, Try.ntmps50
  go_wp2_with (first | ((with_reducible refine gq (N := 2) rfl ?_); refine be (N := 2) (cs := #[.int .i64 a0_0, .int .i64 a0_1, .slice A0_2 l0_2.length c0_2]) (t := 32) ?_; intro A9 hg w6 hbox hb; have A0 := Z.m (hbox); have A2 := gW (w := w) HB hg; have A8 := A2; replace HB := bB HB hb; clear hb hbox hg; have Ag := bc0 A0; have Ah := bc1 A0; have Ai := bc2 A0; have Am := qz A0.o 0; have An := qz A0.o 1; have Ao := qz A0.o 2) | ((with_reducible refine gc (f := 58) rfl ?_); refine gA (some 6) _ #[.agg #[.int .i64 a0_0, .int .i64 a0_1, .slice A0_2 l0_2.length c0_2]] ?_ Try.func58; (with_reducible refine (spec_boGood.calls k a0_0 a0_1 _ _ l0_2 true _ ?side1 ?side2 A3.o).mono ?_); (case side1 => repeat (first | exact (Kd.C_below A7.o HB.o) | (with_reducible refine Kd.C_alloc ?_ _) | (with_reducible refine Kd.C_drewN ?_ _) | (with_reducible refine Kd.C_drew ?_))); (case side2 => exact A6.o); rintro e w8 ⟨rfl, hb⟩; refine ⟨_, rfl, ?_⟩; replace A0 := kB A0 hb; replace HB := bB HB hb; (try clear hb); (try clear Au); (try clear hk); (try clear hi); have Aj := bc0 A0; have Ak := bc1 A0; have Al := bc2 A0; have Ap := qz A0.o 0; have Aq := qz A0.o 1; have Ar := qz A0.o 2) | (go_at_call 71; (with_reducible refine (spec_l1In.calls a1 0 (wrap64 (a0_1 - 1)) A1 _ A5.o).mono ?_); rintro e w' ⟨rfl, ⟨nd, rfl⟩⟩))
  go_ret
  exact ⟨by first | rfl | (simp [eN, eS] <;> rfl) | (simp [*, eN, eS] <;> rfl), vB HB⟩
 ·replace c4 := Bool.eq_false_iff.mpr c4
  subst c4
  have H1 : (some false) = some r := by rw [if_neg (show ¬ (false = true) by decide)] at H; exact H
  clear H
  have H := H1
  clear H1
  obtain rfl := Option.some.inj H
  go_enter Try.func50, Try.ntmps50
  go_wp2_with (first | ((with_reducible refine gq (N := 2) rfl ?_); refine be (N := 2) (cs := #[.int .i64 a0_0, .int .i64 a0_1, .slice A0_2 l0_2.length c0_2]) (t := 32) ?_; intro A9 hg Aw hbox hb; have A0 := Z.m (hbox); have A2 := gW (w := w) HB hg; have A8 := A2; replace HB := bB HB hb; clear hb hbox hg; have Aa := bc0 A0; have Ab := bc1 A0; have Ac := bc2 A0; have Ad := qz A0.o 0; have Ae := qz A0.o 1; have Af := qz A0.o 2) | ((with_reducible refine gc (f := 58) rfl ?_); refine gA (some 6) _ #[.agg #[.int .i64 a0_0, .int .i64 a0_1, .slice A0_2 l0_2.length c0_2]] ?_ Try.func58; (with_reducible refine (spec_boGood.calls k a0_0 a0_1 _ _ l0_2 false _ ?side1 ?side2 A3.o).mono ?_); (case side1 => repeat (first | exact (Kd.C_below A7.o HB.o) | (with_reducible refine Kd.C_alloc ?_ _) | (with_reducible refine Kd.C_drewN ?_ _) | (with_reducible refine Kd.C_drew ?_))); (case side2 => exact A6.o); rintro e Ax ⟨rfl, hb⟩; refine ⟨_, rfl, ?_⟩; replace A0 := kB A0 hb; replace HB := bB HB hb; (try clear hb); (try clear Au); (try clear hk); (try clear hi)))
  go_ret
  exact ⟨by first | rfl | (simp [eN, eS] <;> rfl) | (simp [*, eN, eS] <;> rfl), vB HB⟩

/-! ### spec_ggGear: function 80 -/
def spec_ggGear.f (a0_0 : Int) (a0_1 : Int) : Option (Bool) := if a0_0 = 6 then (some true) else (some (a0_0 == 7))
set_option maxHeartbeats 8000000 in
set_option maxRecDepth 100000 in
theorem spec_ggGear.calls (a0_0 : Int) (a0_1 : Int) (r : Bool) (w : World) (h : spec_ggGear.f a0_0 a0_1 = some r) :
 Calls Try.prog 80 #[.agg #[.int .i64 a0_0, .int .i64 a0_1]] w fun e w' => e = .returned (.bool r) ∧ Below w.heap.size w w' := by
 have Ae := Try.underlying89
 have HB := Z.m (Below.refl w.heap.size w)
 have H : (if a0_0 = 6 then (some true) else (some (a0_0 == 7))) = some r := h
 clear h
 by_cases c2 : a0_0 = 6
 ·rw [if_pos c2] at H
  have A4 := beq_iff_eq.mpr c2
  have A5 := bne_eq_false_iff_eq.mpr c2
  clear c2
  obtain rfl := Option.some.inj H
  go_enter Try.func80, Try.ntmps80
  go_wp2_with (first | ((with_reducible refine gq (N := 1) rfl ?_); refine be (N := 1) (cs := #[.int .i64 a0_0, .int .i64 a0_1]) (t := 89) ?_; intro A3 hg w3 hbox hb; have A0 := Z.m (hbox); have A1 := gW (w := w) HB hg; have A2 := A1; replace HB := bB HB hb; clear hb hbox hg; have A6 := bc0 A0; have A7 := bc1 A0; have Aa := qz A0.o 0; have Ab := qz A0.o 1))
  go_ret
  exact ⟨by first | rfl | (simp [eN, eS] <;> rfl) | (simp [*, eN, eS] <;> rfl), vB HB⟩
 ·rw [if_neg c2] at H
  have A4 := beq_eq_false_iff_ne.mpr c2
  have A5 := bne_iff_ne.mpr c2
  obtain rfl := Option.some.inj H
  go_enter Try.func80, Try.ntmps80
  go_wp2_with (first | ((with_reducible refine gq (N := 1) rfl ?_); refine be (N := 1) (cs := #[.int .i64 a0_0, .int .i64 a0_1]) (t := 89) ?_; intro A3 hg w5 hbox hb; have A0 := Z.m (hbox); have A1 := gW (w := w) HB hg; have A2 := A1; replace HB := bB HB hb; clear hb hbox hg; have A8 := bc0 A0; have A9 := bc1 A0; have Ac := qz A0.o 0; have Ad := qz A0.o 1))
  go_ret
  exact ⟨by first | rfl | (simp [eN, eS] <;> rfl) | (simp [*, eN, eS] <;> rfl), vB HB⟩

end Go.Proofs.Ytoklfgjemfojgaa.PAll
