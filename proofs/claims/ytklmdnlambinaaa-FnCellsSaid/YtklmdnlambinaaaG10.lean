/- Began as a text that print.sh wrote (of the functions named below); turned and shortened by this session. -/
import Derived.Test.YtklmdnlambinaaaG0
import Derived.Test.YtklmdnlambinaaaG1
namespace Go.Proofs.Ytklmdnlambinaaa.PAll
open Go.RowKit Go.Proofs.YtklmdnlambinaaaW.PrintWords Go.Proofs.YtklmdnlambinaaaW.PrintLast Go.Proofs.YtklmdnlambinaaaW.PrintMore
attribute [local go_sem] max2_int min2_int max_two min_two max_three min_three max_four min_four   -- for this text's walks alone
set_option linter.unusedVariables false
set_option linter.unusedSimpArgs false

/-! ### spec_l1Cur_of: function 48 -/
def spec_l1Cur_of.f (s0_0 : List Int) (s0_1 : Int) (s0_2 : Int) (l1 : List ByteArray) : Option (ByteArray × Int × Int) := (spec_l1Cur_pick.f s0_0 s0_1 s0_2 (l1.length : Int)).bind fun bt251 => (if 0 ≤ bt251.1 then (if bt251.1 < (l1.length : Int) then (some (rdOf ByteArray.empty l1 bt251.1, bt251.2.1, bt251.2.2)) else (none)) else (none))
set_option maxHeartbeats 8000000 in
set_option maxRecDepth 100000 in
theorem spec_l1Cur_of.calls (g : Nat) (s0_0 : List Int) (s0_1 : Int) (s0_2 : Int) (A1 : Option Addr) (c1 : Nat) (l1 : List ByteArray) (r1 : ByteArray) (r2 : Int) (r3 : Int) (w0 w : World) (hI : IsS56 w0 w g s0_0 s0_1 s0_2) (hB : Below w0.heap.size w0 w) (hr1 : Kd.C Kd.string w A1 l1.length l1) (hc1 : l1.length ≤ c1) (hf1 : ∀ ad, A1 = some ad → 0 < l1.length → ad.block ≠ g) (h : spec_l1Cur_of.f s0_0 s0_1 s0_2 l1 = some (r1, r2, r3)) :
 Calls Try.prog 48 #[.pointer (some ⟨g, 0, none⟩), .slice A1 l1.length c1] w fun e w' => e = .returned (.string r1) ∧ IsS56 w0 w' g s0_0 r2 r3 ∧ Below w0.heap.size w0 w' ∧ KeepBut w w' g none := by
 have A8 := Z.m hr1
 have Ab := Z.m hc1
 clear hr1 hc1
 have HI0 := Z.m hI
 have HK := Z.m (KeepBut.refl w g none)
 have HL := Z.m hB.size
 clear hI
 have HW0 := Z.m hB.size
 have HB := Z.m hB
 clear hB
 have H : ((spec_l1Cur_pick.f s0_0 s0_1 s0_2 (l1.length : Int)).bind fun bt251 => (if 0 ≤ bt251.1 then (if bt251.1 < (l1.length : Int) then (some (rdOf ByteArray.empty l1 bt251.1, bt251.2.1, bt251.2.2)) else (none)) else (none))) = some (r1, r2, r3) := h
 clear h
 replace H := Option.bind_eq_some_iff.mp H
 obtain ⟨⟨A0, A5, A6⟩, A7, H⟩ := H
 replace H : (if 0 ≤ A0 then (if A0 < (l1.length : Int) then (some (rdOf ByteArray.empty l1 A0, A5, A6)) else (none)) else (none)) = some (r1, r2, r3) := H
 have A3 := Z.m A7
 clear A7
 by_cases c4 : 0 ≤ A0
 ·rw [if_pos c4] at H
  have A9 := decide_eq_true c4
  clear c4
  by_cases c5 : A0 < (l1.length : Int)
  ·rw [if_pos c5] at H
   have Aa := decide_eq_true c5
   clear c5
   simp only [Option.some.injEq, Prod.mk.injEq] at H
   obtain ⟨rfl, rfl, rfl⟩ := H
   go_enter Try.func48, Try.ntmps48
   go_wp2_with (first | ((with_reducible refine gc (f := 47) rfl ?_); refine gA (some 9) _ #[.pointer (some ⟨g, 0, none⟩), .int .i64 (l1.length : Int)] ?_ Try.func47; (with_reducible refine (spec_l1Cur_pick.calls g s0_0 s0_1 s0_2 (l1.length : Int) A0 A5 A6 w0 _ ?side1 ?side2 A3.o).mono ?_); (case side1 => repeat (first | (with_reducible first | exact HI0.o | apply IsS56.alloc | apply IsS56.drewN | apply IsS56.drew | apply IsS56.set_1 | apply IsS56.set_2) | exact HI0.o)); (case side2 => repeat (first | (with_reducible first | exact HB.o | apply qa | apply qn | apply qd | refine qx ?_ (IsS56.ge HI0.o)) | exact HB.o)); rintro e w6 ⟨rfl, hi, hb, hk⟩; refine ⟨_, rfl, ?_⟩; replace HK := Z.m (KeepBut.trans (by repeat (first | (with_reducible first | exact HK.o | apply KeepBut.set_ | apply keep_drewN | apply keep_drew | apply keep_alloc) | exact HK.o)) hk (.inl rfl)); replace HB := Z.m (hb); replace HI0 := Z.m (hi); (try clear hb); (try clear Ac); (try clear hk); (try clear hi); have p254 : 0 ≤ (A0 : Int) := ofD; have q254 : A0 < (l1.length : Int) := ofD; obtain ⟨A4, e254, A2⟩ := Kd.at_string A8.o A0 p254 q254; cases e254; replace A2 := keep_cell HK.o A2 (by first | (rw [add_block]; exact hf1 _ rfl (by omega)) | exact hf1 _ rfl (by omega) | exact hf1 A4 rfl (by omega)); replace p254 := eq_true p254; replace q254 := eq_true q254))
   go_ret
   exact ⟨by first | rfl | (simp [eN, eS] <;> rfl) | (simp [*, eN, eS] <;> rfl), by repeat (first | (with_reducible first | exact HI0.o | apply IsS56.alloc | apply IsS56.drewN | apply IsS56.drew | apply IsS56.set_1 | apply IsS56.set_2) | exact HI0.o), by repeat (first | (with_reducible first | exact HB.o | apply qa | apply qn | apply qd | refine qx ?_ (IsS56.ge HI0.o)) | exact HB.o), by repeat (first | (with_reducible first | exact HK.o | apply KeepBut.set_ | apply keep_drewN | apply keep_drew | apply keep_alloc) | exact HK.o)⟩
  ·rw [if_neg c5] at H
   exact absurd H (by simp)
 ·rw [if_neg c4] at H
  exact absurd H (by simp)

/-! ### spec_DrawReadCell: function 22 -/
def spec_DrawReadCell.f (l0 : List Int) : Option (ByteArray) := (spec_mkCur.f l0).bind fun bt255 => ((spec_l1Cur_of.f bt255.1 bt255.2.1 bt255.2.2 (([(⟨#[46]⟩ : ByteArray), (⟨#[108]⟩ : ByteArray), (⟨#[114]⟩ : ByteArray), (⟨#[102]⟩ : ByteArray), (⟨#[70]⟩ : ByteArray), (⟨#[120]⟩ : ByteArray), (⟨#[111]⟩ : ByteArray), (⟨#[103]⟩ : ByteArray), (⟨#[71]⟩ : ByteArray), (⟨#[99]⟩ : ByteArray), (⟨#[]⟩ : ByteArray), (⟨#[76]⟩ : ByteArray), (⟨#[102, 102]⟩ : ByteArray), (⟨#[63]⟩ : ByteArray)] : List ByteArray))).bind fun bt262 => (some bt262.1))
set_option maxHeartbeats 8000000 in
set_option maxRecDepth 100000 in
theorem spec_DrawReadCell.calls (A0 : Option Addr) (c0 : Nat) (l0 : List Int) (r : ByteArray) (w : World) (hr0 : Kd.C (Kd.int .u8) w A0 l0.length l0) (hc0 : l0.length ≤ c0) (h : spec_DrawReadCell.f l0 = some r) :
 Calls Try.prog 22 #[.slice A0 l0.length c0] w fun e w' => e = .returned (.string r) ∧ Below w.heap.size w w' := by
 have Al := Try.underlying56
 have Ai := Z.m hr0
 have An := Z.m hc0
 clear hr0 hc0
 have HB := Z.m (Below.refl w.heap.size w)
 have H : ((spec_mkCur.f l0).bind fun bt255 => ((spec_l1Cur_of.f bt255.1 bt255.2.1 bt255.2.2 (([(⟨#[46]⟩ : ByteArray), (⟨#[108]⟩ : ByteArray), (⟨#[114]⟩ : ByteArray), (⟨#[102]⟩ : ByteArray), (⟨#[70]⟩ : ByteArray), (⟨#[120]⟩ : ByteArray), (⟨#[111]⟩ : ByteArray), (⟨#[103]⟩ : ByteArray), (⟨#[71]⟩ : ByteArray), (⟨#[99]⟩ : ByteArray), (⟨#[]⟩ : ByteArray), (⟨#[76]⟩ : ByteArray), (⟨#[102, 102]⟩ : ByteArray), (⟨#[63]⟩ : ByteArray)] : List ByteArray))).bind fun bt262 => (some bt262.1))) = some r := h
 clear h
 replace H := Option.bind_eq_some_iff.mp H
 obtain ⟨⟨A5, A6, A7⟩, Af, H⟩ := H
 replace H : ((spec_l1Cur_of.f A5 A6 A7 (([(⟨#[46]⟩ : ByteArray), (⟨#[108]⟩ : ByteArray), (⟨#[114]⟩ : ByteArray), (⟨#[102]⟩ : ByteArray), (⟨#[70]⟩ : ByteArray), (⟨#[120]⟩ : ByteArray), (⟨#[111]⟩ : ByteArray), (⟨#[103]⟩ : ByteArray), (⟨#[71]⟩ : ByteArray), (⟨#[99]⟩ : ByteArray), (⟨#[]⟩ : ByteArray), (⟨#[76]⟩ : ByteArray), (⟨#[102, 102]⟩ : ByteArray), (⟨#[63]⟩ : ByteArray)] : List ByteArray))).bind fun bt262 => (some bt262.1)) = some r := H
 have A2 := Z.m Af
 clear Af
 obtain ⟨A9, A4⟩ : ∃ y_ : List ByteArray, y_ = (([(⟨#[46]⟩ : ByteArray), (⟨#[108]⟩ : ByteArray), (⟨#[114]⟩ : ByteArray), (⟨#[102]⟩ : ByteArray), (⟨#[70]⟩ : ByteArray), (⟨#[120]⟩ : ByteArray), (⟨#[111]⟩ : ByteArray), (⟨#[103]⟩ : ByteArray), (⟨#[71]⟩ : ByteArray), (⟨#[99]⟩ : ByteArray), (⟨#[]⟩ : ByteArray), (⟨#[76]⟩ : ByteArray), (⟨#[102, 102]⟩ : ByteArray), (⟨#[63]⟩ : ByteArray)] : List ByteArray)) := ⟨_, rfl⟩
 replace H : ((spec_l1Cur_of.f A5 A6 A7 A9).bind fun bt262 => (some bt262.1)) = some r := by first | (rw [A4]; with_reducible exact H) | (have H2_ := (Option.bind_some _ _).symm.trans H; rw [A4]; with_reducible exact H2_) | (have H2_ := (Option.bind_some _ _).symm.trans H; with_reducible exact H2_) | with_reducible exact H | (rw [A4]; exact H) | exact H
 have A8 := Z.m A4
 clear A4
 replace H := Option.bind_eq_some_iff.mp H
 obtain ⟨⟨Ab, Ad, Ae⟩, Ag, H⟩ := H
 replace H : (some Ab) = some r := H
 have A3 := Z.m Ag
 clear Ag
 obtain rfl := Option.some.inj H
 go_enter Try.func22, Try.ntmps22
 go_wp2_with (first | ((with_reducible refine gq (N := 6) rfl ?_); refine be (N := 6) (cs := #[.slice A0 l0.length c0, .int .i64 0, .int .u64 0]) (t := 56) ?_; intro g258 hgq w4 hboxq Ac; have hb : Below w.heap.size w w4 := below_step (vB HB) Ac; have hi : IsS56 w w4 g258 A5 A6 A7 := IsS56.made A2.o hboxq (by rw [hgq]; exact (below_size (vB HB))) Ai.o; clear hgq hboxq; have HI258 := Z.m (hi); replace HB := Z.m (hb); (try clear hb); (try clear Ac); (try clear hk); (try clear hi)) | ((with_reducible refine gq (N := 8) rfl ?_); refine Kd.R_lit Kd.string _ 9 ?hg (N := 8) ?hd (xs := ([(⟨#[46]⟩ : ByteArray), (⟨#[108]⟩ : ByteArray), (⟨#[114]⟩ : ByteArray), (⟨#[102]⟩ : ByteArray), (⟨#[70]⟩ : ByteArray), (⟨#[120]⟩ : ByteArray), (⟨#[111]⟩ : ByteArray), (⟨#[103]⟩ : ByteArray), (⟨#[71]⟩ : ByteArray), (⟨#[99]⟩ : ByteArray), (⟨#[]⟩ : ByteArray), (⟨#[76]⟩ : ByteArray), (⟨#[102, 102]⟩ : ByteArray), (⟨#[63]⟩ : ByteArray)] : List ByteArray)) (inner := [.string (⟨#[46]⟩ : ByteArray), .string (⟨#[108]⟩ : ByteArray), .string (⟨#[114]⟩ : ByteArray), .string (⟨#[102]⟩ : ByteArray), .string (⟨#[70]⟩ : ByteArray), .string (⟨#[120]⟩ : ByteArray), .string (⟨#[111]⟩ : ByteArray), .string (⟨#[103]⟩ : ByteArray), .string (⟨#[71]⟩ : ByteArray), .string (⟨#[99]⟩ : ByteArray), .string (⟨#[]⟩ : ByteArray), .string (⟨#[76]⟩ : ByteArray), .string (⟨#[102, 102]⟩ : ByteArray), .string (⟨#[63]⟩ : ByteArray)]) (ok := fun _ => True) (okp := fun _ => True) ?hr ?hp (fun _ hk => hk) trivial (Below.refl _ _) (Nat.le_refl _) (by simp) ?_; (case hd => rfl); (case hg => rfl); (case hr => first | (go_simp; done) | (go_simp; rfl)); (case hp => exact (Reps.one (show Kd.M Kd.string _ _ _ (⟨#[46]⟩ : ByteArray) [.string (⟨#[46]⟩ : ByteArray)] from rfl) (Reps.one (show Kd.M Kd.string _ _ _ (⟨#[108]⟩ : ByteArray) [.string (⟨#[108]⟩ : ByteArray)] from rfl) (Reps.one (show Kd.M Kd.string _ _ _ (⟨#[114]⟩ : ByteArray) [.string (⟨#[114]⟩ : ByteArray)] from rfl) (Reps.one (show Kd.M Kd.string _ _ _ (⟨#[102]⟩ : ByteArray) [.string (⟨#[102]⟩ : ByteArray)] from rfl) (Reps.one (show Kd.M Kd.string _ _ _ (⟨#[70]⟩ : ByteArray) [.string (⟨#[70]⟩ : ByteArray)] from rfl) (Reps.one (show Kd.M Kd.string _ _ _ (⟨#[120]⟩ : ByteArray) [.string (⟨#[120]⟩ : ByteArray)] from rfl) (Reps.one (show Kd.M Kd.string _ _ _ (⟨#[111]⟩ : ByteArray) [.string (⟨#[111]⟩ : ByteArray)] from rfl) (Reps.one (show Kd.M Kd.string _ _ _ (⟨#[103]⟩ : ByteArray) [.string (⟨#[103]⟩ : ByteArray)] from rfl) (Reps.one (show Kd.M Kd.string _ _ _ (⟨#[71]⟩ : ByteArray) [.string (⟨#[71]⟩ : ByteArray)] from rfl) (Reps.one (show Kd.M Kd.string _ _ _ (⟨#[99]⟩ : ByteArray) [.string (⟨#[99]⟩ : ByteArray)] from rfl) (Reps.one (show Kd.M Kd.string _ _ _ (⟨#[]⟩ : ByteArray) [.string (⟨#[]⟩ : ByteArray)] from rfl) (Reps.one (show Kd.M Kd.string _ _ _ (⟨#[76]⟩ : ByteArray) [.string (⟨#[76]⟩ : ByteArray)] from rfl) (Reps.one (show Kd.M Kd.string _ _ _ (⟨#[102, 102]⟩ : ByteArray) [.string (⟨#[102, 102]⟩ : ByteArray)] from rfl) (Reps.one (show Kd.M Kd.string _ _ _ (⟨#[63]⟩ : ByteArray) [.string (⟨#[63]⟩ : ByteArray)] from rfl) (Reps.none _ _)))))))))))))))); intro Am w5 Aa hb hg_ hnew_; clear hg_ hnew_; (first | rw [← A8.o] at Aa | (simp only [Int.reduceToNat] at Aa; rw [← A8.o] at Aa)); have A1 := Z.m (Kd.R_lower Aa (below_size (by repeat (first | (with_reducible first | exact HB.o | apply qa | apply qn | apply qd | refine qx ?_ (IsS56.ge HI258.o)) | exact HB.o)))); replace HB := Z.m (below_step (by repeat (first | (with_reducible first | exact HB.o | apply qa | apply qn | apply qd | refine qx ?_ (IsS56.ge HI258.o)) | exact HB.o)) hb); replace HI258 := Z.m (IsS56.below (by repeat (first | (with_reducible first | exact HI258.o | apply IsS56.alloc | apply IsS56.drewN | apply IsS56.drew | apply IsS56.set_1 | apply IsS56.set_2) | exact HI258.o)) hb); clear hb Aa; obtain ⟨Ah, Aj, Ak⟩ := Kd.R_slice A1.o; subst Ak) | ((with_reducible refine gc (f := 48) rfl ?_); refine gA (some 9) _ #[.pointer (some ⟨g258, 0, none⟩), .slice Ah A9.length Aj] ?_ Try.func48; (with_reducible refine (spec_l1Cur_of.calls g258 A5 A6 A7 _ _ A9 Ab Ad Ae w _ ?side1 ?side2 ?side3 ?side4 ?side5 A3.o).mono ?_); (case side1 => repeat (first | (with_reducible first | exact HI258.o | apply IsS56.alloc | apply IsS56.drewN | apply IsS56.drew | apply IsS56.set_1 | apply IsS56.set_2) | exact HI258.o)); (case side2 => repeat (first | (with_reducible first | exact HB.o | apply qa | apply qn | apply qd | refine qx ?_ (IsS56.ge HI258.o)) | exact HB.o)); (case side3 => repeat (first | exact (Kd.RrZ A1.o).2.2 | (with_reducible refine Kd.C_alloc ?_ _) | (with_reducible refine Kd.C_drewN ?_ _) | (with_reducible refine Kd.C_drew ?_))); (case side4 => exact (Kd.RrZ A1.o).2.1); (case side5 => exact far_slice (IsS56.own_ne HI258.o A1.o (by decide))); rintro e w8 ⟨rfl, hi, hb, hk⟩; refine ⟨_, rfl, ?_⟩; replace A1 := Z.m (Kd.Rm (Kd.R_keep (IsS56.apart (show IsS56 w _ g258 A5 A6 A7 from by repeat (first | (with_reducible first | exact HI258.o | apply IsS56.alloc | apply IsS56.drewN | apply IsS56.drew | apply IsS56.set_1 | apply IsS56.set_2) | exact HI258.o)) (vR A1) (by decide)) hk (fun _ h => h.2)) (fun _ h => h.1)); replace HB := Z.m (hb); replace HI258 := Z.m (hi); (try clear hb); (try clear Ac); (try clear hk); (try clear hi)))
 go_ret
 exact ⟨by first | rfl | (simp [eN, eS] <;> rfl) | (simp [*, eN, eS] <;> rfl), by repeat (first | (with_reducible first | exact HB.o | apply qa | apply qn | apply qd | refine qx ?_ (IsS56.ge HI258.o)) | exact HB.o)⟩

end Go.Proofs.Ytklmdnlambinaaa.PAll
