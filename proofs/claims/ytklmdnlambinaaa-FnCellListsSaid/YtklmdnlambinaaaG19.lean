/- Began as a text that print.sh wrote (of the functions named below); turned and shortened by this session. -/
import Derived.Test.YtklmdnlambinaaaG0
import Derived.Test.YtklmdnlambinaaaG1
import Derived.Test.YtklmdnlambinaaaG2
import Derived.Test.YtklmdnlambinaaaG4
import Derived.Test.YtklmdnlambinaaaG11
import Derived.Test.YtklmdnlambinaaaG14
import Derived.Test.YtklmdnlambinaaaG15
import Derived.Test.YtklmdnlambinaaaG18
namespace Go.Proofs.Ytklmdnlambinaaa.PAll
open Go.RowKit Go.Proofs.YtklmdnlambinaaaW.PrintWords Go.Proofs.YtklmdnlambinaaaW.PrintLast Go.Proofs.YtklmdnlambinaaaW.PrintMore
attribute [local go_sem] max2_int min2_int max_two min_two max_three min_three max_four min_four   -- for this text's walks alone
set_option linter.unusedVariables false
set_option linter.unusedSimpArgs false

/-! ### spec_DrawReadCells: function 33 -/
def spec_DrawReadCells.l0 : Nat → ByteArray → Int → Option (ByteArray)
 | 0, _, _ => none
 | k + 1, x5, x6 => if (x5.size : Int) < x6 then (if x5.size + 1 ≤ 9223372036854775807 then (spec_DrawReadCells.l0 k (x5 ++ (⟨#[102]⟩ : ByteArray)) x6) else (none)) else (some x5)
def spec_DrawReadCells.f (k : Nat) (l0 : List Int) : Option (ByteArray) := (spec_mkCur.f l0).bind fun bt453 => ((spec_l1Cur_cells.f k bt453.1 bt453.2.1 bt453.2.2).bind fun bt457 => ((spec_paList.f k bt457.1).bind fun t462 => (if t462 = true then ((spec_paText.f k bt457.1).bind fun t466 => ((spec_l1Cur_one.f bt453.1 bt457.2.1 bt457.2.2 3).bind fun bt467 => (if bt467.1 = true then ((spec_l1Cur_spoilt.f k bt453.1 bt467.2.1 bt467.2.2 t466 (⟨#[46, 108, 102, 70, 120, 113]⟩ : ByteArray)).bind fun bt470 => (some bt470.1)) else (some t466)))) else ((spec_l1Cur_pick.f bt453.1 bt457.2.1 bt457.2.2 2).bind fun bt463 => (spec_DrawReadCells.l0 k (⟨#[]⟩ : ByteArray) (wrap64 (90 + bt463.1)))))))
set_option maxHeartbeats 8000000 in
set_option maxRecDepth 100000 in
theorem spec_DrawReadCells.calls (k : Nat) (A0 : Option Addr) (c0 : Nat) (l0 : List Int) (r : ByteArray) (w : World) (hr0 : Kd.C (Kd.int .u8) w A0 l0.length l0) (hc0 : l0.length ≤ c0) (h : spec_DrawReadCells.f k l0 = some r) :
 Calls Try.prog 33 #[.slice A0 l0.length c0] w fun e w' => e = .returned (.string r) ∧ Below w.heap.size w w' := by
 have AT := Try.underlying56
 have Aw := Z.m hr0
 have AU := Z.m hc0
 clear hr0 hc0
 have HB := Z.m (Below.refl w.heap.size w)
 have H : ((spec_mkCur.f l0).bind fun bt453 => ((spec_l1Cur_cells.f k bt453.1 bt453.2.1 bt453.2.2).bind fun bt457 => ((spec_paList.f k bt457.1).bind fun Ae => (if Ae = true then ((spec_paText.f k bt457.1).bind fun A8 => ((spec_l1Cur_one.f bt453.1 bt457.2.1 bt457.2.2 3).bind fun bt467 => (if bt467.1 = true then ((spec_l1Cur_spoilt.f k bt453.1 bt467.2.1 bt467.2.2 A8 (⟨#[46, 108, 102, 70, 120, 113]⟩ : ByteArray)).bind fun bt470 => (some bt470.1)) else (some A8)))) else ((spec_l1Cur_pick.f bt453.1 bt457.2.1 bt457.2.2 2).bind fun bt463 => (spec_DrawReadCells.l0 k (⟨#[]⟩ : ByteArray) (wrap64 (90 + bt463.1)))))))) = some r := h
 clear h
 replace H := Option.bind_eq_some_iff.mp H
 obtain ⟨⟨A5, Af, Ag⟩, AF, H⟩ := H
 replace H : ((spec_l1Cur_cells.f k A5 Af Ag).bind fun bt457 => ((spec_paList.f k bt457.1).bind fun Ae => (if Ae = true then ((spec_paText.f k bt457.1).bind fun A8 => ((spec_l1Cur_one.f A5 bt457.2.1 bt457.2.2 3).bind fun bt467 => (if bt467.1 = true then ((spec_l1Cur_spoilt.f k A5 bt467.2.1 bt467.2.2 A8 (⟨#[46, 108, 102, 70, 120, 113]⟩ : ByteArray)).bind fun bt470 => (some bt470.1)) else (some A8)))) else ((spec_l1Cur_pick.f A5 bt457.2.1 bt457.2.2 2).bind fun bt463 => (spec_DrawReadCells.l0 k (⟨#[]⟩ : ByteArray) (wrap64 (90 + bt463.1))))))) = some r := H
 have A2 := Z.m AF
 clear AF
 replace H := Option.bind_eq_some_iff.mp H
 obtain ⟨⟨Aa, Ab, Ac⟩, AG, H⟩ := H
 replace H : ((spec_paList.f k Aa).bind fun Ae => (if Ae = true then ((spec_paText.f k Aa).bind fun A8 => ((spec_l1Cur_one.f A5 Ab Ac 3).bind fun bt467 => (if bt467.1 = true then ((spec_l1Cur_spoilt.f k A5 bt467.2.1 bt467.2.2 A8 (⟨#[46, 108, 102, 70, 120, 113]⟩ : ByteArray)).bind fun bt470 => (some bt470.1)) else (some A8)))) else ((spec_l1Cur_pick.f A5 Ab Ac 2).bind fun bt463 => (spec_DrawReadCells.l0 k (⟨#[]⟩ : ByteArray) (wrap64 (90 + bt463.1)))))) = some r := H
 have A3 := Z.m AG
 clear AG
 replace H := Option.bind_eq_some_iff.mp H
 obtain ⟨Ae, AH, H⟩ := H
 replace H : (if Ae = true then ((spec_paText.f k Aa).bind fun A8 => ((spec_l1Cur_one.f A5 Ab Ac 3).bind fun bt467 => (if bt467.1 = true then ((spec_l1Cur_spoilt.f k A5 bt467.2.1 bt467.2.2 A8 (⟨#[46, 108, 102, 70, 120, 113]⟩ : ByteArray)).bind fun bt470 => (some bt470.1)) else (some A8)))) else ((spec_l1Cur_pick.f A5 Ab Ac 2).bind fun bt463 => (spec_DrawReadCells.l0 k (⟨#[]⟩ : ByteArray) (wrap64 (90 + bt463.1))))) = some r := H
 have A4 := Z.m AH
 clear AH
 by_cases c5 : Ae = true
 ·subst c5
  have H1 : ((spec_paText.f k Aa).bind fun A8 => ((spec_l1Cur_one.f A5 Ab Ac 3).bind fun bt467 => (if bt467.1 = true then ((spec_l1Cur_spoilt.f k A5 bt467.2.1 bt467.2.2 A8 (⟨#[46, 108, 102, 70, 120, 113]⟩ : ByteArray)).bind fun bt470 => (some bt470.1)) else (some A8)))) = some r := by rw [if_pos rfl] at H; exact H
  clear H
  have H := H1
  clear H1
  replace H := Option.bind_eq_some_iff.mp H
  obtain ⟨A8, AI, H⟩ := H
  replace H : ((spec_l1Cur_one.f A5 Ab Ac 3).bind fun bt467 => (if bt467.1 = true then ((spec_l1Cur_spoilt.f k A5 bt467.2.1 bt467.2.2 A8 (⟨#[46, 108, 102, 70, 120, 113]⟩ : ByteArray)).bind fun bt470 => (some bt470.1)) else (some A8))) = some r := H
  have A6 := Z.m AI
  clear AI
  replace H := Option.bind_eq_some_iff.mp H
  obtain ⟨⟨As, Ai, Aj⟩, AJ, H⟩ := H
  replace H : (if As = true then ((spec_l1Cur_spoilt.f k A5 Ai Aj A8 (⟨#[46, 108, 102, 70, 120, 113]⟩ : ByteArray)).bind fun bt470 => (some bt470.1)) else (some A8)) = some r := H
  have A7 := Z.m AJ
  clear AJ
  by_cases c8 : As = true
  ·subst c8
   have H1 : ((spec_l1Cur_spoilt.f k A5 Ai Aj A8 (⟨#[46, 108, 102, 70, 120, 113]⟩ : ByteArray)).bind fun bt470 => (some bt470.1)) = some r := by rw [if_pos rfl] at H; exact H
   clear H
   have H := H1
   clear H1
   replace H := Option.bind_eq_some_iff.mp H
   obtain ⟨⟨At, AD, AE⟩, AK, H⟩ := H
   replace H : (some At) = some r := H
   have A9 := Z.m AK
   clear AK
   obtain rfl := Option.some.inj H
   go_enter Try.func33, Try.ntmps33
   go_wp2_with (first | ((with_reducible refine gq (N := 10) rfl ?_); refine be (N := 10) (cs := #[.slice A0 l0.length c0, .int .i64 0, .int .u64 0]) (t := 56) ?_; intro g456 hgq AP hboxq Ad; have hb : Below w.heap.size w AP := below_step (vB HB) Ad; have hi : IsS56 w AP g456 A5 Af Ag := IsS56.made A2.o hboxq (by rw [hgq]; exact (below_size (vB HB))) Aw.o; clear hgq hboxq; have HI456 := Z.m (hi); replace HB := Z.m (hb); (try clear hb); (try clear Ad); (try clear hk); (try clear hi)) | ((with_reducible refine gc (f := 50) rfl ?_); refine gA (some 12) _ #[.pointer (some ⟨g456, 0, none⟩)] ?_ Try.func50; (with_reducible refine (spec_l1Cur_cells.calls k g456 A5 Af Ag Aa Ab Ac w _ ?side1 ?side2 A3.o).mono ?_); (case side1 => repeat (first | (with_reducible first | exact HI456.o | apply IsS56.alloc | apply IsS56.drewN | apply IsS56.drew | apply IsS56.set_1 | apply IsS56.set_2) | exact HI456.o)); (case side2 => repeat (first | (with_reducible first | exact HB.o | apply qa | apply qn | apply qd | refine qx ?_ (IsS56.ge HI456.o)) | exact HB.o)); rintro e AV ⟨Au, rfl, Al, hi, hb, hk⟩; refine ⟨_, rfl, ?_⟩; have A1 := Z.m (Kd.R_lower Al (below_size (by repeat (first | (with_reducible first | exact HB.o | apply qa | apply qn | apply qd | refine qx ?_ (IsS56.ge HI456.o)) | exact HB.o)))); replace HB := Z.m (hb); replace HI456 := Z.m (hi); (try clear hb); (try clear Ad); (try clear hk); (try clear hi); (try clear Al); obtain ⟨An, Aq, Ay⟩ := Kd.R_slice A1.o; subst Ay) | ((with_reducible refine gc (f := 52) rfl ?_); refine gA (some 14) _ #[.slice An Aa.length Aq] ?_ Try.func52; (with_reducible refine (spec_paList.calls k _ _ Aa true _ ?side1 ?side2 A4.o).mono ?_); (case side1 => repeat (first | exact (Kd.RrZ A1.o).2.2 | (with_reducible refine Kd.C_alloc ?_ _) | (with_reducible refine Kd.C_drewN ?_ _) | (with_reducible refine Kd.C_drew ?_))); (case side2 => exact (Kd.RrZ A1.o).2.1); rintro e AW ⟨rfl, hb⟩; refine ⟨_, rfl, ?_⟩; replace A1 := Z.m (Kd.Rb (vR A1) hb); replace HB := Z.m (below_step (by repeat (first | (with_reducible first | exact HB.o | apply qa | apply qn | apply qd | refine qx ?_ (IsS56.ge HI456.o)) | exact HB.o)) hb); replace HI456 := Z.m (IsS56.below (by repeat (first | (with_reducible first | exact HI456.o | apply IsS56.alloc | apply IsS56.drewN | apply IsS56.drew | apply IsS56.set_1 | apply IsS56.set_2) | exact HI456.o)) hb); (try clear hb); (try clear Ad); (try clear hk); (try clear hi)) | ((with_reducible refine gc (f := 53) rfl ?_); refine gA (some 27) _ #[.slice An Aa.length Aq] ?_ Try.func53; (with_reducible refine (spec_paText.calls k _ _ Aa A8 _ ?side1 ?side2 A6.o).mono ?_); (case side1 => repeat (first | exact (Kd.RrZ A1.o).2.2 | (with_reducible refine Kd.C_alloc ?_ _) | (with_reducible refine Kd.C_drewN ?_ _) | (with_reducible refine Kd.C_drew ?_))); (case side2 => exact (Kd.RrZ A1.o).2.1); rintro e AX ⟨rfl, hb⟩; refine ⟨_, rfl, ?_⟩; replace A1 := Z.m (Kd.Rb (vR A1) hb); replace HB := Z.m (below_step (by repeat (first | (with_reducible first | exact HB.o | apply qa | apply qn | apply qd | refine qx ?_ (IsS56.ge HI456.o)) | exact HB.o)) hb); replace HI456 := Z.m (IsS56.below (by repeat (first | (with_reducible first | exact HI456.o | apply IsS56.alloc | apply IsS56.drewN | apply IsS56.drew | apply IsS56.set_1 | apply IsS56.set_2) | exact HI456.o)) hb); (try clear hb); (try clear Ad); (try clear hk); (try clear hi)) | ((with_reducible refine gc (f := 54) rfl ?_); refine gA (some 29) _ #[.pointer (some ⟨g456, 0, none⟩), .int .i64 3] ?_ Try.func54; (with_reducible refine (spec_l1Cur_one.calls g456 A5 Ab Ac 3 true Ai Aj w _ ?side1 ?side2 A7.o).mono ?_); (case side1 => repeat (first | (with_reducible first | exact HI456.o | apply IsS56.alloc | apply IsS56.drewN | apply IsS56.drew | apply IsS56.set_1 | apply IsS56.set_2) | exact HI456.o)); (case side2 => repeat (first | (with_reducible first | exact HB.o | apply qa | apply qn | apply qd | refine qx ?_ (IsS56.ge HI456.o)) | exact HB.o)); rintro e AY ⟨rfl, hi, hb, hk⟩; refine ⟨_, rfl, ?_⟩; replace A1 := Z.m (Kd.Rm (Kd.R_keep (IsS56.apart (show IsS56 w _ g456 A5 Ab Ac from by repeat (first | (with_reducible first | exact HI456.o | apply IsS56.alloc | apply IsS56.drewN | apply IsS56.drew | apply IsS56.set_1 | apply IsS56.set_2) | exact HI456.o)) (vR A1) (by decide)) hk (fun _ h => h.2)) (fun _ h => h.1)); replace HB := Z.m (hb); replace HI456 := Z.m (hi); (try clear hb); (try clear Ad); (try clear hk); (try clear hi)) | ((with_reducible refine gc (f := 55) rfl ?_); refine gA (some 32) _ #[.pointer (some ⟨g456, 0, none⟩), .string A8, .string (⟨#[46, 108, 102, 70, 120, 113]⟩ : ByteArray)] ?_ Try.func55; (with_reducible refine (spec_l1Cur_spoilt.calls k g456 A5 Ai Aj A8 (⟨#[46, 108, 102, 70, 120, 113]⟩ : ByteArray) At AD AE w _ ?side1 ?side2 A9.o).mono ?_); (case side1 => repeat (first | (with_reducible first | exact HI456.o | apply IsS56.alloc | apply IsS56.drewN | apply IsS56.drew | apply IsS56.set_1 | apply IsS56.set_2) | exact HI456.o)); (case side2 => repeat (first | (with_reducible first | exact HB.o | apply qa | apply qn | apply qd | refine qx ?_ (IsS56.ge HI456.o)) | exact HB.o)); rintro e AZ ⟨rfl, hi, hb, hk⟩; refine ⟨_, rfl, ?_⟩; replace A1 := Z.m (Kd.Rm (Kd.R_keep (IsS56.apart (show IsS56 w _ g456 A5 Ai Aj from by repeat (first | (with_reducible first | exact HI456.o | apply IsS56.alloc | apply IsS56.drewN | apply IsS56.drew | apply IsS56.set_1 | apply IsS56.set_2) | exact HI456.o)) (vR A1) (by decide)) hk (fun _ h => h.2)) (fun _ h => h.1)); replace HB := Z.m (hb); replace HI456 := Z.m (hi); (try clear hb); (try clear Ad); (try clear hk); (try clear hi)))
   go_ret
   exact ⟨by first | rfl | (simp [eN, eS] <;> rfl) | (simp [*, eN, eS] <;> rfl), by repeat (first | (with_reducible first | exact HB.o | apply qa | apply qn | apply qd | refine qx ?_ (IsS56.ge HI456.o)) | exact HB.o)⟩
  ·replace c8 := Bool.eq_false_iff.mpr c8
   subst c8
   have H1 : (some A8) = some r := by rw [if_neg (show ¬ (false = true) by decide)] at H; exact H
   clear H
   have H := H1
   clear H1
   obtain rfl := Option.some.inj H
   go_enter Try.func33, Try.ntmps33
   go_wp2_with (first | ((with_reducible refine gq (N := 10) rfl ?_); refine be (N := 10) (cs := #[.slice A0 l0.length c0, .int .i64 0, .int .u64 0]) (t := 56) ?_; intro g456 hgq AQ hboxq Ad; have hb : Below w.heap.size w AQ := below_step (vB HB) Ad; have hi : IsS56 w AQ g456 A5 Af Ag := IsS56.made A2.o hboxq (by rw [hgq]; exact (below_size (vB HB))) Aw.o; clear hgq hboxq; have HI456 := Z.m (hi); replace HB := Z.m (hb); (try clear hb); (try clear Ad); (try clear hk); (try clear hi)) | ((with_reducible refine gc (f := 50) rfl ?_); refine gA (some 12) _ #[.pointer (some ⟨g456, 0, none⟩)] ?_ Try.func50; (with_reducible refine (spec_l1Cur_cells.calls k g456 A5 Af Ag Aa Ab Ac w _ ?side1 ?side2 A3.o).mono ?_); (case side1 => repeat (first | (with_reducible first | exact HI456.o | apply IsS56.alloc | apply IsS56.drewN | apply IsS56.drew | apply IsS56.set_1 | apply IsS56.set_2) | exact HI456.o)); (case side2 => repeat (first | (with_reducible first | exact HB.o | apply qa | apply qn | apply qd | refine qx ?_ (IsS56.ge HI456.o)) | exact HB.o)); rintro e B0 ⟨Au, rfl, Al, hi, hb, hk⟩; refine ⟨_, rfl, ?_⟩; have A1 := Z.m (Kd.R_lower Al (below_size (by repeat (first | (with_reducible first | exact HB.o | apply qa | apply qn | apply qd | refine qx ?_ (IsS56.ge HI456.o)) | exact HB.o)))); replace HB := Z.m (hb); replace HI456 := Z.m (hi); (try clear hb); (try clear Ad); (try clear hk); (try clear hi); (try clear Al); obtain ⟨Ao, Ar, Az⟩ := Kd.R_slice A1.o; subst Az) | ((with_reducible refine gc (f := 52) rfl ?_); refine gA (some 14) _ #[.slice Ao Aa.length Ar] ?_ Try.func52; (with_reducible refine (spec_paList.calls k _ _ Aa true _ ?side1 ?side2 A4.o).mono ?_); (case side1 => repeat (first | exact (Kd.RrZ A1.o).2.2 | (with_reducible refine Kd.C_alloc ?_ _) | (with_reducible refine Kd.C_drewN ?_ _) | (with_reducible refine Kd.C_drew ?_))); (case side2 => exact (Kd.RrZ A1.o).2.1); rintro e B1 ⟨rfl, hb⟩; refine ⟨_, rfl, ?_⟩; replace A1 := Z.m (Kd.Rb (vR A1) hb); replace HB := Z.m (below_step (by repeat (first | (with_reducible first | exact HB.o | apply qa | apply qn | apply qd | refine qx ?_ (IsS56.ge HI456.o)) | exact HB.o)) hb); replace HI456 := Z.m (IsS56.below (by repeat (first | (with_reducible first | exact HI456.o | apply IsS56.alloc | apply IsS56.drewN | apply IsS56.drew | apply IsS56.set_1 | apply IsS56.set_2) | exact HI456.o)) hb); (try clear hb); (try clear Ad); (try clear hk); (try clear hi)) | ((with_reducible refine gc (f := 53) rfl ?_); refine gA (some 27) _ #[.slice Ao Aa.length Ar] ?_ Try.func53; (with_reducible refine (spec_paText.calls k _ _ Aa A8 _ ?side1 ?side2 A6.o).mono ?_); (case side1 => repeat (first | exact (Kd.RrZ A1.o).2.2 | (with_reducible refine Kd.C_alloc ?_ _) | (with_reducible refine Kd.C_drewN ?_ _) | (with_reducible refine Kd.C_drew ?_))); (case side2 => exact (Kd.RrZ A1.o).2.1); rintro e B2 ⟨rfl, hb⟩; refine ⟨_, rfl, ?_⟩; replace A1 := Z.m (Kd.Rb (vR A1) hb); replace HB := Z.m (below_step (by repeat (first | (with_reducible first | exact HB.o | apply qa | apply qn | apply qd | refine qx ?_ (IsS56.ge HI456.o)) | exact HB.o)) hb); replace HI456 := Z.m (IsS56.below (by repeat (first | (with_reducible first | exact HI456.o | apply IsS56.alloc | apply IsS56.drewN | apply IsS56.drew | apply IsS56.set_1 | apply IsS56.set_2) | exact HI456.o)) hb); (try clear hb); (try clear Ad); (try clear hk); (try clear hi)) | ((with_reducible refine gc (f := 54) rfl ?_); refine gA (some 29) _ #[.pointer (some ⟨g456, 0, none⟩), .int .i64 3] ?_ Try.func54; (with_reducible refine (spec_l1Cur_one.calls g456 A5 Ab Ac 3 false Ai Aj w _ ?side1 ?side2 A7.o).mono ?_); (case side1 => repeat (first | (with_reducible first | exact HI456.o | apply IsS56.alloc | apply IsS56.drewN | apply IsS56.drew | apply IsS56.set_1 | apply IsS56.set_2) | exact HI456.o)); (case side2 => repeat (first | (with_reducible first | exact HB.o | apply qa | apply qn | apply qd | refine qx ?_ (IsS56.ge HI456.o)) | exact HB.o)); rintro e B3 ⟨rfl, hi, hb, hk⟩; refine ⟨_, rfl, ?_⟩; replace A1 := Z.m (Kd.Rm (Kd.R_keep (IsS56.apart (show IsS56 w _ g456 A5 Ab Ac from by repeat (first | (with_reducible first | exact HI456.o | apply IsS56.alloc | apply IsS56.drewN | apply IsS56.drew | apply IsS56.set_1 | apply IsS56.set_2) | exact HI456.o)) (vR A1) (by decide)) hk (fun _ h => h.2)) (fun _ h => h.1)); replace HB := Z.m (hb); replace HI456 := Z.m (hi); (try clear hb); (try clear Ad); (try clear hk); (try clear hi)))
   go_ret
   exact ⟨by first | rfl | (simp [eN, eS] <;> rfl) | (simp [*, eN, eS] <;> rfl), by repeat (first | (with_reducible first | exact HB.o | apply qa | apply qn | apply qd | refine qx ?_ (IsS56.ge HI456.o)) | exact HB.o)⟩
 ·replace c5 := Bool.eq_false_iff.mpr c5
  subst c5
  have H1 : ((spec_l1Cur_pick.f A5 Ab Ac 2).bind fun bt463 => (spec_DrawReadCells.l0 k (⟨#[]⟩ : ByteArray) (wrap64 (90 + bt463.1)))) = some r := by rw [if_neg (show ¬ (false = true) by decide)] at H; exact H
  clear H
  have H := H1
  clear H1
  replace H := Option.bind_eq_some_iff.mp H
  obtain ⟨⟨Ak, AB, AC⟩, Am, H⟩ := H
  replace H : (spec_DrawReadCells.l0 k (⟨#[]⟩ : ByteArray) (wrap64 (90 + Ak))) = some r := H
  have AS := Z.m Am
  clear Am
  have H' := Z.m H
  clear H
  go_enter Try.func33, Try.ntmps33
  go_wp2_with (first | ((with_reducible refine gq (N := 10) rfl ?_); refine be (N := 10) (cs := #[.slice A0 l0.length c0, .int .i64 0, .int .u64 0]) (t := 56) ?_; intro g456 hgq AR hboxq Ad; have hb : Below w.heap.size w AR := below_step (vB HB) Ad; have hi : IsS56 w AR g456 A5 Af Ag := IsS56.made A2.o hboxq (by rw [hgq]; exact (below_size (vB HB))) Aw.o; clear hgq hboxq; have HI456 := Z.m (hi); replace HB := Z.m (hb); (try clear hb); (try clear Ad); (try clear hk); (try clear hi)) | ((with_reducible refine gc (f := 50) rfl ?_); refine gA (some 12) _ #[.pointer (some ⟨g456, 0, none⟩)] ?_ Try.func50; (with_reducible refine (spec_l1Cur_cells.calls k g456 A5 Af Ag Aa Ab Ac w _ ?side1 ?side2 A3.o).mono ?_); (case side1 => repeat (first | (with_reducible first | exact HI456.o | apply IsS56.alloc | apply IsS56.drewN | apply IsS56.drew | apply IsS56.set_1 | apply IsS56.set_2) | exact HI456.o)); (case side2 => repeat (first | (with_reducible first | exact HB.o | apply qa | apply qn | apply qd | refine qx ?_ (IsS56.ge HI456.o)) | exact HB.o)); rintro e B4 ⟨Au, rfl, Al, hi, hb, hk⟩; refine ⟨_, rfl, ?_⟩; have A1 := Z.m (Kd.R_lower Al (below_size (by repeat (first | (with_reducible first | exact HB.o | apply qa | apply qn | apply qd | refine qx ?_ (IsS56.ge HI456.o)) | exact HB.o)))); replace HB := Z.m (hb); replace HI456 := Z.m (hi); (try clear hb); (try clear Ad); (try clear hk); (try clear hi); (try clear Al); obtain ⟨Av, Ax, AA⟩ := Kd.R_slice A1.o; subst AA) | ((with_reducible refine gc (f := 52) rfl ?_); refine gA (some 14) _ #[.slice Av Aa.length Ax] ?_ Try.func52; (with_reducible refine (spec_paList.calls k _ _ Aa false _ ?side1 ?side2 A4.o).mono ?_); (case side1 => repeat (first | exact (Kd.RrZ A1.o).2.2 | (with_reducible refine Kd.C_alloc ?_ _) | (with_reducible refine Kd.C_drewN ?_ _) | (with_reducible refine Kd.C_drew ?_))); (case side2 => exact (Kd.RrZ A1.o).2.1); rintro e B5 ⟨rfl, hb⟩; refine ⟨_, rfl, ?_⟩; replace A1 := Z.m (Kd.Rb (vR A1) hb); replace HB := Z.m (below_step (by repeat (first | (with_reducible first | exact HB.o | apply qa | apply qn | apply qd | refine qx ?_ (IsS56.ge HI456.o)) | exact HB.o)) hb); replace HI456 := Z.m (IsS56.below (by repeat (first | (with_reducible first | exact HI456.o | apply IsS56.alloc | apply IsS56.drewN | apply IsS56.drew | apply IsS56.set_1 | apply IsS56.set_2) | exact HI456.o)) hb); (try clear hb); (try clear Ad); (try clear hk); (try clear hi)) | ((with_reducible refine gc (f := 47) rfl ?_); refine gA (some 17) _ #[.pointer (some ⟨g456, 0, none⟩), .int .i64 2] ?_ Try.func47; (with_reducible refine (spec_l1Cur_pick.calls g456 A5 Ab Ac 2 Ak AB AC w _ ?side1 ?side2 AS.o).mono ?_); (case side1 => repeat (first | (with_reducible first | exact HI456.o | apply IsS56.alloc | apply IsS56.drewN | apply IsS56.drew | apply IsS56.set_1 | apply IsS56.set_2) | exact HI456.o)); (case side2 => repeat (first | (with_reducible first | exact HB.o | apply qa | apply qn | apply qd | refine qx ?_ (IsS56.ge HI456.o)) | exact HB.o)); rintro e B6 ⟨rfl, hi, hb, hk⟩; refine ⟨_, rfl, ?_⟩; replace A1 := Z.m (Kd.Rm (Kd.R_keep (IsS56.apart (show IsS56 w _ g456 A5 Ab Ac from by repeat (first | (with_reducible first | exact HI456.o | apply IsS56.alloc | apply IsS56.drewN | apply IsS56.drew | apply IsS56.set_1 | apply IsS56.set_2) | exact HI456.o)) (vR A1) (by decide)) hk (fun _ h => h.2)) (fun _ h => h.1)); replace HB := Z.m (hb); replace HI456 := Z.m (hi); (try clear hb); (try clear Ad); (try clear hk); (try clear hi)))
  go_loopg [5] k (fun kq v5 w' => ∃ (Ah : ByteArray), v5 = .string Ah ∧ Z (spec_DrawReadCells.l0 kq Ah (wrap64 (90 + Ak)) = some r) ∧ Z (kq ≤ k) ∧ Z (Below w.heap.size w w'))
  case atStart => exact ⟨((⟨#[]⟩ : ByteArray)), (by first | rfl | (simp; done) | (simp [*]; done)), H', ⟨Nat.le_refl _⟩, ⟨by repeat (first | (with_reducible first | exact HB.o | apply qa | apply qn | apply qd | refine qx ?_ (IsS56.ge HI456.o)) | exact HB.o)⟩⟩
  case round =>
   clear H'
   (try clear c5)
   obtain ⟨Ah, rfl, HA, AL, HB⟩ := hrel
   cases gk with
   | zero => exact absurd HA.o (by simp [spec_DrawReadCells.l0])
   | succ k1 =>
    have H := HA.o
    clear HA
    simp only [spec_DrawReadCells.l0] at H
    by_cases c29 : (Ah.size : Int) < (wrap64 (90 + Ak))
    ·rw [if_pos c29] at H
     have Ap := decide_eq_true c29
     clear c29
     by_cases c30 : Ah.size + 1 ≤ 9223372036854775807
     ·rw [if_pos c30] at H
      have AM := eq_true c30
      have AN := decide_eq_true c30
      try have AO : (9223372036854775807 < Ah.size + 1) = False := eq_false (Nat.not_lt.2 c30)
      have H' := Z.m H
      clear H
      go_wp2
      go_roundg k1
      case measure => have := AL.o; omega
      case rel => exact ⟨(Ah ++ (⟨#[102]⟩ : ByteArray)), (by first | rfl | (simp; done) | (simp [*]; done)), H', ⟨by have := AL.o; omega⟩, ⟨vB HB⟩⟩
     ·rw [if_neg c30] at H
      exact absurd H (by simp)
    ·rw [if_neg c29] at H
     have Ap := decide_eq_false c29
     clear c29
     obtain rfl := Option.some.inj H
     go_wp2
     go_ret
     exact ⟨by first | rfl | (simp [eN, eS] <;> rfl) | (simp [*, eN, eS] <;> rfl), vB HB⟩

/-! ### spec_paCells: function 56 -/
def spec_paCells.l0 : Nat → ByteArray → List (S25) → Int → Option ((List (S25)) × Bool)
 | 0, _, _, _ => none
 | k + 1, x0, x4, x5 => if x5 < (x0.size : Int) then (if 0 ≤ x5 then (if x5 ≤ (wrap64 (x5 + 1)) then (if (wrap64 (x5 + 1)) ≤ (x0.size : Int) then ((spec_paRead.f k (x0.extract (x5 : Int).toNat ((wrap64 (x5 + 1)) : Int).toNat)).bind fun bt473 => (if bt473.2.2 = true then (if x4.length < 8796093022208 then (spec_paCells.l0 k x0 (x4 ++ [(⟨bt473.1, bt473.2.1⟩ : S25)]) (wrap64 (x5 + 1))) else (none)) else (some (([] : List (S25)), false)))) else (none)) else (none)) else (none)) else (some (x4, true))
def spec_paCells.f (k : Nat) (a0 : ByteArray) : Option ((List (S25)) × Bool) := spec_paCells.l0 k a0 ([] : List (S25)) 0
set_option maxHeartbeats 8000000 in
set_option maxRecDepth 100000 in
theorem spec_paCells.calls (k : Nat) (a0 : ByteArray) (r1 : List (S25)) (r2 : Bool) (w : World) (h : spec_paCells.f k a0 = some (r1, r2)) :
 Calls Try.prog 56 #[.string a0] w fun e w' => ∃ v0_ : Value, e = .returned (.tuple #[v0_, .bool r2]) ∧ Kd.R k25 25 w' w.heap.size (fun _ => True) v0_ r1 ∧ Below w.heap.size w w' := by
 have Ay := Try.underlying25
 have HB := Z.m (Below.refl w.heap.size w)
 have H : (spec_paCells.l0 k a0 ([] : List (S25)) 0) = some (r1, r2) := h
 clear h
 have H' := Z.m H
 clear H
 go_enter Try.func56, Try.ntmps56
 go_wp2
 go_loopg [4, 5] k (fun kq v4 v5 w' => ∃ (A7 : List (S25)) (A0 : Int), v5 = .int .i64 A0 ∧ Z (spec_paCells.l0 kq a0 A7 A0 = some (r1, r2)) ∧ Z (kq ≤ k) ∧ Z (Kd.R k25 25 w' w.heap.size (fun _ => True) v4 A7) ∧ Z (Below w.heap.size w w'))
 case atStart => exact ⟨(([] : List (S25))), (0), (by first | rfl | (simp; done) | (simp [*]; done)), H', ⟨Nat.le_refl _⟩, ⟨by first | exact Kd.R_nil _ _ _ _ _ | exact Kd.N_nil _ _ _ _ _ | exact Kd.V_nil _ _ _ _ _ | exact Kd.Q_nil _ _ _ _ _ | exact Kd.S_nil _ _ _ _ _⟩, ⟨vB HB⟩⟩
 case round =>
  clear H'
  obtain ⟨A7, A0, rfl, HA, Aq, A2, HB⟩ := hrel
  cases gk with
  | zero => exact absurd HA.o (by simp [spec_paCells.l0])
  | succ k1 =>
   have H := HA.o
   clear HA
   simp only [spec_paCells.l0] at H
   by_cases c2 : A0 < (a0.size : Int)
   ·rw [if_pos c2] at H
    have Ao := decide_eq_true c2
    clear c2
    by_cases c3 : 0 ≤ A0
    ·rw [if_pos c3] at H
     have Ar := eq_true c3
     have As := decide_eq_true c3
     clear c3
     by_cases c4 : A0 ≤ (wrap64 (A0 + 1))
     ·rw [if_pos c4] at H
      have At := eq_true c4
      have Au := decide_eq_true c4
      by_cases c5 : (wrap64 (A0 + 1)) ≤ (a0.size : Int)
      ·rw [if_pos c5] at H
       have Av := eq_true c5
       have Aw := decide_eq_true c5
       replace H := Option.bind_eq_some_iff.mp H
       obtain ⟨⟨A3, A5, Ad⟩, Ap, H⟩ := H
       replace H : (if Ad = true then (if A7.length < 8796093022208 then (spec_paCells.l0 k1 a0 (A7 ++ [(⟨A3, A5⟩ : S25)]) (wrap64 (A0 + 1))) else (none)) else (some (([] : List (S25)), false))) = some (r1, r2) := H
       have A6 := Z.m Ap
       clear Ap
       by_cases c7 : Ad = true
       ·subst c7
        have H1 : (if A7.length < 8796093022208 then (spec_paCells.l0 k1 a0 (A7 ++ [(⟨A3, A5⟩ : S25)]) (wrap64 (A0 + 1))) else (none)) = some (r1, r2) := by rw [if_pos rfl] at H; exact H
        clear H
        have H := H1
        clear H1
        by_cases c8 : A7.length < 8796093022208
        ·rw [if_pos c8] at H
         have An := Z.m c8
         clear c8
         obtain ⟨Ae, A8⟩ : ∃ y_ : List (S25), y_ = (A7 ++ [(⟨A3, A5⟩ : S25)]) := ⟨_, rfl⟩
         replace H : (spec_paCells.l0 k1 a0 Ae (wrap64 (A0 + 1))) = some (r1, r2) := by first | (rw [A8]; with_reducible exact H) | (have H2_ := (Option.bind_some _ _).symm.trans H; rw [A8]; with_reducible exact H2_) | (have H2_ := (Option.bind_some _ _).symm.trans H; with_reducible exact H2_) | with_reducible exact H | (rw [A8]; exact H) | exact H
         have Ac := Z.m A8
         clear A8
         have H' := Z.m H
         clear H
         go_wp2_with (first | ((with_reducible refine gc (f := 49) rfl ?_); refine gA (some 20) _ #[.string (a0.extract (A0 : Int).toNat ((wrap64 (A0 + 1)) : Int).toNat)] ?_ Try.func49; (with_reducible refine (spec_paRead.calls k1 (a0.extract (A0 : Int).toNat ((wrap64 (A0 + 1)) : Int).toNat) A3 A5 true _ A6.o).mono ?_); rintro e w9 ⟨rfl, hb⟩; refine ⟨_, rfl, ?_⟩; replace A2 := Z.m (Kd.Rb (vR A2) hb); replace HB := bB HB hb; (try clear hb); (try clear Ax); (try clear hk); (try clear hi)) | ((with_reducible refine gq (N := 6) rfl ?_); refine be (N := 6) (cs := #[.int .i64 0, .int .i64 0]) (t := 25) ?_; intro A4 hg AA hbox hb; have A1 := Z.m (hbox); have A9 := gW (w := w) HB hg; have Aa := A9; replace A2 := Z.m (Kd.Rb (Kd.R_elderB (vR A2) A4 (Nat.le_of_eq hg.symm)) hb); replace HB := bB HB hb; clear hb hbox hg; have Af := bc0 A1; have Ag := bc1 A1; have Aj := qz A1.o 0; have Ak := qz A1.o 1) | ((with_reducible refine gu (b := .append) (xs := #[.tmp 25, .tmp 27]) rfl ?_); at_builtin; refine Kd.R_append k25 (w0 := w) w.heap.size rfl (.tmp 25) (.tmp 27) 40 25 (.agg #[(.int .i64 0), (.int .i64 0)]) 16 rfl Try.underlying40 info25 rfl (by decide) (by omega) u4 A7 (⟨A3, A5⟩ : S25) [.int .i64 A3, .int .i64 A5] (fun k_ => k_ ≠ A4) (fun _ => False) rfl (by first | (go_simp; done) | (go_simp; rfl)) ?aP (fun _ hk => hk.elim) ?aF ?aO ?aB ?aS ?aL ?_; (case aP => exact k25_mkM _ _ _ (⟨A3, A5⟩ : S25)); (case aB => exact (vB HB)); (case aF => exact (fun k_ hk => Kd.freshB (g := A4) (o := .cells #[.int .i64 A3, .int .i64 A5] 25 (0, 0)) (by refine bK ?_; refine qp (cs := #[iV A3, iV 0]) ?_ 1 _ rfl; refine bK ?_; refine qp (cs := #[iV 0, iV 0]) ?_ 0 _ rfl; refine bK ?_; exact A1.o) k_ hk)); (case aO => exact (by refine rK ?_; exact Kd.Rm (rf (rf (Kd.Rm A2.o (fun k_ hk => (⟨hk, hk.2⟩ : _ ∧ k_ ≠ A4))))) (fun _ hk => hk.1.2))); (case aS => exact (below_size (vB HB))); (case aL => have := An.o; omega); intro Az AB ho hb hg hat; rw [← Ac.o] at ho; have Ab := Z.m (ho); replace A1 := Z.m (qg (g := A4) (o := .cells #[.int .i64 A3, .int .i64 A5] 25 (0, 0)) (by refine bK ?_; refine qp (cs := #[iV A3, iV 0]) ?_ 1 _ rfl; refine bK ?_; refine qp (cs := #[iV 0, iV 0]) ?_ 0 _ rfl; refine bK ?_; exact A1.o) hg (Kd.R_away A2.o (fun _ hk => hk.2))); replace HB := Z.m (hb); clear A2; clear ho hb hg hat))
         go_roundg k1
         case measure => have := Aq.o; omega
         case rel => exact ⟨(Ae), (wrap64 (A0 + 1)), (by first | rfl | (simp; done) | (simp [*]; done)), H', ⟨by have := Aq.o; omega⟩, ⟨by refine rK ?_; exact Kd.Rm Ab.o (fun _ hk => trivial)⟩, ⟨vB HB⟩⟩
        ·rw [if_neg c8] at H
         exact absurd H (by simp)
       ·replace c7 := Bool.eq_false_iff.mpr c7
        subst c7
        have H1 : (some (([] : List (S25)), false)) = some (r1, r2) := by rw [if_neg (show ¬ (false = true) by decide)] at H; exact H
        clear H
        have H := H1
        clear H1
        simp only [Option.some.injEq, Prod.mk.injEq] at H
        obtain ⟨rfl, rfl⟩ := H
        go_wp2_with (first | ((with_reducible refine gc (f := 49) rfl ?_); refine gA (some 20) _ #[.string (a0.extract (A0 : Int).toNat ((wrap64 (A0 + 1)) : Int).toNat)] ?_ Try.func49; (with_reducible refine (spec_paRead.calls k1 (a0.extract (A0 : Int).toNat ((wrap64 (A0 + 1)) : Int).toNat) A3 A5 false _ A6.o).mono ?_); rintro e AC ⟨rfl, hb⟩; refine ⟨_, rfl, ?_⟩; replace A2 := Z.m (Kd.Rb (vR A2) hb); replace HB := bB HB hb; (try clear hb); (try clear Ax); (try clear hk); (try clear hi)) | ((with_reducible refine gq (N := 6) rfl ?_); refine be (N := 6) (cs := #[.int .i64 0, .int .i64 0]) (t := 25) ?_; intro A4 hg AD hbox hb; have A1 := Z.m (hbox); have A9 := gW (w := w) HB hg; have Aa := A9; replace A2 := Z.m (Kd.Rb (Kd.R_elderB (vR A2) A4 (Nat.le_of_eq hg.symm)) hb); replace HB := bB HB hb; clear hb hbox hg; have Ah := bc0 A1; have Ai := bc1 A1; have Al := qz A1.o 0; have Am := qz A1.o 1))
        go_ret2
        exact ⟨_, by first | rfl | (simp [eN, eS] <;> rfl) | (simp [*, eN, eS] <;> rfl), by first | exact Kd.R_nil _ _ _ _ _ | exact Kd.N_nil _ _ _ _ _ | exact Kd.V_nil _ _ _ _ _ | exact Kd.Q_nil _ _ _ _ _ | exact Kd.S_nil _ _ _ _ _, vB HB⟩
      ·rw [if_neg c5] at H
       exact absurd H (by simp)
     ·rw [if_neg c4] at H
      exact absurd H (by simp)
    ·rw [if_neg c3] at H
     exact absurd H (by simp)
   ·rw [if_neg c2] at H
    have Ao := decide_eq_false c2
    clear c2
    simp only [Option.some.injEq, Prod.mk.injEq] at H
    obtain ⟨rfl, rfl⟩ := H
    go_wp2
    go_ret2
    exact ⟨_, by first | rfl | (simp [eN, eS] <;> rfl) | (simp [*, eN, eS] <;> rfl), vR A2, vB HB⟩

/-! ### spec_ReadCells: function 34 -/
def spec_ReadCells.f (k : Nat) (a0 : ByteArray) : Option ((List (S25)) × Bool) := if (a0.size : Int) > 90 then (some (([] : List (S25)), false)) else ((spec_paCells.f k a0).bind fun bt480 => (some (bt480.1, bt480.2)))
set_option maxHeartbeats 8000000 in
set_option maxRecDepth 100000 in
theorem spec_ReadCells.calls (k : Nat) (a0 : ByteArray) (r1 : List (S25)) (r2 : Bool) (w : World) (h : spec_ReadCells.f k a0 = some (r1, r2)) :
 Calls Try.prog 34 #[.string a0] w fun e w' => ∃ v0_ : Value, e = .returned (.tuple #[v0_, .bool r2]) ∧ Kd.R k25 25 w' w.heap.size (fun _ => True) v0_ r1 ∧ Below w.heap.size w w' := by
 have HB := Z.m (Below.refl w.heap.size w)
 have H : (if (a0.size : Int) > 90 then (some (([] : List (S25)), false)) else ((spec_paCells.f k a0).bind fun bt480 => (some (bt480.1, bt480.2)))) = some (r1, r2) := h
 clear h
 by_cases c2 : (a0.size : Int) > 90
 ·rw [if_pos c2] at H
  have A4 := decide_eq_true c2
  have A5 : decide (90 < a0.size) = true := decide_eq_true (by omega)
  clear c2
  simp only [Option.some.injEq, Prod.mk.injEq] at H
  obtain ⟨rfl, rfl⟩ := H
  go_enter Try.func34, Try.ntmps34
  go_wp2
  go_ret2
  exact ⟨_, by first | rfl | (simp [eN, eS] <;> rfl) | (simp [*, eN, eS] <;> rfl), by first | exact Kd.R_nil _ _ _ _ _ | exact Kd.N_nil _ _ _ _ _ | exact Kd.V_nil _ _ _ _ _ | exact Kd.Q_nil _ _ _ _ _ | exact Kd.S_nil _ _ _ _ _, vB HB⟩
 ·rw [if_neg c2] at H
  have A4 := decide_eq_false c2
  have A5 : decide (90 < a0.size) = false := decide_eq_false (by omega)
  clear c2
  replace H := Option.bind_eq_some_iff.mp H
  obtain ⟨⟨A1, A2⟩, A6, H⟩ := H
  replace H : (some (A1, A2)) = some (r1, r2) := H
  have A3 := Z.m A6
  clear A6
  simp only [Option.some.injEq, Prod.mk.injEq] at H
  obtain ⟨rfl, rfl⟩ := H
  go_enter Try.func34, Try.ntmps34
  go_wp2_with (first | ((with_reducible refine gc (f := 56) rfl ?_); refine gA (some 8) _ #[.string a0] ?_ Try.func56; (with_reducible refine (spec_paCells.calls k a0 A1 A2 _ A3.o).mono ?_); rintro e w4 ⟨A8, rfl, A7, hb⟩; refine ⟨_, rfl, ?_⟩; have A0 := Z.m (Kd.R_lower A7 (below_size (vB HB))); replace HB := bB HB hb; (try clear hb); (try clear A9); (try clear hk); (try clear hi); (try clear A7)))
  go_ret2
  exact ⟨_, by first | rfl | (simp [eN, eS] <;> rfl) | (simp [*, eN, eS] <;> rfl), vR A0, vB HB⟩

/-! ### spec_DrawIsTurning: function 35 -/
def spec_DrawIsTurning.f (k : Nat) (l0 : List Int) : Option (Int × Int) := (spec_DrawIsCell.f k l0).bind fun bt485 => (some (bt485.1, bt485.2))
set_option maxHeartbeats 8000000 in
set_option maxRecDepth 100000 in
theorem spec_DrawIsTurning.calls (k : Nat) (A0 : Option Addr) (c0 : Nat) (l0 : List Int) (r1 : Int) (r2 : Int) (w : World) (hr0 : Kd.C (Kd.int .u8) w A0 l0.length l0) (hc0 : l0.length ≤ c0) (h : spec_DrawIsTurning.f k l0 = some (r1, r2)) :
 Calls Try.prog 35 #[.slice A0 l0.length c0] w fun e w' => e = .returned (.agg #[.int .i64 r1, .int .i64 r2]) ∧ Below w.heap.size w w' := by
 have Af := Try.underlying25
 have Ae := Z.m hr0
 have Ad := Z.m hc0
 clear hr0 hc0
 have HB := Z.m (Below.refl w.heap.size w)
 have H : ((spec_DrawIsCell.f k l0).bind fun bt485 => (some (bt485.1, bt485.2))) = some (r1, r2) := h
 clear h
 replace H := Option.bind_eq_some_iff.mp H
 obtain ⟨⟨A3, A4⟩, Ab, H⟩ := H
 replace H : (some (A3, A4)) = some (r1, r2) := H
 have A2 := Z.m Ab
 clear Ab
 simp only [Option.some.injEq, Prod.mk.injEq] at H
 obtain ⟨rfl, rfl⟩ := H
 go_enter Try.func35, Try.ntmps35
 go_wp2_with (first | ((with_reducible refine gq (N := 2) rfl ?_); refine be (N := 2) (cs := #[.int .i64 0, .int .i64 0]) (t := 25) ?_; intro A6 hg w3 hbox hb; have A1 := Z.m (hbox); have A5 := gW (w := w) HB hg; have Ac := A5; replace HB := bB HB hb; clear hb hbox hg) | ((with_reducible refine gc (f := 37) rfl ?_); refine gA (some 4) _ #[.slice A0 l0.length c0] ?_ Try.func37; (with_reducible refine (spec_DrawIsCell.calls k _ _ l0 A3 A4 _ ?side1 ?side2 A2.o).mono ?_); (case side1 => repeat (first | exact (Kd.C_below Ae.o HB.o) | (with_reducible refine Kd.C_alloc ?_ _) | (with_reducible refine Kd.C_drewN ?_ _) | (with_reducible refine Kd.C_drew ?_))); (case side2 => exact Ad.o); rintro e w4 ⟨rfl, hb⟩; refine ⟨_, rfl, ?_⟩; replace A1 := kB A1 hb; replace HB := bB HB hb; (try clear hb); (try clear Ag); (try clear hk); (try clear hi); have A7 := bc0 A1; have A8 := bc1 A1; have A9 := qz A1.o 0; have Aa := qz A1.o 1))
 refine bodyPost_ret (results_cell_row rfl _ _ A6 25 #[.int .i64 A3, .int .i64 A4] (0, 0) _ rfl (by refine bK ?_; refine qp (cs := #[iV A3, iV 0]) ?_ 1 _ rfl; refine bK ?_; refine qp (cs := #[iV 0, iV 0]) ?_ 0 _ rfl; refine bK ?_; exact A1.o) Try.underlying25 rfl (by kernel_rfl)) rfl ?_
 exact ⟨by first | rfl | (simp [eN, eS] <;> rfl) | (simp [*, eN, eS] <;> rfl), vB HB⟩

/-! ### spec_IsTurning: function 36 -/
def spec_IsTurning.f (a0_0 : Int) (a0_1 : Int) : Option (Bool) := (spec_paGood.f a0_0 a0_1).bind fun t488 => (if t488 = true then ((spec_paTurning.f a0_0 a0_1).bind fun t489 => (some t489)) else (some false))
set_option maxHeartbeats 8000000 in
set_option maxRecDepth 100000 in
theorem spec_IsTurning.calls (a0_0 : Int) (a0_1 : Int) (r : Bool) (w : World) (h : spec_IsTurning.f a0_0 a0_1 = some r) :
 Calls Try.prog 36 #[.agg #[.int .i64 a0_0, .int .i64 a0_1]] w fun e w' => e = .returned (.bool r) ∧ Below w.heap.size w w' := by
 have An := Try.underlying25
 have HB := Z.m (Below.refl w.heap.size w)
 have H : ((spec_paGood.f a0_0 a0_1).bind fun A5 => (if A5 = true then ((spec_paTurning.f a0_0 a0_1).bind fun A1 => (some A1)) else (some false))) = some r := h
 clear h
 replace H := Option.bind_eq_some_iff.mp H
 obtain ⟨A5, Ak, H⟩ := H
 replace H : (if A5 = true then ((spec_paTurning.f a0_0 a0_1).bind fun A1 => (some A1)) else (some false)) = some r := H
 have A2 := Z.m Ak
 clear Ak
 by_cases c3 : A5 = true
 ·subst c3
  have H1 : ((spec_paTurning.f a0_0 a0_1).bind fun A1 => (some A1)) = some r := by rw [if_pos rfl] at H; exact H
  clear H
  have H := H1
  clear H1
  replace H := Option.bind_eq_some_iff.mp H
  obtain ⟨A1, Al, H⟩ := H
  replace H : (some A1) = some r := H
  have A4 := Z.m Al
  clear Al
  obtain rfl := Option.some.inj H
  go_enter Try.func36, Try.ntmps36
  go_wp2_with (first | ((with_reducible refine gq (N := 1) rfl ?_); refine be (N := 1) (cs := #[.int .i64 a0_0, .int .i64 a0_1]) (t := 25) ?_; intro A7 hg w5 hbox hb; have A0 := Z.m (hbox); have A3 := gW (w := w) HB hg; have A6 := A3; replace HB := bB HB hb; clear hb hbox hg; have Ac := bc0 A0; have Ad := bc1 A0; have Ag := qz A0.o 0; have Ah := qz A0.o 1) | ((with_reducible refine gc (f := 38) rfl ?_); refine gA (some 4) _ #[.agg #[.int .i64 a0_0, .int .i64 a0_1]] ?_ Try.func38; (with_reducible refine (spec_paGood.calls a0_0 a0_1 true _ A2.o).mono ?_); rintro e w7 ⟨rfl, hb⟩; refine ⟨_, rfl, ?_⟩; replace A0 := kB A0 hb; replace HB := bB HB hb; (try clear hb); (try clear Am); (try clear hk); (try clear hi); have Ae := bc0 A0; have Af := bc1 A0; have Ai := qz A0.o 0; have Aj := qz A0.o 1) | (go_at_call 41; (with_reducible refine (spec_paTurning.calls a0_0 a0_1 A1 _ A4.o).mono ?_); rintro e w9 ⟨rfl, hb⟩; replace A0 := kB A0 hb; replace HB := bB HB hb; (try clear hb); (try clear Am); (try clear hk); (try clear hi)))
  go_ret
  exact ⟨by first | rfl | (simp [eN, eS] <;> rfl) | (simp [*, eN, eS] <;> rfl), vB HB⟩
 ·replace c3 := Bool.eq_false_iff.mpr c3
  subst c3
  have H1 : (some false) = some r := by rw [if_neg (show ¬ (false = true) by decide)] at H; exact H
  clear H
  have H := H1
  clear H1
  obtain rfl := Option.some.inj H
  go_enter Try.func36, Try.ntmps36
  go_wp2_with (first | ((with_reducible refine gq (N := 1) rfl ?_); refine be (N := 1) (cs := #[.int .i64 a0_0, .int .i64 a0_1]) (t := 25) ?_; intro A7 hg Ao hbox hb; have A0 := Z.m (hbox); have A3 := gW (w := w) HB hg; have A6 := A3; replace HB := bB HB hb; clear hb hbox hg; have A8 := bc0 A0; have A9 := bc1 A0; have Aa := qz A0.o 0; have Ab := qz A0.o 1) | ((with_reducible refine gc (f := 38) rfl ?_); refine gA (some 4) _ #[.agg #[.int .i64 a0_0, .int .i64 a0_1]] ?_ Try.func38; (with_reducible refine (spec_paGood.calls a0_0 a0_1 false _ A2.o).mono ?_); rintro e Ap ⟨rfl, hb⟩; refine ⟨_, rfl, ?_⟩; replace A0 := kB A0 hb; replace HB := bB HB hb; (try clear hb); (try clear Am); (try clear hk); (try clear hi)))
  go_ret
  exact ⟨by first | rfl | (simp [eN, eS] <;> rfl) | (simp [*, eN, eS] <;> rfl), vB HB⟩

end Go.Proofs.Ytklmdnlambinaaa.PAll
