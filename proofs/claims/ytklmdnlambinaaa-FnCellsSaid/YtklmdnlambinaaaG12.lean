/- Began as a text that print.sh wrote (of the functions named below); turned and shortened by this session. -/
import Derived.Test.YtklmdnlambinaaaG0
import Derived.Test.YtklmdnlambinaaaG11
namespace Go.Proofs.Ytklmdnlambinaaa.PAll
open Go.RowKit Go.Proofs.YtklmdnlambinaaaW.PrintWords Go.Proofs.YtklmdnlambinaaaW.PrintLast Go.Proofs.YtklmdnlambinaaaW.PrintMore
attribute [local go_sem] max2_int min2_int max_two min_two max_three min_three max_four min_four   -- for this text's walks alone
set_option linter.unusedVariables false
set_option linter.unusedSimpArgs false

/-! ### spec_ReadCell: function 23 -/
def spec_ReadCell.f (k : Nat) (a0 : ByteArray) : Option (Int × Int × Bool) := (spec_paRead.f k a0).bind fun bt273 => (some (bt273.1, bt273.2.1, bt273.2.2))
set_option maxHeartbeats 8000000 in
set_option maxRecDepth 100000 in
theorem spec_ReadCell.calls (k : Nat) (a0 : ByteArray) (r1 : Int) (r2 : Int) (r3 : Bool) (w : World) (h : spec_ReadCell.f k a0 = some (r1, r2, r3)) :
 Calls Try.prog 23 #[.string a0] w fun e w' => e = .returned (.tuple #[.agg #[.int .i64 r1, .int .i64 r2], .bool r3]) ∧ Below w.heap.size w w' := by
 have Ad := Try.underlying25
 have HB := Z.m (Below.refl w.heap.size w)
 have H : ((spec_paRead.f k a0).bind fun bt273 => (some (bt273.1, bt273.2.1, bt273.2.2))) = some (r1, r2, r3) := h
 clear h
 replace H := Option.bind_eq_some_iff.mp H
 obtain ⟨⟨A1, A3, A6⟩, Ab, H⟩ := H
 replace H : (some (A1, A3, A6)) = some (r1, r2, r3) := H
 have A2 := Z.m Ab
 clear Ab
 simp only [Option.some.injEq, Prod.mk.injEq] at H
 obtain ⟨rfl, rfl, rfl⟩ := H
 go_enter Try.func23, Try.ntmps23
 go_wp2_with (first | ((with_reducible refine gq (N := 2) rfl ?_); refine be (N := 2) (cs := #[.int .i64 0, .int .i64 0]) (t := 25) ?_; intro A5 hg w3 hbox hb; have A0 := Z.m (hbox); have A4 := gW (w := w) HB hg; have Ac := A4; replace HB := bB HB hb; clear hb hbox hg) | ((with_reducible refine gc (f := 49) rfl ?_); refine gA (some 5) _ #[.string a0] ?_ Try.func49; (with_reducible refine (spec_paRead.calls k a0 A1 A3 A6 _ A2.o).mono ?_); rintro e w4 ⟨rfl, hb⟩; refine ⟨_, rfl, ?_⟩; replace A0 := kB A0 hb; replace HB := bB HB hb; (try clear hb); (try clear Ae); (try clear hk); (try clear hi); have A7 := bc0 A0; have A8 := bc1 A0; have A9 := qz A0.o 0; have Aa := qz A0.o 1))
 refine bodyPost_ret (results_ct rfl _ _ A5 25 #[.int .i64 A1, .int .i64 A3] (0, 0) _ rfl (by refine bK ?_; refine qp (cs := #[iV A1, iV 0]) ?_ 1 _ rfl; refine bK ?_; refine qp (cs := #[iV 0, iV 0]) ?_ 0 _ rfl; refine bK ?_; exact A0.o) Try.underlying25 rfl (by kernel_rfl)) rfl ?_
 exact ⟨by first | rfl | (simp [eN, eS] <;> rfl) | (simp [*, eN, eS] <;> rfl), vB HB⟩

end Go.Proofs.Ytklmdnlambinaaa.PAll
