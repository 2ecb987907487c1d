/- For all arguments the program's WithoutCogs answers as the reference's does (the plain law, over the printed functions). Conditions: none. -/
import Derived.Test.YtlkiakpipcnijaaRows
import Derived.Test.YtlkiakpipcnijaaG20
import Derived.Test.YtlkiakpipcnijaaPureFnExactWithoutCogs
import Derived.Test.YtlkiakpipcnijaaA
import Derived.WalkKit
import Derived.ProofKit
import Derived.OpenShut
import Derived.ShutString
import Derived.ChangeOld
import Derived.Below
import Derived.SizedLaws
import Derived.Carry
set_option linter.unusedVariables false
namespace Go.Proofs.Ytlkiakpipcnijaa.fnExactWithoutCogs
open Go.ChangeShapes Go.WideShapes Go.ChangeAt Go.RowKit
theorem own : ownKnob Try.prog.godebug = none := by kernel_rfl
theorem laidOut : laidOutB Try.prog = true := by kernel_rfl
set_option maxRecDepth 100000 in
theorem lifted (os : Os) (started : os.Started) (H : Type) (enc : TypeId × Value → H) :
    ReturnsInHanded {} Try.checked os 10 .any (Rows.fnExactWithoutCogsSpec.pre6 enc Try.prog Try.f10 Rows.fnExactWithoutCogsRow.domain false) (Rows.fnExactWithoutCogsSpec.post enc Try.prog Try.f10 false true false false) := by
  refine returnsInHanded_of_change_sized (C := Try.checked) own started (by kernel_rfl) Try.func10
    (ChangeSpec.witness6 (enc := enc) (C := Try.checked) false ⟨#[], #[.agg #[.int .i64 0, .int .i64 0, .slice none 0 0]], []⟩ 8 (by kernel_rfl) (by kernel_rfl) (by kernel_rfl) (by kernel_rfl)) ?_
  intro W base args ds gs before hval0 hW hcnd hsz0 _
  have hval : ∀ (j : Nat) t v, Try.f10.params[j]? = some t → args[j]? = some v → Value.okWide Try.prog W .any base t v := hval0
  have hW' := hW
  obtain ⟨p, q, hA0, hV, rfl, hfz, hnd⟩ := hW
  have hA : DataW.TrodAll enc Try.prog W 0 (fun _ => true) true Try.f10.params.toList args.toList ds p := hA0
  rw [Try.params10] at hA hval
  obtain ⟨v0, vs0, d0, ds0, p0, q0, hargs, rfl, rfl, h0, r0⟩ := trodAll_cons hA
  obtain ⟨rfl, rfl, rfl⟩ := trodAll_nil r0
  obtain rfl : args = #[v0] := by cases args; simp_all
  obtain ⟨rfl, rfl⟩ := trodVars_none hV
  have k0 := h0
  have lt0 : ∀ x ∈ p0, x.block < W.heap.size := by obtain ⟨m, hm⟩ := k0; exact DataW.trod_lt m _ _ _ hm
  obtain ⟨a0_0, a0_1, A0, len0, cap0, fu0, y0, rfl, w0, w0', hf0⟩ := Args.open_board Try.underlying24 (by kernel_rfl) (by kernel_rfl) Try.underlying3 Try.underlying3 Try.underlying22 (hval 0 24 v0 rfl rfl) h0
  obtain ⟨l0, rfl, hr0, hc0, hm0⟩ := Args.row_cells (fun a b => (⟨a, b⟩ : PAll.S84)) rfl (fun w a b => PAll.k84_mk w ⟨a, b⟩) Try.underlying22 Try.underlying84 (by kernel_rfl) (by kernel_rfl) Try.underlying3 Try.underlying3 hf0
  obtain ⟨k, hp⟩ := Pure.FnExactWithoutCogs a0_0 a0_1 l0 hm0
  clear hA0 hval0 hsz0
  refine (PAll.laws_FnExactWithoutCogs.calls k a0_0 a0_1 _ _ l0 W hr0 hc0 hp).mono fun e W' ⟨he, bel⟩ => ?_
  subst he
  exact ⟨_, rfl, _, _, _, [], _, [], hW', trodAll_mk1 (shut_bool Try.underlying4 _), (trodAll_cons_mk (Below.trod laidOut (by kernel_rfl) (of_decide_eq_true (by kernel_rfl)) k0 bel lt0) trodAll_mk0), rfl, bel.frame _, fun h => by cases h⟩
theorem over : Rows.fnExactWithoutCogsRow.holds Try.pinned (OpenSpec.ofChange Rows.fnExactWithoutCogsSpec) :=
  OpenClaim.holds_of_wide 10 Try.f10 rfl rfl rfl rfl rfl rfl rfl ⟨rfl, rfl, rfl, rfl, rfl⟩ rfl rfl rfl rfl rfl (by kernel_rfl) Try.func10 (by kernel_rfl)
    (of_decide_eq_true (by kernel_rfl)) (by unfold Func.isWrapper; first | (rw [if_pos (by decide +kernel)]; kernel_rfl) | (rw [if_neg (by decide +kernel)]; exact ⟨rfl, rfl⟩))
    (fun os started H enc _ => lifted os started H enc)
theorem proved : Rows.FnExactWithoutCogsSaid := over
#print axioms proved
end Go.Proofs.Ytlkiakpipcnijaa.fnExactWithoutCogs
namespace Go.Proofs.Ytlkiakpipcnijaa
/-- The row, under a short name, for the claim. -/
theorem fnExactWithoutCogs_holds : Rows.FnExactWithoutCogsSaid := fnExactWithoutCogs.proved
end Go.Proofs.Ytlkiakpipcnijaa
