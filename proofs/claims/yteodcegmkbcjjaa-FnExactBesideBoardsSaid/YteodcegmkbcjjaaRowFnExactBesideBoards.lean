/- For all arguments the program's BesideBoards answers as the reference's does (the plain law, over the printed functions). Conditions: none. -/
import Derived.Test.YteodcegmkbcjjaaRows
import Derived.Test.YteodcegmkbcjjaaG5
import Derived.Test.YteodcegmkbcjjaaPureFnExactBesideBoards
import Derived.Test.YteodcegmkbcjjaaA
import Derived.WalkKit
import Derived.ProofKit
import Derived.OpenShut
import Derived.ShutString
import Derived.ChangeOld
import Derived.Below
import Derived.SizedLaws
import Derived.Carry
set_option linter.unusedVariables false
namespace Go.Proofs.Yteodcegmkbcjjaa.fnExactBesideBoards
open Go.ChangeShapes Go.WideShapes Go.ChangeAt Go.RowKit
theorem own : ownKnob Try.prog.godebug = none := by kernel_rfl
theorem laidOut : laidOutB Try.prog = true := by kernel_rfl
set_option maxRecDepth 100000 in
theorem lifted (os : Os) (started : os.Started) (H : Type) (enc : TypeId × Value → H) :
    ReturnsInHanded {} Try.checked os 8 .any (Rows.fnExactBesideBoardsSpec.pre6 enc Try.prog Try.f8 Rows.fnExactBesideBoardsRow.domain false) (Rows.fnExactBesideBoardsSpec.post enc Try.prog Try.f8 false true false false) := by
  refine returnsInHanded_of_change_sized (C := Try.checked) own started (by kernel_rfl) Try.func8
    (ChangeSpec.witness6 (enc := enc) (C := Try.checked) false ⟨#[], #[.agg #[.int .i64 0, .int .i64 0, .slice none 0 0], .agg #[.int .i64 0, .int .i64 0, .slice none 0 0]], []⟩ 8 (by kernel_rfl) (by kernel_rfl) (by kernel_rfl) (by kernel_rfl)) ?_
  intro W base args ds gs before hval0 hW hcnd hsz0 _
  have hval : ∀ (j : Nat) t v, Try.f8.params[j]? = some t → args[j]? = some v → Value.okWide Try.prog W .any base t v := hval0
  have hW' := hW
  obtain ⟨p, q, hA0, hV, rfl, hfz, hnd⟩ := hW
  have hA : DataW.TrodAll enc Try.prog W 0 (fun _ => true) true Try.f8.params.toList args.toList ds p := hA0
  rw [Try.params8] at hA hval
  obtain ⟨v0, vs0, d0, ds0, p0, q0, hargs, rfl, rfl, h0, r0⟩ := trodAll_cons hA
  obtain ⟨v1, vs1, d1, ds1, p1, q1, rfl, rfl, rfl, h1, r1⟩ := trodAll_cons r0
  obtain ⟨rfl, rfl, rfl⟩ := trodAll_nil r1
  obtain rfl : args = #[v0, v1] := by cases args; simp_all
  obtain ⟨rfl, rfl⟩ := trodVars_none hV
  have k0 := h0
  have lt0 : ∀ x ∈ p0, x.block < W.heap.size := by obtain ⟨m, hm⟩ := k0; exact DataW.trod_lt m _ _ _ hm
  obtain ⟨a0_0, a0_1, A0, len0, cap0, fu0, y0, rfl, w0, w0', hf0⟩ := Args.open_board Try.underlying24 (by kernel_rfl) (by kernel_rfl) Try.underlying3 Try.underlying3 Try.underlying22 (hval 0 24 v0 rfl rfl) h0
  obtain ⟨l0, rfl, hr0, hc0, hm0⟩ := Args.row_cells (fun a b => (⟨a, b⟩ : PAll.S46)) rfl (fun w a b => PAll.k46_mk w ⟨a, b⟩) Try.underlying22 Try.underlying46 (by kernel_rfl) (by kernel_rfl) Try.underlying3 Try.underlying3 hf0
  have k1 := h1
  have lt1 : ∀ x ∈ p1, x.block < W.heap.size := by obtain ⟨m, hm⟩ := k1; exact DataW.trod_lt m _ _ _ hm
  obtain ⟨a1_0, a1_1, A1, len1, cap1, fu1, y1, rfl, w1, w1', hf1⟩ := Args.open_board Try.underlying24 (by kernel_rfl) (by kernel_rfl) Try.underlying3 Try.underlying3 Try.underlying22 (hval 1 24 v1 rfl rfl) h1
  obtain ⟨l1, rfl, hr1, hc1, hm1⟩ := Args.row_cells (fun a b => (⟨a, b⟩ : PAll.S46)) rfl (fun w a b => PAll.k46_mk w ⟨a, b⟩) Try.underlying22 Try.underlying46 (by kernel_rfl) (by kernel_rfl) Try.underlying3 Try.underlying3 hf1
  obtain ⟨k, hp⟩ := Pure.FnExactBesideBoards a0_0 a0_1 l0 a1_0 a1_1 l1 hm0 hm1
  clear hA0 hval0 hsz0
  refine (PAll.laws_FnExactBesideBoards.calls k a0_0 a0_1 _ _ l0 a1_0 a1_1 _ _ l1 W hr0 hc0 hr1 hc1 hp).mono fun e W' ⟨he, bel⟩ => ?_
  subst he
  exact ⟨_, rfl, _, _, _, [], _, [], hW', trodAll_mk1 (shut_bool Try.underlying4 _), (trodAll_cons_mk (Below.trod laidOut (by kernel_rfl) (of_decide_eq_true (by kernel_rfl)) k0 bel lt0) (trodAll_cons_mk (Below.trod laidOut (by kernel_rfl) (of_decide_eq_true (by kernel_rfl)) k1 bel lt1) trodAll_mk0)), rfl, bel.frame _, fun h => by cases h⟩
theorem over : Rows.fnExactBesideBoardsRow.holds Try.pinned (OpenSpec.ofChange Rows.fnExactBesideBoardsSpec) :=
  OpenClaim.holds_of_wide 8 Try.f8 rfl rfl rfl rfl rfl rfl rfl ⟨rfl, rfl, rfl, rfl, rfl⟩ rfl rfl rfl rfl rfl (by kernel_rfl) Try.func8 (by kernel_rfl)
    (of_decide_eq_true (by kernel_rfl)) (by unfold Func.isWrapper; first | (rw [if_pos (by decide +kernel)]; kernel_rfl) | (rw [if_neg (by decide +kernel)]; exact ⟨rfl, rfl⟩))
    (fun os started H enc _ => lifted os started H enc)
theorem proved : Rows.FnExactBesideBoardsSaid := over
#print axioms proved
end Go.Proofs.Yteodcegmkbcjjaa.fnExactBesideBoards
namespace Go.Proofs.Yteodcegmkbcjjaa
/-- The row, under a short name, for the claim. -/
theorem fnExactBesideBoards_holds : Rows.FnExactBesideBoardsSaid := fnExactBesideBoards.proved
end Go.Proofs.Yteodcegmkbcjjaa
